/-
  The law MatchKnown of layer 24 (the chapter's examples of matching are answered as it says) returns true, wherever and on whatever schedule it is called.
  Conditions: the seven listed package-level variables of Go's library hold what the program's text lays (the card ties them); nothing else is asked.
-/
import Derived.Test.YtjlibainifpbaaaGreatDoorG
import Derived.Test.YtjlibainifpbaaaGreatDoorRows
import Derived.Test.YtjlibainifpbaaaGreatDoorCards
import Derived.Test.YtjlibainifpbaaaGreatDoorTie
import Derived.Deep.DeepHandedRow
import Derived.Lay
import Derived.PinnedBridge
import Derived.SevenTiedAt
import Derived.ProofKit
import Derived.LaidLaws
import Derived.Shelf.Vars
import Derived.Lib.LaidU8T
namespace Go.Ab
variable {P : Program} [LibT P]

/-- What a function that only makes new things comes to, in the kit's words. -/
theorem PCalls.to_calls {f : FuncId} {args : List AV} {v : AV} (h : PCalls P f args v) (hf : CanEnter P f) {F : Nat → Nat → Option Value} {w : World} {cargs : List Value} (hF : ∀ b j u, F b j = some u → w.cell? ⟨b, j, none⟩ = some u)
    (hsz : P.globals.size ≤ w.heap.size) (hT : LibT.T P w) (ha : γs ⟨F, []⟩ args cargs) :
    Calls P f cargs.toArray w fun e w' => ∃ x, e = .returned x ∧ RowKit.Below w.heap.size w w' ∧ ∃ R, γ R v x ∧ (∀ b j u, R.F b j = some u → w'.cell? ⟨b, j, none⟩ = some u) := by
  have hI : InvP P ⟨F, []⟩ [] w := ⟨⟨hF, rfl, fun i o r h1 => by simp at h1, fun i i' o o' r r' b h1 => by simp at h1⟩, hsz, fun b hb => by obtain ⟨i, o, r, h1, _⟩ := hb; simp at h1, hT⟩
  rcases h ⟨F, []⟩ w cargs hI ha with ⟨_, h2⟩ | ⟨x, w', h1, _⟩
  · refine h2.mono ?_
    rintro e w' ⟨x, rfl, R', loc', r, g, i, hx, rfl, rfl⟩
    refine ⟨x, rfl, ⟨g.os, g.tape, g.output, g.size, fun b hb => (g.kept b hb ?_).1⟩, R', hx, i.F⟩
    rintro ⟨i, o, r, h1, _⟩
    simp at h1
  · rw [run_callFunc_enter hf] at h1
    cases h1
end Go.Ab
namespace Go.Proofs.YtjlibainifpbaaaGreatDoor
open Go.Ab Go.Ab.Tz Go.Shelf Go.RowKit
open Go.ChangeShapes Go.WideShapes Go.ChangeAt
set_option maxRecDepth 100000
theorem own : ownKnob Tryz.prog.godebug = none := by kernel_rfl
theorem gsize : Tryz.prog.globals.size = 8 := by kernel_rfl
theorem row7 : (((begin Tryz.prog (fun _ _ => 0) default).world.heap[7]?).bind Obj.row?).isSome = true := by kernel_rfl
theorem size_of_shape {w : World} (h : w.ShapedOpen Tryz.prog) : Tryz.prog.globals.size ≤ w.heap.size := by
  obtain ⟨⟨zero, t⟩, hz⟩ := Option.isSome_iff_exists.1 row7
  obtain ⟨cs, hh, _⟩ := h.1 7 zero t (by have := gsize; omega) hz
  have := (Array.getElem?_eq_some_iff.1 hh).1
  have e := gsize
  omega
def isIface (d : TypeDesc) : Bool := match d with
  | .interface _ => true
  | _ => false
theorem iface_cell {W : World} {n : String} {g : Nat} {t : TypeId} {nm : String} {d : DataW Unit} (h : Lib.VarReads Tryz.prog W n (.iface nm d)) (hg : Tryz.prog.globalNamed n = some g)
    (hty : (Tryz.prog.globals[g]?).map (·.type) = some t) (hu0 : ((Tryz.prog.underlying t).any isIface) = true) : ∃ te pe, W.cell? ⟨g, 0, none⟩ = some (.iface te pe) := by
  obtain ⟨g', t', cs, fuel, p, h1, h2, h3, h4⟩ := h
  obtain rfl := Option.some.inj (hg.symm.trans h1)
  obtain rfl := Option.some.inj (hty.symm.trans h2)
  obtain ⟨ms, hu⟩ : ∃ ms, Tryz.prog.underlying t = some (.interface ms) := by
    rw [Option.any_eq_true] at hu0
    obtain ⟨d, h1, h2⟩ := hu0
    cases d <;> first | (simp [isIface] at h2; done) | exact ⟨_, h1⟩
  obtain ⟨_, u, v, hcs, _⟩ := iface_of_trod hu h4
  refine ⟨u, v, ?_⟩
  rw [World.var?_cell h1 h3 0, ← Array.getElem?_toList, hcs]
  rfl
theorem libFacts_of {W : World} {l : List (String × DataW Unit)} (hL : laidMet Tryz.prog l W) (hsh : W.ShapedOpen Tryz.prog) (h0 : ("unicode/utf8.first", Rows.laid_unicode_utf8_first) ∈ l) (h1 : ("unicode/utf8.acceptRanges", Rows.laid_unicode_utf8_acceptRanges) ∈ l)
    (h3 : ("strconv.ErrSyntax", Rows.laid_strconv_ErrSyntax) ∈ l) (h4 : ("strconv.ErrRange", Rows.laid_strconv_ErrRange) ∈ l) : LibFacts W where
  maxLen := cell_of_shapedOpen_int hsh (by have := gsize; omega) (show _ = some (#[.int .i64 0], 3) from by kernel_rfl) rfl (by kernel_rfl) (by kernel_rfl) (by kernel_rfl)
  tabs := utf8Tabs_of_readsT { Tryz.lays197 with } ⟨by kernel_rfl, by kernel_rfl, by kernel_rfl, by kernel_rfl, by kernel_rfl, by kernel_rfl, by kernel_rfl⟩ (Pinned.utf8First_eq ▸ Lib.laidMet.reads hL h0) (Lib.laidMet.reads hL h1)
  syn := iface_cell (t := 190) (Lib.laidMet.reads hL h3) (by kernel_rfl) (by kernel_rfl) (by kernel_rfl)
  rng := iface_cell (t := 190) (Lib.laidMet.reads hL h4) (by kernel_rfl) (by kernel_rfl) (by kernel_rfl)

abbrev laidL : List (String × DataW Unit) := Rows.matchKnownRow.laid
theorem laid_world (os : Os) (args : Array Value) : laidMetH Tryz.prog laidL ((World.laidAll Tryz.prog os laidL).forCall (fun _ _ => 0) ⟨#[], args, []⟩).memory := by
  rw [MakeChecks.laidMetH_plain _ _ _ (by kernel_rfl)]
  exact laidMet_laidAll _ (by kernel_rfl) (by kernel_rfl)

theorem known_lifted (os : Os) (started : os.Started) (H : Type) (enc : TypeId × Value → H) (F : Stop.Interp) :
    ReturnsInHanded {} Tryz.checked os 5 .any ((OpenSpec.ofChange Rows.matchKnownSpec).preRow enc Tryz.prog Tryz.f5 [] false laidL) (((OpenSpec.ofChange Rows.matchKnownSpec).at F).post enc Tryz.prog Tryz.f5 false true false false) := by
  refine returnsInHanded_of_row (C := Tryz.checked) (s := OpenSpec.ofChange Rows.matchKnownSpec) own started (by kernel_rfl) Tryz.func5 ?_ ?_
  · have hw : (DataW.whole enc Tryz.prog ((World.laidAll Tryz.prog os laidL).forCall (fun _ _ => 0) ⟨#[], #[], []⟩).memory Tryz.f5.params.toList (OpenSpec.ofChange Rows.matchKnownSpec).vars false (#[] : Array Value).toList 8).map (fun x => (x.1, x.2.1)) =
        some ([], []) := by kernel_rfl
    obtain ⟨⟨x1, x2, x3⟩, hx, hx1⟩ := Option.map_eq_some_iff.1 hw
    simp only [Prod.mk.injEq] at hx1
    obtain ⟨rfl, rfl⟩ := hx1
    refine ⟨World.laidAll Tryz.prog os laidL, fun _ _ => 0, ⟨#[], #[], []⟩, World.laidAll_os _ _ _, World.shaped_of_ZipB (by kernel_rfl) (by kernel_rfl), (Input.okWide_of_okWideB (P := Tryz.checked.prog) (w := (World.laidAll Tryz.prog os laidL).forCall (fun _ _ => 0) ⟨#[], #[], []⟩) (f := 5) (base := 0) (by kernel_rfl)).1, (Input.okWide_of_okWideB (by kernel_rfl)).2, OpenSpec.preRow_of_cond 8 hx (by kernel_rfl) (fun k hk => by cases hk) (by kernel_rfl) (laid_world os _), ?_⟩
    simp only [Assume.holds]
    exact ⟨by simp, by simp, by simp, by simp, by simp⟩
  intro W base args ds gs before hval0 hW _ _ _ hL hsh _
  have hW' := hW
  obtain ⟨p, q, hA0, hV0, rfl, _, _⟩ := hW
  have hA : DataW.TrodAll enc Tryz.prog W 0 (fun _ => true) true Tryz.f5.params.toList args.toList ds p := hA0
  rw [Tryz.params5] at hA
  obtain ⟨rfl, rfl, rfl⟩ := trodAll_none hA
  obtain ⟨rfl, rfl⟩ := trodVars_none hV0
  rw [MakeChecks.laidMetH_plain _ _ _ (by kernel_rfl)] at hL
  have hT : LibFacts W := libFacts_of hL hsh (by simp [laidL, Rows.matchKnownRow]) (by simp [laidL, Rows.matchKnownRow]) (by simp [laidL, Rows.matchKnownRow]) (by simp [laidL, Rows.matchKnownRow])
  refine (k_known.to_calls (canEnter_of (by kernel_rfl)) (F := fun _ _ => none) (cargs := []) (fun _ _ _ h => by cases h) (size_of_shape hsh) hT (by simp [γs])).mono ?_
  rintro e W' ⟨x, rfl, bel, R, hx, _⟩
  simp only [γ] at hx
  subst hx
  exact ⟨_, rfl, _, _, _, [], [], [], hW', trodAll_mk1 (shut_bool Tryz.underlying4 _), trodAll_mk0, rfl, bel.frame _, fun h => by cases h⟩

theorem matchKnown_holds : Rows.MatchKnownSaid :=
  OpenClaim.holds_of_cond 5 Tryz.f5 rfl rfl rfl rfl rfl rfl rfl ⟨rfl, rfl, rfl, rfl, rfl⟩ rfl rfl rfl rfl rfl (by kernel_rfl) Tryz.func5 (by kernel_rfl)
    (of_decide_eq_true (by kernel_rfl)) (by unfold Func.isWrapper; first | (rw [if_pos (by decide +kernel)]; kernel_rfl) | (rw [if_neg (by decide +kernel)]; exact ⟨rfl, rfl⟩))
    (fun os started H enc _ F0 => by rw [OpenClaim.pre_eq_preRow]; exact known_lifted os started H enc F0)

theorem matchKnown_card : Rows.MatchKnownCardSaid :=
  Claim7.holds_tied_plain_at .later [] [.data, .data, .data, .data, .sentinel, .sentinel, .pinned] true (true, "e5839d4b1bf30a1bdf932ce6c94dd6e8513916d7e6920b2fc84b52551d937462") true matchKnown_holds (fun _ h => by cases h) (by kernel_rfl) (fun _ h => by cases h) matchKnown_row_tie rfl ⟨rfl, rfl⟩ (by kernel_rfl) rfl
    (fun f fn hf hfn => by
      obtain rfl : f = 5 := Option.some.inj ((show Tryz.prog.funcNamed "gimlet/gimletlaw24.MatchKnown" = some 5 by kernel_rfl).symm.trans hf) |>.symm
      obtain rfl : fn = Tryz.f5 := (Option.some.inj (Tryz.func5.symm.trans hfn)).symm
      exact ⟨by kernel_rfl, fun j t ht => by
        rw [Tryz.params5] at ht
        simp at ht⟩)
    (by kernel_rfl)
end Go.Proofs.YtjlibainifpbaaaGreatDoor
