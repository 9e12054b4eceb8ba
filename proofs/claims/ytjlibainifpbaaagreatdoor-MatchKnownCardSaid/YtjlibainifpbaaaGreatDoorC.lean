/-
  Part C of this proof: Ab21, G0, Ab20, G1, G2.
-/
import Derived.Test.YtjlibainifpbaaaGreatDoorB
namespace Go.Ab
variable {P : Program} [LibT P]

theorem γs_con_inv {R : Rep} : ∀ {vs us : List Value}, γs R (vs.map .con) us → us = vs
  | [], us, h => by simpa [γs] using h
  | v :: vs, us, h => by
    simp only [List.map_cons, γs, γ] at h
    obtain ⟨u, us', rfl, rfl, h2⟩ := h
    rw [γs_con_inv h2]

/-- A library function's contract, as the kit has it: what was there stands. -/
theorem PCalls.of_calls {f : FuncId} {cargs : List Value} {v : AV} (hf : CanEnter P f)
    (h : ∀ w, LibT.T P w → Calls P f cargs.toArray w fun e w' => ∃ x, e = .returned x ∧ RowKit.Below w.heap.size w w' ∧ (∀ R, γ R v x)) : PCalls P f (cargs.map .con) v := by
  intro R w us hI hg
  have hu := γs_con_inv hg
  subst hu
  refine .inl ⟨hf, (h w hI.lib).mono ?_⟩
  rintro e w' ⟨x, he, hb, hx⟩
  refine ⟨x, he, R, [], v, ?_, ?_, hx R, rfl, rfl⟩
  · refine ⟨hb.os, hb.tape, hb.output, hb.size, fun _ _ _ h => h, fun _ _ _ h => h, fun b hlt _ => ⟨hb.block b hlt, fun _ => rfl⟩, ?_⟩
    rintro b _ ⟨i, o, r, h1, _⟩
    simp at h1
  · refine ⟨fun b j u hf => ?_, hI.inv.len, fun i o r h1 => by simp at h1, fun i i' o o' r r' b h1 => by simp at h1⟩
    have h1 := hI.inv.F b j u hf
    have hlt := hI.inv.F_lt hf
    simpa only [World.cell?, hb.block b hlt] using h1

/-! ### Calls that make new objects: wherever -/
/-- new names, behind n others -/
def shiftN (n : Nat) : Nat → Option Nat := fun i => some (n + i)

theorem AObj.map'_own (ρ : Nat → Option Nat) (o : AObj) (r : ORep) : own (o.map' ρ) r = own o r := own_map ρ o r

theorem ACalls.fresh {f : FuncId} {args : List AV} {v : AV} {objs : List AObj} (h : ACalls P f args [] (fun r l => r = v ∧ l = objs)) (hb : bnds 0 args) (loc : List AObj) :
    ACalls P f args loc (fun r l => r = v.map (shiftN loc.length) ∧ l = loc ++ objs.map (AObj.map' (shiftN loc.length))) := by
  intro R w cargs hI hg
  have key : ∀ (x : Value) (w' : World), (∃ R' loc' r, GrowN ([] : List AObj).length ⟨R.F, []⟩ [] w R' loc' w' ∧ Inv R' loc' w' ∧ γ R' r x ∧ r = v ∧ loc' = objs) →
      ∃ R' loc' r, GrowN loc.length R loc w R' loc' w' ∧ Inv R' loc' w' ∧ γ R' r x ∧ r = v.map (shiftN loc.length) ∧ loc' = loc ++ objs.map (AObj.map' (shiftN loc.length)) := by
    rintro x w' ⟨R', loc', r, g, i, hx, rfl, rfl⟩
    have hno : ∀ b, ¬ owned ⟨R.F, []⟩ [] b := by rintro b ⟨i, o, r, h1, _⟩; simp at h1
    have hRlen : R.ob.length = loc.length := hI.inv.len
    have hlen' : R'.ob.length = loc'.length := i.len
    let R2 : Rep := ⟨R'.F, R.ob ++ R'.ob⟩
    have hle : RepLe R R2 := ⟨g.F, fun j rr e => by
      show (R.ob ++ R'.ob)[j]? = some rr
      rw [List.getElem?_append_left (List.getElem?_eq_some_iff.1 e).1]; exact e⟩
    have hren : Ren (shiftN loc.length) R' R2 := ⟨fun _ _ _ h => h, fun o o' rr ho hr => by
      simp only [shiftN, Option.some.injEq] at ho
      subst ho
      show (R.ob ++ R'.ob)[loc.length + o]? = some rr
      rw [List.getElem?_append_right (by omega)]
      simpa [hRlen] using hr⟩
    -- new blocks are no old ones
    have hnew : ∀ b, owned R' loc' b → w.heap.size ≤ b := fun b ho => by
      by_cases hlt : b < w.heap.size
      · exact absurd (g.back b hlt ho) (hno b)
      · omega
    have hsplit : ∀ (j : Nat) (o : AObj) (rr : ORep), (loc ++ loc'.map (AObj.map' (shiftN loc.length)))[j]? = some o → (R.ob ++ R'.ob)[j]? = some rr →
        (j < loc.length ∧ loc[j]? = some o ∧ R.ob[j]? = some rr) ∨ (loc.length ≤ j ∧ ∃ o0, loc'[j - loc.length]? = some o0 ∧ R'.ob[j - loc.length]? = some rr ∧ o = o0.map' (shiftN loc.length)) := by
      intro j o rr h1 h2
      by_cases hj : j < loc.length
      · rw [List.getElem?_append_left hj] at h1
        rw [List.getElem?_append_left (by omega)] at h2
        exact .inl ⟨hj, h1, h2⟩
      · rw [List.getElem?_append_right (by omega)] at h1
        rw [List.getElem?_append_right (by omega), hRlen] at h2
        simp only [List.getElem?_map, Option.map_eq_some_iff] at h1
        obtain ⟨o0, h3, rfl⟩ := h1
        exact .inr ⟨by omega, o0, h3, h2, rfl⟩
    refine ⟨R2, _, _, ?_, ?_, γ_map hren _ _ hx, rfl, rfl⟩
    · refine ⟨g.os, g.tape, g.output, g.size, g.F, fun j rr hj hr => hle.ob j rr hr, fun b hb' hn => g.kept b hb' (hno b), ?_⟩
      rintro b hb' ⟨j, o, rr, h1, h2, h3⟩
      rcases hsplit j o rr h1 h2 with ⟨_, k1, k2⟩ | ⟨_, o0, k1, k2, rfl⟩
      · exact ⟨j, o, rr, k1, k2, h3⟩
      · rw [own_map] at h3
        have := hnew b ⟨_, o0, rr, k1, k2, h3⟩
        omega
    · refine ⟨i.F, by simp [R2, hRlen, hlen'], ?_, ?_⟩
      · intro j o rr h1 h2
        rcases hsplit j o rr h1 h2 with ⟨_, k1, k2⟩ | ⟨_, o0, k1, k2, rfl⟩
        · refine objOk_carry hle (hI.inv.objs j o rr k1 k2) fun b hb => ?_
          exact g.kept b (hI.inv.blk_lt ⟨j, o, rr, k1, k2, hb⟩) (hno b)
        · exact objOk_map hren (i.objs _ o0 rr k1 k2) fun b _ => ⟨rfl, fun _ => rfl⟩
      · intro j j' o o' rr rr' b h1 h2 h3 h4 h5 h6
        rcases hsplit j o rr h1 h2 with ⟨_, k1, k2⟩ | ⟨kj, o0, k1, k2, rfl⟩
        · rcases hsplit j' o' rr' h3 h4 with ⟨_, k3, k4⟩ | ⟨kj', o0', k3, k4, rfl⟩
          · exact hI.inv.apart j j' o o' rr rr' b k1 k2 k3 k4 h5 h6
          · rw [own_map] at h6
            have h7 := hI.inv.blk_lt ⟨j, o, rr, k1, k2, h5⟩
            have h8 := hnew b ⟨_, o0', rr', k3, k4, h6⟩
            omega
        · rw [own_map] at h5
          have h8 := hnew b ⟨_, o0, rr, k1, k2, h5⟩
          rcases hsplit j' o' rr' h3 h4 with ⟨_, k3, k4⟩ | ⟨kj', o0', k3, k4, rfl⟩
          · have h7 := hI.inv.blk_lt ⟨j', o', rr', k3, k4, h6⟩
            omega
          · rw [own_map] at h6
            have := i.apart _ _ o0 o0' rr rr' b k1 k2 k3 k4 h5 h6
            omega
  rcases h ⟨R.F, []⟩ w cargs (hI.bare0 hI.inv.bare) (γs_bare hb hg) with ⟨h1, h2⟩ | ⟨x, w', h1, h2⟩
  · exact .inl ⟨h1, h2.mono fun e w' ⟨x, he, hx⟩ => ⟨x, he, key x w' hx⟩⟩
  · exact .inr ⟨x, w', h1, key x w' h2⟩

end Go.Ab

namespace Go.Ab

/-! ### Runs on given arguments, as a computation -/
/-- what stands for its weaker one, as far as a Bool can tell -/
def valB : Value → Value → Bool
  | .bool a, .bool b => a == b
  | .int k a, .int k' b => decide (k = k') && decide (a = b)
  | .string a, .string b => decide (a = b)
  | .slice none 0 0, .slice none 0 0 => true
  | _, _ => false

theorem valB_eq {a b : Value} (h : valB a b = true) : a = b := by
  unfold valB at h
  split at h
  · simp only [beq_iff_eq] at h; rw [h]
  · simp only [Bool.and_eq_true, decide_eq_true_eq] at h; rw [h.1, h.2]
  · simp only [decide_eq_true_eq] at h; rw [h]
  · rfl
  · cases h

def nilB : Value → Bool
  | .slice none n m => decide (n = 0) && decide (m = 0)
  | _ => false
def unkB : Cap → Bool
  | .unk => true
  | _ => false

mutual
def wkB : AV → AV → Bool
  | .con va, b => match b with
    | .top => true
    | .con vb => valB va vb
    | .sl _ [] _ => nilB va
    | _ => false
  | .agg cs, b => match b with
    | .top => true
    | .agg ds => wksB cs ds
    | _ => false
  | .tup cs, b => match b with
    | .top => true
    | .tup ds => wksB cs ds
    | _ => false
  | .sl sz es _, b => match b with
    | .top => true
    | .sl sz' es' k => unkB k && decide (sz = sz') && wkssB es es'
    | _ => false
  | .mp o, b => match b with
    | .top => true
    | .mp o' => decide (o = o')
    | _ => false
  | .ptr o f, b => match b with
    | .top => true
    | .ptr o' f' => decide (o = o') && decide (f = f')
    | _ => false
  | _, b => match b with
    | .top => true
    | _ => false
def wksB : List AV → List AV → Bool
  | [], ds => ds.isEmpty
  | c :: cs, ds => match ds with
    | d :: ds => wkB c d && wksB cs ds
    | [] => false
def wkssB : List (List AV) → List (List AV) → Bool
  | [], ds => ds.isEmpty
  | c :: cs, ds => match ds with
    | d :: ds => wksB c d && wkssB cs ds
    | [] => false
end

theorem topB {R : Rep} {b : AV} {x : Value} (h : (match b with | .top => true | _ => false) = true) : γ R b x := by
  cases b <;> first | (simp [γ]; done) | (simp at h; done)

mutual
theorem wkB_sound {R : Rep} : ∀ (a b : AV) (x : Value), wkB a b = true → γ R a x → γ R b x
  | .con va, b, x, h, hx => by
    simp only [wkB] at h
    split at h
    · simp [γ]
    · rw [← valB_eq h]; exact hx
    · simp only [γ] at hx ⊢
      unfold nilB at h
      split at h
      · simp only [Bool.and_eq_true, decide_eq_true_eq] at h
        obtain ⟨rfl, rfl⟩ := h
        exact .inl ⟨hx, trivial⟩
      · cases h
    · cases h
  | .agg cs, b, x, h, hx => by
    simp only [wkB] at h
    split at h
    · simp [γ]
    · rename_i ds
      simp only [γ] at hx ⊢
      obtain ⟨vs, e, h1, h2⟩ := hx
      exact ⟨vs, e, wksB_sound cs ds vs h h1, h2⟩
    · cases h
  | .tup cs, b, x, h, hx => by
    simp only [wkB] at h
    split at h
    · simp [γ]
    · rename_i ds
      simp only [γ] at hx ⊢
      obtain ⟨vs, e, h1⟩ := hx
      exact ⟨vs, e, wksB_sound cs ds vs h h1⟩
    · cases h
  | .sl sz es k, b, x, h, hx => by
    simp only [wkB] at h
    split at h
    · simp [γ]
    · rename_i sz' es' k'
      simp only [Bool.and_eq_true, decide_eq_true_eq] at h
      obtain ⟨⟨hk, rfl⟩, h⟩ := h
      have hk' : k' = .unk := by cases k' <;> first | rfl | (simp [unkB] at hk)
      subst hk'
      have hl := wkssB_len es es' h
      simp only [γ] at hx ⊢
      rcases hx with ⟨h1, h2⟩ | ⟨b, off, cap, vs, e, h1, h2, h3, h4, h5, h6⟩
      · refine .inl ⟨h1, ?_⟩
        subst h2
        cases es' with
        | nil => rfl
        | cons _ _ => simp at hl
      · refine .inr ⟨b, off, cap, vs, by rw [← hl]; exact e, by rw [← hl]; exact h1, h2, trivial, wkssB_sound es es' vs h h4, h5, h6⟩
    · cases h
  | .vw .., b, x, h, hx => topB (by simpa only [wkB] using h)
  | .ptr o f, b, x, h, hx => by
    simp only [wkB] at h
    split at h
    · simp [γ]
    · simp only [Bool.and_eq_true, decide_eq_true_eq] at h
      obtain ⟨rfl, rfl⟩ := h; exact hx
    · cases h
  | .cptr _, b, x, h, hx => topB (by simpa only [wkB] using h)
  | .mp o, b, x, h, hx => by
    simp only [wkB] at h
    split at h
    · simp [γ]
    · simp only [decide_eq_true_eq] at h
      subst h; exact hx
    · cases h
  | .fn .., b, x, h, hx => topB (by simpa only [wkB] using h)
  | .ifc .., b, x, h, hx => topB (by simpa only [wkB] using h)
  | .gd .., b, x, h, hx => topB (by simpa only [wkB] using h)
  | .top, b, x, h, hx => topB (by simpa only [wkB] using h)
theorem wksB_sound {R : Rep} : ∀ (cs ds : List AV) (vs : List Value), wksB cs ds = true → γs R cs vs → γs R ds vs
  | [], ds, vs, hb, h => by
    simp only [wksB, List.isEmpty_iff] at hb
    subst hb; exact h
  | c :: cs, ds, vs, hb, h => by
    simp only [wksB] at hb
    split at hb
    · rename_i d ds
      simp only [Bool.and_eq_true] at hb
      simp only [γs] at h ⊢
      obtain ⟨v, vs', e, h1, h2⟩ := h
      exact ⟨v, vs', e, wkB_sound c d v hb.1 h1, wksB_sound cs ds vs' hb.2 h2⟩
    · cases hb
theorem wkssB_sound {R : Rep} {sz : Nat} : ∀ (cs ds : List (List AV)) (vs : List Value), wkssB cs ds = true → γss R sz cs vs → γss R sz ds vs
  | [], ds, vs, hb, h => by
    simp only [wkssB, List.isEmpty_iff] at hb
    subst hb; exact h
  | c :: cs, ds, vs, hb, h => by
    simp only [wkssB] at hb
    split at hb
    · rename_i d ds
      simp only [Bool.and_eq_true] at hb
      simp only [γss] at h ⊢
      obtain ⟨v1, v2, e, h0, h1, h2⟩ := h
      exact ⟨v1, v2, e, h0, wksB_sound c d v1 hb.1 h1, wkssB_sound cs ds v2 hb.2 h2⟩
    · cases hb
theorem wkssB_len : ∀ (cs ds : List (List AV)), wkssB cs ds = true → cs.length = ds.length
  | [], ds, hb => by
    simp only [wkssB, List.isEmpty_iff] at hb
    subst hb; rfl
  | c :: cs, ds, hb => by
    simp only [wkssB] at hb
    split at hb
    · rename_i d ds
      simp only [Bool.and_eq_true] at hb
      simp [wkssB_len cs ds hb.2]
    · cases hb
end

theorem wksB_wks : ∀ {cs ds : List AV}, wksB cs ds = true → Wks cs ds
  | [], ds, h => by
    simp only [wksB, List.isEmpty_iff] at h
    subst h; exact wks_nil.2 trivial
  | c :: cs, ds, h => by
    simp only [wksB] at h
    split at h
    · simp only [Bool.and_eq_true] at h
      exact wks_cons.2 ⟨fun R x hx => wkB_sound _ _ x h.1 hx, wksB_wks h.2⟩
    · cases h

end Go.Ab

namespace Go.Ab
variable {P : Program}

theorem AM.draw_coreS [LibT P] {ops : Array Oper} {B : List Nat} {cls : List Bool} {F : List FuncId} (hok : DrawOk F ops B cls) {fr0 : Fr} (vs : Nat → AV) (LOC : (Nat → Bool) → List AObj)
    (hcong : ∀ S S' : Nat → Bool, (∀ j, j < ops.size → S j = S' j) → LOC S = LOC S')
    {n : Nat} {k : List AI} {Q : AOut → Fr → List AObj → Prop} (hn : ∀ S, n ≤ (LOC S).length)
    (step : ∀ (S : Nat → Bool) (i : Nat) (o : Oper), ops[i]? = some o → S i = false → (∀ j, inB B j i → S j = true) → (∀ j, j < ops.size → S j = true → ¬ inB B i j) → ∀ fr, Agree ops o fr (putS ops vs (fun _ => true) i fr0) →
      Runs1 P ops i fr (LOC S) (vs i) (LOC (fun j => S j || j == i)))
    (h : AM P n k (putS ops vs (fun _ => true) ops.size fr0) (LOC (fun _ => true)) Q) :
    ∀ (fuel t : Nat) (listed : Array Bool), listed.size = ops.size → leftN (fun j => listed.getD j false) ops.size ≤ fuel → (∀ i, i < ops.size → listed.getD i false = true → ∀ j, inB B j i → listed.getD j false = true) →
      AM P n (.ops ops (Region.linearise.go .any ops fuel t listed []) :: k) (putS ops vs (fun j => listed.getD j false) ops.size fr0) (LOC (fun j => listed.getD j false)) Q := by
  have hdone : ∀ (listed : Array Bool), leftN (fun j => listed.getD j false) ops.size = 0 →
      AM P n (.ops ops [] :: k) (putS ops vs (fun j => listed.getD j false) ops.size fr0) (LOC (fun j => listed.getD j false)) Q := by
    intro listed h0
    have hall := leftN_zero _ h0
    refine AM.still (fun w a b cs => step_region_end) ?_
    rw [putS_congr ops vs (S' := fun _ => true) fr0 ops.size hall, hcong _ (fun _ => true) hall]
    exact h
  intro fuel
  induction fuel with
  | zero =>
    intro t listed hsz hf hcl
    exact hdone listed (by omega)
  | succ fuel ih =>
    intro t listed hsz hf hcl
    by_cases h0 : leftN (fun j => listed.getD j false) ops.size = 0
    · have hall := leftN_zero _ h0
      have hready : Region.ready .any ops listed = [] := by
        unfold Region.ready
        rw [List.filter_eq_nil_iff]
        intro i hi
        have hi' := List.mem_range.1 hi
        have := hall i hi'
        have hg : listed.getD i true = true := by
          simp only [Array.getD] at this ⊢
          split
          · rename_i hh; simpa [hh] using this
          · rfl
        simp [hg]
      have hgo : Region.linearise.go .any ops (fuel + 1) t listed [] = [] := by
        simp only [Region.linearise.go]
        change (match (Region.ready .any ops listed)[t % (Region.ready .any ops listed).length]? with
          | some i => Region.linearise.go .any ops fuel (t / (Region.ready .any ops listed).length) (listed.setIfInBounds i true) [i]
          | none => [].reverse) = []
        rw [hready]; rfl
      rw [hgo]
      exact hdone listed h0
    · obtain ⟨i0, hi0, hS0, hlow⟩ := leftN_pos _ h0
      have hmem : ∀ i, i ∈ Region.ready .any ops listed ↔ i < ops.size ∧ listed.getD i false = false ∧ ∀ o, ops[i]? = some o → ∀ e ∈ o.after, Region.binds .any e = true → listed.getD e.on false = true := by
        intro i
        unfold Region.ready
        simp only [List.mem_filter, List.mem_range, Bool.and_eq_true, Bool.not_eq_true']
        constructor
        · rintro ⟨h1, h2, h3⟩
          refine ⟨h1, ?_, fun o ho e he hb => ?_⟩
          · simp only [Array.getD, hsz, h1, dif_pos] at h2 ⊢; exact h2
          · rw [ho] at h3
            simp only [Option.map_some, Option.getD_some, Array.all_eq_true'] at h3
            have := h3 e he
            simpa [hb] using this
        · rintro ⟨h1, h2, h3⟩
          refine ⟨h1, ?_, ?_⟩
          · simp only [Array.getD, hsz, h1, dif_pos] at h2 ⊢; exact h2
          · rw [Array.getElem?_eq_getElem h1]
            simp only [Option.map_some, Option.getD_some, Array.all_eq_true']
            intro e he
            by_cases hb : Region.binds .any e = true
            · simp [h3 _ (Array.getElem?_eq_getElem h1) e he hb]
            · simp [hb]
      have hne : Region.ready .any ops listed ≠ [] := by
        intro hnil
        have : i0 ∈ Region.ready .any ops listed := (hmem i0).2 ⟨hi0, hS0, fun o ho e he hb => hlow e.on (hok.edge i0 o ho e he hb)⟩
        rw [hnil] at this; cases this
      have hpos : 0 < (Region.ready .any ops listed).length := List.length_pos_iff.2 hne
      obtain ⟨i, hi⟩ : ∃ i, (Region.ready .any ops listed)[t % (Region.ready .any ops listed).length]? = some i := ⟨_, List.getElem?_eq_getElem (Nat.mod_lt _ hpos)⟩
      have hgo : Region.linearise.go .any ops (fuel + 1) t listed [] = i :: Region.linearise.go .any ops fuel (t / (Region.ready .any ops listed).length) (listed.setIfInBounds i true) [] := by
        simp only [Region.linearise.go]
        change (match (Region.ready .any ops listed)[t % (Region.ready .any ops listed).length]? with
          | some i => Region.linearise.go .any ops fuel (t / (Region.ready .any ops listed).length) (listed.setIfInBounds i true) [i]
          | none => [].reverse) = _
        rw [hi]
        simp only []
        rw [linearise_go_acc]
        rfl
      obtain ⟨hilt, hiS, hedges⟩ := (hmem i).1 (List.mem_of_getElem? hi)
      have ho : ops[i]? = some ops[i] := Array.getElem?_eq_getElem hilt
      -- what comes ahead of it is listed
      have hbef : ∀ j, inB B j i → listed.getD j false = true := by
        intro j hj
        obtain ⟨e, he, hb, hor⟩ := (hok.spec i _ ho j).1 hj
        have hl := hedges _ ho e he hb
        rcases hor with rfl | hor
        · exact hl
        · exact hcl e.on (by have := hok.edge i _ ho e he hb; omega) hl j hor
      have hnot : ∀ j, j < ops.size → listed.getD j false = true → ¬ inB B i j := fun j hj hl hb => by
        have := hcl j hj hl i hb
        rw [hiS] at this; cases this
      have hget : ∀ j, (listed.setIfInBounds i true).getD j false = (listed.getD j false || j == i) := by
        intro j
        simp only [Array.getD_eq_getD_getElem?, Array.getElem?_setIfInBounds]
        by_cases hj : j = i
        · subst hj; simp [hsz, hilt]
        · have : (j == i) = false := by simpa using hj
          simp only [this, Bool.or_false, if_neg (Ne.symm hj)]
      have hfun : (fun j => (listed.setIfInBounds i true).getD j false) = fun j => listed.getD j false || j == i := funext hget
      rw [hgo]
      -- the frame
      have hput : putS ops vs (fun j => listed.getD j false || j == i) ops.size fr0 = (putS ops vs (fun j => listed.getD j false) ops.size fr0).put (dstAt ops i) (vs i) := by
        refine putS_more ops vs fr0 hiS ops.size hilt ?_
        intro j h1 h2 hj t hd hdj
        have hoj : ops[j]? = some ops[j] := Array.getElem?_eq_getElem h2
        simp only [dstAt, ho, hoj, Option.bind_some] at hd hdj
        rcases hok.dst i _ ho j _ hoj (by omega) t hdj (.inr hd) with hb | hb
        · have := hok.lt i j hilt hb; omega
        · exact hnot j h2 hj hb
      have hagree : Agree ops ops[i] (putS ops vs (fun j => listed.getD j false) ops.size fr0) (putS ops vs (fun _ => true) i fr0) := by
        have hext : putS ops vs (fun _ => true) i fr0 = putS ops vs (fun j => decide (j < i)) ops.size fr0 := by
          have : ∀ m, i ≤ m → putS ops vs (fun j => decide (j < i)) m fr0 = putS ops vs (fun _ => true) i fr0 := by
            intro m
            induction m with
            | zero => intro hm; have : i = 0 := by omega
                      subst this; rfl
            | succ m ihm =>
              intro hm
              by_cases him : i = m + 1
              · subst him
                exact putS_congr ops vs fr0 (m + 1) (fun j hj => by simp [hj])
              · have h1 : ¬ m < i := by omega
                simp only [putS, h1, decide_false, Bool.false_eq_true, if_false]
                exact ihm (by omega)
          exact (this ops.size (by omega)).symm
        have key : ∀ t, t ∈ ops[i].looksAt ops → (putS ops vs (fun j => listed.getD j false) ops.size fr0).tmps.getD t .undef = (putS ops vs (fun _ => true) i fr0).tmps.getD t .undef := by
          intro t ht
          rw [hext]
          refine putS_get ops vs fr0 t ops.size ?_
          intro j hj hd
          have hoj : ops[j]? = some ops[j] := Array.getElem?_eq_getElem hj
          simp only [dstAt, hoj, Option.bind_some] at hd
          by_cases hij : i = j
          · subst hij
            simp only [Nat.lt_irrefl, decide_false]; exact hiS
          · rcases hok.dst i _ ho j _ hoj hij t hd (.inl ht) with hb | hb
            · have h1 := hok.lt i j hilt hb
              simp only [h1, decide_true]; exact hbef j hb
            · have h1 := hok.lt j i hj hb
              have h2 : ¬ j < i := by omega
              simp only [h2, decide_false]
              cases hl : listed.getD j false with
              | false => rfl
              | true => exact absurd hb (hnot j hj hl)
        constructor
        · intro x hx
          cases x with
          | tmp t =>
            simp only [Fr.eval]
            refine key t ?_
            simp only [Oper.looksAt, List.mem_append, List.mem_filterMap]
            exact .inl ⟨.tmp t, hx, rfl⟩
          | _ => rfl
        · intro g b hg d hd
          refine key d ?_
          simp only [Oper.looksAt, hg, List.mem_append]
          exact .inr (by rw [hd]; simp)
      have hstep := step (fun j => listed.getD j false) i _ ho hiS hbef hnot _ hagree
      have hrec := ih (t / (Region.ready .any ops listed).length) (listed.setIfInBounds i true) (by simpa using hsz) (by
          have := leftN_less (S := fun j => listed.getD j false) hiS ops.size hilt
          rw [hfun]; omega) (by
          intro a ha hl j hj
          rw [hget] at hl ⊢
          simp only [Bool.or_eq_true, beq_iff_eq] at hl ⊢
          rcases hl with hl | rfl
          · exact .inl (hcl a ha hl j hj)
          · exact .inl (hbef j hj))
      rw [hfun, hput] at hrec
      exact hstep n _ k Q (hn _) hrec


/-! ### A literal of a map, whose entries are laid in any order -/
def lent (ops : Array Oper) (i : Nat) (fr : Fr) : List (AV × AV) :=
  match ops[i]? with
  | some o =>
    match o.op with
    | .insert _ _ (.const k) x => [(conv k, fr.eval x)]
    | _ => []
  | none => []

def lents (ops : Array Oper) (vs : Nat → AV) (fr0 : Fr) (S : Nat → Bool) : Nat → List (AV × AV)
  | 0 => []
  | m + 1 => lents ops vs fr0 S m ++ (if S m then lent ops m (putS ops vs (fun _ => true) m fr0) else [])

theorem lents_congr {ops : Array Oper} {vs : Nat → AV} {fr0 : Fr} {S S' : Nat → Bool} : ∀ m, (∀ j, j < m → S j = S' j) → lents ops vs fr0 S m = lents ops vs fr0 S' m
  | 0, _ => rfl
  | m + 1, h => by simp only [lents]; rw [lents_congr m (fun j hj => h j (by omega)), h m (by omega)]

theorem lents_more {ops : Array Oper} {vs : Nat → AV} {fr0 : Fr} {S : Nat → Bool} {i : Nat} (hi : S i = false) : ∀ m, i < m →
    (lents ops vs fr0 S m ++ lent ops i (putS ops vs (fun _ => true) i fr0)).Perm (lents ops vs fr0 (fun j => S j || j == i) m)
  | 0, h => by omega
  | m + 1, h => by
    by_cases him : i = m
    · subst him
      have e := lents_congr (ops := ops) (vs := vs) (fr0 := fr0) (S := fun j => S j || j == i) (S' := S) i (fun j hj => by
        have : (j == i) = false := by simp; omega
        simp [this])
      simp only [lents, hi, Bool.false_eq_true, if_false, beq_self_eq_true, Bool.or_true, if_true, List.append_nil, e]
      exact .refl _
    · have hmi : (m == i) = false := by simp; omega
      have ih := lents_more (ops := ops) (vs := vs) (fr0 := fr0) hi m (by omega)
      simp only [lents, hmi, Bool.or_false]
      rw [List.append_assoc]
      refine (List.Perm.append_left _ List.perm_append_comm).trans ?_
      rw [← List.append_assoc]
      exact ih.append_right _

theorem lents_mem {ops : Array Oper} {vs : Nat → AV} {fr0 : Fr} {S : Nat → Bool} {e : AV × AV} : ∀ {m : Nat}, e ∈ lents ops vs fr0 S m → ∃ j, j < m ∧ S j = true ∧ e ∈ lent ops j (putS ops vs (fun _ => true) j fr0)
  | 0, h => by cases h
  | m + 1, h => by
    simp only [lents] at h
    rcases List.mem_append.1 h with h | h
    · obtain ⟨j, h1, h2⟩ := lents_mem h; exact ⟨j, by omega, h2⟩
    · split at h
      · rename_i hS; exact ⟨m, by omega, hS, h⟩
      · cases h

theorem lents_nil {ops : Array Oper} {vs : Nat → AV} {fr0 : Fr} {S : Nat → Bool} (m : Nat) (h : ∀ j, j < m → S j = true → lent ops j (putS ops vs (fun _ => true) j fr0) = []) : lents ops vs fr0 S m = [] := by
  cases hl : lents ops vs fr0 S m with
  | nil => rfl
  | cons e l =>
    have : e ∈ lents ops vs fr0 S m := by rw [hl]; exact .head _
    obtain ⟨j, h1, h2, h3⟩ := lents_mem this
    rw [h j h1 h2] at h3; cases h3

theorem keq1_ne {R : Rep} {p q : AV} {x y : Value} (h : keq1 p q = some false) (hx : γ R p x) (hy : γ R q y) : x ≠ y := by
  unfold keq1 at h
  split at h
  · split at h
    · rename_i e; subst e
      simp only [Option.some.injEq, decide_eq_false_iff_not] at h
      simp only [γ] at hx hy
      rw [hx, hy]; intro e; cases e; exact h rfl
    · cases h
  · simp only [Option.some.injEq, decide_eq_false_iff_not] at h
    simp only [γ] at hx hy
    rw [hx, hy]; intro e; cases e; exact h rfl
  · simp only [Option.some.injEq, beq_eq_false_iff_ne] at h
    simp only [γ] at hx hy
    rw [hx, hy]; intro e; cases e; exact h rfl
  · cases h

/-- a key that is one cell, new to an unordered map -/
theorem uinsert_sound {R : Rep} {loc : List AObj} {w : World} (hI : Inv R loc w) {t kt et : TypeId} (ht : P.underlying t = some (.map kt et)) {o : Nat} {m m2 : List (AV × AV)} (ho : loc[o]? = some (.umap false m)) {k v : AV}
    (hk1 : ∀ e ∈ m, keq k e.1 = some false ∧ keq1 k e.1 = some false) (hok : okKey P kt k = true) {x y z : Value} (hx : γ R (.mp o) x) (hy : γ R k y) (hz : γ R v z) (hp : (m ++ [(k, v)]).Perm m2) :
    ∃ w', (Instr.mapUpdate t x y z).run P w = .ok () w' ∧ Inv R (loc.set o (.umap false m2)) w' ∧ Grow R loc w R (loc.set o (.umap false m2)) w' := by
  have hlt : o < R.ob.length := by rw [hI.len]; exact (List.getElem?_eq_some_iff.1 ho).1
  have hr := List.getElem?_eq_getElem hlt
  have hob := hI.objs o _ _ ho hr
  simp only [objOk] at hob
  obtain ⟨es, m', hb, hm, hperm, hnd⟩ := hob
  rw [mp_value hx hr]
  have hnone : mfind k m' = some none := by
    have : ∀ l : List (AV × AV), (∀ e ∈ l, keq k e.1 = some false) → mfind k l = some none := by
      intro l
      induction l with
      | nil => intro _; rfl
      | cons a l ih => intro h; simp [mfind, h a (.head _), ih (fun e he => h e (.tail _ he))]
    exact this m' (fun e he => (hk1 e (hperm.mem_iff.1 he)).1)
  have hfk := run_findKey_ab (w := w) hok hy hnone hm
  simp only [Option.bind_none] at hfk
  have hck := fun em => run_checkKey_ab (w := w) hok hy em 9998
  simp only [Nat.reduceAdd] at hck
  have hnew : ∀ e ∈ es.toList, e.key ≠ y := by
    intro e he
    obtain ⟨i, hi⟩ := List.getElem?_of_mem he
    have hil : i < m'.length := by rw [← γmap_length hm]; exact (List.getElem?_eq_some_iff.1 hi).1
    obtain ⟨x1, a1, a2, _⟩ := γmap_get hm (List.getElem?_eq_getElem hil)
    rw [hi] at a1; cases a1
    exact (keq1_ne (hk1 _ (hperm.mem_iff.1 (List.getElem_mem hil))).2 hy a2).symm
  obtain ⟨k1, k2⟩ := put_obj hI ho hr rfl (x' := .umap false m2) rfl (hI.map_F hb) (.inl rfl) (.map (es.push { key := y, val := z, born := es.size }) (es.size + 1)) rfl (by
    refine ⟨es.push { key := y, val := z, born := es.size }, m' ++ [(k, v)], ?_, ?_, ?_, ?_⟩
    · have hlt : R.ob[o].blk < w.heap.size := (Array.getElem?_eq_some_iff.1 hb).1
      simp [hlt]
    · simp only [Array.toList_push]; exact γmap_snoc hm hy hz
    · exact (hperm.append_right _).trans hp
    · simp only [Array.toList_push, List.map_append, List.map_cons, List.map_nil]
      rw [List.nodup_append]
      refine ⟨hnd, by simp, ?_⟩
      intro a ha b hb e
      simp only [List.mem_map] at ha
      obtain ⟨e0, h1, rfl⟩ := ha
      simp only [List.mem_singleton] at hb
      subst hb
      exact hnew e0 h1 e)
  refine ⟨_, ?_, k1, k2⟩
  simp only [Instr.mapUpdate, Sem.run_bind, run_underlying ht, Result.andThen_ok, MapKept.run_getObj_map hb, hck, hfk, MapKept.run_setObj_map _ hb]

theorem makeUmap_sound {R : Rep} {loc : List AObj} {w : World} (hI : Inv R loc w) (t : TypeId) :
    ∃ y w' R', (Instr.makeMap t none).run P w = .ok y w' ∧ Inv R' (loc ++ [.umap false []]) w' ∧ Grow R loc w R' (loc ++ [.umap false []]) w' ∧ γ R' (.mp loc.length) y := by
  obtain ⟨k1, k2⟩ := push_obj hI (.map #[] 0) (.umap false []) ⟨w.heap.size, 0, 0⟩ (fun b h => by cases h; rfl) (by
    refine ⟨#[], [], World.alloc_heap_new w _, by simp [γmap], .refl _, by simp⟩)
  refine ⟨.map (some w.heap.size), _, _, ?_, k1, k2, ?_⟩
  · simp [Instr.makeMap]
  · simp only [γ]; exact ⟨_, ownAt_push hI.len _, rfl⟩

theorem AM.readable [LibT P] {n : Nat} {K : List AI} {fr : Fr} {loc : List AObj} {es : List (AV × AV)} {Q : AOut → Fr → List AObj → Prop} (h : AM P n K fr (loc ++ [.umap true es]) Q) : AM P n K fr (loc ++ [.umap false es]) Q := by
  refine AM.go (fun R w a b cs hI hF => ⟨R, w, a, ?_, ?_, hF, Steps.refl _ _⟩) h
  all_goals
    have hfw : ∀ (i : Nat) (x : AObj), (loc ++ [AObj.umap true es])[i]? = some x → ∃ x0, (loc ++ [AObj.umap false es])[i]? = some x0 ∧ (∀ r, own x r = own x0 r) ∧ ∀ r, objOk R w x0 r → objOk R w x r := by
      intro i x hx
      by_cases hi : i < loc.length
      · rw [List.getElem?_append_left hi] at hx ⊢
        exact ⟨x, hx, fun _ => rfl, fun _ h => h⟩
      · rw [List.getElem?_append_right (by omega)] at hx ⊢
        have h0 : i - loc.length = 0 := by
          have := (List.getElem?_eq_some_iff.1 hx).1
          simp at this; omega
        rw [h0] at hx ⊢
        simp at hx
        subst hx
        exact ⟨_, rfl, fun _ => rfl, fun _ h => h⟩
  · refine ⟨rfl, rfl, rfl, Nat.le_refl _, fun _ _ _ h => h, fun _ _ _ h => h, fun _ _ _ => ⟨rfl, fun _ => rfl⟩, ?_⟩
    rintro bb hb ⟨i, x, r, h1, h2, h3⟩
    obtain ⟨x0, k1, k2, _⟩ := hfw i x h1
    exact ⟨i, x0, r, k1, h2, by rw [← k2]; exact h3⟩
  · refine ⟨hI.inv.F, by simpa using hI.inv.len, ?_, ?_⟩
    · intro i x r h1 h2
      obtain ⟨x0, k1, _, k3⟩ := hfw i x h1
      exact k3 r (hI.inv.objs i x0 r k1 h2)
    · intro i i' x x' r r' bb h1 h2 h3 h4 h5 h6
      obtain ⟨x0, k1, k2, _⟩ := hfw i x h1
      obtain ⟨x0', k1', k2', _⟩ := hfw i' x' h3
      exact hI.inv.apart i i' x0 x0' r r' bb k1 h2 k1' h4 (by rw [← k2]; exact h5) (by rw [← k2']; exact h6)


section
variable [LibT P]

/-- what an operation of a map literal's region comes to -/
inductive EvL (P : Program) [LibT P] (ops : Array Oper) (t : TypeId) (j0 : Nat) (m : Tmp) (i : Nat) (o : Oper) (fr : Fr) (loc : List AObj) : AV → Prop where
  | make : i = j0 → o.op = .makeMap t none → o.dst = some m → EvL P ops t j0 m i o fr loc (.mp loc.length)
  | ins {kt et : TypeId} {k : Value} {x : Operand} : i ≠ j0 → o.op = .insert t (.tmp m) (.const k) x → P.underlying t = some (.map kt et) → okKey P kt (conv k) = true → fr.eval (.tmp m) = .mp loc.length → EvL P ops t j0 m i o fr loc .undef
  | pure {v : AV} {C : DP} : i ≠ j0 → (∀ t m k x, o.op ≠ .insert t m k x) → callA fr o.op = none → pureOp o.op = true → aop P fr loc o.op = some (v, loc, C) → C.p → EvL P ops t j0 m i o fr loc v

def keyOf? (o : Oper) : Option AV :=
  match o.op with
  | .insert _ _ (.const k) _ => some (conv k)
  | _ => none

/-- the keys differ; each entry is laid behind the map's making; no guards -/
def litOk (ops : Array Oper) (B : List Nat) (j0 : Nat) : Bool :=
  (List.range ops.size).all fun i =>
    match ops[i]? with
    | none => false
    | some o => o.guard.isNone &&
      match keyOf? o with
      | none => true
      | some k => (B.getD i 0).testBit j0 && (List.range ops.size).all fun j => i == j ||
        match (ops[j]?).bind keyOf? with
        | none => true
        | some k' => keq k k' == some false && keq1 k k' == some false

theorem litOk_spec {ops : Array Oper} {B : List Nat} {j0 : Nat} (h : litOk ops B j0 = true) : ∀ i o, ops[i]? = some o → o.guard = none ∧ ∀ k, keyOf? o = some k → inB B j0 i ∧ ∀ j o', ops[j]? = some o' → i ≠ j → ∀ k', keyOf? o' = some k' → keq k k' = some false ∧ keq1 k k' = some false := by
  intro i o ho
  have hi : i < ops.size := (Array.getElem?_eq_some_iff.1 ho).1
  have := List.all_eq_true.1 h i (List.mem_range.2 hi)
  simp only [ho, Bool.and_eq_true, Option.isNone_iff_eq_none] at this
  refine ⟨this.1, fun k hk => ?_⟩
  have h2 := this.2
  rw [hk] at h2
  simp only [Bool.and_eq_true, List.all_eq_true] at h2
  refine ⟨h2.1, fun j o' ho' hij k' hk' => ?_⟩
  have hj : j < ops.size := (Array.getElem?_eq_some_iff.1 ho').1
  have h3 := h2.2 j (List.mem_range.2 hj)
  simp only [ho', Option.bind_some, hk', Bool.or_eq_true, beq_iff_eq, Bool.and_eq_true] at h3
  rcases h3 with h3 | h3
  · exact absurd h3 hij
  · exact h3

theorem runs_does {ops : Array Oper} {i : Nat} {o : Oper} (ho : ops[i]? = some o) {fr : Fr} (h : wantG ops fr o = some true) {loc loc' : List AObj} {v : AV}
    (hD : ∀ (R : Rep) (w : World) (a : Act), Inv R loc w → γF R fr a → Does P a.eval o R loc loc' v w) : Runs1 P ops i fr loc v loc' := by
  intro n is k Q hn hA
  rw [dstAt_eq ho] at hA
  exact AM.op ho (fun R w a hI hF => ⟨wantG_spec h hF, hD R w a hI hF⟩) hA

theorem AM.lit {ops : Array Oper} {B : List Nat} {t : TypeId} {j0 : Nat} {m : Tmp} (hm : P.follows .mixedOrders = true) (hok : drawOk [] ops B [] = true) (hlit : litOk ops B j0 = true) (hj0 : j0 < ops.size) {fr0 : Fr} {loc : List AObj} (vs : Nat → AV)
    (hev : ∀ i o, ops[i]? = some o → EvL P ops t j0 m i o (putS ops vs (fun _ => true) i fr0) loc (vs i))
    {n id : Nat} {k : List AI} {Q : AOut → Fr → List AObj → Prop} (hn : n ≤ loc.length) (h : AM P n k (putS ops vs (fun _ => true) ops.size fr0) (loc ++ [.umap true (lents ops vs fr0 (fun _ => true) ops.size)]) Q) :
    AM P n (.code (.region id ops true) :: k) fr0 loc Q := by
  have hD := DrawOk.of hok
  have hL := litOk_spec hlit
  refine AM.drawn hm fun tt => ?_
  have hcore := AM.draw_coreS (P := P) hD (fr0 := fr0) vs (fun S => if S j0 then loc ++ [.umap false (lents ops vs fr0 S ops.size)] else loc)
    (fun S S' hS => by simp only [hS j0 hj0, lents_congr ops.size hS]) (n := n) (k := k) (Q := Q)
    (fun S => by
      split
      · simp; omega
      · exact hn) ?_ (by simpa using AM.readable h) ops.size tt (Array.replicate ops.size false) (by simp) ?_ ?_
  · have e0 : putS ops vs (fun j => (Array.replicate ops.size false).getD j false) ops.size fr0 = fr0 := by
      have : ∀ m, putS ops vs (fun j => (Array.replicate ops.size false).getD j false) m fr0 = fr0 := by
        intro m
        induction m with
        | zero => rfl
        | succ m ih =>
          have hf := repl_false ops.size m
          simp only [putS, hf, Bool.false_eq_true, if_false, ih]
      exact this _
    rw [e0] at hcore
    simp only [repl_false, Bool.false_eq_true, if_false] at hcore
    exact hcore
  · intro S i o ho hiS hbef hnot fr hag
    have hi : i < ops.size := (Array.getElem?_eq_some_iff.1 ho).1
    have hg := (hL i o ho).1
    have hw : wantG ops fr o = some true := by unfold wantG; rw [hg]
    have e := hev i o ho
    generalize hvi : vs i = v at e ⊢
    cases e with
    | make hij hop hd =>
      subst hij
      have hnone : ∀ T : Nat → Bool, (∀ j, T j = true → S j = true ∨ j = i) → lents ops vs fr0 T ops.size = [] := by
        intro T hT
        refine lents_nil _ fun j hj hTj => ?_
        have hoj : ops[j]? = some ops[j] := Array.getElem?_eq_getElem hj
        rcases hT j hTj with hS | rfl
        · unfold lent
          simp only [hoj]
          split
          · rename_i t' m' k x hopj
            exfalso
            have hk : keyOf? ops[j] = some (conv k) := by simp [keyOf?, hopj]
            exact hnot j hj hS ((hL j _ hoj).2 _ hk).1
          · rfl
        · unfold lent
          simp only [ho, hop]
      have hn2 := hnone (fun j => S j || j == i) (fun j hj => by simpa using hj)
      have e1 : (S i || i == i) = true := by simp
      simp only [e1, if_true, hn2]
      rw [if_neg (by simp [hiS])]
      refine runs_does ho hw fun R w a hI hF => ?_
      have hex : execOp a.eval o = (do pure (.value (← Instr.makeMap t none)) : Sem Next) := by simp only [execOp, hop, Option.map_none]
      exact does_of hex (makeUmap_sound hI t)
    | ins hij hop hu hok' hmp =>
      rename_i kt et kk x
      have hk : keyOf? o = some (conv kk) := by simp [keyOf?, hop]
      obtain ⟨hb0, hdiff⟩ := (hL i o ho).2 _ hk
      have hSj := hbef j0 hb0
      have e1 : (S j0 || j0 == i) = true := by simp [hSj]
      simp only [hSj, e1, if_true]
      refine runs_does ho hw fun R w a hI hF => ?_
      have hmx : fr.eval (.tmp m) = .mp loc.length := by
        rw [hag.opd (.tmp m) (by simp [hop, Op.operands])]; exact hmp
      have hxx : fr.eval x = (putS ops vs (fun _ => true) i fr0).eval x := hag.opd x (by simp [hop, Op.operands])
      have hlent : lent ops i (putS ops vs (fun _ => true) i fr0) = [(conv kk, fr.eval x)] := by
        unfold lent; simp only [ho, hop, hxx]
      have hperm := lents_more (ops := ops) (vs := vs) (fr0 := fr0) hiS ops.size hi
      rw [hlent] at hperm
      have hgm := hF.eval (.tmp m)
      rw [hmx] at hgm
      have hkeys : ∀ e ∈ lents ops vs fr0 S ops.size, keq (conv kk) e.1 = some false ∧ keq1 (conv kk) e.1 = some false := by
        intro e he
        obtain ⟨j, h1, h2, h3⟩ := lents_mem he
        have hoj : ops[j]? = some ops[j] := Array.getElem?_eq_getElem h1
        have hji : i ≠ j := fun e => by subst e; rw [hiS] at h2; cases h2
        unfold lent at h3
        simp only [hoj] at h3
        split at h3
        · rename_i t' m' k' x' hopj
          simp only [List.mem_singleton] at h3
          subst h3
          exact hdiff j _ hoj hji (conv k') (by simp [keyOf?, hopj])
        · cases h3
      obtain ⟨w', a1, a2, a3⟩ := uinsert_sound (P := P) hI hu (o := loc.length) (m := lents ops vs fr0 S ops.size) (m2 := lents ops vs fr0 (fun j => S j || j == i) ops.size) (by simp) hkeys hok' hgm (γ_conv R kk) (hF.eval x) hperm
      have hset : (loc ++ [AObj.umap false (lents ops vs fr0 S ops.size)]).set loc.length (.umap false (lents ops vs fr0 (fun j => S j || j == i) ops.size)) = loc ++ [.umap false (lents ops vs fr0 (fun j => S j || j == i) ops.size)] := by simp
      rw [hset] at a2 a3
      refine ⟨.skip, Go.undef, w', R, ?_, .inr ⟨rfl, rfl⟩, a2, a3, by simp [γ]⟩
      have : a.eval (.const kk) = kk := rfl
      simp only [execOp, hop, this, a1, Sem.run_bind, Result.andThen_ok, Sem.run_pure]
    | pure hij hni hc hpu ha hC =>
      have hlent : ∀ fr', lent ops i fr' = [] := by
        intro fr'
        unfold lent
        simp only [ho]
        split
        · rename_i t' m' k' x' hop
          exact absurd hop (hni _ _ _ _)
        · rfl
      have hsame : lents ops vs fr0 (fun j => S j || j == i) ops.size = lents ops vs fr0 S ops.size := by
        have : ∀ q, lents ops vs fr0 (fun j => S j || j == i) q = lents ops vs fr0 S q := by
          intro q
          induction q with
          | zero => rfl
          | succ q ih =>
            simp only [lents, ih]
            by_cases hq : q = i
            · subst hq; simp [hlent]
            · have : (q == i) = false := by simpa using hq
              simp [this]
        exact this _
      have e1 : (S j0 || j0 == i) = S j0 := by
        have : (j0 == i) = false := by simpa using Ne.symm hij
        simp [this]
      simp only [e1, hsame]
      have hE : Ext loc (if S j0 = true then loc ++ [AObj.umap false (lents ops vs fr0 S ops.size)] else loc) := by
        split
        · exact Ext.snoc _ _
        · exact Ext.refl _
      exact runs_aop ho hw (aop_pure_ext hE hpu ((aop_congr hag.opd).trans ha)) hC
  · have : ∀ m, leftN (fun j => (Array.replicate ops.size false).getD j false) m ≤ m := by
      intro m
      induction m with
      | zero => exact Nat.le_refl _
      | succ m ih => simp only [leftN]; split <;> omega
    exact this _
  · intro i hi hl
    rw [repl_false] at hl; cases hl

end
end Go.Ab

namespace Go.Ab

/-- the ends of a run, or where it stands still -/
inductive GR (α : Type) where
  | ok (l : List α)
  | no (K : List AI) (fr : Fr) (loc : List AObj)

/-- calls whose answers are known; functions that only make new things -/
structure Orc where
  known : List (FuncId × List AV × AV)
  pures : List FuncId
  makes : List (FuncId × List AV × AV × List AObj)
  lib : FuncId → List AV → Option AV
  fresh : List FuncId := []

def findK : List (FuncId × List AV × AV) → FuncId → List AV → Option AV
  | [], _, _ => none
  | e :: L, f, args => if e.1 == f && wksB args e.2.1 then some e.2.2 else findK L f args

def findM : List (FuncId × List AV × AV × List AObj) → FuncId → List AV → Option (AV × List AObj)
  | [], _, _ => none
  | e :: L, f, args => if e.1 == f && wksB args e.2.1 then some e.2.2 else findM L f args

abbrev GK := List AI → Fr → List AObj → GR (Fr × List AObj)

def Orc.ans (L : Orc) (f : FuncId) (args : List AV) : Option AV :=
  match findK L.known f args with
  | some v => some v
  | none => L.lib f args

def gends (P : Program) (rs : List ResultVar) : List (Fr × List AObj) → GR (AV × List AObj)
  | [] => .ok []
  | p :: l =>
    match p.1.defs with
    | [] =>
      match resAs P p.1 p.2 rs with
      | some q =>
        match q.2.d with
        | .isTrue _ =>
          match gends P rs l with
          | .ok r => .ok ((tupA q.1, p.2) :: r)
          | .no K fr loc => .no K fr loc
        | .isFalse _ => .no [] p.1 p.2
      | none => .no [] p.1 p.2
    | _ => .no [] p.1 p.2

def gall {α : Type} (f : α → GR (Fr × List AObj)) : List α → GR (Fr × List AObj)
  | [] => .ok []
  | a :: l =>
    match f a with
    | .no K fr loc => .no K fr loc
    | .ok x =>
      match gall f l with
      | .ok y => .ok (x ++ y)
      | .no K fr loc => .no K fr loc

def gbody (P : Program) (rec : GK) (fid : FuncId) (args : List AV) (loc : List AObj) : GR (AV × List AObj) :=
  match P.funcs[fid]? with
  | some fn =>
    match fn.body with
    | some c =>
      match fn.name == "runtime.NumGoroutine" with
      | false =>
        match rec [.code c] ⟨args ++ List.replicate (fn.ntmps - args.length) .undef, []⟩ loc with
        | .ok l => gends P fn.results.toList l
        | .no K fr loc => .no K fr loc
      | true => .no [] ⟨[], []⟩ loc
    | none => .no [] ⟨[], []⟩ loc
  | none => .no [] ⟨[], []⟩ loc

/-- a call that is run where there are no objects -/
def gpure (P : Program) (rec : GK) (fid : FuncId) (args : List AV) : GR AV :=
  match gbody P rec fid (maps noName args) [] with
  | .ok (p :: l) => if l.all (fun q => wkB (q.1.map noName) (p.1.map noName)) then .ok [p.1.map noName] else .no [] ⟨[], []⟩ []
  | .ok [] => .no [] ⟨[], []⟩ []
  | .no K fr loc => .no K fr loc

def gcall (P : Program) (L : Orc) (rec : GK) (fid : FuncId) (args : List AV) (loc : List AObj) : GR (AV × List AObj) :=
  match L.ans fid args with
  | some v => .ok [(v, loc)]
  | none =>
   match findM L.makes fid args with
   | some q => .ok [(q.1.map (shiftN loc.length), loc ++ q.2.map (AObj.map' (shiftN loc.length)))]
   | none =>
    if L.pures.contains fid then
      match gpure P rec fid args with
      | .ok [v] => .ok [(v, loc)]
      | .ok _ => .no [] ⟨[], []⟩ loc
      | .no K fr loc => .no K fr loc
    else gbody P rec fid args loc

def gpcall (P : Program) (L : Orc) (rec : GK) (fid : FuncId) (args : List AV) : GR AV :=
  match L.ans fid args with
  | some v => .ok [v]
  | none => gpure P rec fid args

def stillN (es : List (AV × AV)) (seen : List Nat) : List Nat := (List.range es.length).filter fun j => !seen.contains j

def gop (P : Program) [OwnTy P] (L : Orc) (rec : GK) (ops : Array Oper) (i : Nat) (is : List Nat) (k : List AI) (o : Oper) (fr : Fr) (loc : List AObj) : GR (Fr × List AObj) :=
  match wantG ops fr o with
  | none => .no (.ops ops (i :: is) :: k) fr loc
  | some false => rec (.ops ops is :: k) (fr.put o.dst .undef) loc
  | some true =>
    match callA fr o.op with
    | some (.fn fid first cap, args) =>
      match gcall P L rec fid (first ++ args ++ cap) loc with
      | .ok l => gall (fun (p : AV × List AObj) => rec (.ops ops is :: k) (fr.put o.dst p.1) p.2) l
      | .no K fr loc => .no K fr loc
    | some _ => .no (.ops ops (i :: is) :: k) fr loc
    | none =>
      match o.op with
      | .next it false =>
        match fr.eval it with
        | .ptr oi 0 =>
          match loc[oi]? with
          | some (.iter (.mp m) since seen last) =>
            match loc[m]? with
            | some (.map es) =>
              if since = es.length ∧ es.length ≤ last then
                match stillN es seen with
                | [] => rec (.ops ops is :: k) (fr.put o.dst (.tup [.bool false])) loc
                | js => gall (fun j => match es[j]? with
                  | some e => rec (.ops ops is :: k) (fr.put o.dst (.tup [.bool true, e.1, e.2])) (loc.set oi (.iter (.mp m) es.length (seen ++ [j]) es.length))
                  | none => .ok []) js
              else .no (.ops ops (i :: is) :: k) fr loc
            | _ => .no (.ops ops (i :: is) :: k) fr loc
          | _ => .no (.ops ops (i :: is) :: k) fr loc
        | _ => .no (.ops ops (i :: is) :: k) fr loc
      | op =>
        match aop P fr loc op with
        | some r => match r.2.2.d with
          | .isTrue _ => rec (.ops ops is :: k) (fr.put o.dst r.1) r.2.1
          | .isFalse _ => .no (.ops ops (i :: is) :: k) fr loc
        | none => .no (.ops ops (i :: is) :: k) fr loc

def clsOf (pures : List FuncId) (o : Oper) : Bool :=
  match o.op with
  | .call { callee := .value (.func f), .. } => !pures.contains f
  | .call { callee := .value _, .. } => true
  | op => !pureOp op

def befL : List Oper → List Nat → List Nat
  | [], acc => acc
  | o :: os, acc => befL os (acc ++ [foldB o acc])

def gdraw (P : Program) [OwnTy P] (L : Orc) (rec : GK) (ops : Array Oper) (B : List Nat) (cls : List Bool) (K : Fr → List AObj → GR (Fr × List AObj)) : Nat → Nat → Fr → List (List AObj) → GR (Fr × List AObj)
  | 0, i, fr, Ls => K fr (Ls.getD i [])
  | m + 1, i, fr, Ls =>
    match ops[i]? with
    | none => .no [] fr []
    | some o =>
      match wantG ops fr o with
      | none => .no [.ops ops [i]] fr (Ls.getD i [])
      | some false => gdraw P L rec ops B cls K m (i + 1) (fr.put (dstAt ops i) .undef) (Ls ++ [Ls.getD i []])
      | some true =>
        match callA fr o.op with
        | some (.fn fid first cap, args) =>
          match cls.getD i false with
          | true =>
            match extOp L.fresh o.op with
            | true =>
              match gbody P rec fid (maps noName (first ++ args ++ cap)) [] with
              | .ok [p] => gdraw P L rec ops B cls K m (i + 1) (fr.put (dstAt ops i) (p.1.map (shiftN (Ls.getD i []).length))) (Ls ++ [Ls.getD i [] ++ p.2.map (AObj.map' (shiftN (Ls.getD i []).length))])
              | .ok _ => .no [.ops ops [i]] fr (Ls.getD i [])
              | .no K fr loc => .no K fr loc
            | false =>
              match gbody P rec fid (first ++ args ++ cap) (Ls.getD i []) with
              | .ok [p] => if (Ls.getD i []).length ≤ p.2.length then gdraw P L rec ops B cls K m (i + 1) (fr.put (dstAt ops i) p.1) (Ls ++ [p.2]) else .no [.ops ops [i]] fr (Ls.getD i [])
              | .ok _ => .no [.ops ops [i]] fr (Ls.getD i [])
              | .no K fr loc => .no K fr loc
          | false =>
            match gpcall P L rec fid (first ++ args ++ cap) with
            | .ok [v] => gdraw P L rec ops B cls K m (i + 1) (fr.put (dstAt ops i) v) (Ls ++ [Ls.getD i []])
            | .ok _ => .no [.ops ops [i]] fr (Ls.getD i [])
            | .no K fr loc => .no K fr loc
        | some _ => .no [.ops ops [i]] fr (Ls.getD i [])
        | none =>
          match cls.getD i false with
          | true =>
            match vwApp fr o.op with
            | true => .no [.ops ops [i]] fr (Ls.getD i [])
            | false =>
              match aop P fr (Ls.getD i []) o.op with
              | some r => match r.2.2.d with
                | .isTrue _ => gdraw P L rec ops B cls K m (i + 1) (fr.put (dstAt ops i) r.1) (Ls ++ [r.2.1])
                | .isFalse _ => .no [.ops ops [i]] fr (Ls.getD i [])
              | none => .no [.ops ops [i]] fr (Ls.getD i [])
          | false =>
            match pureOp o.op with
            | true =>
              match aop P fr (Ls.getD (mbOf B cls i) []) o.op with
              | some r => match r.2.2.d with
                | .isTrue _ => gdraw P L rec ops B cls K m (i + 1) (fr.put (dstAt ops i) r.1) (Ls ++ [Ls.getD i []])
                | .isFalse _ => .no [.ops ops [i]] fr (Ls.getD i [])
              | none => .no [.ops ops [i]] fr (Ls.getD i [])
            | false => .no [.ops ops [i]] fr (Ls.getD i [])

def litInfo : List Oper → Nat → Option (Nat × TypeId × Tmp)
  | [], _ => none
  | o :: l, i =>
    match o.op, o.dst with
    | .makeMap t none, some m => some (i, t, m)
    | _, _ => litInfo l (i + 1)

def glit (P : Program) [OwnTy P] (ops : Array Oper) (t : TypeId) (j0 : Nat) (m : Tmp) (loc : List AObj) (K : Fr → List (AV × AV) → GR (Fr × List AObj)) : Nat → Nat → Fr → List (AV × AV) → GR (Fr × List AObj)
  | 0, i, fr, acc => K fr acc
  | n + 1, i, fr, acc =>
    match ops[i]? with
    | none => .no [] fr loc
    | some o =>
      match decide (i = j0) with
      | true =>
        match o.op, o.dst with
        | .makeMap t' none, some m' => if t' = t ∧ m' = m then glit P ops t j0 m loc K n (i + 1) (fr.put (dstAt ops i) (.mp loc.length)) (acc ++ lent ops i fr) else .no [.ops ops [i]] fr loc
        | _, _ => .no [.ops ops [i]] fr loc
      | false =>
        match o.op with
        | .insert t' (.tmp m') (.const k) x =>
          match P.underlying t, fr.eval (.tmp m) with
          | some (.map kt _), .mp q => if t' = t ∧ m' = m ∧ okKey P kt (conv k) = true ∧ q = loc.length then glit P ops t j0 m loc K n (i + 1) (fr.put (dstAt ops i) .undef) (acc ++ lent ops i fr) else .no [.ops ops [i]] fr loc
          | _, _ => .no [.ops ops [i]] fr loc
        | op =>
          match callA fr o.op, pureOp o.op with
          | none, true =>
            match aop P fr loc o.op with
            | some r => match r.2.2.d with
              | .isTrue _ => glit P ops t j0 m loc K n (i + 1) (fr.put (dstAt ops i) r.1) (acc ++ lent ops i fr)
              | .isFalse _ => .no [.ops ops [i]] fr loc
            | none => .no [.ops ops [i]] fr loc
          | _, _ => .no [.ops ops [i]] fr loc

def isIns (o : Oper) : Bool :=
  match o.op with
  | .insert .. => true
  | _ => false

def gstep (P : Program) [OwnTy P] (L : Orc) (rec : GK) : GK := fun K fr loc =>
  match K with
  | [] => .ok [(fr, loc)]
  | .code c :: k =>
    match c with
    | .ret => .ok [(fr, loc)]
    | .skip => rec k fr loc
    | .label _ => rec k fr loc
    | .seq a b => rec (.code a :: .code b :: k) fr loc
    | .block id c => rec (.code c :: .inBlock id :: k) fr loc
    | .scope c => rec (.code c :: .inScope c :: k) fr loc
    | .exit id =>
      match exitA id k with
      | some k' => rec k' fr loc
      | none => .no (.code c :: k) fr loc
    | .region _ ops false => rec (.ops ops (List.range ops.size) :: k) fr loc
    | .region _ ops true =>
      match ops.toList.any isIns with
      | false =>
        if drawOk L.fresh ops (befL ops.toList []) (ops.toList.map (clsOf L.pures)) then
          gdraw P L rec ops (befL ops.toList []) (ops.toList.map (clsOf L.pures)) (fun fr loc => rec k fr loc) ops.size 0 fr [loc]
        else .no (.code c :: k) fr loc
      | true =>
        match litInfo ops.toList 0 with
        | some q =>
          if drawOk [] ops (befL ops.toList []) [] = true ∧ litOk ops (befL ops.toList []) q.1 = true ∧ q.1 < ops.size then
            glit P ops q.2.1 q.1 q.2.2 loc (fun fr acc => rec k fr (loc ++ [.umap true acc])) ops.size 0 fr []
          else .no (.code c :: k) fr loc
        | none => .no (.code c :: k) fr loc
    | .cond c a b =>
      match fr.eval c with
      | .con (.bool t) => rec (.code (if t then a else b) :: k) fr loc
      | _ => .no (.code (.cond c a b) :: k) fr loc
    | .loop c => rec (.inLoop c :: k) fr loc
    | c => .no (.code c :: k) fr loc
  | .inBlock _ :: k => rec k fr loc
  | .inScope _ :: k => rec k fr loc
  | .inLoop c :: k => rec (.code c :: .inLoop c :: k) fr loc
  | .ops ops is :: k =>
    match is with
    | [] => rec k fr loc
    | i :: is =>
      match ops[i]? with
      | none => .no (.ops ops (i :: is) :: k) fr loc
      | some o => gop P L rec ops i is k o fr loc

def gexec (P : Program) [OwnTy P] (L : Orc) (n : Nat) : GK :=
  Nat.rec (fun K fr loc => .no K fr loc) (fun _ rec => gstep P L rec) n

/-! ### Soundness -/
section
variable {P : Program} [LibT P]

def RecOk (P : Program) [LibT P] (rec : GK) : Prop := ∀ (K : List AI) (fr : Fr) (loc : List AObj) (l : List (Fr × List AObj)), rec K fr loc = .ok l →
  ∀ (N : Nat) (Q : AOut → Fr → List AObj → Prop), N ≤ loc.length → (∀ p ∈ l, Q .ret p.1 p.2) → AM P N K fr loc Q

structure OrcOk (P : Program) [LibT P] (L : Orc) : Prop where
  ok : ∀ e ∈ L.known, PCalls P e.1 e.2.1 e.2.2
  bnd : ∀ e ∈ L.known, bnds 0 e.2.1
  made : ∀ e ∈ L.makes, ACalls P e.1 e.2.1 [] (fun r l => r = e.2.2.1 ∧ l = e.2.2.2)
  mbnd : ∀ e ∈ L.makes, bnds 0 e.2.1
  lok : ∀ f args v, L.lib f args = some v → ∀ loc, ACalls P f args loc (fun r l => r = v ∧ l = loc)

theorem findK_spec {P : Program} [LibT P] : ∀ {l : List (FuncId × List AV × AV)} {f : FuncId} {args : List AV} {v : AV}, findK l f args = some v → ∃ a, (f, a, v) ∈ l ∧ Wks args a
  | [], f, args, v, h => by simp [findK] at h
  | e :: l, f, args, v, h => by
    obtain ⟨g, a, u⟩ := e
    simp only [findK] at h
    split at h
    · rename_i hc
      simp only [Bool.and_eq_true, beq_iff_eq] at hc
      obtain ⟨rfl, hw⟩ := hc
      cases h
      exact ⟨a, .head _, wksB_wks hw⟩
    · obtain ⟨a, h1, h2⟩ := findK_spec (P := P) h
      exact ⟨a, .tail _ h1, h2⟩

theorem known_calls {L : Orc} (hL : OrcOk P L) {f : FuncId} {args : List AV} {v : AV} (h : L.ans f args = some v) (loc : List AObj) : ACalls P f args loc (fun r l => r = v ∧ l = loc) := by
  unfold Orc.ans at h
  split at h
  · rename_i u hu
    cases h
    obtain ⟨a, h1, h2⟩ := findK_spec (P := P) hu
    exact ((hL.ok _ h1).lift (hL.bnd _ h1) loc).weak h2
  · exact hL.lok _ _ _ h loc

theorem findM_spec {P : Program} [LibT P] : ∀ {l : List (FuncId × List AV × AV × List AObj)} {f : FuncId} {args : List AV} {q : AV × List AObj}, findM l f args = some q → ∃ a, (f, a, q) ∈ l ∧ Wks args a
  | [], f, args, v, h => by simp [findM] at h
  | e :: l, f, args, v, h => by
    obtain ⟨g, a, u⟩ := e
    simp only [findM] at h
    split at h
    · rename_i hc
      simp only [Bool.and_eq_true, beq_iff_eq] at hc
      obtain ⟨rfl, hw⟩ := hc
      cases h
      exact ⟨a, .head _, wksB_wks hw⟩
    · obtain ⟨a, h1, h2⟩ := findM_spec (P := P) h
      exact ⟨a, .tail _ h1, h2⟩

omit [LibT P] in
theorem gends_spec {rs : List ResultVar} : ∀ (l : List (Fr × List AObj)) (r : List (AV × List AObj)), gends P rs l = .ok r → ∀ p ∈ l, p.1.defs = [] ∧ ∃ vs C, resAs P p.1 p.2 rs = some (vs, C) ∧ C.p ∧ (tupA vs, p.2) ∈ r
  | [], r, h, p, hp => by cases hp
  | q :: l, r, h, p, hp => by
    simp only [gends] at h
    split at h
    · rename_i hd
      split at h
      · rename_i q' hq
        split at h
        · rename_i hC _
          split at h
          · rename_i r' hr
            cases h
            rcases List.mem_cons.1 hp with rfl | hp
            · exact ⟨hd, q'.1, q'.2, hq, hC, .head _⟩
            · obtain ⟨h1, vs, C, h2, h3, h4⟩ := gends_spec l r' hr p hp
              exact ⟨h1, vs, C, h2, h3, .tail _ h4⟩
          · cases h
        · cases h
      · cases h
    · cases h

theorem gbody_sound {rec : GK} (hrec : RecOk P rec) {fid : FuncId} {args : List AV} {loc : List AObj} {l : List (AV × List AObj)} (h : gbody P rec fid args loc = .ok l) : ACalls P fid args loc (fun r l' => (r, l') ∈ l) := by
  unfold gbody at h
  split at h
  · rename_i fn hf
    split at h
    · rename_i c hb
      split at h
      · rename_i hname
        split at h
        · rename_i l0 hl0
          refine ACalls.of_body0 hf hb hname (hrec _ _ _ _ hl0 _ _ (Nat.le_refl _) ?_)
          intro p hp
          obtain ⟨h1, vs, C, h2, h3, h4⟩ := gends_spec l0 l h p hp
          exact ⟨rfl, h1, vs, C, h2, h3, h4⟩
        · cases h
      · cases h
    · cases h
  · cases h

mutual
theorem bnd_noName (m : Nat) : ∀ (v : AV), (v.map noName).bnd m
  | .con v => by simp [AV.map, AV.bnd]
  | .agg cs => by simp only [AV.map, AV.bnd]; exact bnds_noName m cs
  | .tup cs => by simp only [AV.map, AV.bnd]; exact bnds_noName m cs
  | .sl sz es k => by
    simp only [AV.map, AV.bnd]
    refine ⟨bndss_noName m es, ?_⟩
    cases k <;> simp [Cap.map, Cap.bnd, noName]
  | .vw sz o off len => by simp [AV.map, noName, AV.bnd]
  | .ptr o off => by simp [AV.map, noName, AV.bnd]
  | .cptr cs => by simp only [AV.map, AV.bnd]; exact bnds_noName m cs
  | .mp o => by simp [AV.map, noName, AV.bnd]
  | .fn f a c => by simp only [AV.map, AV.bnd]; exact ⟨bnds_noName m a, bnds_noName m c⟩
  | .ifc t v => by simp only [AV.map, AV.bnd]; exact bnd_noName m v
  | .gd b v => by simp only [AV.map, AV.bnd]; exact bnd_noName m v
  | .top => by simp [AV.map, AV.bnd]
theorem bnds_noName (m : Nat) : ∀ (cs : List AV), bnds m (maps noName cs)
  | [] => by simp [maps, bnds]
  | c :: cs => by simp only [maps, bnds]; exact ⟨bnd_noName m c, bnds_noName m cs⟩
theorem bndss_noName (m : Nat) : ∀ (es : List (List AV)), bndss m (mapss noName es)
  | [] => by simp [mapss, bndss]
  | e :: es => by simp only [mapss, bndss]; exact ⟨bnds_noName m e, bndss_noName m es⟩
end

theorem ACalls.forget {f : FuncId} {args : List AV} {Q : AV → List AObj → Prop} {v : AV} (h : ACalls P f args [] Q) (hq : ∀ r l, Q r l → Wk (r.map Ab.noName) v) : PCalls P f args v := by
  intro R w cargs hI hg
  have key : ∀ (x : Value) (w' : World), (∃ R' l r, GrowN ([] : List AObj).length R [] w R' l w' ∧ Inv R' l w' ∧ γ R' r x ∧ Q r l) → ∃ R' l r, GrowN ([] : List AObj).length R [] w R' l w' ∧ Inv R' l w' ∧ γ R' r x ∧ r = v ∧ l = [] := by
    rintro x w' ⟨R', l, r, h1, h2, h3, h4⟩
    have hs : SelOk 0 [] l := ⟨List.nodup_nil, fun i hi => by omega, fun i hi => by cases hi⟩
    obtain ⟨k1, k2⟩ := h2.pick hs
    exact ⟨R'.pick [], [], v, h1.trans k2, k1, hq r l h4 _ _ (γ_map (ren_pick h2 []) _ _ h3), rfl, rfl⟩
  rcases h R w cargs hI hg with ⟨h1, h2⟩ | ⟨x, w', h1, h2⟩
  · exact .inl ⟨h1, h2.mono fun e w' ⟨x, he, hx⟩ => ⟨x, he, key x w' hx⟩⟩
  · exact .inr ⟨x, w', h1, key x w' h2⟩

theorem gpure_sound {rec : GK} (hrec : RecOk P rec) {fid : FuncId} {args : List AV} {l : List AV} (h : gpure P rec fid args = .ok l) : ∃ v, l = [v] ∧ PCalls P fid (maps noName args) v := by
  unfold gpure at h
  split at h
  · rename_i p l' hb
    split at h
    · rename_i hall
      cases h
      refine ⟨_, rfl, (gbody_sound hrec hb).forget ?_⟩
      intro r l hm
      rcases List.mem_cons.1 hm with e | hm
      · rw [← e]; exact Wk.refl _
      · have := List.all_eq_true.1 hall _ hm
        exact fun R x hx => wkB_sound _ _ x this hx
    · cases h
  · cases h
  · cases h

theorem pure_lift {fid : FuncId} {args : List AV} {v : AV} (h : PCalls P fid (maps noName args) v) (loc : List AObj) : ACalls P fid args loc (fun r l => r = v ∧ l = loc) :=
  (h.lift (bnds_noName 0 args) loc).weak (Wks.noName args)

theorem gcall_sound {L : Orc} (hL : OrcOk P L) {rec : GK} (hrec : RecOk P rec) {fid : FuncId} {args : List AV} {loc : List AObj} {l : List (AV × List AObj)} (h : gcall P L rec fid args loc = .ok l) : ACalls P fid args loc (fun r l' => (r, l') ∈ l) := by
  unfold gcall at h
  split at h
  · rename_i v hv
    cases h
    exact (known_calls hL hv loc).mono (by rintro r l ⟨rfl, rfl⟩; simp)
  · split at h
    · rename_i q hq
      cases h
      obtain ⟨a, h1, h2⟩ := findM_spec (P := P) hq
      exact (((hL.made _ h1).fresh (hL.mbnd _ h1) loc).weak h2).mono (by rintro r l ⟨rfl, rfl⟩; simp)
    · split at h
      · split at h
        · rename_i v hv
          cases h
          obtain ⟨u, hu, hp⟩ := gpure_sound hrec hv
          cases hu
          exact (pure_lift hp loc).mono (by rintro r l ⟨rfl, rfl⟩; simp)
        · cases h
        · cases h
      · exact gbody_sound hrec h

theorem gpcall_sound {L : Orc} (hL : OrcOk P L) {rec : GK} (hrec : RecOk P rec) {fid : FuncId} {args : List AV} {l : List AV} (h : gpcall P L rec fid args = .ok l) : ∃ v, l = [v] ∧ ∀ loc, ACalls P fid args loc (fun r l' => r = v ∧ l' = loc) := by
  unfold gpcall at h
  split at h
  · rename_i v hv
    cases h
    exact ⟨v, rfl, known_calls hL hv⟩
  · obtain ⟨v, h1, h2⟩ := gpure_sound hrec h
    exact ⟨v, h1, pure_lift h2⟩

theorem gall_spec {α : Type} {f : α → GR (Fr × List AObj)} : ∀ {l : List α} {r : List (Fr × List AObj)}, gall f l = .ok r → ∀ a ∈ l, ∃ x, f a = .ok x ∧ ∀ p ∈ x, p ∈ r
  | [], r, h, a, ha => by cases ha
  | b :: l, r, h, a, ha => by
    simp only [gall] at h
    split at h
    · cases h
    · rename_i x hx
      split at h
      · rename_i y hy
        cases h
        rcases List.mem_cons.1 ha with rfl | ha
        · exact ⟨x, hx, fun p hp => List.mem_append.2 (.inl hp)⟩
        · obtain ⟨z, h1, h2⟩ := gall_spec hy a ha
          exact ⟨z, h1, fun p hp => List.mem_append.2 (.inr (h2 p hp))⟩
      · cases h

theorem ACalls.len {f : FuncId} {args : List AV} {loc : List AObj} {Q : AV → List AObj → Prop} (h : ACalls P f args loc Q) : ACalls P f args loc (fun r l => Q r l ∧ loc.length ≤ l.length) := by
  intro R w cargs hI hg
  have key : ∀ (x : Value) (w' : World), (∃ R' l r, GrowN loc.length R loc w R' l w' ∧ Inv R' l w' ∧ γ R' r x ∧ Q r l) → ∃ R' l r, GrowN loc.length R loc w R' l w' ∧ Inv R' l w' ∧ γ R' r x ∧ Q r l ∧ loc.length ≤ l.length := by
    rintro x w' ⟨R', l, r, h1, h2, h3, h4⟩
    refine ⟨R', l, r, h1, h2, h3, h4, ?_⟩
    cases hl : loc.length with
    | zero => omega
    | succ m =>
      have hm : m < R.ob.length := by rw [hI.inv.len]; omega
      have := h1.ob m _ (by omega) (List.getElem?_eq_getElem hm)
      have := (List.getElem?_eq_some_iff.1 this).1
      rw [h2.len] at this
      omega
  rcases h R w cargs hI hg with ⟨h1, h2⟩ | ⟨x, w', h1, h2⟩
  · exact .inl ⟨h1, h2.mono fun e w' ⟨x, he, hx⟩ => ⟨x, he, key x w' hx⟩⟩
  · exact .inr ⟨x, w', h1, key x w' h2⟩

theorem AM.unwanted {n : Nat} {k : List AI} {fr : Fr} {loc : List AObj} {Q : AOut → Fr → List AObj → Prop} {ops : Array Oper} {i : Nat} {is : List Nat} {o : Oper} (ho : ops[i]? = some o) (hw : wantG ops fr o = some false)
    (h : AM P n (.ops ops is :: k) (fr.put o.dst .undef) loc Q) (hn : n ≤ loc.length) : AM P n (.ops ops (i :: is) :: k) fr loc Q := by
  have := runs_skip (P := P) ho hw loc n is k Q hn
  rw [dstAt_eq ho] at this
  exact this h

theorem gop_sound {L : Orc} (hL : OrcOk P L) {rec : GK} (hrec : RecOk P rec) {ops : Array Oper} {i : Nat} {is : List Nat} {k : List AI} {o : Oper} (ho : ops[i]? = some o) {fr : Fr} {loc : List AObj} {l : List (Fr × List AObj)} (h : gop P L rec ops i is k o fr loc = .ok l)
    {N : Nat} {Q : AOut → Fr → List AObj → Prop} (hN : N ≤ loc.length) (hQ : ∀ p ∈ l, Q .ret p.1 p.2) : AM P N (.ops ops (i :: is) :: k) fr loc Q := by
  have hset : ∀ (a : Nat) (x : AObj), N ≤ (loc.set a x).length := fun a x => by simpa using hN
  unfold gop at h
  split at h
  · cases h
  · rename_i hw
    exact AM.unwanted ho hw (hrec _ _ _ _ h N Q hN hQ) hN
  · rename_i hw
    split at h
    · rename_i fid first cap args hc
      split at h
      · rename_i l' hl'
        have hcall := (gcall_sound hL hrec hl').len
        refine AM.call ho hc (fun R a hF => wantG_spec hw hF) rfl hN hcall ?_
        rintro r loc' ⟨hm, hlen⟩
        obtain ⟨x, h1, h2⟩ := gall_spec h (r, loc') hm
        exact hrec _ _ _ _ h1 N Q (Nat.le_trans hN hlen) (fun p hp => hQ p (h2 p hp))
      · cases h
    · cases h
    · rename_i hc
      split at h
      · rename_i it hop
        split at h
        · rename_i oi hit
          split at h
          · rename_i m since seen last hoi
            split at h
            · rename_i es hm
              split at h
              · rename_i hcond
                obtain ⟨rfl, hlast⟩ := hcond
                split at h
                · rename_i hnil
                  refine AM.nextMap ho hw hop hit hoi hm hlast (fun _ => hrec _ _ _ _ h N Q hN hQ) ?_
                  intro j e he hns
                  exfalso
                  have hj : j < es.length := (List.getElem?_eq_some_iff.1 he).1
                  have : j ∈ stillN es seen := List.mem_filter.2 ⟨List.mem_range.2 hj, by simp [hns]⟩
                  rw [hnil] at this; cases this
                · rename_i js hne
                  refine AM.nextMap ho hw hop hit hoi hm hlast ?_ ?_
                  · intro hall
                    exfalso
                    have : stillN es seen = [] := by
                      unfold stillN
                      rw [List.filter_eq_nil_iff]
                      intro j hj
                      simp [hall j (List.mem_range.1 hj)]
                    exact hne this
                  · intro j e he hns
                    have hj : j < es.length := (List.getElem?_eq_some_iff.1 he).1
                    have hmem : j ∈ stillN es seen := List.mem_filter.2 ⟨List.mem_range.2 hj, by simp [hns]⟩
                    obtain ⟨x, h1, h2⟩ := gall_spec h j hmem
                    rw [he] at h1
                    exact hrec _ _ _ _ h1 N Q (hset _ _) (fun p hp => hQ p (h2 p hp))
              · cases h
            · cases h
          · cases h
        · cases h
      · rename_i hnn
        split at h
        · rename_i r hr
          split at h
          · rename_i hC _
            have ha : aop P fr loc o.op = some (r.1, r.2.1, r.2.2) := hr
            have := runs_aop (P := P) ho hw ha hC N is k Q hN
            rw [dstAt_eq ho] at this
            exact this (hrec _ _ _ _ h N Q (Nat.le_trans hN (aop_len ha)) hQ)
          · cases h
        · cases h

theorem aop_pure_same {P : Program} [OwnTy P] {fr : Fr} {l l' : List AObj} {op : Op} (hp : pureOp op = true) {v : AV} {C : DP} (h : aop P fr l op = some (v, l', C)) : l' = l := by
  unfold aop at h
  split at h
  · split at h
    · cases h; rfl
    · cases h
  · split at h
    · cases h; rfl
    · rename_i hpu
      unfold astate at h
      split at h
      any_goals (simp [pureOp] at hp; done)
      · split at h
        · split at h
          · split at h
            · cases h; rfl
            · cases h
          · cases h
        · cases h
      · cases h

theorem gdraw_sound {L : Orc} (hL : OrcOk P L) {rec : GK} (hrec : RecOk P rec) {ops : Array Oper} {B : List Nat} {cls : List Bool} {K : Fr → List AObj → GR (Fr × List AObj)} {l : List (Fr × List AObj)} : ∀ (m i : Nat) (fr : Fr) (Ls : List (List AObj)), gdraw P L rec ops B cls K m i fr Ls = .ok l →
    dseq P L.fresh ops B cls m i fr Ls (fun fr' loc' => K fr' loc' = .ok l)
  | 0, i, fr, Ls, h => h
  | m + 1, i, fr, Ls, h => by
    simp only [gdraw] at h
    split at h
    · cases h
    · rename_i o ho
      have hone : ∀ {Ev : Oper → Prop}, Ev o → ∀ o', ops[i]? = some o' → Ev o' := fun he o' ho' => by rw [ho] at ho'; cases ho'; exact he
      split at h
      · cases h
      · rename_i hw
        exact ⟨_, _, hone (.skip hw), gdraw_sound hL hrec m (i + 1) _ _ h⟩
      · rename_i hw
        split at h
        · rename_i fid first cap args hc
          split at h
          · rename_i hcl
            split at h
            · split at h
              · rename_i p hp
                refine ⟨_, _, ?_, gdraw_sound hL hrec m (i + 1) _ _ h⟩
                rw [hcl]
                have h1 : ACalls P fid (maps noName (first ++ args ++ cap)) [] (fun r l => r = p.1 ∧ l = p.2) := (gbody_sound hrec hp).mono (by rintro r l' hm; simp only [List.mem_singleton] at hm; subst hm; exact ⟨rfl, rfl⟩)
                exact hone (.scall hw hc (by simp) ((h1.fresh (bnds_noName 0 _) (Ls.getD i [])).weak (Wks.noName _)) (fun _ => Ext.app _ _))
              · cases h
              · cases h
            · rename_i hx
              split at h
              · rename_i p hp
                split at h
                · rename_i hlen
                  refine ⟨_, _, ?_, gdraw_sound hL hrec m (i + 1) _ _ h⟩
                  rw [hcl]
                  exact hone (.scall hw hc hlen ((gbody_sound hrec hp).mono (by rintro r l' hm; simp only [List.mem_singleton] at hm; subst hm; exact ⟨rfl, rfl⟩)) (fun hx' => by rw [hx] at hx'; cases hx'))
                · cases h
              · cases h
              · cases h
          · rename_i hcl
            split at h
            · rename_i v hv
              obtain ⟨u, hu, hp⟩ := gpcall_sound hL hrec hv
              cases hu
              refine ⟨_, _, ?_, gdraw_sound hL hrec m (i + 1) _ _ h⟩
              rw [hcl]
              exact hone (.pcall hw hc hp)
            · cases h
            · cases h
        · cases h
        · rename_i hc
          split at h
          · rename_i hcl
            split at h
            · cases h
            rename_i hvw
            split at h
            · rename_i r hr
              split at h
              · rename_i hC _
                refine ⟨_, _, ?_, gdraw_sound hL hrec m (i + 1) _ _ h⟩
                rw [hcl]
                exact hone (.state hw hc (C := r.2.2) (by rw [hr]) hC hvw)
              · cases h
            · cases h
          · rename_i hcl
            split at h
            · rename_i hpo
              split at h
              · rename_i r hr
                split at h
                · rename_i hC _
                  refine ⟨_, _, ?_, gdraw_sound hL hrec m (i + 1) _ _ h⟩
                  rw [hcl]
                  have ha : aop P fr (Ls.getD (mbOf B cls i) []) o.op = some (r.1, r.2.1, r.2.2) := hr
                  have hs := aop_pure_same hpo ha
                  rw [hs] at ha
                  exact hone (.pure hw hc hpo ha hC)
                · cases h
              · cases h
            · cases h

theorem dseq_mono {F : List FuncId} {ops : Array Oper} {B : List Nat} {cls : List Bool} {K K' : Fr → List AObj → Prop} : ∀ (m i : Nat) (fr : Fr) (Ls : List (List AObj)) (n : Nat), (∀ j, j < Ls.length → n ≤ (Ls.getD j []).length) → Ls.length = i + 1 → (i + m ≤ ops.size) → (∀ fr l, n ≤ l.length → K fr l → K' fr l) → dseq P F ops B cls m i fr Ls K → dseq P F ops B cls m i fr Ls K'
  | 0, i, fr, Ls, n, hn, hl, _, hk, h => hk _ _ (hn i (by omega)) h
  | m + 1, i, fr, Ls, n, hn, hl, him, hk, h => by
    obtain ⟨v, loc', h1, h2⟩ := h
    refine ⟨v, loc', h1, dseq_mono m (i + 1) _ _ n ?_ (by simp [hl]) (by omega) hk h2⟩
    intro j hj
    simp only [List.length_append, List.length_cons, List.length_nil] at hj
    by_cases hji : j < Ls.length
    · have : (Ls ++ [loc']).getD j [] = Ls.getD j [] := by simp only [List.getD, List.getElem?_append_left hji]
      rw [this]; exact hn j hji
    · have hje : j = Ls.length := by omega
      subst hje
      have : (Ls ++ [loc']).getD Ls.length [] = loc' := by simp [List.getD]
      rw [this]
      have hi : i < ops.size := by omega
      have hev := h1 _ (Array.getElem?_eq_getElem hi)
      exact Nat.le_trans (hn i (by omega)) (len_of_ev hev)

omit [LibT P] in
theorem putS_agree {ops : Array Oper} {vs vs' : Nat → AV} {fr0 : Fr} : ∀ m, (∀ j, j < m → vs j = vs' j) → putS ops vs (fun _ => true) m fr0 = putS ops vs' (fun _ => true) m fr0
  | 0, _ => rfl
  | m + 1, h => by simp only [putS, h m (by omega), putS_agree m (fun j hj => h j (by omega))]

omit [LibT P] in
theorem lents_agree {ops : Array Oper} {vs vs' : Nat → AV} {fr0 : Fr} : ∀ m, (∀ j, j < m → vs j = vs' j) → lents ops vs fr0 (fun _ => true) m = lents ops vs' fr0 (fun _ => true) m
  | 0, _ => rfl
  | m + 1, h => by
    simp only [lents]
    rw [lents_agree m (fun j hj => h j (by omega)), putS_agree m (fun j hj => h j (by omega))]

theorem glit_sound {ops : Array Oper} {t : TypeId} {j0 : Nat} {m : Tmp} {loc : List AObj} {fr0 : Fr} {K : Fr → List (AV × AV) → GR (Fr × List AObj)} {l : List (Fr × List AObj)} : ∀ (n i : Nat) (vs0 : Nat → AV), i + n = ops.size →
    (∀ j o, j < i → ops[j]? = some o → EvL P ops t j0 m j o (putS ops vs0 (fun _ => true) j fr0) loc (vs0 j)) →
    glit P ops t j0 m loc K n i (putS ops vs0 (fun _ => true) i fr0) (lents ops vs0 fr0 (fun _ => true) i) = .ok l →
    ∃ vs : Nat → AV, (∀ j o, ops[j]? = some o → EvL P ops t j0 m j o (putS ops vs (fun _ => true) j fr0) loc (vs j)) ∧ K (putS ops vs (fun _ => true) ops.size fr0) (lents ops vs fr0 (fun _ => true) ops.size) = .ok l
  | 0, i, vs0, hin, hev, h => by
    have : i = ops.size := by omega
    subst this
    exact ⟨vs0, fun j o ho => hev j o (Array.getElem?_eq_some_iff.1 ho).1 ho, h⟩
  | n + 1, i, vs0, hin, hev, h => by
    have key : ∀ (v : AV), (∀ o, ops[i]? = some o → EvL P ops t j0 m i o (putS ops vs0 (fun _ => true) i fr0) loc v) →
        glit P ops t j0 m loc K n (i + 1) ((putS ops vs0 (fun _ => true) i fr0).put (dstAt ops i) v) (lents ops vs0 fr0 (fun _ => true) i ++ lent ops i (putS ops vs0 (fun _ => true) i fr0)) = .ok l →
        ∃ vs : Nat → AV, (∀ j o, ops[j]? = some o → EvL P ops t j0 m j o (putS ops vs (fun _ => true) j fr0) loc (vs j)) ∧ K (putS ops vs (fun _ => true) ops.size fr0) (lents ops vs fr0 (fun _ => true) ops.size) = .ok l := by
      intro v hv hk
      have hag : ∀ j, j < i → (fun j => if j = i then v else vs0 j) j = vs0 j := fun j hj => by
        have : j ≠ i := by omega
        simp [this]
      refine glit_sound (ops := ops) n (i + 1) (fun j => if j = i then v else vs0 j) (by omega) ?_ ?_
      · intro j o hj ho
        by_cases hji : j = i
        · subst hji
          rw [putS_agree j hag]
          simp only [if_true]
          exact hv o ho
        · rw [putS_agree j (fun q hq => hag q (by omega))]
          simp only [hji, if_false]
          exact hev j o (by omega) ho
      · simp only [putS, lents, if_true]
        rw [putS_agree i hag, lents_agree i hag]
        exact hk
    simp only [glit] at h
    split at h
    · cases h
    · rename_i o ho
      have hone : ∀ {Ev : Oper → Prop}, Ev o → ∀ o', ops[i]? = some o' → Ev o' := fun he o' ho' => by rw [ho] at ho'; cases ho'; exact he
      split at h
      · rename_i hij
        have hij := of_decide_eq_true hij
        split at h
        · rename_i t' m' hop hd
          split at h
          · rename_i hc
            obtain ⟨rfl, rfl⟩ := hc
            exact key _ (hone (.make hij hop hd)) h
          · cases h
        · cases h
      · rename_i hij
        have hij := of_decide_eq_false hij
        split at h
        · rename_i t' m' k x hop
          split at h
          · rename_i kt et q hu hq
            split at h
            · rename_i hc
              obtain ⟨rfl, rfl, hok, rfl⟩ := hc
              exact key _ (hone (.ins hij hop hu hok hq)) h
            · cases h
          · cases h
        · rename_i hni
          split at h
          · rename_i hc hpu
            split at h
            · rename_i r hr
              split at h
              · rename_i hC _
                have ha : aop P (putS ops vs0 (fun _ => true) i fr0) loc o.op = some (r.1, r.2.1, r.2.2) := hr
                have hs := aop_pure_same hpu ha
                rw [hs] at ha
                refine key _ (hone (.pure hij ?_ hc hpu ha hC)) h
                intro t m k x e
                rw [e] at hpu
                simp [pureOp] at hpu
              · cases h
            · cases h
          · cases h

theorem gstep_sound (hm : P.follows .mixedOrders = true) {L : Orc} (hL : OrcOk P L) {rec : GK} (hrec : RecOk P rec) : RecOk P (gstep P L rec) := by
  intro K fr loc l h N Q hN hQ
  unfold gstep at h
  split at h
  · cases h; exact AM.ret (.inl rfl) (hQ (fr, loc) (.head _))
  · rename_i c k
    split at h
    · cases h; exact AM.ret (.inr ⟨k, rfl⟩) (hQ (fr, loc) (.head _))
    · exact AM.still (fun w a b cs => step_skip) (hrec _ _ _ _ h N Q hN hQ)
    · exact AM.still (fun w a b cs => step_label) (hrec _ _ _ _ h N Q hN hQ)
    · exact AM.still (fun w a b cs => step_seq) (hrec _ _ _ _ h N Q hN hQ)
    · exact AM.still (fun w a b cs => step_block) (hrec _ _ _ _ h N Q hN hQ)
    · exact AM.still (fun w a b cs => step_scope) (hrec _ _ _ _ h N Q hN hQ)
    · split at h
      · rename_i k' hk
        exact AM.still (fun w a b cs => step_exit (exitA_item _ k k' hk)) (hrec _ _ _ _ h N Q hN hQ)
      · cases h
    · exact AM.still (fun w a b cs => step_region) (hrec _ _ _ _ h N Q hN hQ)
    · rename_i id ops
      split at h
      · split at h
        · rename_i hok
          refine AM.dseq hm hok hN ?_
          refine dseq_mono (K := fun fr' loc' => rec k fr' loc' = .ok l) ops.size 0 fr [loc] N ?_ rfl (by omega) (fun fr' l' hl' hk => hrec _ _ _ _ hk N Q hl' hQ) (gdraw_sound hL hrec _ _ _ _ h)
          intro j hj
          simp only [List.length_cons, List.length_nil] at hj
          have : j = 0 := by omega
          subst this
          exact hN
        · cases h
      · split at h
        · rename_i q hq
          split at h
          · rename_i hc
            obtain ⟨h1, h2, h3⟩ := hc
            obtain ⟨vs, k1, k2⟩ := glit_sound (P := P) (ops := ops) (fr0 := fr) ops.size 0 (fun _ => .undef) (by omega) (fun j o hj => absurd hj (Nat.not_lt_zero _)) h
            exact AM.lit hm h1 h2 h3 vs k1 hN (hrec _ _ _ _ k2 N Q (by simp; omega) hQ)
          · cases h
        · cases h
    · rename_i c x y
      split at h
      · rename_i t hc
        refine AM.go (fun R w a b cs hI hF => ⟨R, w, a, GrowN.refl _ _ _ _, hI.inv, hF, .one ?_⟩) (hrec _ _ _ _ h N Q hN hQ)
        have hcc := hF.eval c
        rw [hc] at hcc
        simp only [γ] at hcc
        have hst := step_cond (P := P) (b := b) (k := k.map AI.item) (cs := cs) (w := w) (x := x) (y := y) hcc
        cases t
        · simp only [Bool.false_eq_true, if_false] at hst ⊢; exact hst
        · simp only [if_true] at hst ⊢; exact hst
      · cases h
    · exact AM.of_inLoop (hrec _ _ _ _ h N Q hN hQ)
    · cases h
  · exact AM.still (fun w a b cs => step_inBlock) (hrec _ _ _ _ h N Q hN hQ)
  · exact AM.still (fun w a b cs => step_inScope) (hrec _ _ _ _ h N Q hN hQ)
  · exact AM.still (fun w a b cs => step_inLoop) (hrec _ _ _ _ h N Q hN hQ)
  · split at h
    · exact AM.still (fun w a b cs => step_region_end) (hrec _ _ _ _ h N Q hN hQ)
    · split at h
      · cases h
      · rename_i o ho
        exact gop_sound hL hrec ho h hN hQ

theorem gexec_sound (hm : P.follows .mixedOrders = true) {L : Orc} (hL : OrcOk P L) : ∀ n, RecOk P (gexec P L n)
  | 0 => by intro K fr loc l h; cases h
  | n + 1 => gstep_sound hm hL (gexec_sound hm hL n)

/-- A call on given arguments: its answer, as the kernel computes it. -/
theorem PCalls.run (hm : P.follows .mixedOrders = true) {L : Orc} (hL : OrcOk P L) {f : FuncId} {args : List AV} {v : AV} (n : Nat)
    (h : (match gbody P (gexec P L n) f args [] with | .ok l => l.all fun q => wkB (q.1.map noName) v | .no _ _ _ => false) = true) : PCalls P f args v := by
  split at h
  · rename_i l hl
    refine (gbody_sound (gexec_sound hm hL n) hl).forget ?_
    intro r l' hmem
    have := List.all_eq_true.1 h _ hmem
    exact fun R x hx => wkB_sound _ _ x this hx
  · cases h

end
end Go.Ab

namespace Go.Ab

/-! ### Objects that know less -/
def entsB : List (AV × AV) → List (AV × AV) → Bool
  | [], ds => ds.isEmpty
  | c :: cs, ds => match ds with
    | d :: ds => wkB c.1 d.1 && wkB c.2 d.2 && entsB cs ds
    | [] => false

def objB : AObj → AObj → Bool
  | .cells cs, o => match o with
    | .cells ds => wksB cs ds
    | .gone => true
    | _ => false
  | .map m, o => match o with
    | .map m' => entsB m m'
    | _ => false
  | .umap ro m, o => match o with
    | .umap ro' m' => entsB m m'
    | _ => false
  | _, _ => false

def objsB : List AObj → List AObj → Bool
  | [], ds => ds.isEmpty
  | c :: cs, ds => match ds with
    | d :: ds => objB c d && objsB cs ds
    | [] => false

theorem entsB_len : ∀ {m m' : List (AV × AV)}, entsB m m' = true → m.length = m'.length
  | [], m', h => by simp only [entsB, List.isEmpty_iff] at h; subst h; rfl
  | c :: cs, m', h => by
    simp only [entsB] at h
    split at h
    · simp only [Bool.and_eq_true] at h; simp [entsB_len h.2]
    · cases h

theorem entsB_zip : ∀ {m m' : List (AV × AV)}, entsB m m' = true → ∀ p ∈ m.zip m', wkB p.1.1 p.2.1 = true ∧ wkB p.1.2 p.2.2 = true
  | [], m', h, p, hp => by simp at hp
  | c :: cs, m', h, p, hp => by
    simp only [entsB] at h
    split at h
    · rename_i d ds
      simp only [Bool.and_eq_true] at h
      simp only [List.zip_cons_cons, List.mem_cons] at hp
      rcases hp with rfl | hp
      · exact h.1
      · exact entsB_zip h.2 p hp
    · cases h

theorem γmap_zip {R : Rep} : ∀ (z : List ((AV × AV) × (AV × AV))) (es : List MapEntry), (∀ p ∈ z, wkB p.1.1 p.2.1 = true ∧ wkB p.1.2 p.2.2 = true) → γmap R (z.map (·.1)) es → γmap R (z.map (·.2)) es
  | [], es, _, h => h
  | p :: z, es, hz, h => by
    simp only [List.map_cons, γmap] at h ⊢
    obtain ⟨e, es', rfl, h1, h2, h3⟩ := h
    have := hz p (.head _)
    exact ⟨e, es', rfl, wkB_sound _ _ _ this.1 h1, wkB_sound _ _ _ this.2 h2, γmap_zip z es' (fun q hq => hz q (.tail _ hq)) h3⟩

theorem map_fst_zip' {α β : Type} : ∀ {l : List α} {l' : List β}, l.length = l'.length → (l.zip l').map (·.1) = l
  | [], _, _ => by simp
  | a :: l, [], h => by simp at h
  | a :: l, b :: l', h => by simp [map_fst_zip' (l := l) (l' := l') (by simpa using h)]
theorem map_snd_zip' {α β : Type} : ∀ {l : List α} {l' : List β}, l.length = l'.length → (l.zip l').map (·.2) = l'
  | [], [], _ => by simp
  | [], b :: l', h => by simp at h
  | a :: l, [], h => by simp at h
  | a :: l, b :: l', h => by simp [map_snd_zip' (l := l) (l' := l') (by simpa using h)]

theorem entsB_sound {R : Rep} {m m' : List (AV × AV)} (h : entsB m m' = true) {es : List MapEntry} (hm : γmap R m es) : γmap R m' es := by
  have hl := entsB_len h
  have := γmap_zip (R := R) (m.zip m') es (entsB_zip h) (by rw [map_fst_zip' hl]; exact hm)
  rwa [map_snd_zip' hl] at this

theorem wksB_len : ∀ {cs ds : List AV}, wksB cs ds = true → cs.length = ds.length
  | [], ds, h => by
    simp only [wksB, List.isEmpty_iff] at h
    subst h; rfl
  | c :: cs, ds, h => by
    simp only [wksB] at h
    split at h
    · simp only [Bool.and_eq_true] at h
      simp [wksB_len h.2]
    · cases h

theorem objB_sound {R : Rep} {w : World} {o o' : AObj} {r : ORep} (h : objB o o' = true) (k : objOk R w o r) : objOk R w o' r ∧ (∀ b, own o' r = some b → own o r = some b) := by
  cases o with
  | cells cs =>
    simp only [objB] at h
    split at h
    · simp only [objOk] at k ⊢
      rename_i ds
      have hl : cs.length = ds.length := wksB_len h
      have hcd : ds ≠ [] → cs ≠ [] := fun hd e => hd (List.length_eq_zero_iff.1 (by rw [← hl, e]; rfl))
      refine ⟨fun hne => ?_, fun b hb => ?_⟩
      · obtain ⟨vs, ws, t, h1, h2, h3, h4, h5⟩ := k (hcd hne)
        exact ⟨vs, ws, t, h1, wksB_sound _ _ _ h h2, h3, h4, h5⟩
      · obtain ⟨a, b'⟩ := own_cells.1 hb
        exact own_cells.2 ⟨hcd a, b'⟩
    · exact ⟨trivial, fun b hb => by simp [own] at hb⟩
    · cases h
  | map m =>
    simp only [objB] at h
    split at h
    · simp only [objOk] at k ⊢
      obtain ⟨es, c, h1, h2, h3⟩ := k
      exact ⟨⟨es, c, h1, entsB_sound h h2, h3⟩, fun b hb => hb⟩
    · cases h
  | umap ro m =>
    simp only [objB] at h
    split at h
    · rename_i ro' m2
      simp only [objOk] at k ⊢
      obtain ⟨es, m1, h1, h2, h3, h4⟩ := k
      have hl := entsB_len h
      obtain ⟨z', k1, k2⟩ := perm_map_inv (f := fun p : (AV × AV) × (AV × AV) => p.1) h3 (m.zip m2) (map_fst_zip' hl).symm
      refine ⟨⟨es, z'.map (·.2), h1, ?_, ?_, h4⟩, fun b hb => hb⟩
      · refine γmap_zip z' es.toList (fun p hp => entsB_zip h p (k1.mem_iff.1 hp)) ?_
        rw [k2]; exact h2
      · have := k1.map (·.2)
        rwa [map_snd_zip' hl] at this
    · cases h
  | _ => simp [objB] at h

theorem objsB_get : ∀ {l l' : List AObj}, objsB l l' = true → l.length = l'.length ∧ ∀ (i : Nat) (o' : AObj), l'[i]? = some o' → ∃ o, l[i]? = some o ∧ objB o o' = true
  | [], l', h => by simp only [objsB, List.isEmpty_iff] at h; subst h; exact ⟨rfl, fun i o' h => by simp at h⟩
  | c :: cs, l', h => by
    simp only [objsB] at h
    split at h
    · rename_i d ds
      simp only [Bool.and_eq_true] at h
      obtain ⟨h1, h2⟩ := objsB_get h.2
      refine ⟨by simp [h1], fun i o' hi => ?_⟩
      cases i with
      | zero => simp at hi; subst hi; exact ⟨c, by simp, h.1⟩
      | succ i => simp at hi; simpa using h2 i o' hi
    · cases h

theorem Inv.lessObjs {R : Rep} {l l' : List AObj} {w : World} (hI : Inv R l w) (h : objsB l l' = true) : Inv R l' w ∧ ∀ b, owned R l' b → owned R l b := by
  obtain ⟨hl, hg⟩ := objsB_get h
  constructor
  · refine ⟨hI.F, by rw [← hl]; exact hI.len, ?_, ?_⟩
    · intro i o' r h1 h2
      obtain ⟨o, k1, k2⟩ := hg i o' h1
      exact (objB_sound k2 (hI.objs i o r k1 h2)).1
    · intro i i' o o' r r' b h1 h2 h3 h4 h5 h6
      obtain ⟨q, k1, k2⟩ := hg i o h1
      obtain ⟨q', k1', k2'⟩ := hg i' o' h3
      exact hI.apart i i' q q' r r' b k1 h2 k1' h4 ((objB_sound k2 (hI.objs i q r k1 h2)).2 b h5) ((objB_sound k2' (hI.objs i' q' r' k1' h4)).2 b h6)
  · rintro b ⟨i, o', r, h1, h2, h3⟩
    obtain ⟨o, k1, k2⟩ := hg i o' h1
    exact ⟨i, o, r, k1, h2, (objB_sound k2 (hI.objs i o r k1 h2)).2 b h3⟩

section
variable {P : Program} [LibT P]

/-- fewer objects, knowing less, behind a call that had none -/
theorem ACalls.less {f : FuncId} {args : List AV} {Q : AV → List AObj → Prop} {v : AV} {objs : List AObj} (h : ACalls P f args [] Q)
    (hq : ∀ r l, Q r l → ∃ sel, selB 0 sel l.length = true ∧ wkB (r.map (idx sel)) v = true ∧ objsB (pick sel l) objs = true) : ACalls P f args [] (fun r l => r = v ∧ l = objs) := by
  intro R w cargs hI hg
  have key : ∀ (x : Value) (w' : World), (∃ R' l r, GrowN ([] : List AObj).length R [] w R' l w' ∧ Inv R' l w' ∧ γ R' r x ∧ Q r l) → ∃ R' l r, GrowN ([] : List AObj).length R [] w R' l w' ∧ Inv R' l w' ∧ γ R' r x ∧ r = v ∧ l = objs := by
    rintro x w' ⟨R', l, r, h1, h2, h3, h4⟩
    obtain ⟨sel, hs, hw, ho⟩ := hq r l h4
    obtain ⟨k1, k2⟩ := h2.pick (SelOk.of hs)
    obtain ⟨k3, k4⟩ := k1.lessObjs ho
    refine ⟨R'.pick sel, objs, v, ?_, k3, wkB_sound _ _ _ hw (γ_map (ren_pick h2 sel) _ _ h3), rfl, rfl⟩
    have g := h1.trans k2
    exact ⟨g.os, g.tape, g.output, g.size, g.F, g.ob, g.kept, fun b hb ho => g.back b hb (k4 b ho)⟩
  rcases h R w cargs hI hg with ⟨h1, h2⟩ | ⟨x, w', h1, h2⟩
  · exact .inl ⟨h1, h2.mono fun e w' ⟨x, he, hx⟩ => ⟨x, he, key x w' hx⟩⟩
  · exact .inr ⟨x, w', h1, key x w' h2⟩

/-- A call on given arguments that makes new objects. -/
theorem ACalls.run (hm : P.follows .mixedOrders = true) {L : Orc} (hL : OrcOk P L) {f : FuncId} {args : List AV} {v : AV} {objs : List AObj} (sel : List Nat) (n : Nat)
    (h : (match gbody P (gexec P L n) f args [] with | .ok l => l.all fun q => selB 0 sel q.2.length && wkB (q.1.map (idx sel)) v && objsB (pick sel q.2) objs | .no _ _ _ => false) = true) : ACalls P f args [] (fun r l => r = v ∧ l = objs) := by
  split at h
  · rename_i l hl
    refine (gbody_sound (gexec_sound hm hL n) hl).less ?_
    intro r l' hmem
    have := List.all_eq_true.1 h _ hmem
    simp only [Bool.and_eq_true] at this
    exact ⟨sel, this.1.1, this.1.2, this.2⟩
  · cases h
end
end Go.Ab
