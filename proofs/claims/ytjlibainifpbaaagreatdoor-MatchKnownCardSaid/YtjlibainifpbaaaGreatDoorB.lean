/-
  Part B of this proof: Ab9, Ab10, Ab11, Ab12, Ab13, Ab14, Ab15, Ab16, Ab17, Ab18, Ab19.
-/
import Derived.Test.YtjlibainifpbaaaGreatDoorA
import Derived.RangeFuncRecord
import Derived.Scope
import Derived.Orders
namespace Go.Ab
variable {P : Program}

/-- what one operation comes to -/
def Does (P : Program) (cev : Operand → Value) (o : Oper) (R : Rep) (loc loc' : List AObj) (v : AV) (w : World) : Prop :=
  ∃ nx x w' R', (execOp cev o).run P w = .ok nx w' ∧ (nx = .value x ∨ (nx = .skip ∧ x = Go.undef)) ∧ Inv R' loc' w' ∧ Grow R loc w R' loc' w' ∧ γ R' v x

theorem does_of_yields {cev : Operand → Value} {o : Oper} {R : Rep} {loc : List AObj} {v : AV} {w : World} (hI : Inv R loc w) (h : Yields P cev o R v w) : Does P cev o R loc loc v w := by
  obtain ⟨x, h1, h2⟩ := h
  exact ⟨_, x, w, R, h1, .inl rfl, hI, Grow.refl _ _ _, h2⟩

theorem does_of {cev : Operand → Value} {o : Oper} {R : Rep} {loc loc' : List AObj} {v : AV} {w : World} {s : Sem Value} (ho : execOp cev o = (do pure (.value (← s)) : Sem Next))
    (h : ∃ x w' R', s.run P w = .ok x w' ∧ Inv R' loc' w' ∧ Grow R loc w R' loc' w' ∧ γ R' v x) : Does P cev o R loc loc' v w := by
  obtain ⟨x, w', R', h1, h2, h3, h4⟩ := h
  refine ⟨.value x, x, w', R', ?_, .inl rfl, h2, h3, h4⟩
  rw [ho, Sem.run_bind, h1]
  rfl

/-- a new object of cells -/
theorem new_cells {R : Rep} {loc : List AObj} {w : World} (hI : Inv R loc w) {cs : List AV} {vs : List Value} (hv : γs R cs vs) (h1 : ones vs) (t : TypeId) :
    ∃ R', Inv R' (loc ++ [.cells cs]) (w.alloc (.cells vs.toArray t)) ∧ Grow R loc w R' (loc ++ [.cells cs]) (w.alloc (.cells vs.toArray t)) ∧ γ R' (.ptr loc.length 0) (.pointer (some ⟨w.heap.size, 0, none⟩)) := by
  have hle := Rep.push_le R ⟨w.heap.size, 0, 0⟩
  obtain ⟨k1, k2⟩ := push_obj hI (.cells vs.toArray t) (.cells cs) ⟨w.heap.size, 0, 0⟩ (fun b h => (own_cells.1 h).2) (by
    refine fun _ => ⟨vs, [], t, ?_, γs_mono hle _ _ hv, h1, fun j => ?_, by simp⟩
    · simpa using World.alloc_heap_new w _
    · exact hI.F_new (Nat.le_refl _) j)
  refine ⟨_, k1, k2, ?_⟩
  simp only [γ]
  exact ⟨_, ownAt_push hI.len _, rfl⟩

theorem alloc_sound {R : Rep} {loc : List AObj} {w : World} (hI : Inv R loc w) {e : TypeId} {z : List Value} (hz : zeroOf P e = some z) :
    ∃ x w' R', (Instr.alloc e true (.tuple #[])).run P w = .ok x w' ∧ Inv R' (loc ++ [.cells (z.map .con)]) w' ∧ Grow R loc w R' (loc ++ [.cells (z.map .con)]) w' ∧ γ R' (.ptr loc.length 0) x := by
  obtain ⟨i, v, hi, hv, rfl, hzo, _⟩ := zeroOf_spec hz
  obtain ⟨R', k1, k2, k3⟩ := new_cells hI (γs_con v.cells.toList) hzo e
  refine ⟨_, _, R', ?_, k1, k2, k3⟩
  simp [Instr.alloc, run_zeroValue' hi hv, newVar, newRow]

theorem box_sound {R : Rep} {loc : List AObj} {w : World} (hI : Inv R loc w) {e : TypeId} {v : AV} {x : Value} (hx : γ R v x) (h1 : v.cells.all AV.one = true) :
    ∃ y w' R', (Instr.box e x).run P w = .ok y w' ∧ Inv R' (loc ++ [.cells v.cells]) w' ∧ Grow R loc w R' (loc ++ [.cells v.cells]) w' ∧ γ R' (.ptr loc.length 0) y := by
  obtain ⟨h2, h3⟩ := γ_cells hx h1
  obtain ⟨R', k1, k2, k3⟩ := new_cells hI h2 h3 e
  refine ⟨_, _, R', ?_, k1, k2, k3⟩
  simp [Instr.box, newVar, newRow]

theorem makeMap_sound {R : Rep} {loc : List AObj} {w : World} (hI : Inv R loc w) (t : TypeId) :
    ∃ y w' R', (Instr.makeMap t none).run P w = .ok y w' ∧ Inv R' (loc ++ [.map []]) w' ∧ Grow R loc w R' (loc ++ [.map []]) w' ∧ γ R' (.mp loc.length) y := by
  obtain ⟨k1, k2⟩ := push_obj hI (.map #[] 0) (.map []) ⟨w.heap.size, 0, 0⟩ (fun b h => by cases h; rfl) (by
    refine ⟨#[], 0, World.alloc_heap_new w _, by simp [γmap], by simp [stamped]⟩)
  refine ⟨.map (some w.heap.size), _, _, ?_, k1, k2, ?_⟩
  · simp [Instr.makeMap]
  · simp only [γ]; exact ⟨_, ownAt_push hI.len _, rfl⟩

theorem buildSlice_sound {R : Rep} {loc : List AObj} {w : World} (hI : Inv R loc w) {ev : Operand → AV} {cev : Operand → Value} {t e : TypeId} {sz bytes len : Nat} {parts : Array (Nat × Operand)} {z : List Value} {cs : List AV}
    (he : elOf P t = some (e, sz, bytes)) (hz : zeroOf P e = some z) (hf : fillA (fun i => some (i * sz, sz)) ((List.replicate len z).flatten.map .con) (parts.toList.map fun p => (p.1, ev p.2)) = some cs)
    (hev : ∀ p ∈ parts, γ R (ev p.2) (cev p.2)) (hlen : len * sz ≤ 2 ^ 24) (hsz : 0 < sz) (h1 : (parts.toList.all fun p => (ev p.2).cells.all AV.one) = true) :
    ∃ x w' R', (Instr.buildSlice t len (parts.map fun (i, x) => (i, cev x))).run P w = .ok x w' ∧ Inv R' loc w' ∧ Grow R loc w R' loc w' ∧ γ R' (.sl sz (chunk sz len cs) .full) x := by
  obtain ⟨i, ht, hi, rfl, rfl⟩ := elOf_spec he
  obtain ⟨i', v, hi', hv, rfl, hzo, hzl⟩ := zeroOf_spec hz
  rw [hi] at hi'; cases hi'
  obtain ⟨hl, hq⟩ := partsOk hev h1
  have hzs : v.cells.size = i.size := by rw [← hzl]; simp
  have hrow : ((Array.range (len * i.size)).map (fun j => v.cells[j % v.cells.size]!)).toList = (List.replicate len v.cells.toList).flatten := by
    have := row_zeros v.cells.toList (by rw [hzl]; exact hsz) len
    rw [← this]
    simp [hzs]
  have hones : ones (List.replicate len v.cells.toList).flatten := by
    intro u hu
    simp only [List.mem_flatten, List.mem_replicate] at hu
    obtain ⟨l, ⟨_, rfl⟩, hu⟩ := hu
    exact hzo u hu
  obtain ⟨cells', ef, h2, h3⟩ := fillA_sound (R := R) (place := fun j => some (j * i.size, i.size)) (placeC := fun j => some (j * i.size, i.size)) (fun _ _ h => h) _ _ _ ((Array.range (len * i.size)).map (fun j => v.cells[j % v.cells.size]!)) cs hl hq (by rw [hrow]; exact γs_con _) (by rw [hrow]; exact hones) hf
  have hcl : cs.length = len * i.size := by
    rw [fillA_length _ _ _ hf]
    simp [hzs]
  obtain ⟨k1, k2⟩ := add_new hI cells'.toList e
  have hrun : (Instr.buildSlice t len (parts.map fun (i, x) => (i, cev x))).run P w = .ok (.slice (some ⟨w.heap.size, 0, none⟩) len len) (w.alloc (.cells cells' e)) := by
    by_cases h0 : len = 0
    · subst h0
      simp only [Nat.zero_mul] at ef
      have e2 : (Array.range 0).map (fun j => v.cells[j % v.cells.size]!) = (Array.range 0).map (fun j => (#[] : Array Value)[j % (#[] : Array Value).size]!) := by simp
      rw [e2] at ef
      simp only [Instr.buildSlice, Sem.run_bind, run_underlying' ht, Result.andThen_ok, run_sizeOf' hi, Nat.zero_mul]
      simp at ef
      simp [ef, newRow]
    · have hne : ¬ (len * i.size = 0) := by
        have := Nat.mul_pos (Nat.pos_of_ne_zero h0) hsz
        omega
      simp only [Instr.buildSlice, Sem.run_bind, run_underlying' ht, Result.andThen_ok, run_sizeOf' hi]
      rw [if_neg (by omega)]
      simp only [Sem.run_pure, Sem.run_bind, Result.andThen_ok, if_neg hne, run_zeroValue' hi hv, ef, newRow, run_newObj, World.alloc_eq]
  refine ⟨_, _, _, hrun, k1, k2, ?_⟩
  simp only [γ]
  refine .inr ⟨w.heap.size, 0, len, cells'.toList, ?_, ?_, ?_, ?_, ?_, h3, ?_⟩
  · rw [chunk_length]
  · rw [chunk_length]; exact Nat.le_refl _
  · unfold maxN
    have := Nat.le_mul_of_pos_right len hsz
    omega
  · simp only [CapOk]; rw [chunk_length]
  · exact γss_mono k2.le _ _ _ (chunk_sound len cs _ h2 hcl)
  · exact Rep.add_in R w.heap.size 0 _

theorem store_sound {R : Rep} {loc : List AObj} {w : World} (hI : Inv R loc w) {t : TypeId} {b : Bool} {n : Nat} (hk : kindOf P t = some (b, n)) {o off : Nat} {cs : List AV} (ho : loc[o]? = some (.cells cs)) {v : AV} {x y : Value} (hx : γ R (.ptr o off) x) (hy : γ R v y)
    (hfit : off + n ≤ cs.length) (hn : v.cells.length = n) (h1 : v.cells.all AV.one = true) (hne : 0 < cs.length) :
    ∃ w', (Instr.storeAt t x y).run P w = .ok () w' ∧ Inv R (loc.set o (.cells (cs.take off ++ (v.cells ++ cs.drop (off + v.cells.length))))) w' ∧
      Grow R loc w R (loc.set o (.cells (cs.take off ++ (v.cells ++ cs.drop (off + v.cells.length))))) w' := by
  simp only [γ] at hx
  obtain ⟨r, hr, rfl⟩ := hx
  obtain ⟨r', vs, hr', hv, ho1, _, hrest⟩ := hI.cells ho
  have hne' : cs ≠ [] := fun e => by subst e; simp at hne
  obtain ⟨ws, ty, hb, _, hhi⟩ := hrest hne'
  rw [hr] at hr'; cases hr'
  obtain ⟨d, i, hd, hi, hsz, _⟩ := kindOf_spec hk
  obtain ⟨g1, g2⟩ := γ_cells hy h1
  have hgs := γ_cells_size hy h1
  have hlen := γs_length hv
  have hst := run_storeCells_at P r.blk off ty y.cells.toList 0 (vs ++ ws).toArray w hb (by simp [hgs, hlen, hn]; omega) g2
  simp only [Nat.add_zero] at hst
  have hnew : γs R (cs.take off ++ (v.cells ++ cs.drop (off + v.cells.length))) (vs.take off ++ (y.cells.toList ++ vs.drop (off + y.cells.toList.length))) := by
    refine γs_append (γs_take hv _) (γs_append g1 ?_)
    rw [show y.cells.toList.length = v.cells.length by simpa using hgs]
    exact γs_drop hv _
  have hones : ones (vs.take off ++ (y.cells.toList ++ vs.drop (off + y.cells.toList.length))) := ones_append (ones_take ho1 _) (ones_append g2 (ones_drop ho1 _))
  have hyl : y.cells.toList.length = v.cells.length := by simpa using hgs
  have hwl : (vs.take off ++ (y.cells.toList ++ vs.drop (off + y.cells.toList.length))).length = vs.length := by
    simp [hyl, hn]; omega
  obtain ⟨k1, k2⟩ := store_obj hI ho hr hb hne' hnew hones (by rw [hwl]; exact hhi)
  have hrow : (vs ++ ws).take off ++ (y.cells.toList ++ (vs ++ ws).drop (off + y.cells.toList.length)) = vs.take off ++ (y.cells.toList ++ vs.drop (off + y.cells.toList.length)) ++ ws := by
    rw [List.take_append_of_le_length (by omega), List.drop_append_of_le_length (by omega)]
    simp
  refine ⟨_, ?_, k1, k2⟩
  simp only [List.toList_toArray, List.append_assoc] at hst hrow
  rw [hrow] at hst
  simp [Instr.storeAt, Instr.sureAddr, storeVar, run_sizeOf' hi, hsz, hgs, hn, hst]

theorem aop_sound [OwnTy P] {R : Rep} {loc loc' : List AObj} {w : World} {fr : Fr} {cev : Operand → Value} (o : Oper) (hev : ∀ x, γ R (fr.eval x) (cev x))
    (hI : Inv R loc w) {v : AV} {C : DP} (h : aop P fr loc o.op = some (v, loc', C)) (hC : C.p) : Does P cev o R loc loc' v w := by
  obtain ⟨dst, op, type, pos, after, guard⟩ := o
  simp only at h
  unfold aop at h
  split at h
  · -- pick
    rename_i c a b
    split at h
    · rename_i v' C' hp
      cases h
      have hcc := hev c
      have key : ∀ (p : Operand) (x : Bool), (fr.eval p).strip = .con (.bool x) → (fr.eval p).gdOf = true → cev p = .bool x := by
        intro p x h1 h2
        have hp := hev p
        generalize fr.eval p = q at *
        cases q with
        | gd g u =>
          simp only [AV.strip] at h1
          simp only [AV.gdOf] at h2
          subst h1; subst h2
          simpa [γ] using hp
        | con u => simp only [AV.strip] at h1; cases h1; simpa [γ] using hp
        | _ => simp only [AV.strip] at h1; cases h1
      unfold pickA at hp
      split at hp
      · rename_i t hc
        rw [hc] at hcc
        simp only [γ] at hcc
        split at hp
        · rename_i x y ha hb
          cases hp
          obtain ⟨c1, c2⟩ := hC
          refine ⟨.value (.bool (if t then x else y)), .bool (if t then x else y), w, R, ?_, .inl rfl, hI, Grow.refl _ _ _, by simp [γ]⟩
          cases t
          · simp [execOp, hcc, asBool, key b y hb (c2 rfl)]
          · simp [execOp, hcc, asBool, key a x ha (c1 rfl)]
        · rename_i x ha _
          split at hp
          · cases hp
            refine ⟨.value (.bool x), .bool x, w, R, ?_, .inl rfl, hI, Grow.refl _ _ _, by simp [γ]⟩
            simp [execOp, hcc, asBool, key a x ha hC]
          · cases hp
        · rename_i y hb _
          split at hp
          · cases hp
          · cases hp
            refine ⟨.value (.bool y), .bool y, w, R, ?_, .inl rfl, hI, Grow.refl _ _ _, by simp [γ]⟩
            simp [execOp, hcc, asBool, key b y hb hC]
        · cases hp
      · cases hp
    · cases h
  · split at h
    · rename_i v' c hp
      cases h
      exact does_of_yields hI (apure_sound ⟨dst, op, type, pos, after, guard⟩ (fun x _ => hev x) hI hp hC)
    · unfold astate at h
      split at h
      · -- alloc
        rename_i e hh1 hh2
        simp only [Option.map_eq_some_iff] at h
        obtain ⟨z, hz, h⟩ := h
        cases h
        exact does_of rfl (alloc_sound hI hz)
      · -- box
        cases h
        exact does_of rfl (box_sound hI (hev _) hC)
      · -- buildSlice
        rename_i t len parts hh1 hh2
        split at h
        · rename_i e sz bytes he
          split at h
          · rename_i z hz
            split at h
            · rename_i cs hcs
              cases h
              exact does_of rfl (buildSlice_sound hI he hz hcs (fun p _ => hev p.2) hC.1 hC.2.1 hC.2.2)
            · cases h
          · cases h
        · cases h
      · -- store
        rename_i t a x hh1 hh2
        split at h
        · rename_i o off b n ha hk
          split at h
          · rename_i cs ho
            cases h
            obtain ⟨w', h1, h2, h3⟩ := store_sound hI hk ho (by rw [← ha]; exact hev a) (hev x) hC.1 hC.2.1 hC.2.2.1 hC.2.2.2
            refine ⟨.skip, Go.undef, w', R, ?_, .inr ⟨rfl, rfl⟩, h2, h3, by simp [γ]⟩
            simp [execOp, h1]
          · cases h
        · cases h
      · -- append
        rename_i args argTypes hh1 hh2
        split at h
        · rename_i s x t u hargs hts
          obtain ⟨y, z, rfl, e1, e2⟩ := two_args hargs
          have hat : argTypes = #[t, u] := by
            cases argTypes with | mk l => simp at hts; rw [hts]
          subst hat
          have hy := hev y
          have hz := hev z
          rw [e1] at hy; rw [e2] at hz
          have key : (∃ isStr e sz bytes zz, elOf P t = some (e, sz, bytes) ∧ zeroOf P e = some zz ∧ (if isStr then P.underlying u = some .string else ∃ e, P.underlying u = some (.slice e)) ∧ (if OwnTy.own P t then appendV loc isStr sz bytes s x else appendA loc isStr sz bytes s x) = some (v, loc', C)) := by
            split at h
            · rename_i e sz bytes e' he hu
              split at h
              · rename_i hzz
                obtain ⟨zz, hzz⟩ := Option.isSome_iff_exists.1 hzz
                exact ⟨false, e, sz, bytes, zz, he, hzz, by simp; exact ⟨e', hu⟩, h⟩
              · cases h
            · rename_i e sz bytes he hu
              split at h
              · rename_i hzz
                obtain ⟨zz, hzz⟩ := Option.isSome_iff_exists.1 hzz
                exact ⟨true, e, sz, bytes, zz, he, hzz, by simp; exact hu, h⟩
              · cases h
            · cases h
          obtain ⟨isStr, e, sz, bytes, zz, he, hzz, hu, ha⟩ := key
          obtain ⟨val, w', R', k1, k2, k3, k4⟩ : ∃ val w' R', (Builtin.append_ #[t, u] type #[_, _]).run P w = .ok val w' ∧ Inv R' loc' w' ∧ Grow R loc w R' loc' w' ∧ γ R' v val := by
            split at ha
            · exact appendV_sound hI (ty := type) he hzz hu ha hC hy hz
            · exact append_sound hI (ty := type) he hzz hu ha hC hy hz
          refine ⟨.value val, val, w', R', ?_, .inl rfl, k2, k3, k4⟩
          simp [execOp, resolve, invoke, builtin, k1]
        · cases h
      · -- makeMap
        cases h
        exact does_of rfl (makeMap_sound hI _)
      · -- mapUpdate
        rename_i t m k x hh1 hh2
        split at h
        · rename_i kt et o ht hp
          split at h
          · rename_i es ho
            have hm := hev m
            rw [hp] at hm
            split at h
            · rename_i i hf
              cases h
              obtain ⟨w', h1, h2, h3⟩ := mapUpdate_sound hI ht ho hf hC hm (hev k) (hev x)
              refine ⟨.skip, Go.undef, w', R, ?_, .inr ⟨rfl, rfl⟩, h2, h3, by simp [γ]⟩
              simp [execOp, h1]
            · rename_i hf
              cases h
              obtain ⟨w', h1, h2, h3⟩ := mapUpdate_sound hI ht ho hf hC hm (hev k) (hev x)
              refine ⟨.skip, Go.undef, w', R, ?_, .inr ⟨rfl, rfl⟩, h2, h3, by simp [γ]⟩
              simp [execOp, h1]
            · cases h
          · cases h
        · cases h
      · -- insert
        rename_i t m k x hh1 hh2
        split at h
        · rename_i kt et o ht hp
          split at h
          · rename_i es ho
            have hm := hev m
            rw [hp] at hm
            split at h
            · rename_i i hf
              cases h
              obtain ⟨w', h1, h2, h3⟩ := mapUpdate_sound hI ht ho hf hC hm (hev k) (hev x)
              refine ⟨.skip, Go.undef, w', R, ?_, .inr ⟨rfl, rfl⟩, h2, h3, by simp [γ]⟩
              simp [execOp, h1]
            · rename_i hf
              cases h
              obtain ⟨w', h1, h2, h3⟩ := mapUpdate_sound hI ht ho hf hC hm (hev k) (hev x)
              refine ⟨.skip, Go.undef, w', R, ?_, .inr ⟨rfl, rfl⟩, h2, h3, by simp [γ]⟩
              simp [execOp, h1]
            · cases h
          · cases h
        · cases h
      · -- mapEntry
        rename_i t m k hh1 hh2
        split at h
        · rename_i kt et o ht hp
          split at h
          · rename_i es z ho hz
            have hm := hev m
            rw [hp] at hm
            split at h
            · rename_i i hf
              cases h
              obtain ⟨u, w', h1, hu, h2, h3⟩ := mapEntry_sound hI ht ho hz hf hC hm (hev k)
              exact does_of rfl ⟨u, w', R, h1, h2, h3, hu⟩
            · rename_i hf
              cases h
              obtain ⟨u, w', h1, hu, h2, h3⟩ := mapEntry_sound hI ht ho hz hf hC hm (hev k)
              exact does_of rfl ⟨u, w', R, h1, h2, h3, hu⟩
            · cases h
          · cases h
        · cases h
      · -- entryStore
        rename_i t m s x hh1 hh2
        split at h
        · rename_i o n hp hn
          split at h
          · rename_i es ho
            have hm := hev m
            rw [hp] at hm
            split at h
            · rename_i e he
              cases h
              obtain ⟨w', h1, h2, h3⟩ := entryStore_sound (P := P) hI t ho hn hC he hm (hev s) (hev x)
              refine ⟨.skip, Go.undef, w', R, ?_, .inr ⟨rfl, rfl⟩, h2, h3, by simp [γ]⟩
              simp [execOp, h1]
            · cases h
          · cases h
        · cases h
      · -- range
        rename_i t x hh1 hh2
        split at h
        · rename_i s ht hp
          cases h
          have hx := hev x
          rw [hp] at hx
          simp only [γ] at hx
          refine does_of rfl ?_
          rw [hx]
          exact range_str_sound hI ht s
        · rename_i kt et o ht hp
          split at h
          · rename_i es ho
            cases h
            have hx := hev x
            rw [hp] at hx
            exact does_of rfl (range_map_sound hI ht ho hx)
          · cases h
        · cases h
      · -- next, of a text
        rename_i x hh1 hh2
        split at h
        · rename_i o hp
          split at h
          · rename_i s pos ho
            have hx := hev x
            rw [hp] at hx
            obtain ⟨k1, k2⟩ := next_str_sound (P := P) hI ho hx type
            split at h
            · rename_i hlt
              cases h
              obtain ⟨y, w', h1, h2, h3, h4⟩ := k1 hlt
              exact does_of rfl ⟨y, w', R, h1, h3, h4, h2⟩
            · rename_i hge
              cases h
              obtain ⟨y, h1, h2⟩ := k2 hge
              exact does_of rfl ⟨y, w, R, h1, hI, Grow.refl _ _ _, h2⟩
          · cases h
        · cases h
      · cases h

end Go.Ab

namespace Go.Ab
variable {P : Program}

/-! ### Names told anew -/
def Cap.map (ρ : Nat → Option Nat) : Cap → Cap
  | .own t => match ρ t with
    | some t' => .own t'
    | none => .unk
  | k => k

mutual
def AV.map (ρ : Nat → Option Nat) : AV → AV
  | .con v => .con v
  | .agg cs => .agg (maps ρ cs)
  | .tup cs => .tup (maps ρ cs)
  | .sl sz es k => .sl sz (mapss ρ es) (k.map ρ)
  | .vw sz o off len => match ρ o with
    | some o' => .vw sz o' off len
    | none => .top
  | .ptr o off => match ρ o with
    | some o' => .ptr o' off
    | none => .top
  | .cptr cs => .cptr (maps ρ cs)
  | .mp o => match ρ o with
    | some o' => .mp o'
    | none => .top
  | .fn f a c => .fn f (maps ρ a) (maps ρ c)
  | .ifc t v => .ifc t (v.map ρ)
  | .gd b v => .gd b (v.map ρ)
  | .top => .top
def maps (ρ : Nat → Option Nat) : List AV → List AV
  | [] => []
  | c :: cs => c.map ρ :: maps ρ cs
def mapss (ρ : Nat → Option Nat) : List (List AV) → List (List AV)
  | [] => []
  | e :: es => maps ρ e :: mapss ρ es
end

def Cap.bnd (m : Nat) : Cap → Prop
  | .own t => t < m
  | _ => True

-- all names lie below m
mutual
def AV.bnd (m : Nat) : AV → Prop
  | .con _ => True
  | .agg cs => bnds m cs
  | .tup cs => bnds m cs
  | .sl _ es k => bndss m es ∧ k.bnd m
  | .vw _ o _ _ => o < m
  | .ptr o _ => o < m
  | .cptr cs => bnds m cs
  | .mp o => o < m
  | .fn _ a c => bnds m a ∧ bnds m c
  | .ifc _ v => v.bnd m
  | .gd _ v => v.bnd m
  | .top => True
def bnds (m : Nat) : List AV → Prop
  | [] => True
  | c :: cs => c.bnd m ∧ bnds m cs
def bndss (m : Nat) : List (List AV) → Prop
  | [] => True
  | e :: es => bnds m e ∧ bndss m es
end

/-- R2 has under the new names what R has under the old ones -/
structure Ren (ρ : Nat → Option Nat) (R R2 : Rep) : Prop where
  F : ∀ b j v, R.F b j = some v → R2.F b j = some v
  ob : ∀ (o o' : Nat) (r : ORep), ρ o = some o' → R.ob[o]? = some r → R2.ob[o']? = some r

theorem Ren.holds {ρ : Nat → Option Nat} {R R2 : Rep} (h : Ren ρ R R2) {b off : Nat} {vs : List Value} (k : R.holds b off vs) : R2.holds b off vs :=
  fun j v e => h.F _ _ _ (k j v e)

theorem Ren.cap {ρ : Nat → Option Nat} {R R2 : Rep} (h : Ren ρ R R2) {sz b off len cap : Nat} {k : Cap} (hk : CapOk R sz b off len cap k) : CapOk R2 sz b off len cap (k.map ρ) := by
  cases k with
  | unk => trivial
  | full => exact hk
  | own t =>
    obtain ⟨r, h1, h2⟩ := hk
    simp only [Cap.map]
    split
    · rename_i t' ht
      exact ⟨r, h.ob _ _ _ ht h1, h2⟩
    · trivial

theorem maps_length (ρ : Nat → Option Nat) : ∀ cs, (maps ρ cs).length = cs.length
  | [] => by simp [maps]
  | c :: cs => by simp [maps, maps_length ρ cs]
theorem mapss_length (ρ : Nat → Option Nat) : ∀ cs, (mapss ρ cs).length = cs.length
  | [] => by simp [mapss]
  | c :: cs => by simp [mapss, mapss_length ρ cs]

mutual
theorem γ_map {ρ : Nat → Option Nat} {R R2 : Rep} (h : Ren ρ R R2) : ∀ (c : AV) (x : Value), γ R c x → γ R2 (c.map ρ) x
  | .con v, x, hx => by simpa only [γ, AV.map] using hx
  | .agg cs, x, hx => by
    simp only [γ, AV.map] at hx ⊢
    obtain ⟨vs, e, h1, h2⟩ := hx
    exact ⟨vs, e, γs_map' h cs vs h1, h2⟩
  | .tup cs, x, hx => by
    simp only [γ, AV.map] at hx ⊢
    obtain ⟨vs, e, h1⟩ := hx
    exact ⟨vs, e, γs_map' h cs vs h1⟩
  | .sl sz es k, x, hx => by
    simp only [γ, AV.map] at hx ⊢
    rw [mapss_length]
    rcases hx with ⟨hx, rfl⟩ | ⟨b, off, cap, vs, e, h1, h2, h3, h4, h5, h6⟩
    · exact .inl ⟨hx, by simp [mapss]⟩
    · exact .inr ⟨b, off, cap, vs, e, h1, h2, h.cap h3, γss_map' h sz es vs h4, h5, h.holds h6⟩
  | .vw sz o off len, x, hx => by
    simp only [γ, AV.map] at hx ⊢
    split
    · rename_i o' ho
      simp only [γ]
      rcases hx with hx | ⟨r, cap, h1, h2⟩
      · exact .inl hx
      · exact .inr ⟨r, cap, h.ob _ _ _ ho h1, h2⟩
    · simp only [γ]
  | .ptr o off, x, hx => by
    simp only [γ, AV.map] at hx ⊢
    obtain ⟨r, h1, h2⟩ := hx
    split
    · rename_i o' ho
      simp only [γ]
      exact ⟨r, h.ob _ _ _ ho h1, h2⟩
    · simp only [γ]
  | .cptr cs, x, hx => by
    simp only [γ, AV.map] at hx ⊢
    obtain ⟨b, off, vs, e, h1, h2, h3⟩ := hx
    exact ⟨b, off, vs, e, γs_map' h cs vs h1, h2, h.holds h3⟩
  | .mp o, x, hx => by
    simp only [γ, AV.map] at hx ⊢
    obtain ⟨r, h1, h2⟩ := hx
    split
    · rename_i o' ho
      simp only [γ]
      exact ⟨r, h.ob _ _ _ ho h1, h2⟩
    · simp only [γ]
  | .fn f first cap, x, hx => by
    simp only [γ, AV.map] at hx ⊢
    obtain ⟨vs, ws, e, h1, h2⟩ := hx
    exact ⟨vs, ws, e, γs_map' h first vs h1, γs_map' h cap ws h2⟩
  | .ifc t v, x, hx => by
    simp only [γ, AV.map] at hx ⊢
    obtain ⟨y, e, h1⟩ := hx
    exact ⟨y, e, γ_map h v y h1⟩
  | .gd b v, x, hx => by
    simp only [γ, AV.map] at hx ⊢
    cases b
    · simpa using hx
    · exact γ_map h v x (by simpa using hx)
  | .top, x, hx => by simp only [γ, AV.map]
theorem γs_map' {ρ : Nat → Option Nat} {R R2 : Rep} (h : Ren ρ R R2) : ∀ (cs : List AV) (vs : List Value), γs R cs vs → γs R2 (maps ρ cs) vs
  | [], vs, hx => by simpa only [γs, maps] using hx
  | c :: cs, vs, hx => by
    simp only [γs, maps] at hx ⊢
    obtain ⟨v, vs', e, h1, h2⟩ := hx
    exact ⟨v, vs', e, γ_map h c v h1, γs_map' h cs vs' h2⟩
theorem γss_map' {ρ : Nat → Option Nat} {R R2 : Rep} (h : Ren ρ R R2) (sz : Nat) : ∀ (es : List (List AV)) (vs : List Value), γss R sz es vs → γss R2 sz (mapss ρ es) vs
  | [], vs, hx => by simpa only [γss, mapss] using hx
  | c :: cs, vs, hx => by
    simp only [γss, mapss] at hx ⊢
    obtain ⟨v1, v2, e, h0, h1, h2⟩ := hx
    exact ⟨v1, v2, e, h0, γs_map' h c v1 h1, γss_map' h sz cs v2 h2⟩
end

/-- R1 has under its own names, below m, what R has under ρ's -/
structure Unren (m : Nat) (ρ : Nat → Nat) (R R1 : Rep) : Prop where
  F : ∀ b j v, R.F b j = some v → R1.F b j = some v
  ob : ∀ (i : Nat) (r : ORep), i < m → R.ob[ρ i]? = some r → R1.ob[i]? = some r

mutual
theorem γ_unmap {m : Nat} {ρ : Nat → Nat} {R R1 : Rep} (h : Unren m ρ R R1) : ∀ (c : AV) (x : Value), c.bnd m → γ R (c.map (fun i => some (ρ i))) x → γ R1 c x
  | .con v, x, hb, hx => by simpa only [γ, AV.map] using hx
  | .agg cs, x, hb, hx => by
    simp only [γ, AV.map, AV.bnd] at hx hb ⊢
    obtain ⟨vs, e, h1, h2⟩ := hx
    exact ⟨vs, e, γs_unmap h cs vs hb h1, h2⟩
  | .tup cs, x, hb, hx => by
    simp only [γ, AV.map, AV.bnd] at hx hb ⊢
    obtain ⟨vs, e, h1⟩ := hx
    exact ⟨vs, e, γs_unmap h cs vs hb h1⟩
  | .sl sz es k, x, hb, hx => by
    simp only [γ, AV.map, AV.bnd] at hx hb ⊢
    rw [mapss_length] at hx
    rcases hx with ⟨hx, he⟩ | ⟨b, off, cap, vs, e, h1, h2, h3, h4, h5, h6⟩
    · refine .inl ⟨hx, ?_⟩
      have := congrArg List.length he
      rw [mapss_length] at this
      exact List.length_eq_zero_iff.1 (by simpa using this)
    · refine .inr ⟨b, off, cap, vs, e, h1, h2, ?_, γss_unmap h sz es vs hb.1 h4, h5, fun j v e => h.F _ _ _ (h6 j v e)⟩
      cases k with
      | unk => trivial
      | full => exact h3
      | own t =>
        simp only [Cap.map, CapOk] at h3
        obtain ⟨r, g1, g2⟩ := h3
        exact ⟨r, h.ob _ _ hb.2 g1, g2⟩
  | .vw sz o off len, x, hb, hx => by
    simp only [γ, AV.map, AV.bnd] at hx hb ⊢
    rcases hx with hx | ⟨r, cap, h1, h2⟩
    · exact .inl hx
    · exact .inr ⟨r, cap, h.ob _ _ hb h1, h2⟩
  | .ptr o off, x, hb, hx => by
    simp only [γ, AV.map, AV.bnd] at hx hb ⊢
    obtain ⟨r, h1, h2⟩ := hx
    exact ⟨r, h.ob _ _ hb h1, h2⟩
  | .cptr cs, x, hb, hx => by
    simp only [γ, AV.map, AV.bnd] at hx hb ⊢
    obtain ⟨b, off, vs, e, h1, h2, h3⟩ := hx
    exact ⟨b, off, vs, e, γs_unmap h cs vs hb h1, h2, fun j v e => h.F _ _ _ (h3 j v e)⟩
  | .mp o, x, hb, hx => by
    simp only [γ, AV.map, AV.bnd] at hx hb ⊢
    obtain ⟨r, h1, h2⟩ := hx
    exact ⟨r, h.ob _ _ hb h1, h2⟩
  | .fn f first cap, x, hb, hx => by
    simp only [γ, AV.map, AV.bnd] at hx hb ⊢
    obtain ⟨vs, ws, e, h1, h2⟩ := hx
    exact ⟨vs, ws, e, γs_unmap h first vs hb.1 h1, γs_unmap h cap ws hb.2 h2⟩
  | .ifc t v, x, hb, hx => by
    simp only [γ, AV.map, AV.bnd] at hx hb ⊢
    obtain ⟨y, e, h1⟩ := hx
    exact ⟨y, e, γ_unmap h v y hb h1⟩
  | .gd b v, x, hb, hx => by
    simp only [γ, AV.map, AV.bnd] at hx hb ⊢
    cases b
    · simpa using hx
    · exact γ_unmap h v x hb (by simpa using hx)
  | .top, x, hb, hx => by simp only [γ]
theorem γs_unmap {m : Nat} {ρ : Nat → Nat} {R R1 : Rep} (h : Unren m ρ R R1) : ∀ (cs : List AV) (vs : List Value), bnds m cs → γs R (maps (fun i => some (ρ i)) cs) vs → γs R1 cs vs
  | [], vs, hb, hx => by simpa only [γs, maps] using hx
  | c :: cs, vs, hb, hx => by
    simp only [γs, maps, bnds] at hx hb ⊢
    obtain ⟨v, vs', e, h1, h2⟩ := hx
    exact ⟨v, vs', e, γ_unmap h c v hb.1 h1, γs_unmap h cs vs' hb.2 h2⟩
theorem γss_unmap {m : Nat} {ρ : Nat → Nat} {R R1 : Rep} (h : Unren m ρ R R1) (sz : Nat) : ∀ (es : List (List AV)) (vs : List Value), bndss m es → γss R sz (mapss (fun i => some (ρ i)) es) vs → γss R1 sz es vs
  | [], vs, hb, hx => by simpa only [γss, mapss] using hx
  | c :: cs, vs, hb, hx => by
    simp only [γss, mapss, bndss] at hx hb ⊢
    obtain ⟨v1, v2, e, h0, h1, h2⟩ := hx
    exact ⟨v1, v2, e, h0, γs_unmap h c v1 hb.1 h1, γss_unmap h sz cs v2 hb.2 h2⟩
end

end Go.Ab

namespace Go.Ab

/-! ### What a program's library asks of the world: facts on package-level variables -/
class LibT (P : Program) extends OwnTy P where
  T : World → Prop
  stable : ∀ w w' : World, (∀ b, b < P.globals.size → w'.heap[b]? = w.heap[b]?) → T w → T w'

variable {P : Program} [LibT P]

/-- memory stands as told; the package-level variables are as they were -/
structure InvP (P : Program) [LibT P] (R : Rep) (loc : List AObj) (w : World) : Prop where
  inv : Inv R loc w
  size : P.globals.size ≤ w.heap.size
  away : ∀ b, owned R loc b → P.globals.size ≤ b
  lib : LibT.T P w

/-! ### Frames and deferred calls -/
def γD (R : Rep) : List (FuncId × List AV × List AV) → List Deferred → Prop
  | [], ds => ds = []
  | (f, args, cap) :: l, ds => ∃ vs ws ds', ds = { target := .fn (.func f) ws.toArray, args := vs.toArray } :: ds' ∧ γs R args vs ∧ γs R cap ws ∧ γD R l ds'

theorem γD_mono {R R' : Rep} (h : RepLe R R') : ∀ (l : List (FuncId × List AV × List AV)) (ds : List Deferred), γD R l ds → γD R' l ds
  | [], ds, k => by simpa only [γD] using k
  | (f, args, cap) :: l, ds, k => by
    simp only [γD] at k ⊢
    obtain ⟨vs, ws, ds', e, h1, h2, h3⟩ := k
    exact ⟨vs, ws, ds', e, γs_mono h _ _ h1, γs_mono h _ _ h2, γD_mono h l ds' h3⟩

structure γF (R : Rep) (fr : Fr) (a : Act) : Prop where
  tmps : γs R fr.tmps a.tmps.toList
  defs : γD R fr.defs a.defers

theorem γF.mono {R R' : Rep} (h : RepLe R R') {fr : Fr} {a : Act} (k : γF R fr a) : γF R' fr a := ⟨γs_mono h _ _ k.tmps, γD_mono h _ _ k.defs⟩

theorem γF.eval {R : Rep} {fr : Fr} {a : Act} (h : γF R fr a) (x : Operand) : γ R (fr.eval x) (a.eval x) := by
  cases x with
  | tmp t =>
    simp only [Fr.eval, Act.eval]
    by_cases ht : t < fr.tmps.length
    · obtain ⟨v, h1, h2⟩ := γs_get h.tmps (i := t) (c := fr.tmps[t]) (List.getElem?_eq_getElem ht)
      have e1 : fr.tmps.getD t .undef = fr.tmps[t] := by simp [List.getD, List.getElem?_eq_getElem ht]
      have e2 : a.tmps.getD t Go.undef = v := by
        have : a.tmps[t]? = some v := by rw [← Array.getElem?_toList]; exact h1
        simp [Array.getD_eq_getD_getElem?, this]
      rw [e1, e2]; exact h2
    · have hlen := γs_length h.tmps
      have hn1 : fr.tmps[t]? = none := List.getElem?_eq_none (Nat.le_of_not_lt ht)
      have e1 : fr.tmps.getD t .undef = .undef := by simp [List.getD, hn1]
      have e2 : a.tmps.getD t Go.undef = Go.undef := by
        have : a.tmps[t]? = none := by rw [← Array.getElem?_toList]; exact List.getElem?_eq_none (by rw [hlen]; exact Nat.le_of_not_lt ht)
        simp [Array.getD_eq_getD_getElem?, this]
      rw [e1, e2]; simp [γ]
  | const v => exact γ_conv R v
  | global g => simp [Fr.eval, Act.eval, γ]
  | func f => simp only [Fr.eval, Act.eval, γ]; exact ⟨[], [], by simp, by simp [γs], by simp [γs]⟩

theorem γF.put {R : Rep} {fr : Fr} {a : Act} (h : γF R fr a) (dst : Option Tmp) {v : AV} {x : Value} (hv : γ R v x) : γF R (fr.put dst v) (a.put dst x) := by
  cases dst with
  | none => exact h
  | some d =>
    refine ⟨?_, h.defs⟩
    simp only [Fr.put, Act.put, Array.toList_setIfInBounds]
    exact γs_set h.tmps d hv


/-! ### What a run comes to -/
inductive AOut where
  | ret
  | pan (v : AV)

def OutMode (R : Rep) : AOut → FrameMode → Prop
  | .ret, md => md = .returning
  | .pan v, md => ∃ x, γ R v x ∧ md = .panicking [{ v := x, recovered := false }]

/-- memory has grown; the first n names stand for what they stood for -/
structure GrowN (n : Nat) (R : Rep) (loc : List AObj) (w : World) (R' : Rep) (loc' : List AObj) (w' : World) : Prop where
  os : w'.os = w.os
  tape : w'.tape = w.tape
  output : w'.output = w.output
  size : w.heap.size ≤ w'.heap.size
  F : ∀ b j v, R.F b j = some v → R'.F b j = some v
  ob : ∀ (i : Nat) (r : ORep), i < n → R.ob[i]? = some r → R'.ob[i]? = some r
  kept : ∀ b, b < w.heap.size → ¬ owned R loc b → w'.heap[b]? = w.heap[b]? ∧ ∀ j, R'.F b j = R.F b j
  back : ∀ b, b < w.heap.size → owned R' loc' b → owned R loc b

theorem Grow.toN {R R' : Rep} {loc loc' : List AObj} {w w' : World} (h : Grow R loc w R' loc' w') (n : Nat) : GrowN n R loc w R' loc' w' :=
  ⟨h.os, h.tape, h.output, h.size, h.le.F, fun i r _ e => h.le.ob i r e, h.kept, h.back⟩

theorem GrowN.refl (n : Nat) (R : Rep) (loc : List AObj) (w : World) : GrowN n R loc w R loc w := (Grow.refl R loc w).toN n

theorem GrowN.trans {n : Nat} {R R1 R2 : Rep} {loc loc1 loc2 : List AObj} {w w1 w2 : World} (h : GrowN n R loc w R1 loc1 w1) (k : GrowN n R1 loc1 w1 R2 loc2 w2) : GrowN n R loc w R2 loc2 w2 where
  os := k.os.trans h.os
  tape := k.tape.trans h.tape
  output := k.output.trans h.output
  size := Nat.le_trans h.size k.size
  F b j v e := k.F b j v (h.F b j v e)
  ob i r hi e := k.ob i r hi (h.ob i r hi e)
  kept b hb hn := by
    have h1 := h.kept b hb hn
    have h2 := k.kept b (Nat.lt_of_lt_of_le hb h.size) (fun ho => hn (h.back b hb ho))
    exact ⟨h2.1.trans h1.1, fun j => (h2.2 j).trans (h1.2 j)⟩
  back b hb ho := h.back b hb (k.back b (Nat.lt_of_lt_of_le hb h.size) ho)

theorem InvP.next {n : Nat} {R R1 : Rep} {loc loc1 : List AObj} {w w1 : World} (h : InvP P R loc w) (g : GrowN n R loc w R1 loc1 w1) (i : Inv R1 loc1 w1) : InvP P R1 loc1 w1 where
  inv := i
  size := Nat.le_trans h.size g.size
  away b hb := by
    by_cases hlt : b < w.heap.size
    · exact h.away b (g.back b hlt hb)
    · have := h.size; omega
  lib := LibT.stable w w1 (fun b hb => (g.kept b (Nat.lt_of_lt_of_le hb h.size) (fun ho => by have := h.away b ho; omega)).1) h.lib

theorem GrowN.mono {n m : Nat} (hm : m ≤ n) {R R1 : Rep} {loc loc1 : List AObj} {w w1 : World} (h : GrowN n R loc w R1 loc1 w1) : GrowN m R loc w R1 loc1 w1 :=
  ⟨h.os, h.tape, h.output, h.size, h.F, fun i r hi e => h.ob i r (Nat.lt_of_lt_of_le hi hm) e, h.kept, h.back⟩

/-- The frame whose todo is K comes to its end, so that Q holds. -/
def AM (P : Program) [LibT P] (n : Nat) (K : List AI) (fr : Fr) (loc : List AObj) (Q : AOut → Fr → List AObj → Prop) : Prop :=
  ∀ (R : Rep) (w : World) (a : Act) (b : Frame) (cs : List Frame), InvP P R loc w → γF R fr a →
    ∃ out R' w' a' fr' loc' md todo, Q out fr' loc' ∧ GrowN n R loc w R' loc' w' ∧ Inv R' loc' w' ∧ γF R' fr' a' ∧ OutMode R' out md ∧
      Steps P (lone (b.at a (K.map AI.item)) cs w) (lone { b.at a' todo with mode := md } cs w')

theorem AM.go {n : Nat} {K K1 : List AI} {fr fr1 : Fr} {loc loc1 : List AObj} {Q : AOut → Fr → List AObj → Prop}
    (hs : ∀ (R : Rep) (w : World) (a : Act) (b : Frame) (cs : List Frame), InvP P R loc w → γF R fr a →
      ∃ R1 w1 a1, GrowN n R loc w R1 loc1 w1 ∧ Inv R1 loc1 w1 ∧ γF R1 fr1 a1 ∧ Steps P (lone (b.at a (K.map AI.item)) cs w) (lone (b.at a1 (K1.map AI.item)) cs w1))
    (h : AM P n K1 fr1 loc1 Q) : AM P n K fr loc Q := by
  intro R w a b cs hI hF
  obtain ⟨R1, w1, a1, h1, h2, h3, h4⟩ := hs R w a b cs hI hF
  obtain ⟨out, R', w', a', fr', loc', md, todo, q, g, i, f, o, s⟩ := h R1 w1 a1 b cs (hI.next h1 h2) h3
  exact ⟨out, R', w', a', fr', loc', md, todo, q, h1.trans g, i, f, o, h4.trans s⟩

/-- a step that leaves frame and memory alone -/
theorem AM.still {n : Nat} {K K1 : List AI} {fr : Fr} {loc : List AObj} {Q : AOut → Fr → List AObj → Prop}
    (hs : ∀ (w : World) (a : Act) (b : Frame) (cs : List Frame), step P (lone (b.at a (K.map AI.item)) cs w) = .next (lone (b.at a (K1.map AI.item)) cs w))
    (h : AM P n K1 fr loc Q) : AM P n K fr loc Q :=
  AM.go (fun R w a b cs hI hF => ⟨R, w, a, GrowN.refl _ _ _ _, hI.inv, hF, .one (hs w a b cs)⟩) h

theorem AM.mono {n : Nat} {K : List AI} {fr : Fr} {loc : List AObj} {Q Q' : AOut → Fr → List AObj → Prop} (h : AM P n K fr loc Q) (hq : ∀ o f l, Q o f l → Q' o f l) : AM P n K fr loc Q' := by
  intro R w a b cs hI hF
  obtain ⟨out, R', w', a', fr', loc', md, todo, q, g⟩ := h R w a b cs hI hF
  exact ⟨out, R', w', a', fr', loc', md, todo, hq _ _ _ q, g⟩

theorem exitA_item (id : Nat) : ∀ (k k' : List AI), exitA id k = some k' → exitTo id (k.map AI.item) = some (k'.map AI.item)
  | [], _, h => by simp [exitA] at h
  | x :: k, k', h => by
    cases x with
    | inBlock id' =>
      simp only [exitA] at h
      simp only [List.map_cons, AI.item, exitTo]
      split at h
      · rename_i e; cases h; simp [e]
      · rename_i e; simp [e, exitA_item id k k' h]
    | code c => simp only [exitA] at h; simpa [AI.item, exitTo] using exitA_item id k k' h
    | ops o t => simp only [exitA] at h; simpa [AI.item, exitTo] using exitA_item id k k' h
    | inLoop c => simp only [exitA] at h; simpa [AI.item, exitTo] using exitA_item id k k' h
    | inScope c => simp only [exitA] at h; simpa [AI.item, exitTo] using exitA_item id k k' h

theorem AM.ret {n : Nat} {K : List AI} {fr : Fr} {loc : List AObj} {Q : AOut → Fr → List AObj → Prop} (hK : K = [] ∨ ∃ k, K = .code .ret :: k) (h : Q .ret fr loc) : AM P n K fr loc Q := by
  intro R w a b cs hI hF
  rcases hK with rfl | ⟨k, rfl⟩
  · exact ⟨.ret, R, w, a, fr, loc, _, _, h, GrowN.refl _ _ _ _, hI.inv, hF, rfl, .one step_end⟩
  · exact ⟨.ret, R, w, a, fr, loc, _, _, h, GrowN.refl _ _ _ _, hI.inv, hF, rfl, .one step_ret⟩

theorem wanted_of {R : Rep} {fr : Fr} {a : Act} (hF : γF R fr a) {ops : Array Oper} {o : Oper} {g : Nat × Bool} (hg : o.guard = some g) {b : Bool} (h : wantedA ops fr g = some b) :
    Region.wanted o (yielded ops a.tmps) = b := by
  unfold wantedA at h
  simp only [Region.wanted, hg]
  split at h
  · rename_i t ht
    have hev := hF.eval (.tmp t)
    simp only [Fr.eval, Act.eval] at hev
    have hy : yielded ops a.tmps g.1 = (match a.tmps.getD t Go.undef with | .bool b => some b | _ => none) := by
      simp only [yielded, ht, Option.bind_some]
      by_cases hlt : t < a.tmps.size
      · simp [Array.getD_eq_getD_getElem?, hlt]
        split <;> simp_all
      · have h0 : a.tmps[t]? = none := Array.getElem?_eq_none (Nat.le_of_not_lt hlt)
        simp [Array.getD_eq_getD_getElem?, h0, Go.undef]
    rw [hy]
    split at h
    · rename_i bb hb
      cases h
      rw [hb] at hev
      simp only [γ] at hev
      rw [hev]
      cases g.2 <;> cases bb <;> rfl
    · rename_i b0 bb hb
      cases h
      rw [hb] at hev
      simp only [γ] at hev
      cases b0
      · simp only [Bool.false_eq_true, if_false] at hev
        rw [hev]
        cases g.2 <;> rfl
      · simp only [if_true] at hev
        rw [hev]
        cases g.2 <;> cases bb <;> rfl
    · rename_i vs hb
      cases h
      rw [hb] at hev
      simp only [γ] at hev
      rw [hev]
      rfl
    · cases h
  · cases h

omit [LibT P] in
/-- one operation that is wanted and does what it does -/
theorem step_does {R : Rep} {loc loc' : List AObj} {w : World} {v : AV} {a : Act} {ops : Array Oper} {i : Nat} {rest : List Nat} {o : Oper} (ho : ops[i]? = some o) (hw : Region.wanted o (yielded ops a.tmps) = true)
    (h : Does P a.eval o R loc loc' v w) (b : Frame) (k : List Item) (cs : List Frame) :
    ∃ x w' R', Inv R' loc' w' ∧ Grow R loc w R' loc' w' ∧ γ R' v x ∧ step P (lone (b.at a (.inRegion ops (i :: rest) :: k)) cs w) = .next (lone (b.at (a.put o.dst x) (.inRegion ops rest :: k)) cs w') := by
  obtain ⟨nx, x, w', R', h1, h2, h3, h4, h5⟩ := h
  refine ⟨x, w', R', h3, h4, h5, ?_⟩
  have hg := stepG_op (P := P) (b := b) (k := k) (cs := cs) (w := w) (rest := rest) ho hw
  have hfin : ∀ v, (b.at a (.inRegion ops (i :: rest) :: k)).finish v = b.at (a.put o.dst v) (.inRegion ops rest :: k) := by
    intro v; rw [Frame.finish_at, ho]; rfl
  refine step_lone_go ?_
  rw [hg, ← hfin]
  rcases h2 with rfl | ⟨rfl, rfl⟩ <;> simp [stepG.apply, h1]

theorem AM.op {n : Nat} {k : List AI} {fr : Fr} {loc loc' : List AObj} {Q : AOut → Fr → List AObj → Prop} {ops : Array Oper} {i : Nat} {rest : List Nat} {o : Oper} {v : AV} (ho : ops[i]? = some o)
    (hd : ∀ (R : Rep) (w : World) (a : Act), Inv R loc w → γF R fr a → Region.wanted o (yielded ops a.tmps) = true ∧ Does P a.eval o R loc loc' v w)
    (h : AM P n (.ops ops rest :: k) (fr.put o.dst v) loc' Q) : AM P n (.ops ops (i :: rest) :: k) fr loc Q := by
  refine AM.go (fun R w a b cs hI hF => ?_) h
  obtain ⟨hw, hD⟩ := hd R w a hI.inv hF
  obtain ⟨x, w', R', h1, h2, h3, h4⟩ := step_does (rest := rest) ho hw hD b (k.map AI.item) cs
  exact ⟨R', w', a.put o.dst x, h2.toN n, h1, (hF.mono h2.le).put o.dst h3, .one h4⟩

/-- an operation that is not wanted, or is only where a Bool says so -/
theorem AM.opGuarded {n : Nat} {k : List AI} {fr : Fr} {loc : List AObj} {Q : AOut → Fr → List AObj → Prop} {ops : Array Oper} {i : Nat} {rest : List Nat} {o : Oper} {v : AV} {g : Nat × Bool} {bb : Bool} (ho : ops[i]? = some o)
    (hg : o.guard = some g) (hw : wantedA ops fr g = some bb) (hd : bb = true → ∀ (R : Rep) (w : World) (a : Act), Inv R loc w → γF R fr a → Yields P a.eval o R v w)
    (h : AM P n (.ops ops rest :: k) (fr.put o.dst (.gd bb v)) loc Q) : AM P n (.ops ops (i :: rest) :: k) fr loc Q := by
  refine AM.go (fun R w a b cs hI hF => ?_) h
  have hwc := wanted_of hF hg hw
  cases hbb : bb with
  | true =>
    subst hbb
    obtain ⟨x, w', R', h1, h2, h3, h4⟩ := step_does (rest := rest) ho hwc (does_of_yields hI.inv (hd rfl R w a hI.inv hF)) b (k.map AI.item) cs
    exact ⟨R', w', a.put o.dst x, h2.toN n, h1, (hF.mono h2.le).put o.dst (by simpa [γ] using h3), .one h4⟩
  | false =>
    subst hbb
    have hs := step_op_skip (P := P) (b := b) (a := a) (k := k.map AI.item) (cs := cs) (w := w) (ops := ops) (i := i) (rest := rest) (by simp [ho, hwc])
    simp only [ho, Option.bind_some] at hs
    exact ⟨R, w, a.put o.dst Go.undef, GrowN.refl _ _ _ _, hI.inv, hF.put o.dst (by simp [γ]), .one hs⟩

/-! ### Calls -/
/-- a function of Go's text -/
def CanEnter (P : Program) (f : FuncId) : Prop := ∃ fn, P.funcs[f]? = some fn ∧ fn.body.isNone = false ∧ (fn.name == "runtime.NumGoroutine") = false

/-- a call gives a value -/
def CallsV (P : Program) (f : FuncId) (cargs : Array Value) (w : World) (T : Value → World → Prop) : Prop :=
  (CanEnter P f ∧ Calls P f cargs w fun e w' => ∃ x, e = .returned x ∧ T x w') ∨ ∃ x w', (callFunc f cargs).run P w = .ok (.value x) w' ∧ T x w'

/-- Called with these arguments, over these objects, the function comes back so that Q holds. -/
def ACalls (P : Program) [LibT P] (f : FuncId) (args : List AV) (loc : List AObj) (Q : AV → List AObj → Prop) : Prop :=
  ∀ (R : Rep) (w : World) (cargs : List Value), InvP P R loc w → γs R args cargs →
    CallsV P f cargs.toArray w fun x w' => ∃ R' loc' r, GrowN loc.length R loc w R' loc' w' ∧ Inv R' loc' w' ∧ γ R' r x ∧ Q r loc'

/-- what stands where the run stands still -/
def AS (P : Program) [LibT P] (n : Nat) : Stop → Fr → List AObj → (AOut → Fr → List AObj → Prop) → Prop
  | .ret, fr, loc, Q => Q .ret fr loc
  | .cond c K1 K2, fr, loc, Q => ∃ b, c = .con (.bool b) ∧ (b = true → AM P n K1 fr loc Q) ∧ (b = false → AM P n K2 fr loc Q)
  | .guard b o ops is k, fr, loc, Q =>
    (b = true → match callA fr o.op with
      | some (f, args) => ∃ fid first cap, f = .fn fid first cap ∧ ∃ Q', ACalls P fid (first ++ args ++ cap) loc Q' ∧ ∀ r loc', Q' r loc' → AM P n (.ops ops is :: k) (fr.put o.dst r) loc' Q
      | none => match aop P fr loc o.op with
        | some (v, loc', c) => c.p ∧ AM P n (.ops ops is :: k) (fr.put o.dst v) loc' Q
        | none => False) ∧
    (b = false → AM P n (.ops ops is :: k) (fr.put o.dst .undef) loc Q)
  | .call f args dst k, fr, loc, Q => ∃ fid first cap, f = .fn fid first cap ∧ ∃ Q', ACalls P fid (first ++ args ++ cap) loc Q' ∧ ∀ r loc', Q' r loc' → AM P n k (fr.put dst r) loc' Q
  | .loop c k, fr, loc, Q => AM P n (.inLoop c :: k) fr loc Q
  | .inLoop c k, fr, loc, Q => AM P n (.inLoop c :: k) fr loc Q
  | .at k, fr, loc, Q => AM P n k fr loc Q

end Go.Ab

namespace Go.Ab
variable {P : Program} [LibT P]

theorem callA_spec {fr : Fr} {op : Op} {f : AV} {args : List AV} (h : callA fr op = some (f, args)) :
    ∃ fo ao ts, op = .call { callee := .value fo, args := ao, argTypes := ts } ∧ f = fr.eval fo ∧ args = ao.toList.map fr.eval := by
  unfold callA at h
  split at h
  · cases h; exact ⟨_, _, _, rfl, rfl, rfl⟩
  · cases h

omit [LibT P] in
theorem run_callFunc_enter {f : FuncId} (h : CanEnter P f) (args : Array Value) (w : World) : (callFunc f args).run P w = .ok (.enter f args) w := by
  obtain ⟨fn, h1, h2, h3⟩ := h
  simp [callFunc, h1, h2]
  simp at h3
  rw [if_neg h3]
  have : fn.body ≠ none := by intro e; rw [e] at h2; simp at h2
  simp [this]

theorem AM.call {n : Nat} {k : List AI} {fr : Fr} {loc : List AObj} {Q : AOut → Fr → List AObj → Prop} {ops : Array Oper} {i : Nat} {rest : List Nat} {o : Oper} (ho : ops[i]? = some o)
    {f : AV} {args : List AV} (hc : callA fr o.op = some (f, args)) (hwanted : ∀ (R : Rep) (a : Act), γF R fr a → Region.wanted o (yielded ops a.tmps) = true)
    {fid : FuncId} {first cap : List AV} (hf : f = .fn fid first cap) {Q' : AV → List AObj → Prop} (hn : n ≤ loc.length) (hcall : ACalls P fid (first ++ args ++ cap) loc Q')
    (h : ∀ r loc', Q' r loc' → AM P n (.ops ops rest :: k) (fr.put o.dst r) loc' Q) : AM P n (.ops ops (i :: rest) :: k) fr loc Q := by
  intro R w a b cs hI hF
  obtain ⟨fo, ao, ts, hop, rfl, rfl⟩ := callA_spec hc
  have hfe := hF.eval fo
  rw [hf] at hfe
  simp only [γ] at hfe
  obtain ⟨vs, ws, hfv, hvs, hws⟩ := hfe
  have hargs := γs_map (R := R) (ev := fr.eval) (cev := a.eval) ao.toList (fun x _ => hF.eval x)
  have hall : γs R (first ++ ao.toList.map fr.eval ++ cap) (vs ++ ao.toList.map a.eval ++ ws) := γs_append (γs_append hvs hargs) hws
  have hw := hwanted R a hF
  obtain ⟨ca, hca⟩ : ∃ ca, ca = (vs ++ ao.toList.map a.eval ++ ws).toArray := ⟨_, rfl⟩
  have hrun : (execOp a.eval o).run P w = (callFunc fid ca).run P w := by
    have e : ca = (vs.toArray ++ Array.map a.eval ao) ++ ws.toArray := by
      rw [hca, map_toArray]; simp
    rw [e]
    simp [execOp, hop, resolve, Deferred.ofValue, hfv, invoke]
  have hg := stepG_op (P := P) (b := b) (k := k.map AI.item) (cs := cs) (w := w) (rest := rest) ho hw
  have hfin : ∀ v, (b.at a (.inRegion ops (i :: rest) :: k.map AI.item)).finish v = b.at (a.put o.dst v) (.inRegion ops rest :: k.map AI.item) := by
    intro v; rw [Frame.finish_at, ho]; rfl
  have hcl := hcall R w _ hI hall
  rw [← hca] at hcl
  rcases hcl with ⟨hce, hcalls⟩ | ⟨x, w1, hcf, R1, loc1, r, h1, h2, h3, h4⟩
  · obtain ⟨e, w1, frl, ⟨x, rfl, R1, loc1, r, h1, h2, h3, h4⟩, hcomes, _, hleave⟩ := hcalls (b.at a (.inRegion ops (i :: rest) :: k.map AI.item) :: cs)
    have henter : Go.step P (lone (b.at a (.inRegion ops (i :: rest) :: k.map AI.item)) cs w) =
        .next (lone (Frame.enter P fid ca .normal) (b.at a (.inRegion ops (i :: rest) :: k.map AI.item) :: cs) w) :=
      step_lone_go (by rw [hg]; simp [stepG.apply, hrun, run_callFunc_enter hce, Frame.at])
    have hle : RepLe R R1 := ⟨h1.F, fun j r hj => h1.ob j r (by rw [← hI.inv.len]; exact (List.getElem?_eq_some_iff.1 hj).1) hj⟩
    obtain ⟨out, R', w', a', fr', loc', md, todo, q, g, i', f', o', s⟩ := h r loc1 h4 R1 w1 (a.put o.dst x) b cs (hI.next h1 h2) ((hF.mono hle).put o.dst h3)
    refine ⟨out, R', w', a', fr', loc', md, todo, q, (h1.mono hn).trans g, i', f', o', ?_⟩
    refine Steps.trans (Steps.head henter (Steps.trans hcomes (Steps.one ?_))) s
    rw [step_leave_returned hleave, hfin]
    rfl
  · have hs : Go.step P (lone (b.at a (.inRegion ops (i :: rest) :: k.map AI.item)) cs w) = .next (lone (b.at (a.put o.dst x) (.inRegion ops rest :: k.map AI.item)) cs w1) :=
      step_lone_go (by rw [hg, ← hfin]; simp [stepG.apply, hrun, hcf])
    have hle : RepLe R R1 := ⟨h1.F, fun j r hj => h1.ob j r (by rw [← hI.inv.len]; exact (List.getElem?_eq_some_iff.1 hj).1) hj⟩
    obtain ⟨out, R', w', a', fr', loc', md, todo, q, g, i', f', o', s⟩ := h r loc1 h4 R1 w1 (a.put o.dst x) b cs (hI.next h1 h2) ((hF.mono hle).put o.dst h3)
    exact ⟨out, R', w', a', fr', loc', md, todo, q, (h1.mono hn).trans g, i', f', o', Steps.trans (Steps.one hs) s⟩

theorem strip_of {R : Rep} {v : AV} {x : Value} (hx : γ R v x) (hg : v.gdOf = true) : γ R v.strip x := by
  cases v with
  | gd b u =>
    simp only [AV.gdOf] at hg
    subst hg
    simpa [AV.strip, γ] using hx
  | _ => simpa only [AV.strip] using hx


theorem appendA_len {loc loc' : List AObj} {isStr : Bool} {sz bytes : Nat} {s x v : AV} {C : DP} (h : appendA loc isStr sz bytes s x = some (v, loc', C)) : loc.length ≤ loc'.length := by
  unfold appendA at h
  split at h
  · cases h
  · split at h
    · cases h; simp
    · split at h
      · cases h; simp
      · cases h
    · split at h
      · split at h
        · cases h; simp
        · cases h
      · cases h
    · cases h

omit [LibT P] in
theorem appendV_len {loc loc' : List AObj} {isStr : Bool} {sz bytes : Nat} {s x v : AV} {C : DP} (h : appendV loc isStr sz bytes s x = some (v, loc', C)) : loc.length ≤ loc'.length := by
  unfold appendV at h
  split at h
  · split at h
    · cases h
    · cases h; simp
  · split at h
    · cases h
    · split at h
      · split at h
        · cases h; simp
        · cases h
      · cases h
  · exact appendA_len h

theorem aop_len {fr : Fr} {loc loc' : List AObj} {op : Op} {v : AV} {C : DP} (h : aop P fr loc op = some (v, loc', C)) : loc.length ≤ loc'.length := by
  unfold aop at h
  split at h
  · split at h
    · cases h; exact Nat.le_refl _
    · cases h
  · split at h
    · cases h; exact Nat.le_refl _
    · unfold astate at h
      split at h
      · simp only [Option.map_eq_some_iff] at h
        obtain ⟨z, hz, h⟩ := h
        cases h; simp
      · cases h; simp
      · split at h
        · split at h
          · split at h
            · cases h; exact Nat.le_refl _
            · cases h
          · cases h
        · cases h
      · split at h
        · split at h
          · cases h; simp
          · cases h
        · cases h
      · split at h
        · split at h
          · split at h
            · split at h
              · exact appendV_len h
              · exact appendA_len h
            · cases h
          · split at h
            · split at h
              · exact appendV_len h
              · exact appendA_len h
            · cases h
          · cases h
        · cases h
      · cases h; simp
      all_goals ((repeat' split at h) <;> first | (cases h; simp; done) | (cases h; done))

theorem AM.of_inLoop {n : Nat} {c : Code} {k : List AI} {fr : Fr} {loc : List AObj} {Q : AOut → Fr → List AObj → Prop} (h : AM P n (.inLoop c :: k) fr loc Q) : AM P n (.code (.loop c) :: k) fr loc Q := by
  intro R w a b cs hI hF
  obtain ⟨out, R', w', a', fr1, loc1, md, todo, q, g, i', f', o', ⟨j, st⟩⟩ := h R w a b cs hI hF
  refine ⟨out, R', w', a', fr1, loc1, md, todo, q, g, i', f', o', ?_⟩
  cases j with
  | zero =>
    exfalso
    simp only [runN, Stepped.next.injEq] at st
    have h1 : (b.at a (((AI.inLoop c) :: k).map AI.item)).mode = md := by
      have := congrArg (fun m => (m.gs[0]?).map (·.frame.mode)) st
      simpa [lone, Frame.at] using this
    have h2 : (b.at a (((AI.inLoop c) :: k).map AI.item)).mode = .run := rfl
    rw [h2] at h1
    cases out with
    | ret => simp only [OutMode] at o'; rw [o'] at h1; cases h1
    | pan v => simp only [OutMode] at o'; obtain ⟨x, _, hx⟩ := o'; rw [hx] at h1; cases h1
  | succ j =>
    have h1 : Go.step P (lone (b.at a (((AI.inLoop c) :: k).map AI.item)) cs w) = .next (lone (b.at a (.code c :: .inLoop c :: k.map AI.item)) cs w) := step_inLoop
    have h2 : Go.step P (lone (b.at a (((AI.code (.loop c)) :: k).map AI.item)) cs w) = .next (lone (b.at a (.code c :: .inLoop c :: k.map AI.item)) cs w) := step_loop
    simp only [runN, h1] at st
    exact Steps.head h2 ⟨j, st⟩

/-- A loop: a relation that bears a number, which every round lowers. -/
theorem AM.loop {n : Nat} {c : Code} {k : List AI} {Q : AOut → Fr → List AObj → Prop} (I : Nat → Fr → List AObj → Prop)
    (round : ∀ (m : Nat) (fr : Fr) (loc : List AObj), I m fr loc → (∀ (m' : Nat) (fr' : Fr) (loc' : List AObj), m' < m → I m' fr' loc' → AM P n (.inLoop c :: k) fr' loc' Q) → AM P n (.code c :: .inLoop c :: k) fr loc Q) :
    ∀ (m : Nat) (fr : Fr) (loc : List AObj), I m fr loc → AM P n (.inLoop c :: k) fr loc Q := by
  intro m
  induction m using Nat.strongRecOn with
  | _ m ih =>
    intro fr loc hI
    exact AM.still (fun w a b cs => step_inLoop) (round m fr loc hI fun m' fr' loc' hm hI' => ih m' hm fr' loc' hI')

theorem arun_sound {n : Nat} {Q : AOut → Fr → List AObj → Prop} : ∀ (m : Nat) (K : List AI) (fr : Fr) (loc : List AObj) (C : Prop), n ≤ loc.length →
    ∀ (s : Stop) (fr' : Fr) (loc' : List AObj) (C' : Prop), arun P m K fr loc C = (s, fr', loc', C') → C' → AS P n s fr' loc' Q → C ∧ AM P n K fr loc Q := by
  intro m
  induction m with
  | zero =>
    intro K fr loc C hn s fr' loc' C' h hC hS
    simp only [arun] at h
    cases h
    exact ⟨hC, hS⟩
  | succ m ih =>
    intro K fr loc C hn s fr' loc' C' h hC hS
    unfold arun at h
    split at h
    · cases h; exact ⟨hC, AM.ret (.inl rfl) hS⟩
    · rename_i k
      cases h; exact ⟨hC, AM.ret (.inr ⟨k, rfl⟩) hS⟩
    · obtain ⟨h1, h2⟩ := ih _ _ _ _ hn _ _ _ _ h hC hS
      exact ⟨h1, AM.still (fun w a b cs => step_skip) h2⟩
    · obtain ⟨h1, h2⟩ := ih _ _ _ _ hn _ _ _ _ h hC hS
      exact ⟨h1, AM.still (fun w a b cs => step_label) h2⟩
    · obtain ⟨h1, h2⟩ := ih _ _ _ _ hn _ _ _ _ h hC hS
      exact ⟨h1, AM.still (fun w a b cs => step_inBlock) h2⟩
    · obtain ⟨h1, h2⟩ := ih _ _ _ _ hn _ _ _ _ h hC hS
      exact ⟨h1, AM.still (fun w a b cs => step_inScope) h2⟩
    · obtain ⟨h1, h2⟩ := ih _ _ _ _ hn _ _ _ _ h hC hS
      exact ⟨h1, AM.still (fun w a b cs => step_scope) h2⟩
    · obtain ⟨h1, h2⟩ := ih _ _ _ _ hn _ _ _ _ h hC hS
      exact ⟨h1, AM.still (fun w a b cs => step_seq) h2⟩
    · obtain ⟨h1, h2⟩ := ih _ _ _ _ hn _ _ _ _ h hC hS
      exact ⟨h1, AM.still (fun w a b cs => step_block) h2⟩
    · -- exit
      rename_i id k
      split at h
      · rename_i k' hk
        obtain ⟨h1, h2⟩ := ih _ _ _ _ hn _ _ _ _ h hC hS
        exact ⟨h1, AM.still (fun w a b cs => step_exit (exitA_item id k k' hk)) h2⟩
      · cases h; exact ⟨hC, hS⟩
    · obtain ⟨h1, h2⟩ := ih _ _ _ _ hn _ _ _ _ h hC hS
      exact ⟨h1, AM.still (fun w a b cs => step_region) h2⟩
    · -- cond
      rename_i c x y k
      cases h
      refine ⟨hC, ?_⟩
      obtain ⟨b, hb, ht, hf⟩ := hS
      cases b with
      | true =>
        refine AM.go (fun R w a b cs hI hF => ⟨R, w, a, GrowN.refl _ _ _ _, hI.inv, hF, .one ?_⟩) (ht rfl)
        have hcc := hF.eval c
        rw [hb] at hcc
        simp only [γ] at hcc
        have hst := step_cond (P := P) (b := b) (k := k.map AI.item) (cs := cs) (w := w) (x := x) (y := y) hcc
        simp only [if_true, Bool.false_eq_true, if_false] at hst
        exact hst
      | false =>
        refine AM.go (fun R w a b cs hI hF => ⟨R, w, a, GrowN.refl _ _ _ _, hI.inv, hF, .one ?_⟩) (hf rfl)
        have hcc := hF.eval c
        rw [hb] at hcc
        simp only [γ] at hcc
        have hst := step_cond (P := P) (b := b) (k := k.map AI.item) (cs := cs) (w := w) (x := x) (y := y) hcc
        simp only [if_true, Bool.false_eq_true, if_false] at hst
        exact hst
    · -- loop
      cases h
      exact ⟨hC, AM.of_inLoop hS⟩
    · cases h; exact ⟨hC, hS⟩
    · obtain ⟨h1, h2⟩ := ih _ _ _ _ hn _ _ _ _ h hC hS
      exact ⟨h1, AM.still (fun w a b cs => step_region_end) h2⟩
    · -- an operation
      rename_i ops i is k
      split at h
      · cases h; exact ⟨hC, hS⟩
      · rename_i o ho
        split at h
        · rename_i hg
          have hw : ∀ (R : Rep) (a : Act), γF R fr a → Region.wanted o (yielded ops a.tmps) = true := fun R a _ => by simp [Region.wanted, hg]
          split at h
          · rename_i f args hc
            cases h
            refine ⟨hC, ?_⟩
            obtain ⟨fid, first, cap, hf, Q', hcall, hnext⟩ := hS
            exact AM.call ho hc hw hf hn hcall hnext
          · rename_i hc
            split at h
            · rename_i v loc1 c hop
              obtain ⟨h1, h2⟩ := ih _ _ _ _ (Nat.le_trans hn (aop_len hop)) _ _ _ _ h hC hS
              exact ⟨h1.1, AM.op ho (fun R w a hI hF => ⟨hw R a hF, aop_sound o (fun x => hF.eval x) hI hop h1.2⟩) h2⟩
            · cases h; exact ⟨hC, hS⟩
        · rename_i g hg
          split at h
          · cases h; exact ⟨hC, hS⟩
          · rename_i bb hwa
            split at h
            · rename_i v c hp
              obtain ⟨h1, h2⟩ := ih _ _ _ _ hn _ _ _ _ h hC hS
              refine ⟨h1.1, AM.opGuarded ho hg hwa (fun hb R w a hI hF => ?_) h2⟩
              obtain ⟨c1, c2⟩ := h1.2 hb
              refine apure_sound o (fun x hx => strip_of (hF.eval x) ?_) hI hp c1
              exact List.all_eq_true.1 c2 x hx
            · rename_i hp
              cases h
              refine ⟨hC, ?_⟩
              obtain ⟨ht, hf⟩ := hS
              cases bb with
              | false =>
                refine AM.go (fun R w a b cs hI hF => ?_) (hf rfl)
                have hwc := wanted_of hF hg hwa
                have hs := step_op_skip (P := P) (b := b) (a := a) (k := k.map AI.item) (cs := cs) (w := w) (ops := ops) (i := i) (rest := is) (by simp [ho, hwc])
                simp only [ho, Option.bind_some] at hs
                exact ⟨R, w, a.put o.dst Go.undef, GrowN.refl _ _ _ _, hI.inv, hF.put o.dst (by simp [γ]), .one hs⟩
              | true =>
                have hw : ∀ (R : Rep) (a : Act), γF R fr a → Region.wanted o (yielded ops a.tmps) = true := fun R a hF => wanted_of hF hg hwa
                have ht' := ht rfl
                split at ht'
                · rename_i f args hc
                  obtain ⟨fid, first, cap, hf', Q', hcall, hnext⟩ := ht'
                  exact AM.call ho hc hw hf' hn hcall hnext
                · split at ht'
                  · rename_i v loc1 c hop
                    exact AM.op ho (fun R w a hI hF => ⟨hw R a hF, aop_sound o (fun x => hF.eval x) hI hop ht'.1⟩) ht'.2
                  · exact ht'.elim
    · cases h; exact ⟨hC, hS⟩

end Go.Ab

namespace Go.Ab
variable {P : Program} [LibT P]

/-! ### Objects under new names -/
def mapEs (ρ : Nat → Option Nat) : List (AV × AV) → List (AV × AV)
  | [] => []
  | (k, v) :: m => (k.map ρ, v.map ρ) :: mapEs ρ m

def AObj.map' (ρ : Nat → Option Nat) : AObj → AObj
  | .cells cs => .cells (maps ρ cs)
  | .map m => .map (mapEs ρ m)
  | .umap ro m => .umap ro (mapEs ρ m)
  | .tok b => .tok b
  | .iter m s e l => .iter (m.map ρ) s e l
  | .siter s p => .siter s p
  | .gone => .gone

def bndEs (m : Nat) : List (AV × AV) → Prop
  | [] => True
  | (k, v) :: es => k.bnd m ∧ v.bnd m ∧ bndEs m es

def AObj.bnd (m : Nat) : AObj → Prop
  | .cells cs => bnds m cs
  | .map es => bndEs m es
  | .umap _ es => bndEs m es
  | .tok _ => True
  | .iter a _ _ _ => a.bnd m
  | .siter _ _ => True
  | .gone => True

theorem mapEs_eq (ρ : Nat → Option Nat) : ∀ (m : List (AV × AV)), mapEs ρ m = m.map fun e => (e.1.map ρ, e.2.map ρ)
  | [] => rfl
  | (k, v) :: m => by simp [mapEs, mapEs_eq ρ m]

theorem perm_map_inv {α β : Type} {f : α → β} {k k2 : List β} (h : k.Perm k2) : ∀ (l : List α), k2 = l.map f → ∃ l' : List α, l'.Perm l ∧ l'.map f = k := by
  induction h with
  | nil => intro l hl; exact ⟨l, .refl _, hl.symm⟩
  | cons x h ih =>
    intro l hl
    cases l with
    | nil => cases hl
    | cons a l =>
      simp only [List.map_cons, List.cons.injEq] at hl
      obtain ⟨l', h1, h2⟩ := ih l hl.2
      exact ⟨a :: l', h1.cons a, by simp [h2, hl.1]⟩
  | swap x y t =>
    intro l hl
    cases l with
    | nil => cases hl
    | cons a l =>
      cases l with
      | nil => simp at hl
      | cons b l =>
        simp only [List.map_cons, List.cons.injEq] at hl
        exact ⟨b :: a :: l, .swap a b l, by simp [hl.1, hl.2.1, hl.2.2]⟩
  | trans h1 h2 ih1 ih2 =>
    intro l hl
    obtain ⟨l2, k1, k2⟩ := ih2 l hl
    obtain ⟨l1, k3, k4⟩ := ih1 l2 k2.symm
    exact ⟨l1, k3.trans k1, k4⟩

theorem mapEs_perm {ρ : Nat → Option Nat} {m : List (AV × AV)} {k : List (AV × AV)} (h : k.Perm (mapEs ρ m)) : ∃ m', m'.Perm m ∧ mapEs ρ m' = k := by
  rw [mapEs_eq] at h
  obtain ⟨m', h1, h2⟩ := perm_map_inv h m rfl
  exact ⟨m', h1, by rw [mapEs_eq]; exact h2⟩

theorem bndEs_iff (n : Nat) : ∀ (m : List (AV × AV)), bndEs n m ↔ ∀ e ∈ m, e.1.bnd n ∧ e.2.bnd n
  | [] => by simp [bndEs]
  | (k, v) :: m => by
    simp only [bndEs, bndEs_iff n m, List.mem_cons, forall_eq_or_imp]
    exact ⟨fun ⟨a, b, c⟩ => ⟨⟨a, b⟩, c⟩, fun ⟨⟨a, b⟩, c⟩ => ⟨a, b, c⟩⟩

theorem bndEs_perm {n : Nat} {m m' : List (AV × AV)} (h : m.Perm m') (hb : bndEs n m) : bndEs n m' := by
  rw [bndEs_iff] at hb ⊢
  exact fun e he => hb e (h.mem_iff.2 he)

theorem own_map (ρ : Nat → Option Nat) (o : AObj) (r : ORep) : own (o.map' ρ) r = own o r := by
  cases o with
  | tok b => cases b <;> rfl
  | cells cs => cases cs <;> rfl
  | _ => rfl

theorem γmap_map {ρ : Nat → Option Nat} {R R2 : Rep} (h : Ren ρ R R2) : ∀ (m : List (AV × AV)) (es : List MapEntry), γmap R m es → γmap R2 (mapEs ρ m) es
  | [], es, k => by simpa only [γmap, mapEs] using k
  | (a, b) :: m, es, k => by
    simp only [γmap, mapEs] at k ⊢
    obtain ⟨e, es', h1, h2, h3, h4⟩ := k
    exact ⟨e, es', h1, γ_map h _ _ h2, γ_map h _ _ h3, γmap_map h m es' h4⟩

theorem γmap_unmap {n : Nat} {ρ : Nat → Nat} {R R1 : Rep} (h : Unren n ρ R R1) : ∀ (m : List (AV × AV)) (es : List MapEntry), bndEs n m → γmap R (mapEs (fun i => some (ρ i)) m) es → γmap R1 m es
  | [], es, hb, k => by simpa only [γmap, mapEs] using k
  | (a, b) :: m, es, hb, k => by
    simp only [γmap, mapEs, bndEs] at k hb ⊢
    obtain ⟨e, es', h1, h2, h3, h4⟩ := k
    exact ⟨e, es', h1, γ_unmap h _ _ hb.1 h2, γ_unmap h _ _ hb.2.1 h3, γmap_unmap h m es' hb.2.2 h4⟩

theorem objOk_map {ρ : Nat → Option Nat} {R R2 : Rep} {w w' : World} (h : Ren ρ R R2) {o : AObj} {r : ORep} (k : objOk R w o r)
    (hb : ∀ b, own o r = some b → w'.heap[b]? = w.heap[b]? ∧ ∀ j, R2.F b j = R.F b j) : objOk R2 w' (o.map' ρ) r := by
  cases o with
  | cells cs =>
    simp only [objOk, AObj.map'] at k ⊢
    intro hne
    have hne' : cs ≠ [] := fun e => hne (by simp [e, maps])
    obtain ⟨vs, ws, t, h1, h2, h3, h4, h5⟩ := k hne'
    obtain ⟨e1, e2⟩ := hb r.blk (own_cells.2 ⟨hne', rfl⟩)
    exact ⟨vs, ws, t, e1.trans h1, γs_map' h _ _ h2, h3, fun j => (e2 j).trans (h4 j), h5⟩
  | map m =>
    simp only [objOk, AObj.map'] at k ⊢
    obtain ⟨es, c, h1, h2, h3⟩ := k
    obtain ⟨e1, e2⟩ := hb r.blk rfl
    exact ⟨es, c, e1.trans h1, γmap_map h _ _ h2, h3⟩
  | tok b =>
    cases b
    · trivial
    · simp only [objOk, AObj.map'] at k ⊢
      intro j h1 h2
      have hlt : r.lo < r.hi := by omega
      obtain ⟨e1, e2⟩ := hb r.blk (by simp [own, hlt])
      obtain ⟨k1, k2, k3⟩ := k j h1 h2
      refine ⟨(e2 j).trans k1, ?_, ?_⟩
      · simpa only [World.cell?, e1] using k2
      · simpa only [World.frozen?, e1] using k3
  | umap ro m =>
    simp only [objOk, AObj.map'] at k ⊢
    obtain ⟨es, m', h1, h2, h3, h4⟩ := k
    refine ⟨es, mapEs ρ m', (hb r.blk rfl).1.trans h1, γmap_map h _ _ h2, ?_, h4⟩
    rw [mapEs_eq, mapEs_eq]; exact h3.map _
  | iter m s e l =>
    simp only [objOk, AObj.map'] at k ⊢
    obtain ⟨b, h1, h2⟩ := k
    obtain ⟨e1, e2⟩ := hb r.blk rfl
    exact ⟨b, γ_map h _ _ h1, e1.trans h2⟩
  | siter s p =>
    simp only [objOk, AObj.map'] at k ⊢
    exact (hb r.blk rfl).1.trans k
  | gone => trivial

theorem objOk_unmap {n : Nat} {ρ : Nat → Nat} {R R1 : Rep} {w : World} (h : Unren n ρ R R1) (hF : ∀ b j, R1.F b j = R.F b j) {o : AObj} {r : ORep} (hb : o.bnd n) (k : objOk R w (o.map' (fun i => some (ρ i))) r) : objOk R1 w o r := by
  cases o with
  | cells cs =>
    simp only [objOk, AObj.map', AObj.bnd] at k hb ⊢
    intro hne
    have hne' : maps (fun i => some (ρ i)) cs ≠ [] := fun e => hne (List.length_eq_zero_iff.1 (by rw [← maps_length (fun i => some (ρ i)), e]; rfl))
    obtain ⟨vs, ws, t, h1, h2, h3, h4, h5⟩ := k hne'
    exact ⟨vs, ws, t, h1, γs_unmap h _ _ hb h2, h3, fun j => (hF _ j).trans (h4 j), h5⟩
  | map m =>
    simp only [objOk, AObj.map', AObj.bnd] at k hb ⊢
    obtain ⟨es, c, h1, h2, h3⟩ := k
    exact ⟨es, c, h1, γmap_unmap h _ _ hb h2, h3⟩
  | tok b =>
    cases b
    · trivial
    · simp only [objOk, AObj.map'] at k ⊢
      intro j h1 h2
      obtain ⟨k1, k2, k3⟩ := k j h1 h2
      exact ⟨(hF _ j).trans k1, k2, k3⟩
  | umap ro m =>
    simp only [objOk, AObj.map', AObj.bnd] at k hb ⊢
    obtain ⟨es, m', h1, h2, h3, h4⟩ := k
    obtain ⟨m'', h5, rfl⟩ := mapEs_perm h3
    exact ⟨es, m'', h1, γmap_unmap h _ _ (bndEs_perm h5.symm hb) h2, h5, h4⟩
  | iter m s e l =>
    simp only [objOk, AObj.map', AObj.bnd] at k hb ⊢
    obtain ⟨b, h1, h2⟩ := k
    exact ⟨b, γ_unmap h _ _ hb h1, h2⟩
  | siter s p =>
    simp only [objOk, AObj.map'] at k ⊢
    exact k
  | gone => trivial

/-! ### A choice of names -/
/-- where a name stands in a choice -/
def idx : List Nat → Nat → Option Nat
  | [], _ => none
  | s :: l, i => if i = s then some 0 else (idx l i).map (· + 1)

theorem idx_spec : ∀ (sel : List Nat) (i j : Nat), idx sel i = some j → sel[j]? = some i
  | [], i, j, h => by simp [idx] at h
  | s :: l, i, j, h => by
    simp only [idx] at h
    split at h
    · rename_i e; cases h; simp [e]
    · simp only [Option.map_eq_some_iff] at h
      obtain ⟨j', h1, rfl⟩ := h
      simpa using idx_spec l i j' h1

theorem nodup_inj {l : List Nat} (h : l.Nodup) {i j a : Nat} (hi : l[i]? = some a) (hj : l[j]? = some a) : i = j := by
  obtain ⟨hi1, hi2⟩ := List.getElem?_eq_some_iff.1 hi
  obtain ⟨hj1, hj2⟩ := List.getElem?_eq_some_iff.1 hj
  have hp := List.pairwise_iff_getElem.1 h
  rcases Nat.lt_trichotomy i j with hlt | he | hlt
  · exact absurd (hi2.trans hj2.symm) (hp i j hi1 hj1 hlt)
  · exact he
  · exact absurd (hj2.trans hi2.symm) (hp j i hj1 hi1 hlt)

def pick (sel : List Nat) (loc : List AObj) : List AObj := sel.map fun i => (loc.getD i .gone).map' (idx sel)

structure SelOk (n : Nat) (sel : List Nat) (loc : List AObj) : Prop where
  nodup : sel.Nodup
  first : ∀ i, i < n → sel[i]? = some i
  lt : ∀ i ∈ sel, i < loc.length

def Rep.pick (R : Rep) (sel : List Nat) : Rep := { R with ob := sel.map fun i => R.ob.getD i ⟨0, 0, 0⟩ }

theorem ren_pick {R : Rep} {loc : List AObj} {w : World} (hI : Inv R loc w) (sel : List Nat) : Ren (idx sel) R (R.pick sel) := by
  refine ⟨fun _ _ _ h => h, fun o o' r ho hr => ?_⟩
  have := idx_spec sel o o' ho
  simp [Rep.pick, this, hr]

theorem pick_spec {R : Rep} {loc : List AObj} {w : World} (hI : Inv R loc w) {n : Nat} {sel : List Nat} (hs : SelOk n sel loc) {j : Nat} {o : AObj} {r : ORep} (ho : (pick sel loc)[j]? = some o) (hr : (R.pick sel).ob[j]? = some r) :
    ∃ i o0, sel[j]? = some i ∧ loc[i]? = some o0 ∧ R.ob[i]? = some r ∧ o = o0.map' (idx sel) := by
  simp only [pick, List.getElem?_map, Option.map_eq_some_iff] at ho
  obtain ⟨i, hi, rfl⟩ := ho
  have hlt := hs.lt i (List.mem_of_getElem? hi)
  simp only [Rep.pick, List.getElem?_map, hi, Option.map_some, Option.some.injEq] at hr
  refine ⟨i, loc[i], hi, List.getElem?_eq_getElem hlt, ?_, ?_⟩
  · have h2 : i < R.ob.length := by rw [hI.len]; exact hlt
    rw [← hr, List.getD, List.getElem?_eq_getElem h2]; rfl
  · rw [List.getD, List.getElem?_eq_getElem hlt]; rfl

theorem Inv.pick {R : Rep} {loc : List AObj} {w : World} (hI : Inv R loc w) {n : Nat} {sel : List Nat} (hs : SelOk n sel loc) :
    Inv (R.pick sel) (Ab.pick sel loc) w ∧ GrowN n R loc w (R.pick sel) (Ab.pick sel loc) w := by
  have hren := ren_pick hI sel
  constructor
  · refine ⟨hI.F, by simp [Rep.pick, Ab.pick], ?_, ?_⟩
    · intro j o r ho hr
      obtain ⟨i, o0, h1, h2, h3, rfl⟩ := pick_spec hI hs ho hr
      exact objOk_map hren (hI.objs i o0 r h2 h3) fun b _ => ⟨rfl, fun _ => rfl⟩
    · intro j j' o o' r r' b ho hr ho' hr' e e'
      obtain ⟨i, o0, h1, h2, h3, rfl⟩ := pick_spec hI hs ho hr
      obtain ⟨i', o0', h1', h2', h3', rfl⟩ := pick_spec hI hs ho' hr'
      rw [own_map] at e e'
      have hii := hI.apart i i' o0 o0' r r' b h2 h3 h2' h3' e e'
      subst hii
      exact nodup_inj hs.nodup h1 h1'
  · refine ⟨rfl, rfl, rfl, Nat.le_refl _, fun _ _ _ h => h, ?_, fun _ _ _ => ⟨rfl, fun _ => rfl⟩, ?_⟩
    · intro i r hi hr
      have := hs.first i hi
      simp [Rep.pick, this, hr]
    · rintro b hb ⟨j, o, r, ho, hr, e⟩
      obtain ⟨i, o0, h1, h2, h3, rfl⟩ := pick_spec hI hs ho hr
      rw [own_map] at e
      exact ⟨i, o0, r, h2, h3, e⟩

def mapDs (ρ : Nat → Option Nat) : List (FuncId × List AV × List AV) → List (FuncId × List AV × List AV)
  | [] => []
  | (f, a, c) :: l => (f, maps ρ a, maps ρ c) :: mapDs ρ l

def Fr.map (ρ : Nat → Option Nat) (fr : Fr) : Fr := ⟨maps ρ fr.tmps, mapDs ρ fr.defs⟩

theorem γD_map {ρ : Nat → Option Nat} {R R2 : Rep} (h : Ren ρ R R2) : ∀ (l : List (FuncId × List AV × List AV)) (ds : List Deferred), γD R l ds → γD R2 (mapDs ρ l) ds
  | [], ds, k => by simpa only [γD, mapDs] using k
  | (f, args, cap) :: l, ds, k => by
    simp only [γD, mapDs] at k ⊢
    obtain ⟨vs, ws, ds', e, h1, h2, h3⟩ := k
    exact ⟨vs, ws, ds', e, γs_map' h _ _ h1, γs_map' h _ _ h2, γD_map h l ds' h3⟩

theorem γF.map {ρ : Nat → Option Nat} {R R2 : Rep} (h : Ren ρ R R2) {fr : Fr} {a : Act} (k : γF R fr a) : γF R2 (fr.map ρ) a := ⟨γs_map' h _ _ k.tmps, γD_map h _ _ k.defs⟩

/-- other names, fewer objects -/
theorem AM.sel {n : Nat} {K : List AI} {fr : Fr} {loc : List AObj} {Q : AOut → Fr → List AObj → Prop} (sel : List Nat) (hs : SelOk n sel loc) (h : AM P n K (fr.map (idx sel)) (pick sel loc) Q) : AM P n K fr loc Q :=
  AM.go (fun R w a b cs hI hF => ⟨R.pick sel, w, a, (hI.inv.pick hs).2, (hI.inv.pick hs).1, hF.map (ren_pick hI.inv sel), Steps.refl _ _⟩) h

/-! ### Knowing less -/
/-- what holds of a value, in whatever memory, holds of another one -/
def Wk (v v' : AV) : Prop := ∀ R x, γ R v x → γ R v' x
theorem Wk.refl (v : AV) : Wk v v := fun _ _ h => h
theorem Wk.top (v : AV) : Wk v .top := fun _ _ _ => by simp [γ]
theorem Wk.unk (sz : Nat) (es : List (List AV)) (k : Cap) : Wk (.sl sz es k) (.sl sz es .unk) := fun R x h => by
  simp only [γ] at h ⊢
  rcases h with h | ⟨b, off, cap, vs, h1, h2, h3, _, h5⟩
  · exact .inl h
  · exact .inr ⟨b, off, cap, vs, h1, h2, h3, trivial, h5⟩
theorem Wk.nils (sz : Nat) (k : Cap) : Wk .nils (.sl sz [] k) := fun R x h => by
  simp only [γ] at h ⊢
  exact .inl ⟨h, trivial⟩
theorem Wk.trans {a b c : AV} (h : Wk a b) (k : Wk b c) : Wk a c := fun R x hx => k R x (h R x hx)

def Wks : List AV → List AV → Prop
  | [], l => l = []
  | c :: cs, l => ∃ d ds, l = d :: ds ∧ Wk c d ∧ Wks cs ds
theorem Wks.refl : ∀ l, Wks l l
  | [] => rfl
  | c :: cs => ⟨c, cs, rfl, Wk.refl c, Wks.refl cs⟩
theorem Wks.nil : Wks [] [] := rfl
theorem Wks.cons {c d : AV} {cs ds : List AV} (h : Wk c d) (k : Wks cs ds) : Wks (c :: cs) (d :: ds) := ⟨d, ds, rfl, h, k⟩
theorem Wks.sound {R : Rep} : ∀ {cs ds : List AV} {vs : List Value}, Wks cs ds → γs R cs vs → γs R ds vs
  | [], ds, vs, h, k => by cases h; exact k
  | c :: cs, ds, vs, ⟨d, ds', e, h1, h2⟩, k => by
    subst e
    simp only [γs] at k ⊢
    obtain ⟨v, vs', e, k1, k2⟩ := k
    exact ⟨v, vs', e, h1 _ _ k1, Wks.sound h2 k2⟩

theorem AM.weak {n : Nat} {K : List AI} {ts ts' : List AV} {ds : List (FuncId × List AV × List AV)} {loc : List AObj} {Q : AOut → Fr → List AObj → Prop} (hw : Wks ts ts') (h : AM P n K ⟨ts', ds⟩ loc Q) : AM P n K ⟨ts, ds⟩ loc Q :=
  AM.go (fr1 := ⟨ts', ds⟩) (fun R w a b cs hI hF => ⟨R, w, a, GrowN.refl _ _ _ _, hI.inv, ⟨hw.sound hF.tmps, hF.defs⟩, Steps.refl _ _⟩) h

theorem ACalls.weak {f : FuncId} {args args' : List AV} {loc : List AObj} {Q : AV → List AObj → Prop} (hw : Wks args args') (h : ACalls P f args' loc Q) : ACalls P f args loc Q :=
  fun R w cargs hI hg => h R w cargs hI (hw.sound hg)

theorem ACalls.mono {f : FuncId} {args : List AV} {loc : List AObj} {Q Q' : AV → List AObj → Prop} (h : ACalls P f args loc Q) (hq : ∀ r l, Q r l → Q' r l) : ACalls P f args loc Q' := by
  intro R w cargs hI hg
  rcases h R w cargs hI hg with ⟨h1, h2⟩ | ⟨x, w', h1, R', loc', r, h3, h4, h5, h6⟩
  · refine .inl ⟨h1, h2.mono fun e w' ⟨x, he, R', loc', r, h3, h4, h5, h6⟩ => ⟨x, he, R', loc', r, h3, h4, h5, hq _ _ h6⟩⟩
  · exact .inr ⟨x, w', h1, R', loc', r, h3, h4, h5, hq _ _ h6⟩

end Go.Ab

namespace Go.Ab
variable {P : Program} [LibT P]

/-! ### Results -/
def resA1 (P : Program) (fr : Fr) (loc : List AObj) : ResultVar → Option (AV × DP)
  | .tmp t => some (fr.tmps.getD t .undef, dp True)
  | .cell a t =>
    match fr.tmps.getD a .undef with
    | .ptr o off =>
      match loc[o]? with
      | some (.cells cs) => partA P t cs off
      | _ => none
    | _ => none

def resAs (P : Program) (fr : Fr) (loc : List AObj) : List ResultVar → Option (List AV × DP)
  | [] => some ([], dp True)
  | r :: rs =>
    match resA1 P fr loc r, resAs P fr loc rs with
    | some (v, c), some (vs, cs) => some (v :: vs, c.and cs)
    | _, _ => none

def tupA : List AV → AV
  | [v] => v
  | l => .tup l

omit [LibT P] in
theorem res_run {R : Rep} {loc : List AObj} {w : World} (hI : Inv R loc w) {fr : Fr} {a : Act} (hF : γF R fr a) : ∀ (rs : List ResultVar) (vs : List AV) (C : DP), resAs P fr loc rs = some (vs, C) → C.p →
    ∃ xs, (rs.mapM (fun | .tmp t => pure (a.tmps.getD t Go.undef) | .cell b t => do loadVar t (← asAddr (a.tmps.getD b Go.undef)) : ResultVar → Sem Value)).run P w = .ok xs w ∧ γs R vs xs
  | [], vs, C, h, hC => by
    simp only [resAs] at h
    cases h
    exact ⟨[], by simp, by simp [γs]⟩
  | r :: rs, vs, C, h, hC => by
    simp only [resAs] at h
    split at h
    · rename_i v c vs' cs h1 h2
      cases h
      obtain ⟨xs, hx, hg⟩ := res_run hI hF rs vs' cs h2 hC.2
      have key : ∃ x, ((fun | .tmp t => pure (a.tmps.getD t Go.undef) | .cell b t => do loadVar t (← asAddr (a.tmps.getD b Go.undef)) : ResultVar → Sem Value) r).run P w = .ok x w ∧ γ R v x := by
        cases r with
        | tmp t =>
          simp only [resA1] at h1
          cases h1
          exact ⟨_, rfl, hF.eval (.tmp t)⟩
        | cell b t =>
          simp only [resA1] at h1
          split at h1
          · rename_i o off hp
            split at h1
            · rename_i cs' ho
              have hb := hF.eval (.tmp b)
              simp only [Fr.eval, Act.eval, hp, γ] at hb
              obtain ⟨rr, hr, hbv⟩ := hb
              obtain ⟨r', ws, hr', hv, h1', hrange, _⟩ := hI.cells ho
              rw [hr] at hr'; cases hr'
              obtain ⟨z, hz, hgz⟩ := partA_load h1 hC.1 hv h1' hrange
              refine ⟨z, ?_, hgz⟩
              simp only [Nat.zero_add] at hz
              simp [hbv, asAddr, hz]
            · cases h1
          · cases h1
      obtain ⟨x, hx1, hg1⟩ := key
      refine ⟨x :: xs, ?_, ?_⟩
      · rw [List.mapM_cons, Sem.run_bind, hx1]
        simp only [Result.andThen_ok]
        rw [Sem.run_bind, hx]
        rfl
      · simp only [γs]; exact ⟨x, xs, rfl, hg1, hg⟩
    · cases h

omit [LibT P] in
theorem results_run {R : Rep} {loc : List AObj} {w : World} (hI : Inv R loc w) {fr : Fr} {a : Act} (hF : γF R fr a) (fn : Func) {vs : List AV} {C : DP} (h : resAs P fr loc fn.results.toList = some (vs, C)) (hC : C.p) :
    ∃ x, (results fn a.tmps).run P w = .ok x w ∧ γ R (tupA vs) x := by
  obtain ⟨xs, hx, hg⟩ := res_run hI hF _ vs C h hC
  have hm : (fn.results.mapM (fun | .tmp t => pure (a.tmps.getD t Go.undef) | .cell b t => do loadVar t (← asAddr (a.tmps.getD b Go.undef)) : ResultVar → Sem Value)).run P w = .ok xs.toArray w := by
    rw [Array.mapM_eq_mapM_toList, Sem.run_map, hx]
    rfl
  have hlen := γs_length hg
  refine ⟨if h : xs.toArray.size = 1 then xs.toArray[0] else .tuple xs.toArray, ?_, ?_⟩
  · unfold results
    rw [Sem.run_bind]
    exact (congrArg (fun r : Result (Array Value) => r.andThen fun a w' => Sem.run P (pure (if h : a.size = 1 then a[0] else Value.tuple a)) w') hm).trans rfl
  · match xs, vs, hlen, hg with
    | [], [], _, hg => simp only [tupA]; simp [γ, γs]
    | [x], [v], _, hg => simp only [γs] at hg; simp only [tupA]; obtain ⟨y, ys, e, h1, h2⟩ := hg; cases e; simpa using h1
    | x :: y :: l, v :: u :: l', _, hg =>
      simp only [tupA]
      have : ¬ ((x :: y :: l).toArray.size = 1) := by simp
      rw [dif_neg this]
      simp only [γ]
      exact ⟨_, rfl, hg⟩

/-- what a body's end owes -/
def RetQ (P : Program) (fn : Func) (n : Nat) (Q : AV → List AObj → Prop) : AOut → Fr → List AObj → Prop := fun o fr loc =>
  o = .ret ∧ fr.defs = [] ∧ ∃ vs C, resAs P fr loc fn.results.toList = some (vs, C) ∧ C.p ∧ ∃ sel, SelOk n sel loc ∧ ∃ r, Wk ((tupA vs).map (idx sel)) r ∧ Q r (pick sel loc)

theorem calls_of_body {f : FuncId} {fn : Func} {c : Code} {args : List AV} {loc : List AObj} {Q : AV → List AObj → Prop} (hf : P.funcs[f]? = some fn) (hb : fn.body = some c)
    (h : AM P loc.length [.code c] ⟨args ++ List.replicate (fn.ntmps - args.length) .undef, []⟩ loc (RetQ P fn loc.length Q)) {R : Rep} {w : World} {cargs : List Value} (hI : InvP P R loc w) (hg : γs R args cargs) :
    Calls P f cargs.toArray w fun e w' => ∃ x, e = .returned x ∧ ∃ R' loc' r, GrowN loc.length R loc w R' loc' w' ∧ Inv R' loc' w' ∧ γ R' r x ∧ Q r loc' := by
  intro cs
  let b : Frame := { (default : Frame) with fn := f, kind := .normal }
  have hal := γs_length hg
  let a : Act := { tmps := cargs.toArray ++ Array.replicate (fn.ntmps - cargs.length) Go.undef, defers := [] }
  have henter : Frame.enter P f cargs.toArray .normal = b.at a [.code c] := by
    simp [Frame.enter, Frame.at, hf, hb, b, a]
  have hF : γF R ⟨args ++ List.replicate (fn.ntmps - args.length) .undef, []⟩ a := by
    refine ⟨?_, by simp [γD, a]⟩
    simp only [a, Array.toList_append, Array.toList_replicate]
    refine γs_append (by simpa using hg) ?_
    rw [hal]
    exact γs_replicate (by simp [γ]) _
  obtain ⟨out, R1, w1, a1, fr1, loc1, md, todo, ⟨ho, hd, vs, C, hres, hC, sel, hs, r, hwk, hq⟩, g, i1, f1, o1, s⟩ := h R w a b cs hI hF
  subst ho
  simp only [OutMode] at o1
  subst o1
  obtain ⟨x, hx, hgx⟩ := results_run i1 f1 fn hres hC
  obtain ⟨k1, k2⟩ := i1.pick hs
  refine ⟨.returned x, w1, { b.at a1 todo with mode := .returning }, ⟨x, rfl, R1.pick sel, pick sel loc1, r, g.trans k2, k1, hwk _ _ (γ_map (ren_pick i1 sel) _ _ hgx), hq⟩, ?_, rfl, rfl, ?_, rfl, fn, hf, hx⟩
  · rw [henter]; exact s
  · have := f1.defs
    rw [hd] at this
    simp only [γD] at this
    exact this

theorem ACalls.of_body {f : FuncId} {fn : Func} {c : Code} {args : List AV} {loc : List AObj} {Q : AV → List AObj → Prop} (hf : P.funcs[f]? = some fn) (hb : fn.body = some c) (hname : (fn.name == "runtime.NumGoroutine") = false)
    (h : AM P loc.length [.code c] ⟨args ++ List.replicate (fn.ntmps - args.length) .undef, []⟩ loc (RetQ P fn loc.length Q)) : ACalls P f args loc Q := by
  intro R w cargs hI hg
  exact .inl ⟨⟨fn, hf, by rw [hb]; rfl, hname⟩, calls_of_body hf hb h hI hg⟩

/-! ### Runs, as they are typed -/
/-- what is left to show behind a run -/
def RunQ (P : Program) [LibT P] (n : Nat) (Q : AOut → Fr → List AObj → Prop) (r : RunRes) : Prop := r.2.2.2 ∧ AS P n r.1 r.2.1 r.2.2.1 Q

theorem AM.run {n : Nat} {K : List AI} {fr : Fr} {loc : List AObj} {Q : AOut → Fr → List AObj → Prop} (m : Nat) (hn : n ≤ loc.length) (h : RunQ P n Q (arun P m K fr loc True)) : AM P n K fr loc Q :=
  (arun_sound m K fr loc True hn _ _ _ _ rfl h.1 h.2).2

/-! ### A call over some of the objects -/
/-- the names behind a choice: those that are chosen, then new ones -/
def emb (ρ : List Nat) (N : Nat) (i : Nat) : Nat := if i < ρ.length then ρ.getD i 0 else N + (i - ρ.length)

/-- the objects, those of the choice replaced -/
def putAll (loc : List AObj) : List Nat → List AObj → List AObj
  | i :: ρ, o :: l => putAll (loc.set i o) ρ l
  | _, _ => loc

end Go.Ab

namespace Go.Ab
variable {P : Program} [LibT P]

/-! ### What the proofs of functions use -/
def bodyOf (f : Func) : Code := f.body.getD .skip

/-- a frame of n temporaries of which only some are still wanted -/
def tops (n : Nat) (l : List (Nat × AV)) : List AV := (List.range n).map fun i => (l.lookup i).getD .top

theorem wks_cons {c d : AV} {cs ds : List AV} : Wks (c :: cs) (d :: ds) ↔ Wk c d ∧ Wks cs ds := by
  constructor
  · rintro ⟨d', ds', e, h1, h2⟩; cases e; exact ⟨h1, h2⟩
  · rintro ⟨h1, h2⟩; exact ⟨d, ds, rfl, h1, h2⟩
theorem wks_nil : Wks [] [] ↔ True := ⟨fun _ => trivial, fun _ => rfl⟩
theorem wk_refl {v : AV} : Wk v v ↔ True := ⟨fun _ => trivial, fun _ => Wk.refl v⟩
theorem wk_top {v : AV} : Wk v .top ↔ True := ⟨fun _ => trivial, fun _ => Wk.top v⟩
theorem wk_unk {sz : Nat} {es : List (List AV)} {k : Cap} : Wk (.sl sz es k) (.sl sz es .unk) ↔ True := ⟨fun _ => trivial, fun _ => Wk.unk sz es k⟩
theorem wk_nils {sz : Nat} {k : Cap} : Wk .nils (.sl sz [] k) ↔ True := ⟨fun _ => trivial, fun _ => Wk.nils sz k⟩
theorem Wk.of_eq {v v' : AV} (h : v = v') : Wk v v' := h ▸ Wk.refl v

def selB (n : Nat) (sel : List Nat) (len : Nat) : Bool := decide sel.Nodup && (List.range n).all (fun i => sel[i]? == some i) && sel.all (fun i => decide (i < len))

theorem SelOk.of {n : Nat} {sel : List Nat} {loc : List AObj} (h : selB n sel loc.length = true) : SelOk n sel loc := by
  simp only [selB, Bool.and_eq_true, decide_eq_true_eq, List.all_eq_true, List.mem_range, beq_iff_eq] at h
  exact ⟨h.1.1, h.1.2, h.2⟩

/-- fewer objects, fewer temporaries -/
theorem AM.norm {n : Nat} {K : List AI} {ts : List AV} {loc : List AObj} {Q : AOut → Fr → List AObj → Prop} (sel : List Nat) (ts' : List AV) (loc' : List AObj) (hs : selB n sel loc.length = true) (hl : pick sel loc = loc') (hw : Wks (maps (idx sel) ts) ts')
    (h : AM P n K ⟨ts', []⟩ loc' Q) : AM P n K ⟨ts, []⟩ loc Q := by
  refine AM.sel sel (SelOk.of hs) ?_
  subst hl
  exact AM.weak hw h

/-- A function that only makes new things: the same value, whatever there is. -/
def PCalls (P : Program) [LibT P] (f : FuncId) (args : List AV) (v : AV) : Prop := ACalls P f args [] fun r loc => r = v ∧ loc = []

def noName : Nat → Option Nat := fun _ => none

theorem idx_nil : idx [] = noName := rfl

/-- what the body of such a function owes -/
def RetP (P : Program) (rs : List ResultVar) (v : AV) : AOut → Fr → List AObj → Prop := fun o fr loc =>
  match o with
  | .ret => fr.defs = [] ∧ match resAs P fr loc rs with
    | some (vs, C) => C.p ∧ Wk ((tupA vs).map noName) v
    | none => False
  | .pan _ => False

theorem PCalls.of_body {f : FuncId} {fn : Func} {args : List AV} {v : AV} (hf : P.funcs[f]? = some fn) {nt : Nat} (hnt : fn.ntmps = nt) {rs : Array ResultVar} (hrs : fn.results = rs) (hb : fn.body.isSome = true) (hname : (fn.name == "runtime.NumGoroutine") = false)
    (h : AM P 0 [.code (bodyOf fn)] ⟨args ++ List.replicate (nt - args.length) .undef, []⟩ [] (RetP P rs.toList v)) : PCalls P f args v := by
  subst hnt
  subst hrs
  obtain ⟨c, hc⟩ := Option.isSome_iff_exists.1 hb
  have hbo : bodyOf fn = c := by simp [bodyOf, hc]
  rw [hbo] at h
  refine ACalls.of_body hf hc hname (h.mono ?_)
  intro o fr loc hq
  unfold RetP at hq
  cases o with
  | pan _ => exact hq.elim
  | ret =>
    simp only at hq
    obtain ⟨hd, hr⟩ := hq
    split at hr
    · rename_i vs C hres
      exact ⟨rfl, hd, vs, C, hres, hr.1, [], SelOk.of (by simp [selB]), v, hr.2, rfl, rfl⟩
    · exact hr.elim

mutual
theorem map_some : ∀ (c : AV), c.map some = c
  | .con v => by simp [AV.map]
  | .agg cs => by simp [AV.map, maps_some cs]
  | .tup cs => by simp [AV.map, maps_some cs]
  | .sl sz es k => by
    simp only [AV.map, mapss_some es]
    cases k <;> simp [Cap.map]
  | .vw sz o off len => by simp [AV.map]
  | .ptr o off => by simp [AV.map]
  | .cptr cs => by simp [AV.map, maps_some cs]
  | .mp o => by simp [AV.map]
  | .fn f a c => by simp [AV.map, maps_some a, maps_some c]
  | .ifc t v => by simp [AV.map, map_some v]
  | .gd b v => by simp [AV.map, map_some v]
  | .top => by simp [AV.map]
theorem maps_some : ∀ (cs : List AV), maps some cs = cs
  | [] => by simp [maps]
  | c :: cs => by simp [maps, map_some c, maps_some cs]
theorem mapss_some : ∀ (es : List (List AV)), mapss some es = es
  | [] => by simp [mapss]
  | e :: es => by simp [mapss, maps_some e, mapss_some es]
end

theorem InvP.bare0 {R : Rep} {loc : List AObj} {w : World} (h : InvP P R loc w) (h2 : Inv ⟨R.F, []⟩ [] w) : InvP P ⟨R.F, []⟩ [] w :=
  ⟨h2, h.size, fun b hb => by obtain ⟨i, o, r, h1, _⟩ := hb; simp at h1, h.lib⟩

theorem Inv.bare {R : Rep} {loc : List AObj} {w : World} (h : Inv R loc w) : Inv ⟨R.F, []⟩ [] w :=
  ⟨h.F, rfl, fun i o r h1 _ => by simp at h1, fun i i' o o' r r' b h1 => by simp at h1⟩

theorem γs_bare {R : Rep} {cs : List AV} {vs : List Value} (hb : bnds 0 cs) (h : γs R cs vs) : γs ⟨R.F, []⟩ cs vs := by
  refine γs_unmap (m := 0) (ρ := fun i => i) (R := R) (R1 := ⟨R.F, []⟩) ⟨fun _ _ _ h => h, fun i r hi => by omega⟩ cs vs hb ?_
  have : maps (fun i => some i) cs = cs := maps_some cs
  rw [this]; exact h

/-- such a function, called wherever -/
theorem PCalls.lift {f : FuncId} {args : List AV} {v : AV} (h : PCalls P f args v) (hb : bnds 0 args) (loc : List AObj) : ACalls P f args loc (fun r l => r = v ∧ l = loc) := by
  intro R w cargs hI hg
  have key : ∀ (x : Value) (w' : World), (∃ R' loc' r, GrowN ([] : List AObj).length ⟨R.F, []⟩ [] w R' loc' w' ∧ Inv R' loc' w' ∧ γ R' r x ∧ r = v ∧ loc' = []) →
      ∃ R' loc' r, GrowN loc.length R loc w R' loc' w' ∧ Inv R' loc' w' ∧ γ R' r x ∧ r = v ∧ loc' = loc := by
    rintro x w' ⟨R', loc', r, g, i, hx, rfl, rfl⟩
    have hno : ∀ b, ¬ owned ⟨R.F, []⟩ [] b := by rintro b ⟨i, o, r, h1, _⟩; simp at h1
    have hR : R' = ⟨R'.F, []⟩ := by
      have := i.len
      cases R' with | mk F ob => simp at this; rw [this]
    have hle : RepLe R ⟨R'.F, R.ob⟩ := ⟨g.F, fun _ _ e => e⟩
    refine ⟨⟨R'.F, R.ob⟩, loc, r, ?_, ?_, ?_, rfl, rfl⟩
    · refine ⟨g.os, g.tape, g.output, g.size, g.F, fun _ _ _ e => e, fun b hb _ => g.kept b hb (hno b), fun b _ ho => ho⟩
    · refine ⟨i.F, hI.inv.len, ?_, hI.inv.apart⟩
      intro j o rr h1 h2
      refine objOk_carry hle (hI.inv.objs j o rr h1 h2) fun b hb => ?_
      exact g.kept b (hI.inv.blk_lt ⟨j, o, rr, h1, h2, hb⟩) (hno b)
    · refine γ_mono (R := R') (R' := ⟨R'.F, R.ob⟩) ⟨fun _ _ _ e => e, fun i r e => ?_⟩ _ _ hx
      rw [hR] at e; simp at e
  rcases h ⟨R.F, []⟩ w cargs (hI.bare0 hI.inv.bare) (γs_bare hb hg) with ⟨h1, h2⟩ | ⟨x, w', h1, h2⟩
  · exact .inl ⟨h1, h2.mono fun e w' ⟨x, he, hx⟩ => ⟨x, he, key x w' hx⟩⟩
  · exact .inr ⟨x, w', h1, key x w' h2⟩

theorem AS.pcall {n : Nat} {fid : FuncId} {first cap args : List AV} {dst : Option Tmp} {k : List AI} {fr : Fr} {loc : List AObj} {Q : AOut → Fr → List AObj → Prop} (args' : List AV) {v : AV}
    (h : PCalls P fid args' v) (hw : Wks (first ++ args ++ cap) args') (hb : bnds 0 args') (hn : AM P n k (fr.put dst v) loc Q) : AS P n (.call (.fn fid first cap) args dst k) fr loc Q :=
  ⟨fid, first, cap, rfl, _, (h.lift hb loc).weak hw, by rintro r l ⟨rfl, rfl⟩; exact hn⟩

theorem AS.cond {n : Nat} {b : Bool} {K1 K2 : List AI} {fr : Fr} {loc : List AObj} {Q : AOut → Fr → List AObj → Prop} (h1 : b = true → AM P n K1 fr loc Q) (h2 : b = false → AM P n K2 fr loc Q) : AS P n (.cond (.con (.bool b)) K1 K2) fr loc Q :=
  ⟨b, rfl, h1, h2⟩


@[simp] theorem AS_ret {n : Nat} {fr : Fr} {loc : List AObj} {Q : AOut → Fr → List AObj → Prop} : AS P n .ret fr loc Q = Q .ret fr loc := rfl
@[simp] theorem AS_inLoop {n : Nat} {c : Code} {k : List AI} {fr : Fr} {loc : List AObj} {Q : AOut → Fr → List AObj → Prop} : AS P n (.inLoop c k) fr loc Q = AM P n (.inLoop c :: k) fr loc Q := rfl
@[simp] theorem AS_loop {n : Nat} {c : Code} {k : List AI} {fr : Fr} {loc : List AObj} {Q : AOut → Fr → List AObj → Prop} : AS P n (.loop c k) fr loc Q = AM P n (.inLoop c :: k) fr loc Q := rfl
@[simp] theorem AS_cond {n : Nat} {b : Bool} {K1 K2 : List AI} {fr : Fr} {loc : List AObj} {Q : AOut → Fr → List AObj → Prop} : AS P n (.cond (.con (.bool b)) K1 K2) fr loc Q ↔ (b = true → AM P n K1 fr loc Q) ∧ (b = false → AM P n K2 fr loc Q) := by
  simp [AS]

attribute [simp] arun aop pickA apure astate Fr.eval Fr.put callA lenA conv AV.cells AV.one Value.oneCell' List.range List.range.loop RunQ partA abin asIntA sliceA boundA appendA appendV elemsOf fillA chunk idx pick maps mapss AV.map Cap.map AObj.map' mapEs wks_cons wks_nil wk_refl wk_top wk_unk wk_nils tops List.lookup bnds bndss AV.bnd Cap.bnd selB wantedA opGds AV.strip AV.gdOf resAs resA1 tupA RetP bodyOf noName exitA Op.operands Call.operands List.replicate

theorem wrap_id {n : Int} (h0 : -9223372036854775808 ≤ n) (h1 : n ≤ 9223372036854775807) : IntKind.i64.wrap n = n := by
  have e1 : IntKind.i64.signed = true := rfl
  have e2 : IntKind.i64.bits = 64 := rfl
  simp only [IntKind.wrap, e1, e2, Bool.true_and]
  split
  · rename_i h; simp at h; omega
  · rename_i h; simp at h; omega

theorem gd_true (v : AV) : Wk (.gd true v) v := fun R x h => by simpa [γ] using h

end Go.Ab

namespace Go.Ab
variable {P : Program} [OwnTy P]

/-! ### Operations that read alike in more memory -/
/-- all but tokens stand as they did -/
def Ext (l l' : List AObj) : Prop := ∀ (i : Nat) (x : AObj), l[i]? = some x → (∀ b, x ≠ .tok b) → l'[i]? = some x

theorem Ext.refl (l : List AObj) : Ext l l := fun _ _ h _ => h
theorem Ext.trans {a b c : List AObj} (h : Ext a b) (k : Ext b c) : Ext a c := fun i x hx hn => k i x (h i x hx hn) hn
theorem Ext.snoc (l : List AObj) (o : AObj) : Ext l (l ++ [o]) := fun i x hx _ => by
  rw [List.getElem?_append_left (List.getElem?_eq_some_iff.1 hx).1]; exact hx
theorem Ext.app (l k : List AObj) : Ext l (l ++ k) := fun i x hx _ => by
  rw [List.getElem?_append_left (List.getElem?_eq_some_iff.1 hx).1]; exact hx
theorem Ext.tok {l : List AObj} {t : Nat} (ht : l[t]? = some (.tok true)) (b : Bool) : Ext l (l.set t (.tok b)) := fun i x hx hn => by
  by_cases h : t = i
  · subst h; rw [ht] at hx; cases hx; exact absurd rfl (hn true)
  · rw [List.getElem?_set_ne h]; exact hx

def pureOp : Op → Bool
  | .alloc _ | .box .. | .store .. | .makeMap .. | .mapUpdate .. | .insert .. | .mapEntry .. | .entryStore .. | .range .. | .next .. => false
  | .call { callee := .builtin .append, .. } => false
  | .call { callee := .value _, .. } => false
  | _ => true

def extOp (F : List FuncId) : Op → Bool
  | .alloc _ | .box .. | .makeMap .. | .range .. => true
  | .call { callee := .builtin .append, .. } => true
  | .call { callee := .value (.func f), .. } => F.contains f
  | _ => false

/-- operations that look at no object -/
def locFree : Op → Bool
  | .move _ | .assign _ | .build .. | .fieldAddr .. | .indexAddr .. | .field .. | .index .. | .binOp .. | .unOp .. | .slice .. | .extract .. | .nilCheck _ | .makeFunc .. | .pick .. | .buildSlice .. => true
  | _ => false

omit [OwnTy P] in
theorem apure_free {ev : Operand → AV} {l l' : List AObj} {op : Op} (hf : locFree op = true) : apure P ev l op = apure P ev l' op := by
  cases op with
  | unOp o t x => cases o <;> rfl
  | makeFunc f a c => cases f <;> rfl
  | _ => first | rfl | (simp [locFree] at hf; done)

omit [OwnTy P] in
theorem apure_ext {ev : Operand → AV} {l l' : List AObj} (he : Ext l l') {op : Op} {v : AV} {C : DP} (h : apure P ev l op = some (v, C)) : apure P ev l' op = some (v, C) := by
  unfold apure at h ⊢
  split at h
  any_goals exact h
  · -- load
    split at h
    · rename_i o off hp
      split at h
      · rename_i cs ho
        try simp only [hp, he _ _ ho (fun b e => by cases e)]
        exact h
      · cases h
    · rename_i cs hp; try simp only [hp]
      exact h
    · cases h
  · -- lookup
    split at h
    · rename_i kt et o ht hp
      split at h
      · rename_i es z ho hz
        try simp only [ht, hp, he _ _ ho (fun b e => by cases e), hz]
        exact h
      · rename_i es z ho hz
        try simp only [ht, hp, he _ _ ho (fun b e => by cases e), hz]
        exact h
      · cases h
    · cases h
  · -- entry
    split at h
    · rename_i o hp
      split at h
      · rename_i m since seen last ho
        split at h
        · rename_i es s hm hs
          try simp only [hp, he _ _ ho (fun b e => by cases e), he _ _ hm (fun b e => by cases e), hs]
          exact h
        · cases h
      · cases h
    · cases h
  · -- len
    split at h
    · split at h
      any_goals exact h
      · split at h
        · rename_i m ho
          rw [he _ _ ho (fun b e => by cases e)]
          exact h
        · cases h
    · cases h

theorem astate_slice {ev : Operand → AV} {l l' : List AObj} {t : TypeId} {len : Nat} {parts : Array (Nat × Operand)} {v : AV} {C : DP} (h : astate P ev l (.buildSlice t len parts) = some (v, l, C)) : astate P ev l' (.buildSlice t len parts) = some (v, l', C) := by
  unfold astate at h ⊢
  simp only at h ⊢
  split at h
  · split at h
    · split at h
      · simp only [Option.some.injEq, Prod.mk.injEq] at h ⊢
        exact ⟨h.1, trivial, h.2.2⟩
      · cases h
    · cases h
  · cases h

theorem astate_pure_ext {ev : Operand → AV} {l l' : List AObj} {op : Op} (hp : pureOp op = true) {v : AV} {C : DP} (h : astate P ev l op = some (v, l, C)) : astate P ev l' op = some (v, l', C) := by
  cases op with
  | buildSlice t len parts => exact astate_slice h
  | call c =>
    obtain ⟨callee, args, ts⟩ := c
    cases callee with
    | builtin b => cases b <;> first | (simp [pureOp] at hp; done) | (simp [astate] at h; done)
    | value f => simp [pureOp] at hp
    | invoke r m => simp [astate] at h
  | _ => first | (simp [pureOp] at hp; done) | (simp [astate] at h; done)

theorem apure_none_ext {ev : Operand → AV} {l l' : List AObj} {op : Op} (hp : pureOp op = true) (h : apure P ev l op = none) {x : AV × List AObj × DP} (hs : astate P ev l op = some x) : apure P ev l' op = none := by
  cases op with
  | buildSlice t len parts => rfl
  | call c =>
    obtain ⟨callee, args, ts⟩ := c
    cases callee with
    | builtin b => cases b <;> first | (simp [pureOp] at hp; done) | (simp [astate] at hs; done)
    | value f => simp [pureOp] at hp
    | invoke r m => simp [astate] at hs
  | _ => first | (simp [pureOp] at hp; done) | (simp [astate] at hs; done)

theorem aop_pure_ext {fr : Fr} {l l' : List AObj} (he : Ext l l') {op : Op} (hp : pureOp op = true) {v : AV} {C : DP} (h : aop P fr l op = some (v, l, C)) : aop P fr l' op = some (v, l', C) := by
  unfold aop at h ⊢
  split at h
  · split at h
    · simp only [Option.some.injEq, Prod.mk.injEq] at h ⊢
      exact ⟨h.1, trivial, h.2.2⟩
    · cases h
  · split at h
    · rename_i v' c hpu
      simp only [Option.some.injEq, Prod.mk.injEq] at h
      obtain ⟨rfl, _, rfl⟩ := h
      rw [apure_ext he hpu]
    · rename_i hpu
      rw [apure_none_ext hp hpu h]
      exact astate_pure_ext hp h

theorem astate_free {ev : Operand → AV} {l l' : List AObj} {op : Op} (hf : locFree op = true) {v : AV} {C : DP} (h : astate P ev l op = some (v, l, C)) : astate P ev l' op = some (v, l', C) := by
  cases op with
  | buildSlice t len parts => exact astate_slice h
  | _ => first | (simp [locFree] at hf; done) | (simp [astate] at h; done)

theorem aop_free {fr : Fr} {l l' : List AObj} {op : Op} (hf : locFree op = true) {v : AV} {C : DP} (h : aop P fr l op = some (v, l, C)) : aop P fr l' op = some (v, l', C) := by
  unfold aop at h ⊢
  split at h
  · split at h
    · simp only [Option.some.injEq, Prod.mk.injEq] at h ⊢
      exact ⟨h.1, trivial, h.2.2⟩
    · cases h
  · rw [apure_free (l' := l) hf] at h
    rw [apure_free (l' := l) hf]
    split at h
    · simp only [Option.some.injEq, Prod.mk.injEq] at h ⊢
      exact ⟨h.1, trivial, h.2.2⟩
    · exact astate_free hf h

theorem appendA_ext {loc loc' : List AObj} {isStr : Bool} {sz bytes : Nat} {s x v : AV} {C : DP} (h : appendA loc isStr sz bytes s x = some (v, loc', C)) : Ext loc loc' := by
  unfold appendA at h
  split at h
  · cases h
  · split at h
    · cases h; exact Ext.snoc _ _
    · split at h
      · cases h; exact Ext.snoc _ _
      · cases h
    · split at h
      · split at h
        · rename_i ht
          cases h; exact (Ext.tok ht false).trans (Ext.snoc _ _)
        · cases h
      · cases h
    · cases h

/-- is it an append to an object? -/
def vwApp (fr : Fr) (op : Op) : Bool :=
  match op with
  | .call { callee := .builtin .append, args, .. } =>
    match args.toList.map fr.eval with
    | .vw _ _ _ _ :: _ => true
    | _ => false
  | _ => false

omit [OwnTy P] in
theorem appendV_ext {loc loc' : List AObj} {isStr : Bool} {sz bytes : Nat} {s x v : AV} {C : DP} (hv : ∀ a b c d, s ≠ .vw a b c d) (h : appendV loc isStr sz bytes s x = some (v, loc', C)) : Ext loc loc' := by
  unfold appendV at h
  split at h
  · split at h
    · cases h
    · cases h; exact Ext.snoc _ _
  · exact absurd rfl (hv _ _ _ _)
  · exact appendA_ext h

theorem aop_ext {fr : Fr} {l l' : List AObj} {op : Op} {F : List FuncId} (hp : extOp F op = true) (hvw : vwApp fr op = false) {v : AV} {C : DP} (h : aop P fr l op = some (v, l', C)) : Ext l l' := by
  unfold aop at h
  split at h
  · simp [extOp] at hp
  · split at h
    · simp only [Option.some.injEq, Prod.mk.injEq] at h
      rw [h.2.1]; exact Ext.refl _
    · unfold astate at h
      split at h
      any_goals (simp [extOp] at hp; done)
      · simp only [Option.map_eq_some_iff] at h
        obtain ⟨z, hz, h⟩ := h
        cases h; exact Ext.snoc _ _
      · cases h; exact Ext.snoc _ _
      · split at h
        · rename_i s x t u hs hts
          have hv : ∀ a b c d, s ≠ .vw a b c d := by
            rintro a b c d rfl
            simp only [vwApp, hs] at hvw
            cases hvw
          split at h
          · split at h
            · split at h
              · exact appendV_ext hv h
              · exact appendA_ext h
            · cases h
          · split at h
            · split at h
              · exact appendV_ext hv h
              · exact appendA_ext h
            · cases h
          · cases h
        · cases h
      · cases h; exact Ext.snoc _ _
      · (repeat' split at h) <;> first | (cases h; exact Ext.snoc _ _) | (cases h; done)
      · cases h

/-! ### Operations that look at the same -/
structure Agree (ops : Array Oper) (o : Oper) (fr fr' : Fr) : Prop where
  opd : ∀ x ∈ o.op.operands.toList, fr.eval x = fr'.eval x
  grd : ∀ g b, o.guard = some (g, b) → ∀ d, (ops[g]?).bind (·.dst) = some d → fr.tmps.getD d .undef = fr'.tmps.getD d .undef

theorem callA_congr {fr fr' : Fr} {op : Op} (h : ∀ x ∈ op.operands.toList, fr.eval x = fr'.eval x) : callA fr op = callA fr' op := by
  unfold callA
  split
  · rename_i f args ts
    simp only [Op.operands, Call.operands] at h
    have h1 : fr.eval f = fr'.eval f := h f (by simp)
    have h2 : args.toList.map fr.eval = args.toList.map fr'.eval := List.map_congr_left fun x hx => h x (by simp at hx ⊢; exact .inr hx)
    rw [h1, h2]
  · rfl

theorem wantedA_congr {ops : Array Oper} {o : Oper} {fr fr' : Fr} (h : Agree ops o fr fr') {g : Nat × Bool} (hg : o.guard = some g) : wantedA ops fr g = wantedA ops fr' g := by
  unfold wantedA
  cases hd : (ops[g.1]?).bind (·.dst) with
  | none => rfl
  | some d => simp only; rw [h.grd g.1 g.2 hg d hd]

theorem map_parts {ev ev' : Operand → AV} {parts : Array (Nat × Operand)} (h : ∀ x ∈ (parts.toList.map (·.2)), ev x = ev' x) :
    (parts.toList.map fun p => (p.1, ev p.2)) = (parts.toList.map fun p => (p.1, ev' p.2)) ∧ (parts.toList.all fun p => (ev p.2).cells.all AV.one) = (parts.toList.all fun p => (ev' p.2).cells.all AV.one) := by
  refine ⟨List.map_congr_left fun p hp => by rw [h p.2 (List.mem_map.2 ⟨p, hp, rfl⟩)], ?_⟩
  apply Bool.eq_iff_iff.2
  simp only [List.all_eq_true]
  constructor
  · intro k p hp x hx; rw [← h p.2 (List.mem_map.2 ⟨p, hp, rfl⟩)] at hx; exact k p hp x hx
  · intro k p hp x hx; rw [h p.2 (List.mem_map.2 ⟨p, hp, rfl⟩)] at hx; exact k p hp x hx

theorem map_args {ev ev' : Operand → AV} {args : Array Operand} (h : ∀ x ∈ args.toList, ev x = ev' x) : args.toList.map ev = args.toList.map ev' := List.map_congr_left h

theorem opt_map {ev ev' : Operand → AV} {o : Option Operand} (h : ∀ x ∈ o.toArray.toList, ev x = ev' x) : o.map ev = o.map ev' := by
  cases o with
  | none => rfl
  | some x => simp [h x (by simp)]

omit [OwnTy P] in
theorem apure_congr {ev ev' : Operand → AV} {loc : List AObj} {op : Op} (h : ∀ x ∈ op.operands.toList, ev x = ev' x) : apure P ev loc op = apure P ev' loc op := by
  cases op with
  | build t parts =>
    obtain ⟨h1, h2⟩ := map_parts (by simpa [Op.operands] using h)
    unfold apure
    simp only [h1, h2]
  | slice t x lo hi mx =>
    have h0 : ev x = ev' x := h x (by simp [Op.operands])
    have h1 := opt_map (ev := ev) (ev' := ev') (o := lo) (fun y hy => h y (by simp [Op.operands] at hy ⊢; exact .inr (.inl hy)))
    have h2 := opt_map (ev := ev) (ev' := ev') (o := hi) (fun y hy => h y (by simp [Op.operands] at hy ⊢; exact .inr (.inr (.inl hy))))
    have h3 := opt_map (ev := ev) (ev' := ev') (o := mx) (fun y hy => h y (by simp [Op.operands] at hy ⊢; exact .inr (.inr (.inr hy))))
    unfold apure
    simp only [h0, h1, h2, h3]
  | makeFunc fn first cap =>
    have h1 := map_args (ev := ev) (ev' := ev') (args := first) (fun y hy => h y (by simp [Op.operands] at hy ⊢; exact .inl hy))
    have h2 := map_args (ev := ev) (ev' := ev') (args := cap) (fun y hy => h y (by simp [Op.operands] at hy ⊢; exact .inr hy))
    cases fn <;> (unfold apure; try simp only [h1, h2])
  | call c =>
    obtain ⟨callee, args, ts⟩ := c
    have h1 := map_args (ev := ev) (ev' := ev') (args := args) (fun y hy => h y (by simp [Op.operands, Call.operands] at hy ⊢; exact .inr hy))
    cases callee with
    | builtin b => cases b <;> (unfold apure; try simp only [h1])
    | _ => rfl
  | unOp a b x => have h0 : ev x = ev' x := h x (by simp [Op.operands]); cases a <;> (unfold apure; try simp only [h0])
  | move x => have h0 : ev x = ev' x := h x (by simp [Op.operands]); unfold apure; simp only [h0]
  | assign x => have h0 : ev x = ev' x := h x (by simp [Op.operands]); unfold apure; simp only [h0]
  | load t x => have h0 : ev x = ev' x := h x (by simp [Op.operands]); unfold apure; simp only [h0]
  | fieldAddr s x f => have h0 : ev x = ev' x := h x (by simp [Op.operands]); unfold apure; simp only [h0]
  | field s x f => have h0 : ev x = ev' x := h x (by simp [Op.operands]); unfold apure; simp only [h0]
  | nilCheck x => have h0 : ev x = ev' x := h x (by simp [Op.operands]); unfold apure; simp only [h0]
  | extract x i => have h0 : ev x = ev' x := h x (by simp [Op.operands]); unfold apure; simp only [h0]
  | entry x => have h0 : ev x = ev' x := h x (by simp [Op.operands]); unfold apure; simp only [h0]
  | indexAddr t x i => have h0 : ev x = ev' x := h x (by simp [Op.operands]); have h1 : ev i = ev' i := h i (by simp [Op.operands]); unfold apure; simp only [h0, h1]
  | index t x i => have h0 : ev x = ev' x := h x (by simp [Op.operands]); have h1 : ev i = ev' i := h i (by simp [Op.operands]); unfold apure; simp only [h0, h1]
  | binOp b t x i u => have h0 : ev x = ev' x := h x (by simp [Op.operands]); have h1 : ev i = ev' i := h i (by simp [Op.operands]); unfold apure; simp only [h0, h1]
  | lookup t x i ok => have h0 : ev x = ev' x := h x (by simp [Op.operands]); have h1 : ev i = ev' i := h i (by simp [Op.operands]); unfold apure; simp only [h0, h1]
  | _ => rfl

theorem astate_congr {ev ev' : Operand → AV} {loc : List AObj} {op : Op} (h : ∀ x ∈ op.operands.toList, ev x = ev' x) : astate P ev loc op = astate P ev' loc op := by
  cases op with
  | buildSlice t len parts =>
    obtain ⟨h1, h2⟩ := map_parts (by simpa [Op.operands] using h)
    unfold astate
    simp only [h1, h2]
  | call c =>
    obtain ⟨callee, args, ts⟩ := c
    have h1 := map_args (ev := ev) (ev' := ev') (args := args) (fun y hy => h y (by simp [Op.operands, Call.operands] at hy ⊢; exact .inr hy))
    cases callee with
    | builtin b => cases b <;> (unfold astate; try simp only [h1])
    | _ => rfl
  | makeMap t r => cases r <;> rfl
  | box t x => have h0 : ev x = ev' x := h x (by simp [Op.operands]); unfold astate; simp only [h0]
  | range t x => have h0 : ev x = ev' x := h x (by simp [Op.operands]); unfold astate; simp only [h0]
  | next x s => have h0 : ev x = ev' x := h x (by simp [Op.operands]); cases s <;> (unfold astate; try simp only [h0])
  | store t x i => have h0 : ev x = ev' x := h x (by simp [Op.operands]); have h1 : ev i = ev' i := h i (by simp [Op.operands]); unfold astate; simp only [h0, h1]
  | mapEntry t x i => have h0 : ev x = ev' x := h x (by simp [Op.operands]); have h1 : ev i = ev' i := h i (by simp [Op.operands]); unfold astate; simp only [h0, h1]
  | mapUpdate t x i y => have h0 : ev x = ev' x := h x (by simp [Op.operands]); have h1 : ev i = ev' i := h i (by simp [Op.operands]); have h2 : ev y = ev' y := h y (by simp [Op.operands]); unfold astate; simp only [h0, h1, h2]
  | insert t x i y => have h0 : ev x = ev' x := h x (by simp [Op.operands]); have h1 : ev i = ev' i := h i (by simp [Op.operands]); have h2 : ev y = ev' y := h y (by simp [Op.operands]); unfold astate; simp only [h0, h1, h2]
  | entryStore t x i y => have h0 : ev x = ev' x := h x (by simp [Op.operands]); have h1 : ev i = ev' i := h i (by simp [Op.operands]); have h2 : ev y = ev' y := h y (by simp [Op.operands]); unfold astate; simp only [h0, h1, h2]
  | _ => rfl

theorem aop_congr {fr fr' : Fr} {loc : List AObj} {op : Op} (h : ∀ x ∈ op.operands.toList, fr.eval x = fr'.eval x) : aop P fr loc op = aop P fr' loc op := by
  unfold aop
  split
  · rename_i c a b
    have h0 : fr.eval c = fr'.eval c := h c (by simp [Op.operands])
    have h1 : fr.eval a = fr'.eval a := h a (by simp [Op.operands])
    have h2 : fr.eval b = fr'.eval b := h b (by simp [Op.operands])
    simp only [h0, h1, h2]
  · rw [apure_congr h, astate_congr h]

theorem opGds_congr {fr fr' : Fr} {op : Op} (h : ∀ x ∈ op.operands.toList, fr.eval x = fr'.eval x) : opGds fr op = opGds fr' op := by
  unfold opGds
  apply Bool.eq_iff_iff.2
  simp only [List.all_eq_true]
  constructor
  · intro k x hx; rw [← h x hx]; exact k x hx
  · intro k x hx; rw [h x hx]; exact k x hx

end Go.Ab

namespace Go.Ab
variable {P : Program}

/-! ### A region whose order is drawn: what is asked of its text -/
def foldB (o : Oper) (B : List Nat) : Nat := o.after.toList.foldl (fun s e => if Region.binds .any e then s ||| 2 ^ e.on ||| B.getD e.on 0 else s) 0

def ordB (B : List Nat) (i j : Nat) : Bool := (B.getD i 0).testBit j || (B.getD j 0).testBit i

def pairOk (F : List FuncId) (ops : Array Oper) (B : List Nat) (cls : List Bool) (i : Nat) (o : Oper) (j : Nat) : Bool :=
  i == j || ordB B i j ||
    match ops[j]? with
    | none => false
    | some o' =>
      (match o'.dst with
        | some d => !(o.looksAt ops).contains d && o.dst != some d
        | none => true) &&
      !(cls.getD i false && cls.getD j false) && (!(cls.getD j false) || extOp F o'.op || locFree o.op)

def operOk (F : List FuncId) (ops : Array Oper) (B : List Nat) (cls : List Bool) (i : Nat) : Bool :=
  match ops[i]? with
  | none => false
  | some o =>
    o.after.toList.all (fun e => !Region.binds .any e || decide (e.on < i)) && (B.getD i 0 == foldB o B) && decide (B.getD i 0 < 2 ^ i) &&
    (List.range ops.size).all (pairOk F ops B cls i o)

def drawOk (F : List FuncId) (ops : Array Oper) (B : List Nat) (cls : List Bool) : Bool := (List.range ops.size).all (operOk F ops B cls)

theorem foldl_or_spec (B : List Nat) (j : Nat) : ∀ (l : List Edge) (s : Nat), (l.foldl (fun s e => if Region.binds .any e then s ||| 2 ^ e.on ||| B.getD e.on 0 else s) s).testBit j = true ↔
    s.testBit j = true ∨ ∃ e ∈ l, Region.binds .any e = true ∧ (e.on = j ∨ (B.getD e.on 0).testBit j = true)
  | [], s => by simp
  | e :: l, s => by
    simp only [List.foldl_cons]
    rw [foldl_or_spec B j l]
    by_cases hb : Region.binds .any e = true
    · simp only [hb, if_true, Nat.testBit_or, Bool.or_eq_true, Nat.testBit_two_pow, List.mem_cons, decide_eq_true_eq]
      constructor
      · rintro (((h | h) | h) | ⟨e', h1, h2, h3⟩)
        · exact .inl h
        · exact .inr ⟨e, .inl rfl, hb, .inl h⟩
        · exact .inr ⟨e, .inl rfl, hb, .inr h⟩
        · exact .inr ⟨e', .inr h1, h2, h3⟩
      · rintro (h | ⟨e', rfl | h1, h2, h3⟩)
        · exact .inl (.inl (.inl h))
        · rcases h3 with h3 | h3
          · exact .inl (.inl (.inr h3))
          · exact .inl (.inr h3)
        · exact .inr ⟨e', h1, h2, h3⟩
    · simp only [hb, Bool.false_eq_true, if_false, List.mem_cons]
      constructor
      · rintro (h | ⟨e', h1, h2, h3⟩)
        · exact .inl h
        · exact .inr ⟨e', .inr h1, h2, h3⟩
      · rintro (h | ⟨e', rfl | h1, h2, h3⟩)
        · exact .inl h
        · exact absurd h2 hb
        · exact .inr ⟨e', h1, h2, h3⟩

section
variable {ops : Array Oper} {B : List Nat} {cls : List Bool}

def inB (B : List Nat) (j i : Nat) : Prop := (B.getD i 0).testBit j = true

structure DrawOk (F : List FuncId) (ops : Array Oper) (B : List Nat) (cls : List Bool) : Prop where
  edge : ∀ i o, ops[i]? = some o → ∀ e ∈ o.after, Region.binds .any e = true → e.on < i
  spec : ∀ i o, ops[i]? = some o → ∀ j, inB B j i ↔ ∃ e ∈ o.after, Region.binds .any e = true ∧ (e.on = j ∨ inB B j e.on)
  lt : ∀ i j, i < ops.size → inB B j i → j < i
  dst : ∀ i o, ops[i]? = some o → ∀ j o', ops[j]? = some o' → i ≠ j → ∀ d, o'.dst = some d → (d ∈ o.looksAt ops ∨ o.dst = some d) → inB B j i ∨ inB B i j
  st : ∀ i j, i < ops.size → j < ops.size → i ≠ j → cls.getD i false = true → cls.getD j false = true → inB B j i ∨ inB B i j
  ext : ∀ i j o o', ops[i]? = some o → ops[j]? = some o' → i ≠ j → cls.getD j false = true → inB B j i ∨ inB B i j ∨ extOp F o'.op = true ∨ locFree o.op = true

theorem DrawOk.of {F : List FuncId} (h : drawOk F ops B cls = true) : DrawOk F ops B cls := by
  have hop : ∀ i o, ops[i]? = some o → (∀ e ∈ o.after, Region.binds .any e = true → e.on < i) ∧ B.getD i 0 = foldB o B ∧ B.getD i 0 < 2 ^ i ∧ ∀ j, j < ops.size → pairOk F ops B cls i o j = true := by
    intro i o ho
    have hi : i < ops.size := (Array.getElem?_eq_some_iff.1 ho).1
    have := List.all_eq_true.1 h i (List.mem_range.2 hi)
    simp only [operOk, ho, Bool.and_eq_true, List.all_eq_true, Bool.or_eq_true, Bool.not_eq_true', decide_eq_true_eq, beq_iff_eq, List.mem_range] at this
    obtain ⟨⟨⟨h1, h2⟩, h3⟩, h4⟩ := this
    refine ⟨fun e he hb => ?_, h2, h3, h4⟩
    rcases h1 e (Array.mem_toList_iff.2 he) with h | h
    · rw [hb] at h; cases h
    · exact h
  have hpair : ∀ i o, ops[i]? = some o → ∀ j o', ops[j]? = some o' → i ≠ j → (inB B j i ∨ inB B i j) ∨
      ((∀ d, o'.dst = some d → d ∉ o.looksAt ops ∧ o.dst ≠ some d) ∧ ¬ (cls.getD i false = true ∧ cls.getD j false = true) ∧ (cls.getD j false = true → extOp F o'.op = true ∨ locFree o.op = true)) := by
    intro i o ho j o' ho' hij
    have hj : j < ops.size := (Array.getElem?_eq_some_iff.1 ho').1
    have := (hop i o ho).2.2.2 j hj
    simp only [pairOk, ho', Bool.or_eq_true, beq_iff_eq, Bool.and_eq_true, ordB] at this
    rcases this with (h | h) | ⟨⟨h1, h2⟩, h3⟩
    · exact absurd h hij
    · exact .inl (h.imp id id)
    · refine .inr ⟨fun d hd => ?_, ?_, ?_⟩
      · rw [hd] at h1
        simp only [Bool.and_eq_true, Bool.not_eq_true', bne_iff_ne, ne_eq] at h1
        refine ⟨?_, h1.2⟩
        have h3 := h1.1
        intro hm
        rw [← List.contains_iff_mem, h3] at hm
        cases hm
      · rintro ⟨ha, hb⟩; rw [ha, hb] at h2; simp at h2
      · intro hb; rw [hb] at h3; simpa using h3
  refine ⟨fun i o ho => (hop i o ho).1, ?_, ?_, ?_, ?_, ?_⟩
  · intro i o ho j
    unfold inB
    rw [(hop i o ho).2.1]
    unfold foldB
    rw [foldl_or_spec]
    simp [Array.mem_toList_iff]
  · intro i j hi hb
    have := (hop i ops[i] (Array.getElem?_eq_getElem hi)).2.2.1
    by_cases hlt : j < i
    · exact hlt
    · exfalso
      have h2 : B.getD i 0 < 2 ^ j := Nat.lt_of_lt_of_le this (Nat.pow_le_pow_right (by omega) (by omega))
      unfold inB at hb
      rw [Nat.testBit_lt_two_pow h2] at hb
      cases hb
  · intro i o ho j o' ho' hij d hd hl
    rcases hpair i o ho j o' ho' hij with h | ⟨h, _, _⟩
    · exact h
    · rcases hl with hl | hl
      · exact absurd hl (h d hd).1
      · exact absurd hl (h d hd).2
  · intro i j hi hj hij ci cj
    rcases hpair i _ (Array.getElem?_eq_getElem hi) j _ (Array.getElem?_eq_getElem hj) hij with h | ⟨_, h, _⟩
    · exact h
    · exact absurd ⟨ci, cj⟩ h
  · intro i j o o' ho ho' hij cj
    rcases hpair i o ho j o' ho' hij with h | ⟨_, _, h⟩
    · exact h.elim .inl (.inr ∘ .inl)
    · exact .inr (.inr (h cj))
end

/-! ### Frames behind some of the operations -/
def dstAt (ops : Array Oper) (i : Nat) : Option Tmp := (ops[i]?).bind (·.dst)

def putS (ops : Array Oper) (vs : Nat → AV) (S : Nat → Bool) : Nat → Fr → Fr
  | 0, fr => fr
  | m + 1, fr => if S m then (putS ops vs S m fr).put (dstAt ops m) (vs m) else putS ops vs S m fr

theorem put_len (fr : Fr) (d : Option Tmp) (v : AV) : (fr.put d v).tmps.length = fr.tmps.length := by cases d <;> simp [Fr.put]
theorem put_defs (fr : Fr) (d : Option Tmp) (v : AV) : (fr.put d v).defs = fr.defs := by cases d <;> rfl

theorem put_get (fr : Fr) (d : Option Tmp) (v : AV) (t : Tmp) : (fr.put d v).tmps.getD t .undef = if d = some t then (if t < fr.tmps.length then v else .undef) else fr.tmps.getD t .undef := by
  cases d with
  | none => simp [Fr.put]
  | some d =>
    simp only [Fr.put, Option.some.injEq]
    by_cases h : d = t
    · subst h
      simp only [if_true]
      by_cases hl : d < fr.tmps.length
      · simp [List.getD, hl]
      · simp [List.getD, hl]
    · simp [List.getD, List.getElem?_set_ne h, h]

theorem put_comm (fr : Fr) (d e : Option Tmp) (v u : AV) (h : ∀ t, d = some t → e ≠ some t) : (fr.put d v).put e u = (fr.put e u).put d v := by
  cases d with
  | none => cases e <;> rfl
  | some d =>
    cases e with
    | none => rfl
    | some e =>
      have hne : d ≠ e := fun he => h d rfl (by rw [he])
      simp only [Fr.put]
      rw [List.set_comm _ _ hne]

section
variable (ops : Array Oper) (vs : Nat → AV)

theorem putS_len (S : Nat → Bool) (fr : Fr) : ∀ m, (putS ops vs S m fr).tmps.length = fr.tmps.length
  | 0 => rfl
  | m + 1 => by
    simp only [putS]
    split
    · rw [put_len, putS_len S fr m]
    · exact putS_len S fr m

theorem putS_congr {S S' : Nat → Bool} (fr : Fr) : ∀ m, (∀ j, j < m → S j = S' j) → putS ops vs S m fr = putS ops vs S' m fr
  | 0, _ => rfl
  | m + 1, h => by
    simp only [putS, h m (by omega), putS_congr fr m (fun j hj => h j (by omega))]

/-- what a temporary holds: by those who write it -/
theorem putS_get {S S' : Nat → Bool} (fr : Fr) (t : Tmp) : ∀ m, (∀ j, j < m → dstAt ops j = some t → S j = S' j) → (putS ops vs S m fr).tmps.getD t .undef = (putS ops vs S' m fr).tmps.getD t .undef
  | 0, _ => rfl
  | m + 1, h => by
    have ih := putS_get fr t m (fun j hj => h j (by omega))
    have hl : ∀ T, (putS ops vs T m fr).tmps.length = fr.tmps.length := fun T => putS_len ops vs T fr m
    by_cases hd : dstAt ops m = some t
    · have := h m (by omega) hd
      simp only [putS, this]
      split
      · rw [put_get, put_get, if_pos hd, if_pos hd, hl, hl]
      · exact ih
    · simp only [putS]
      split <;> split <;> simp only [put_get, if_neg hd, ih]

theorem putS_more {S : Nat → Bool} (fr : Fr) {i : Nat} (hi : S i = false) : ∀ m, i < m → (∀ j, i < j → j < m → S j = true → ∀ t, dstAt ops i = some t → dstAt ops j ≠ some t) →
    putS ops vs (fun j => S j || j == i) m fr = (putS ops vs S m fr).put (dstAt ops i) (vs i)
  | 0, h, _ => by omega
  | m + 1, h, hd => by
    by_cases him : i = m
    · subst him
      simp only [putS, hi, beq_self_eq_true, Bool.or_true, if_true, Bool.false_eq_true, if_false]
      rw [putS_congr ops vs (S' := S) fr i (fun j hj => by
        have : (j == i) = false := by simp; omega
        simp [this])]
    · have hlt : i < m := by omega
      have ih := putS_more fr hi m hlt (fun j h1 h2 h3 => hd j h1 (by omega) h3)
      have hmi : (m == i) = false := by simp; omega
      simp only [putS, hmi, Bool.or_false]
      split
      · rename_i hS
        rw [ih, put_comm _ _ _ _ _ (hd m hlt (by omega) hS)]
      · exact ih

theorem putS_defs (S : Nat → Bool) (fr : Fr) : ∀ m, (putS ops vs S m fr).defs = fr.defs
  | 0 => rfl
  | m + 1 => by
    simp only [putS]
    split
    · rw [put_defs, putS_defs S fr m]
    · exact putS_defs S fr m
end

/-- the place behind the last of some operations that change objects -/
def topS (S : Nat → Bool) : Nat → Nat
  | 0 => 0
  | m + 1 => if S m then m + 1 else topS S m

theorem topS_le (S : Nat → Bool) : ∀ m, topS S m ≤ m
  | 0 => Nat.le_refl _
  | m + 1 => by simp only [topS]; split; exact Nat.le_refl _; exact Nat.le_succ_of_le (topS_le S m)

theorem topS_hit (S : Nat → Bool) : ∀ m j, topS S m = j + 1 → S j = true ∧ j < m
  | 0, j, h => by simp [topS] at h
  | m + 1, j, h => by
    simp only [topS] at h
    split at h
    · rename_i hS
      have : m = j := by omega
      subst this
      exact ⟨hS, by omega⟩
    · obtain ⟨h1, h2⟩ := topS_hit S m j h
      exact ⟨h1, by omega⟩

theorem topS_above (S : Nat → Bool) : ∀ m j, topS S m ≤ j → j < m → S j = false
  | 0, j, _, h => by omega
  | m + 1, j, h, hj => by
    simp only [topS] at h
    split at h
    · omega
    · rename_i hS
      by_cases hjm : j = m
      · subst hjm; simpa using hS
      · exact topS_above S m j h (by omega)

/-! ### One operation, run -/
def Runs1 (P : Program) [LibT P] (ops : Array Oper) (i : Nat) (fr : Fr) (loc : List AObj) (v : AV) (loc' : List AObj) : Prop :=
  ∀ (n : Nat) (is : List Nat) (k : List AI) (Q : AOut → Fr → List AObj → Prop), n ≤ loc.length → AM P n (.ops ops is :: k) (fr.put (dstAt ops i) v) loc' Q → AM P n (.ops ops (i :: is) :: k) fr loc Q


theorem AM.drawn [LibT P] {n : Nat} {id : Nat} {ops : Array Oper} {k : List AI} {fr : Fr} {loc : List AObj} {Q : AOut → Fr → List AObj → Prop} (hm : P.follows .mixedOrders = true)
    (h : ∀ t, AM P n (.ops ops (Region.linearise .any ops t) :: k) fr loc Q) : AM P n (.code (.region id ops true) :: k) fr loc Q := by
  intro R w a b cs hI hF
  have hst := step_region_draw (P := P) (b := b) (a := a) (k := k.map AI.item) (cs := cs) (w := w) (ops := ops) (id := id)
  simp only [Region.schedule, hm, Bool.true_or, if_true] at hst
  have g0 : GrowN n R loc w R loc { w with drawn := w.drawn + 1 } := (Grow.drew R loc w).toN n
  have g1 : GrowN loc.length R loc w R loc { w with drawn := w.drawn + 1 } := (Grow.drew R loc w).toN _
  obtain ⟨out, R', w', a', fr', loc', md, todo, q, g, i, f, o, s⟩ := h (w.tape w.drawn (.order b.fn id)) R { w with drawn := w.drawn + 1 } a b cs (hI.next g1 (hI.inv.heap rfl)) hF
  exact ⟨out, R', w', a', fr', loc', md, todo, q, g0.trans g, i, f, o, Steps.head hst s⟩

/-- how many are left -/
def leftN (S : Nat → Bool) : Nat → Nat
  | 0 => 0
  | m + 1 => leftN S m + if S m then 0 else 1

theorem leftN_congr {S S' : Nat → Bool} : ∀ m, (∀ j, j < m → S j = S' j) → leftN S m = leftN S' m
  | 0, _ => rfl
  | m + 1, h => by simp only [leftN]; rw [leftN_congr m (fun j hj => h j (by omega)), h m (by omega)]

theorem leftN_less {S : Nat → Bool} {i : Nat} (hi : S i = false) : ∀ m, i < m → leftN (fun j => S j || j == i) m + 1 = leftN S m
  | 0, h => by omega
  | m + 1, h => by
    by_cases him : i = m
    · subst him
      simp only [leftN, hi, beq_self_eq_true, Bool.or_true, if_true, Bool.false_eq_true, if_false]
      rw [leftN_congr (S' := S) i (fun j hj => by
        have : (j == i) = false := by simp; omega
        simp [this])]
    · have hmi : (m == i) = false := by simp; omega
      have := leftN_less hi m (by omega)
      simp only [leftN, hmi, Bool.or_false]
      omega

theorem leftN_zero {S : Nat → Bool} : ∀ m, leftN S m = 0 → ∀ j, j < m → S j = true
  | 0, _, j, hj => by omega
  | m + 1, h, j, hj => by
    simp only [leftN] at h
    by_cases hS : S m = true
    · by_cases hjm : j = m
      · subst hjm; exact hS
      · exact leftN_zero m (by omega) j (by omega)
    · rw [if_neg hS] at h; omega

theorem leftN_pos {S : Nat → Bool} : ∀ m, leftN S m ≠ 0 → ∃ i, i < m ∧ S i = false ∧ ∀ j, j < i → S j = true
  | 0, h => by simp [leftN] at h
  | m + 1, h => by
    by_cases h0 : leftN S m = 0
    · refine ⟨m, by omega, ?_, leftN_zero m h0⟩
      simp only [leftN, h0] at h
      by_cases hS : S m = true
      · simp [hS] at h
      · simpa using hS
    · obtain ⟨i, h1, h2, h3⟩ := leftN_pos m h0
      exact ⟨i, by omega, h2, h3⟩

/-- where the operations that change objects and come ahead of one end -/
def mbOf (B : List Nat) (cls : List Bool) (i : Nat) : Nat := topS (fun j => (B.getD i 0).testBit j && cls.getD j false) i

theorem AM.draw_core [LibT P] {ops : Array Oper} {B : List Nat} {cls : List Bool} {F : List FuncId} (hok : DrawOk F ops B cls) {fr0 : Fr} (vs : Nat → AV) (LO : Nat → List AObj)
    (hLO : ∀ i, i < ops.size → cls.getD i false = false → LO (i + 1) = LO i) (hlen : ∀ i, (LO 0).length ≤ (LO i).length)
    (step : ∀ i o, ops[i]? = some o → ∀ fr, Agree ops o fr (putS ops vs (fun _ => true) i fr0) → ∀ m, m ≤ ops.size →
      (cls.getD i false = true → Runs1 P ops i fr (LO i) (vs i) (LO (i + 1))) ∧
      (cls.getD i false = false → mbOf B cls i ≤ m → (locFree o.op = true ∨ ∀ j, mbOf B cls i ≤ j → j < m → cls.getD j false = true → ∀ o', ops[j]? = some o' → extOp F o'.op = true) → Runs1 P ops i fr (LO m) (vs i) (LO m)))
    {n : Nat} {k : List AI} {Q : AOut → Fr → List AObj → Prop} (hn : n ≤ (LO 0).length) (h : AM P n k (putS ops vs (fun _ => true) ops.size fr0) (LO ops.size) Q) :
    ∀ (fuel t : Nat) (listed : Array Bool), listed.size = ops.size → leftN (fun j => listed.getD j false) ops.size ≤ fuel → (∀ i, i < ops.size → listed.getD i false = true → ∀ j, inB B j i → listed.getD j false = true) →
      AM P n (.ops ops (Region.linearise.go .any ops fuel t listed []) :: k) (putS ops vs (fun j => listed.getD j false) ops.size fr0) (LO (topS (fun j => listed.getD j false && cls.getD j false) ops.size)) Q := by
  have hdone : ∀ (listed : Array Bool), leftN (fun j => listed.getD j false) ops.size = 0 →
      AM P n (.ops ops [] :: k) (putS ops vs (fun j => listed.getD j false) ops.size fr0) (LO (topS (fun j => listed.getD j false && cls.getD j false) ops.size)) Q := by
    intro listed h0
    have hall := leftN_zero _ h0
    refine AM.still (fun w a b cs => step_region_end) ?_
    rw [putS_congr ops vs (S' := fun _ => true) fr0 ops.size hall]
    have hsame : ∀ d m, topS (fun j => listed.getD j false && cls.getD j false) ops.size + d = m → m ≤ ops.size → LO m = LO (topS (fun j => listed.getD j false && cls.getD j false) ops.size) := by
      intro d
      induction d with
      | zero => intro m hm _; rw [← hm]; rfl
      | succ d ih =>
        intro m hm hle
        obtain ⟨m', rfl⟩ : ∃ m', m = m' + 1 := ⟨m - 1, by omega⟩
        have := topS_above (fun j => listed.getD j false && cls.getD j false) ops.size m' (by omega) (by omega)
        simp only [hall m' (by omega), Bool.true_and] at this
        rw [hLO m' (by omega) this]
        exact ih m' (by omega) (by omega)
    rw [← hsame _ ops.size (Nat.add_sub_of_le (topS_le _ _)) (Nat.le_refl _)]
    exact h
  intro fuel
  induction fuel with
  | zero =>
    intro t listed hsz hf hcl
    exact hdone listed (by omega)
  | succ fuel ih =>
    intro t listed hsz hf hcl
    by_cases h0 : leftN (fun j => listed.getD j false) ops.size = 0
    · have hall := leftN_zero _ h0
      have hready : Region.ready .any ops listed = [] := by
        unfold Region.ready
        rw [List.filter_eq_nil_iff]
        intro i hi
        have hi' := List.mem_range.1 hi
        have := hall i hi'
        have hg : listed.getD i true = true := by
          simp only [Array.getD] at this ⊢
          split
          · rename_i hh; simpa [hh] using this
          · rfl
        simp [hg]
      have hgo : Region.linearise.go .any ops (fuel + 1) t listed [] = [] := by
        simp only [Region.linearise.go]
        change (match (Region.ready .any ops listed)[t % (Region.ready .any ops listed).length]? with
          | some i => Region.linearise.go .any ops fuel (t / (Region.ready .any ops listed).length) (listed.setIfInBounds i true) [i]
          | none => [].reverse) = []
        rw [hready]; rfl
      rw [hgo]
      exact hdone listed h0
    · obtain ⟨i0, hi0, hS0, hlow⟩ := leftN_pos _ h0
      have hmem : ∀ i, i ∈ Region.ready .any ops listed ↔ i < ops.size ∧ listed.getD i false = false ∧ ∀ o, ops[i]? = some o → ∀ e ∈ o.after, Region.binds .any e = true → listed.getD e.on false = true := by
        intro i
        unfold Region.ready
        simp only [List.mem_filter, List.mem_range, Bool.and_eq_true, Bool.not_eq_true']
        constructor
        · rintro ⟨h1, h2, h3⟩
          refine ⟨h1, ?_, fun o ho e he hb => ?_⟩
          · simp only [Array.getD, hsz, h1, dif_pos] at h2 ⊢; exact h2
          · rw [ho] at h3
            simp only [Option.map_some, Option.getD_some, Array.all_eq_true'] at h3
            have := h3 e he
            simpa [hb] using this
        · rintro ⟨h1, h2, h3⟩
          refine ⟨h1, ?_, ?_⟩
          · simp only [Array.getD, hsz, h1, dif_pos] at h2 ⊢; exact h2
          · rw [Array.getElem?_eq_getElem h1]
            simp only [Option.map_some, Option.getD_some, Array.all_eq_true']
            intro e he
            by_cases hb : Region.binds .any e = true
            · simp [h3 _ (Array.getElem?_eq_getElem h1) e he hb]
            · simp [hb]
      have hne : Region.ready .any ops listed ≠ [] := by
        intro hnil
        have : i0 ∈ Region.ready .any ops listed := (hmem i0).2 ⟨hi0, hS0, fun o ho e he hb => hlow e.on (hok.edge i0 o ho e he hb)⟩
        rw [hnil] at this; cases this
      have hpos : 0 < (Region.ready .any ops listed).length := List.length_pos_iff.2 hne
      obtain ⟨i, hi⟩ : ∃ i, (Region.ready .any ops listed)[t % (Region.ready .any ops listed).length]? = some i := ⟨_, List.getElem?_eq_getElem (Nat.mod_lt _ hpos)⟩
      have hgo : Region.linearise.go .any ops (fuel + 1) t listed [] = i :: Region.linearise.go .any ops fuel (t / (Region.ready .any ops listed).length) (listed.setIfInBounds i true) [] := by
        simp only [Region.linearise.go]
        change (match (Region.ready .any ops listed)[t % (Region.ready .any ops listed).length]? with
          | some i => Region.linearise.go .any ops fuel (t / (Region.ready .any ops listed).length) (listed.setIfInBounds i true) [i]
          | none => [].reverse) = _
        rw [hi]
        simp only []
        rw [linearise_go_acc]
        rfl
      obtain ⟨hilt, hiS, hedges⟩ := (hmem i).1 (List.mem_of_getElem? hi)
      have ho : ops[i]? = some ops[i] := Array.getElem?_eq_getElem hilt
      -- what comes ahead of it is listed
      have hbef : ∀ j, inB B j i → listed.getD j false = true := by
        intro j hj
        obtain ⟨e, he, hb, hor⟩ := (hok.spec i _ ho j).1 hj
        have hl := hedges _ ho e he hb
        rcases hor with rfl | hor
        · exact hl
        · exact hcl e.on (by have := hok.edge i _ ho e he hb; omega) hl j hor
      have hnot : ∀ j, j < ops.size → listed.getD j false = true → ¬ inB B i j := fun j hj hl hb => by
        have := hcl j hj hl i hb
        rw [hiS] at this; cases this
      have hget : ∀ j, (listed.setIfInBounds i true).getD j false = (listed.getD j false || j == i) := by
        intro j
        simp only [Array.getD_eq_getD_getElem?, Array.getElem?_setIfInBounds]
        by_cases hj : j = i
        · subst hj; simp [hsz, hilt]
        · have : (j == i) = false := by simpa using hj
          simp only [this, Bool.or_false, if_neg (Ne.symm hj)]
      have hfun : (fun j => (listed.setIfInBounds i true).getD j false) = fun j => listed.getD j false || j == i := funext hget
      rw [hgo]
      -- the frame
      have hput : putS ops vs (fun j => listed.getD j false || j == i) ops.size fr0 = (putS ops vs (fun j => listed.getD j false) ops.size fr0).put (dstAt ops i) (vs i) := by
        refine putS_more ops vs fr0 hiS ops.size hilt ?_
        intro j h1 h2 hj t hd hdj
        have hoj : ops[j]? = some ops[j] := Array.getElem?_eq_getElem h2
        simp only [dstAt, ho, hoj, Option.bind_some] at hd hdj
        rcases hok.dst i _ ho j _ hoj (by omega) t hdj (.inr hd) with hb | hb
        · have := hok.lt i j hilt hb; omega
        · exact hnot j h2 hj hb
      have hagree : Agree ops ops[i] (putS ops vs (fun j => listed.getD j false) ops.size fr0) (putS ops vs (fun _ => true) i fr0) := by
        have hext : putS ops vs (fun _ => true) i fr0 = putS ops vs (fun j => decide (j < i)) ops.size fr0 := by
          have : ∀ m, i ≤ m → putS ops vs (fun j => decide (j < i)) m fr0 = putS ops vs (fun _ => true) i fr0 := by
            intro m
            induction m with
            | zero => intro hm; have : i = 0 := by omega
                      subst this; rfl
            | succ m ihm =>
              intro hm
              by_cases him : i = m + 1
              · subst him
                exact putS_congr ops vs fr0 (m + 1) (fun j hj => by simp [hj])
              · have h1 : ¬ m < i := by omega
                simp only [putS, h1, decide_false, Bool.false_eq_true, if_false]
                exact ihm (by omega)
          exact (this ops.size (by omega)).symm
        have key : ∀ t, t ∈ ops[i].looksAt ops → (putS ops vs (fun j => listed.getD j false) ops.size fr0).tmps.getD t .undef = (putS ops vs (fun _ => true) i fr0).tmps.getD t .undef := by
          intro t ht
          rw [hext]
          refine putS_get ops vs fr0 t ops.size ?_
          intro j hj hd
          have hoj : ops[j]? = some ops[j] := Array.getElem?_eq_getElem hj
          simp only [dstAt, hoj, Option.bind_some] at hd
          by_cases hij : i = j
          · subst hij
            simp only [Nat.lt_irrefl, decide_false]; exact hiS
          · rcases hok.dst i _ ho j _ hoj hij t hd (.inl ht) with hb | hb
            · have h1 := hok.lt i j hilt hb
              simp only [h1, decide_true]; exact hbef j hb
            · have h1 := hok.lt j i hj hb
              have h2 : ¬ j < i := by omega
              simp only [h2, decide_false]
              cases hl : listed.getD j false with
              | false => rfl
              | true => exact absurd hb (hnot j hj hl)
        constructor
        · intro x hx
          cases x with
          | tmp t =>
            simp only [Fr.eval]
            refine key t ?_
            simp only [Oper.looksAt, List.mem_append, List.mem_filterMap]
            exact .inl ⟨.tmp t, hx, rfl⟩
          | _ => rfl
        · intro g b hg d hd
          refine key d ?_
          simp only [Oper.looksAt, hg, List.mem_append]
          exact .inr (by rw [hd]; simp)
      -- the objects
      have hcls : ∀ d m, topS (fun j => listed.getD j false && cls.getD j false) ops.size + d = m → m ≤ ops.size → (∀ j, topS (fun j => listed.getD j false && cls.getD j false) ops.size ≤ j → j < m → cls.getD j false = false) → LO m = LO (topS (fun j => listed.getD j false && cls.getD j false) ops.size) := by
        intro d
        induction d with
        | zero => intro m hm _ _; rw [← hm]; rfl
        | succ d ihd =>
          intro m hm hle hcl'
          obtain ⟨m', rfl⟩ : ∃ m', m = m' + 1 := ⟨m - 1, by omega⟩
          rw [hLO m' (by omega) (hcl' m' (by omega) (by omega))]
          exact ihd m' (by omega) (by omega) (fun j h1 h2 => hcl' j h1 (by omega))
      have htop := topS_le (fun j => listed.getD j false && cls.getD j false) ops.size
      have hstep := step i _ ho _ hagree (topS (fun j => listed.getD j false && cls.getD j false) ops.size) htop
      have hrec := ih (t / (Region.ready .any ops listed).length) (listed.setIfInBounds i true) (by simpa using hsz) (by
          have := leftN_less (S := fun j => listed.getD j false) hiS ops.size hilt
          rw [hfun]; omega) (by
          intro a ha hl j hj
          rw [hget] at hl ⊢
          simp only [Bool.or_eq_true, beq_iff_eq] at hl ⊢
          rcases hl with hl | rfl
          · exact .inl (hcl a ha hl j hj)
          · exact .inl (hbef j hj))
      rw [hfun, hput] at hrec
      have hcong : topS (fun j => (listed.setIfInBounds i true).getD j false && cls.getD j false) ops.size = topS (fun j => (listed.getD j false || j == i) && cls.getD j false) ops.size := by simp only [hget]
      rw [hcong] at hrec
      cases hc : cls.getD i false with
      | true =>
        -- all that changes objects and is listed comes ahead of it
        have hchain : ∀ j, j < ops.size → j ≠ i → cls.getD j false = true → (listed.getD j false = true ↔ j < i) := by
          intro j hj hji hcj
          rcases hok.st i j hilt hj (Ne.symm hji) hc hcj with hb | hb
          · exact ⟨fun _ => hok.lt i j hilt hb, fun _ => hbef j hb⟩
          · have h1 := hok.lt j i hj hb
            refine ⟨fun hl => absurd hb (hnot j hj hl), fun h2 => by omega⟩
        have htopi : topS (fun j => listed.getD j false && cls.getD j false) ops.size ≤ i := by
          cases htt : topS (fun j => listed.getD j false && cls.getD j false) ops.size with
          | zero => omega
          | succ j =>
            obtain ⟨h1, h2⟩ := topS_hit _ _ _ htt
            simp only [Bool.and_eq_true] at h1
            have hji : j ≠ i := fun e => by subst e; rw [hiS] at h1; cases h1.1
            have := (hchain j h2 hji h1.2).1 h1.1
            omega
        have hLi : LO i = LO (topS (fun j => listed.getD j false && cls.getD j false) ops.size) := by
          refine hcls (i - topS (fun j => listed.getD j false && cls.getD j false) ops.size) i (by omega) (by omega) ?_
          intro j h1 h2
          cases hcj : cls.getD j false with
          | false => rfl
          | true =>
            have hl := (hchain j (by omega) (by omega) hcj).2 h2
            have := topS_above _ _ _ h1 (by omega)
            simp only [hl, hcj, Bool.and_self] at this
            cases this
        have htop' : topS (fun j => (listed.getD j false || j == i) && cls.getD j false) ops.size = i + 1 := by
          have hge : ∀ m, i < m → m ≤ ops.size → topS (fun j => (listed.getD j false || j == i) && cls.getD j false) m = i + 1 := by
            intro m
            induction m with
            | zero => intro h1; omega
            | succ m ihm =>
              intro h1 h2
              simp only [topS]
              by_cases hmi : m = i
              · subst hmi; simp only [beq_self_eq_true, Bool.or_true, hc, Bool.and_self, if_true]
              · have hf : ((listed.getD m false || m == i) && cls.getD m false) = false := by
                  have : (m == i) = false := by simpa using hmi
                  rw [this, Bool.or_false]
                  cases hcm : cls.getD m false with
                  | false => simp
                  | true =>
                    cases hl : listed.getD m false with
                    | false => rfl
                    | true => have := (hchain m (by omega) hmi hcm).1 hl; omega
                simp only [hf, Bool.false_eq_true, if_false]
                exact ihm (by omega) (by omega)
          exact hge ops.size hilt (Nat.le_refl _)
        rw [htop'] at hrec
        rw [← hLi]
        exact hstep.1 hc n _ k Q (Nat.le_trans hn (hlen i)) hrec
      | false =>
        have htop' : topS (fun j => (listed.getD j false || j == i) && cls.getD j false) ops.size = topS (fun j => listed.getD j false && cls.getD j false) ops.size := by
          congr 1
          funext j
          by_cases hji : j = i
          · subst hji; simp only [hc, Bool.and_false]
          · have : (j == i) = false := by simpa using hji
            simp [this]
        rw [htop'] at hrec
        have hmb : mbOf B cls i ≤ topS (fun j => listed.getD j false && cls.getD j false) ops.size := by
          cases htt : mbOf B cls i with
          | zero => omega
          | succ j =>
            obtain ⟨h1, h2⟩ := topS_hit _ _ _ htt
            simp only [Bool.and_eq_true] at h1
            by_cases hle : topS (fun j => listed.getD j false && cls.getD j false) ops.size ≤ j
            · have := topS_above _ _ _ hle (by omega)
              simp only [hbef j h1.1, h1.2] at this
              cases this
            · omega
        refine hstep.2 hc hmb ?_ n _ k Q (Nat.le_trans hn (hlen _)) hrec
        by_cases hfree : locFree ops[i].op = true
        · exact .inl hfree
        refine .inr ?_
        intro j h1 h2 hcj o' ho'
        have hjs : j < ops.size := by omega
        have hji : j ≠ i := fun e => by subst e; rw [hc] at hcj; cases hcj
        -- the last one that is listed
        have hlj : listed.getD j false = true := by
          cases htt : topS (fun j => listed.getD j false && cls.getD j false) ops.size with
          | zero => omega
          | succ J =>
            obtain ⟨k1, k2⟩ := topS_hit _ _ _ htt
            simp only [Bool.and_eq_true] at k1
            by_cases hjJ : j = J
            · subst hjJ; exact k1.1
            · rcases hok.st J j k2 hjs (Ne.symm hjJ) k1.2 hcj with hb | hb
              · exact hcl J k2 k1.1 j hb
              · have := hok.lt j J hjs hb; omega
        rcases hok.ext i j _ o' ho ho' (Ne.symm hji) hcj with hb | hb | hb | hb
        · exfalso
          have h3 := hok.lt i j hilt hb
          have := topS_above _ _ _ h1 h3
          have hb' : (B.getD i 0).testBit j = true := hb
          simp only [hb', hcj] at this
          cases this
        · exact absurd hb (hnot j hjs hlj)
        · exact hb
        · exact absurd hb hfree

end Go.Ab

namespace Go.Ab
variable {P : Program} [LibT P]

def wantG (ops : Array Oper) (fr : Fr) (o : Oper) : Option Bool :=
  match o.guard with
  | none => some true
  | some g => wantedA ops fr g

/-- what one operation of a drawn region comes to, where its turn is by the text -/
inductive Ev1 (P : Program) [LibT P] (F : List FuncId) (ops : Array Oper) (o : Oper) (fr : Fr) : Bool → List AObj → List AObj → List AObj → AV → Prop where
  | skip {c : Bool} {loc0 loc : List AObj} : wantG ops fr o = some false → Ev1 P F ops o fr c loc0 loc loc .undef
  | pure {loc0 loc : List AObj} {v : AV} {C : DP} : wantG ops fr o = some true → callA fr o.op = none → pureOp o.op = true → aop P fr loc0 o.op = some (v, loc0, C) → C.p → Ev1 P F ops o fr false loc0 loc loc v
  | state {loc0 loc loc' : List AObj} {v : AV} {C : DP} : wantG ops fr o = some true → callA fr o.op = none → aop P fr loc o.op = some (v, loc', C) → C.p → vwApp fr o.op = false → Ev1 P F ops o fr true loc0 loc loc' v
  | pcall {loc0 loc : List AObj} {v : AV} {fid : FuncId} {first cap args : List AV} : wantG ops fr o = some true → callA fr o.op = some (.fn fid first cap, args) → (∀ l, ACalls P fid (first ++ args ++ cap) l fun r l' => r = v ∧ l' = l) → Ev1 P F ops o fr false loc0 loc loc v
  | scall {loc0 loc loc' : List AObj} {v : AV} {fid : FuncId} {first cap args : List AV} : wantG ops fr o = some true → callA fr o.op = some (.fn fid first cap, args) → loc.length ≤ loc'.length → ACalls P fid (first ++ args ++ cap) loc (fun r l' => r = v ∧ l' = loc') → (extOp F o.op = true → Ext loc loc') → Ev1 P F ops o fr true loc0 loc loc' v
  | gpure {loc0 loc : List AObj} {v : AV} {C : DP} {g : Nat × Bool} {b : Bool} : o.guard = some g → wantedA ops fr g = some b → apure P (fun x => (fr.eval x).strip) loc0 o.op = some (v, C) → (b = true → C.p ∧ opGds fr o.op = true) → Ev1 P F ops o fr false loc0 loc loc (.gd b v)
  | gpcall {loc0 loc : List AObj} {v : AV} {fid : FuncId} {first cap args : List AV} {g : Nat × Bool} {b : Bool} : o.guard = some g → wantedA ops fr g = some b → (b = true → callA fr o.op = some (.fn fid first cap, args) ∧ ∀ l, ACalls P fid (first ++ args ++ cap) l fun r l' => r = v ∧ l' = l) → Ev1 P F ops o fr false loc0 loc loc (.gd b v)

omit [LibT P] in
theorem wantG_congr {ops : Array Oper} {o : Oper} {fr fr' : Fr} (h : Agree ops o fr fr') : wantG ops fr o = wantG ops fr' o := by
  unfold wantG
  cases hg : o.guard with
  | none => rfl
  | some g => exact wantedA_congr h hg

omit [LibT P] in
theorem wantG_spec {R : Rep} {ops : Array Oper} {o : Oper} {fr : Fr} {a : Act} {b : Bool} (h : wantG ops fr o = some b) (hF : γF R fr a) : Region.wanted o (yielded ops a.tmps) = b := by
  unfold wantG at h
  cases hg : o.guard with
  | none =>
    rw [hg] at h
    simp only [Option.some.injEq] at h
    subst h
    simp [Region.wanted, hg]
  | some g =>
    rw [hg] at h
    exact wanted_of hF hg h

omit [LibT P] in
theorem dstAt_eq {ops : Array Oper} {i : Nat} {o : Oper} (ho : ops[i]? = some o) : dstAt ops i = o.dst := by simp [dstAt, ho]

theorem ACalls.retv {f : FuncId} {args : List AV} {loc loc' : List AObj} {v v' : AV} (h : ACalls P f args loc (fun r l => r = v ∧ l = loc')) (hw : Wk v v') : ACalls P f args loc (fun r l => r = v' ∧ l = loc') := by
  intro R w cargs hI hg
  have key : ∀ (x : Value) (w' : World), (∃ R' l r, GrowN loc.length R loc w R' l w' ∧ Inv R' l w' ∧ γ R' r x ∧ r = v ∧ l = loc') → ∃ R' l r, GrowN loc.length R loc w R' l w' ∧ Inv R' l w' ∧ γ R' r x ∧ r = v' ∧ l = loc' := by
    rintro x w' ⟨R', l, r, h1, h2, h3, rfl, rfl⟩
    exact ⟨R', _, v', h1, h2, hw _ _ h3, rfl, rfl⟩
  rcases h R w cargs hI hg with ⟨h1, h2⟩ | ⟨x, w', h1, h2⟩
  · exact .inl ⟨h1, h2.mono fun e w' ⟨x, he, hx⟩ => ⟨x, he, key x w' hx⟩⟩
  · exact .inr ⟨x, w', h1, key x w' h2⟩

theorem runs_skip {ops : Array Oper} {i : Nat} {o : Oper} (ho : ops[i]? = some o) {fr : Fr} (h : wantG ops fr o = some false) (loc : List AObj) : Runs1 P ops i fr loc .undef loc := by
  intro n is k Q hn hA
  rw [dstAt_eq ho] at hA
  refine AM.go (fun R w a b cs hI hF => ?_) hA
  have hwc := wantG_spec h hF
  have hs := step_op_skip (P := P) (b := b) (a := a) (k := k.map AI.item) (cs := cs) (w := w) (ops := ops) (i := i) (rest := is) (by simp [ho, hwc])
  simp only [ho, Option.bind_some] at hs
  exact ⟨R, w, a.put o.dst Go.undef, GrowN.refl _ _ _ _, hI.inv, hF.put o.dst (by simp [γ]), .one hs⟩

theorem runs_aop {ops : Array Oper} {i : Nat} {o : Oper} (ho : ops[i]? = some o) {fr : Fr} (h : wantG ops fr o = some true) {loc loc' : List AObj} {v : AV} {C : DP} (ha : aop P fr loc o.op = some (v, loc', C)) (hC : C.p) : Runs1 P ops i fr loc v loc' := by
  intro n is k Q hn hA
  rw [dstAt_eq ho] at hA
  exact AM.op ho (fun R w a hI hF => ⟨wantG_spec h hF, aop_sound o (fun x => hF.eval x) hI ha hC⟩) hA

theorem runs_call {ops : Array Oper} {i : Nat} {o : Oper} (ho : ops[i]? = some o) {fr : Fr} (h : wantG ops fr o = some true) {loc loc' : List AObj} {v : AV} {fid : FuncId} {first cap args : List AV} (hc : callA fr o.op = some (.fn fid first cap, args))
    (hA : ACalls P fid (first ++ args ++ cap) loc (fun r l' => r = v ∧ l' = loc')) : Runs1 P ops i fr loc v loc' := by
  intro n is k Q hn hQ
  rw [dstAt_eq ho] at hQ
  exact AM.call ho hc (fun R a hF => wantG_spec h hF) rfl hn hA (by rintro r l ⟨rfl, rfl⟩; exact hQ)

theorem runs_gpure {ops : Array Oper} {i : Nat} {o : Oper} (ho : ops[i]? = some o) {fr : Fr} {g : Nat × Bool} {b : Bool} (hg : o.guard = some g) (hw : wantedA ops fr g = some b) {loc : List AObj} {v : AV} {C : DP} (ha : apure P (fun x => (fr.eval x).strip) loc o.op = some (v, C))
    (hC : b = true → C.p ∧ opGds fr o.op = true) : Runs1 P ops i fr loc (.gd b v) loc := by
  intro n is k Q hn hQ
  rw [dstAt_eq ho] at hQ
  refine AM.opGuarded ho hg hw (fun hb R w a hI hF => ?_) hQ
  obtain ⟨c1, c2⟩ := hC hb
  exact apure_sound o (fun x hx => strip_of (hF.eval x) (List.all_eq_true.1 c2 x hx)) hI ha c1

theorem runs_gpcall {ops : Array Oper} {i : Nat} {o : Oper} (ho : ops[i]? = some o) {fr : Fr} {g : Nat × Bool} {b : Bool} (hg : o.guard = some g) (hw : wantedA ops fr g = some b) {loc : List AObj} {v : AV} {fid : FuncId} {first cap args : List AV}
    (hc : b = true → callA fr o.op = some (.fn fid first cap, args) ∧ ∀ l, ACalls P fid (first ++ args ++ cap) l fun r l' => r = v ∧ l' = l) : Runs1 P ops i fr loc (.gd b v) loc := by
  intro n is k Q hn hQ
  rw [dstAt_eq ho] at hQ
  cases b with
  | true =>
    obtain ⟨h1, h2⟩ := hc rfl
    have hwt : wantG ops fr o = some true := by unfold wantG; rw [hg]; exact hw
    have h3 := (h2 loc).retv (v' := .gd true v) (fun R x hx => by simpa [γ] using hx)
    have := runs_call (P := P) ho hwt h1 h3 n is k Q hn
    rw [dstAt_eq ho] at this
    exact this hQ
  | false =>
    refine AM.go (fun R w a b cs hI hF => ?_) hQ
    have hwc := wanted_of hF hg hw
    have hs := step_op_skip (P := P) (b := b) (a := a) (k := k.map AI.item) (cs := cs) (w := w) (ops := ops) (i := i) (rest := is) (by simp [ho, hwc])
    simp only [ho, Option.bind_some] at hs
    exact ⟨R, w, a.put o.dst Go.undef, GrowN.refl _ _ _ _, hI.inv, hF.put o.dst (by simp [γ]), .one hs⟩


omit [LibT P] in
theorem ext_of_kind {fr : Fr} {o : Oper} {l l' : List AObj} {c : Bool} {l0 : List AObj} {v : AV} [LibT P] {ops : Array Oper} {F : List FuncId} (hx : extOp F o.op = true) (h : Ev1 P F ops o fr c l0 l l' v) : Ext l l' := by
  cases h with
  | skip _ => exact Ext.refl _
  | pure _ _ _ _ _ => exact Ext.refl _
  | state _ _ ha _ hv => exact aop_ext hx hv ha
  | pcall _ _ _ => exact Ext.refl _
  | scall _ _ _ _ h => exact h hx
  | gpure _ _ _ _ => exact Ext.refl _
  | gpcall _ _ _ => exact Ext.refl _

theorem len_of_ev {F : List FuncId} {fr : Fr} {o : Oper} {l l' : List AObj} {c : Bool} {l0 : List AObj} {v : AV} {ops : Array Oper} (h : Ev1 P F ops o fr c l0 l l' v) : l.length ≤ l'.length := by
  cases h with
  | skip _ => exact Nat.le_refl _
  | pure _ _ _ _ _ => exact Nat.le_refl _
  | state _ _ ha _ _ => exact aop_len ha
  | pcall _ _ _ => exact Nat.le_refl _
  | scall _ hc hl _ _ => exact hl
  | gpure _ _ _ _ => exact Nat.le_refl _
  | gpcall _ _ _ => exact Nat.le_refl _

theorem repl_false (n i : Nat) : (Array.replicate n false).getD i false = false := by
  simp only [Array.getD_eq_getD_getElem?, Array.getElem?_replicate]
  split <;> rfl

theorem AM.draw {F : List FuncId} {ops : Array Oper} {B : List Nat} {cls : List Bool} (hm : P.follows .mixedOrders = true) (hok : drawOk F ops B cls = true) {fr0 : Fr} (vs : Nat → AV) (LO : Nat → List AObj)
    (hev : ∀ i o, ops[i]? = some o → Ev1 P F ops o (putS ops vs (fun _ => true) i fr0) (cls.getD i false) (LO (mbOf B cls i)) (LO i) (LO (i + 1)) (vs i))
    {n id : Nat} {k : List AI} {Q : AOut → Fr → List AObj → Prop} (hn : n ≤ (LO 0).length) (h : AM P n k (putS ops vs (fun _ => true) ops.size fr0) (LO ops.size) Q) :
    AM P n (.code (.region id ops true) :: k) fr0 (LO 0) Q := by
  have hD := DrawOk.of hok
  have hLO : ∀ i, i < ops.size → cls.getD i false = false → LO (i + 1) = LO i := by
    intro i hi hc
    have := hev i _ (Array.getElem?_eq_getElem hi)
    rw [hc] at this
    generalize LO (i + 1) = l' at this ⊢
    generalize LO i = l at this ⊢
    generalize vs i = v at this
    cases this <;> rfl
  have hlen : ∀ i, i ≤ ops.size → (LO 0).length ≤ (LO i).length := by
    intro i
    induction i with
    | zero => intro _; exact Nat.le_refl _
    | succ i ih => intro hi; exact Nat.le_trans (ih (by omega)) (len_of_ev (hev i _ (Array.getElem?_eq_getElem (by omega : i < ops.size))))
  refine AM.drawn hm fun t => ?_
  let LO' : Nat → List AObj := fun i => if i ≤ ops.size then LO i else LO 0
  have hLO'' : ∀ i, i ≤ ops.size → LO' i = LO i := fun i hi => by simp [LO', hi]
  have hcore := AM.draw_core (P := P) hD (fr0 := fr0) vs LO' (fun i hi hc => by rw [hLO'' _ (by omega), hLO'' _ (by omega)]; exact hLO i hi hc)
    (fun i => by
      rw [hLO'' 0 (by omega)]
      by_cases hi : i ≤ ops.size
      · rw [hLO'' i hi]; exact hlen i hi
      · simp [LO', hi]) ?_ (n := n) (k := k) (Q := Q) (by rw [hLO'' 0 (by omega)]; exact hn) (by rw [hLO'' _ (Nat.le_refl _)]; exact h) ops.size t (Array.replicate ops.size false) (by simp) ?_ ?_
  · have e0 : putS ops vs (fun j => (Array.replicate ops.size false).getD j false) ops.size fr0 = fr0 := by
      have : ∀ m, putS ops vs (fun j => (Array.replicate ops.size false).getD j false) m fr0 = fr0 := by
        intro m
        induction m with
        | zero => rfl
        | succ m ih =>
          have hf : (Array.replicate ops.size false).getD m false = false := repl_false _ _
          simp only [putS, hf, Bool.false_eq_true, if_false, ih]
      exact this _
    have e1 : topS (fun j => (Array.replicate ops.size false).getD j false && cls.getD j false) ops.size = 0 := by
      have : ∀ m, topS (fun j => (Array.replicate ops.size false).getD j false && cls.getD j false) m = 0 := by
        intro m
        induction m with
        | zero => rfl
        | succ m ih =>
          have hf : (Array.replicate ops.size false).getD m false = false := repl_false _ _
          simp only [topS, hf, Bool.false_and, Bool.false_eq_true, if_false, ih]
      exact this _
    rw [e0, e1, hLO'' 0 (by omega)] at hcore
    exact hcore
  · intro i o ho fr hag m hmle
    have hi : i < ops.size := (Array.getElem?_eq_some_iff.1 ho).1
    have e := hev i o ho
    have hca := callA_congr hag.opd
    have hwg := wantG_congr hag
    constructor
    · intro hc
      rw [hc] at e
      rw [hLO'' i (by omega), hLO'' (i + 1) (by omega)]
      generalize LO (i + 1) = l' at e ⊢
      generalize LO i = l at e ⊢
      generalize vs i = v at e ⊢
      cases e with
      | skip h1 => exact runs_skip ho (hwg.trans h1) _
      | state h1 h2 h3 h4 => exact runs_aop ho (hwg.trans h1) ((aop_congr hag.opd).trans h3) h4
      | scall h1 h2 h3 h4 => exact runs_call ho (hwg.trans h1) (hca.trans h2) h4
    · intro hc hmb hext
      have hExt : ∀ d m, mbOf B cls i + d = m → m ≤ ops.size → (∀ j, mbOf B cls i ≤ j → j < m → cls.getD j false = true → ∀ o', ops[j]? = some o' → extOp F o'.op = true) → Ext (LO (mbOf B cls i)) (LO m) := by
        intro d
        induction d with
        | zero => intro m hm _ _; rw [← hm]; exact Ext.refl _
        | succ d ih =>
          intro m hm hle hx
          obtain ⟨m', rfl⟩ : ∃ m', m = m' + 1 := ⟨m - 1, by omega⟩
          refine (ih m' (by omega) (by omega) (fun j h1 h2 => hx j h1 (by omega))).trans ?_
          have hm's : m' < ops.size := by omega
          have ho' : ops[m']? = some ops[m'] := Array.getElem?_eq_getElem hm's
          cases hcm : cls.getD m' false with
          | false => rw [hLO m' hm's hcm]; exact Ext.refl _
          | true => exact ext_of_kind (hx m' (by omega) (by omega) hcm _ ho') (hev m' _ ho')
      have hE : locFree o.op = true ∨ Ext (LO (mbOf B cls i)) (LO m) := hext.imp (fun hf => hf) fun hx => hExt (m - mbOf B cls i) m (by omega) hmle hx
      rw [hc, hLO i hi hc] at e
      rw [hLO'' m hmle]
      generalize LO i = l at e
      generalize LO (mbOf B cls i) = l0 at e hE
      generalize vs i = v at e ⊢
      cases e with
      | skip h1 => exact runs_skip ho (hwg.trans h1) _
      | pure h1 h2 h3 h4 h5 => exact runs_aop ho (hwg.trans h1) (hE.elim (fun hf => aop_free hf ((aop_congr hag.opd).trans h4)) (fun hE => aop_pure_ext hE h3 ((aop_congr hag.opd).trans h4))) h5
      | pcall h1 h2 h3 => exact runs_call ho (hwg.trans h1) (hca.trans h2) (h3 _)
      | gpure hg h1 h2 h3 =>
        have hst : ∀ x ∈ o.op.operands.toList, (fr.eval x).strip = ((putS ops vs (fun _ => true) i fr0).eval x).strip := fun x hx => by rw [hag.opd x hx]
        refine runs_gpure ho hg ((wantedA_congr hag hg).trans h1) (hE.elim (fun hf => (apure_free hf).trans ((apure_congr hst).trans h2)) (fun hE => apure_ext hE ((apure_congr hst).trans h2))) ?_
        rw [opGds_congr hag.opd]; exact h3
      | gpcall hg h1 h2 => exact runs_gpcall ho hg ((wantedA_congr hag hg).trans h1) (by rw [hca]; exact h2)
  · have : ∀ m, leftN (fun j => (Array.replicate ops.size false).getD j false) m ≤ m := by
      intro m
      induction m with
      | zero => exact Nat.le_refl _
      | succ m ih => simp only [leftN]; split <;> omega
    exact this _
  · intro i hi hl
    have hf : (Array.replicate ops.size false).getD i false = false := repl_false _ _
    rw [hf] at hl; cases hl

end Go.Ab

namespace Go.Ab
variable {P : Program} [LibT P]

/-- a drawn region, operation by operation as the text has them -/
def dseq (P : Program) [LibT P] (F : List FuncId) (ops : Array Oper) (B : List Nat) (cls : List Bool) : Nat → Nat → Fr → List (List AObj) → (Fr → List AObj → Prop) → Prop
  | 0, i, fr, Ls, K => K fr (Ls.getD i [])
  | m + 1, i, fr, Ls, K => ∃ v loc', (∀ o, ops[i]? = some o → Ev1 P F ops o fr (cls.getD i false) (Ls.getD (mbOf B cls i) []) (Ls.getD i []) loc' v) ∧ dseq P F ops B cls m (i + 1) (fr.put (dstAt ops i) v) (Ls ++ [loc']) K

theorem dseq_all {F : List FuncId} {ops : Array Oper} {B : List Nat} {cls : List Bool} {fr0 : Fr} {K : Fr → List AObj → Prop} : ∀ (m i : Nat) (vs0 : Nat → AV) (Ls : List (List AObj)), i + m = ops.size → Ls.length = i + 1 →
    (∀ j o, j < i → ops[j]? = some o → Ev1 P F ops o (putS ops vs0 (fun _ => true) j fr0) (cls.getD j false) (Ls.getD (mbOf B cls j) []) (Ls.getD j []) (Ls.getD (j + 1) []) (vs0 j)) →
    dseq P F ops B cls m i (putS ops vs0 (fun _ => true) i fr0) Ls K →
    ∃ (vs : Nat → AV) (Lf : List (List AObj)), Lf.getD 0 [] = Ls.getD 0 [] ∧ (∀ j o, ops[j]? = some o → Ev1 P F ops o (putS ops vs (fun _ => true) j fr0) (cls.getD j false) (Lf.getD (mbOf B cls j) []) (Lf.getD j []) (Lf.getD (j + 1) []) (vs j)) ∧
      K (putS ops vs (fun _ => true) ops.size fr0) (Lf.getD ops.size [])
  | 0, i, vs0, Ls, him, hl, hev, h => by
    have : i = ops.size := by omega
    subst this
    exact ⟨vs0, Ls, rfl, fun j o ho => hev j o (Array.getElem?_eq_some_iff.1 ho).1 ho, h⟩
  | m + 1, i, vs0, Ls, him, hl, hev, h => by
    obtain ⟨v, loc', h1, h2⟩ := h
    have hvs : ∀ j, j ≤ i → putS ops (fun j => if j = i then v else vs0 j) (fun _ => true) j fr0 = putS ops vs0 (fun _ => true) j fr0 := by
      intro j
      induction j with
      | zero => intro _; rfl
      | succ j ih =>
        intro hj
        have : j ≠ i := by omega
        simp only [putS, this, if_false, ih (by omega)]
    have hget : ∀ j, j ≤ i → (Ls ++ [loc']).getD j [] = Ls.getD j [] := by
      intro j hj
      simp only [List.getD, List.getElem?_append_left (by omega : j < Ls.length)]
    have hnew : (Ls ++ [loc']).getD (i + 1) [] = loc' := by
      simp only [List.getD]
      rw [List.getElem?_append_right (by omega)]
      simp [hl]
    obtain ⟨vs, Lf, k1, k2, k3⟩ := dseq_all (ops := ops) (B := B) (cls := cls) (K := K) (fr0 := fr0) m (i + 1) (fun j => if j = i then v else vs0 j) (Ls ++ [loc']) (by omega) (by simp [hl]) (by
        intro j o hj ho
        rw [hvs j (by omega)]
        have hmb : mbOf B cls j ≤ j := topS_le _ _
        by_cases hji : j = i
        · subst hji
          simp only [if_true]
          rw [hget _ hmb, hget _ (Nat.le_refl _), hnew]
          exact h1 o ho
        · simp only [hji, if_false]
          rw [hget _ (by omega), hget _ (by omega), hget _ (by omega)]
          exact hev j o (by omega) ho) (by
        have : putS ops (fun j => if j = i then v else vs0 j) (fun _ => true) (i + 1) fr0 = (putS ops vs0 (fun _ => true) i fr0).put (dstAt ops i) v := by
          simp only [putS, if_true, hvs i (Nat.le_refl _)]
        rw [this]; exact h2)
    exact ⟨vs, Lf, k1.trans (hget 0 (by omega)), k2, k3⟩

theorem AM.dseq {F : List FuncId} {ops : Array Oper} {cls : List Bool} {B : List Nat} (hm : P.follows .mixedOrders = true) (hok : drawOk F ops B cls = true) {fr : Fr} {loc : List AObj} {n id : Nat} {k : List AI} {Q : AOut → Fr → List AObj → Prop} (hn : n ≤ loc.length)
    (h : Ab.dseq P F ops B cls ops.size 0 fr [loc] (fun fr' loc' => AM P n k fr' loc' Q)) : AM P n (.code (.region id ops true) :: k) fr loc Q := by
  obtain ⟨vs, Lf, k1, k2, k3⟩ := dseq_all (ops := ops) (B := B) (cls := cls) (fr0 := fr) ops.size 0 (fun _ => .undef) [loc] (by omega) rfl (fun j o hj => absurd hj (Nat.not_lt_zero _)) h
  have := AM.draw hm hok vs (fun i => Lf.getD i []) k2 (n := n) (id := id) (k := k) (Q := Q) (by rw [k1]; exact hn) k3
  rw [k1] at this
  exact this

/-! ### A map's next entry -/
theorem AM.nextMap {n : Nat} {k : List AI} {fr : Fr} {loc : List AObj} {Q : AOut → Fr → List AObj → Prop} {ops : Array Oper} {i : Nat} {rest : List Nat} {o : Oper} (ho : ops[i]? = some o) (hw : wantG ops fr o = some true)
    {it : Operand} (hop : o.op = .next it false) {oi m last : Nat} {seen : List Nat} {es : List (AV × AV)} (hit : fr.eval it = .ptr oi 0) (hoi : loc[oi]? = some (.iter (.mp m) es.length seen last)) (hm : loc[m]? = some (.map es)) (hlast : es.length ≤ last)
    (h0 : (∀ j, j < es.length → j ∈ seen) → AM P n (.ops ops rest :: k) (fr.put o.dst (.tup [.bool false])) loc Q)
    (h1 : ∀ j e, es[j]? = some e → j ∉ seen → AM P n (.ops ops rest :: k) (fr.put o.dst (.tup [.bool true, e.1, e.2])) (loc.set oi (.iter (.mp m) es.length (seen ++ [j]) es.length)) Q) :
    AM P n (.ops ops (i :: rest) :: k) fr loc Q := by
  intro R w a b cs hI hF
  have hx := hF.eval it
  rw [hit] at hx
  have hwr := wantG_spec hw hF
  have hex : execOp a.eval o = (do pure (.value (← Instr.next (a.eval it) false o.type)) : Sem Next) := by simp only [execOp, hop]
  rcases next_map_sound (P := P) hI.inv hm hoi hlast hx o.type with ⟨hall, y, h2, h3⟩ | ⟨j, e, y, w', he, hns, h2, h3, h4, h5⟩
  · have hD : Does P a.eval o R loc loc (.tup [.bool false]) w := does_of hex ⟨y, w, R, h2, hI.inv, Grow.refl _ _ _, h3⟩
    obtain ⟨x, w1, R1, g1, g2, g3, g4⟩ := step_does (rest := rest) ho hwr hD b (k.map AI.item) cs
    obtain ⟨out, R', w2, a', fr', loc', md, todo, q, g, i', f', o', s⟩ := h0 hall R1 w1 (a.put o.dst x) b cs (hI.next (g2.toN 0) g1) ((hF.mono g2.le).put o.dst g3)
    exact ⟨out, R', w2, a', fr', loc', md, todo, q, (g2.toN n).trans g, i', f', o', Steps.head g4 s⟩
  · have hD : Does P a.eval o R loc (loc.set oi (.iter (.mp m) es.length (seen ++ [j]) es.length)) (.tup [.bool true, e.1, e.2]) w := does_of hex ⟨y, w', R, h2, h4, h5, h3⟩
    obtain ⟨x, w1, R1, g1, g2, g3, g4⟩ := step_does (rest := rest) ho hwr hD b (k.map AI.item) cs
    obtain ⟨out, R', w2, a', fr', loc', md, todo, q, g, i', f', o', s⟩ := h1 j e he hns R1 w1 (a.put o.dst x) b cs (hI.next (g2.toN 0) g1) ((hF.mono g2.le).put o.dst g3)
    exact ⟨out, R', w2, a', fr', loc', md, todo, q, (g2.toN n).trans g, i', f', o', Steps.head g4 s⟩

/-! ### Bodies, their objects as they are -/
def RetQ0 (P : Program) (rs : List ResultVar) (Q : AV → List AObj → Prop) : AOut → Fr → List AObj → Prop := fun o fr loc =>
  o = .ret ∧ fr.defs = [] ∧ ∃ vs C, resAs P fr loc rs = some (vs, C) ∧ C.p ∧ Q (tupA vs) loc

theorem ACalls.of_body0 {f : FuncId} {fn : Func} {c : Code} {args : List AV} {loc : List AObj} {Q : AV → List AObj → Prop} (hf : P.funcs[f]? = some fn) (hb : fn.body = some c) (hname : (fn.name == "runtime.NumGoroutine") = false)
    (h : AM P loc.length [.code c] ⟨args ++ List.replicate (fn.ntmps - args.length) .undef, []⟩ loc (RetQ0 P fn.results.toList Q)) : ACalls P f args loc Q := by
  intro R w cargs hI hg
  refine .inl ⟨⟨fn, hf, by rw [hb]; rfl, hname⟩, ?_⟩
  intro cs
  let b : Frame := { (default : Frame) with fn := f, kind := .normal }
  have hal := γs_length hg
  let a : Act := { tmps := cargs.toArray ++ Array.replicate (fn.ntmps - cargs.length) Go.undef, defers := [] }
  have henter : Frame.enter P f cargs.toArray .normal = b.at a [.code c] := by
    simp [Frame.enter, Frame.at, hf, hb, b, a]
  have hF : γF R ⟨args ++ List.replicate (fn.ntmps - args.length) .undef, []⟩ a := by
    refine ⟨?_, by simp [γD, a]⟩
    simp only [a, Array.toList_append, Array.toList_replicate]
    refine γs_append (by simpa using hg) ?_
    rw [hal]
    exact γs_replicate (by simp [γ]) _
  obtain ⟨out, R1, w1, a1, fr1, loc1, md, todo, ⟨ho, hd, vs, C, hres, hC, hq⟩, g, i1, f1, o1, s⟩ := h R w a b cs hI hF
  subst ho
  simp only [OutMode] at o1
  subst o1
  obtain ⟨x, hx, hgx⟩ := results_run i1 f1 fn hres hC
  refine ⟨.returned x, w1, { b.at a1 todo with mode := .returning }, ⟨x, rfl, R1, loc1, tupA vs, g, i1, hgx, hq⟩, ?_, rfl, rfl, ?_, rfl, fn, hf, hx⟩
  · rw [henter]; exact s
  · have := f1.defs
    rw [hd] at this
    simp only [γD] at this
    exact this

/-! ### Names that are forgotten -/
theorem γ_noName (R : Rep) (v : AV) (x : Value) (h : γ R v x) : γ R (v.map noName) x :=
  γ_map (R2 := R) ⟨fun _ _ _ h => h, fun o o' r ho _ => by simp [noName] at ho⟩ v x h

theorem Wk.noName (v : AV) : Wk v (v.map noName) := fun R x h => γ_noName R v x h

theorem Wks.noName : ∀ (vs : List AV), Wks vs (maps noName vs)
  | [] => by simp [maps, Wks]
  | v :: vs => by simp only [maps]; exact wks_cons.2 ⟨Wk.noName v, Wks.noName vs⟩

end Go.Ab
