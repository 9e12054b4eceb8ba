/-
  The abstract domain: values by content (AV), a local list of objects (AObj), what it means that they stand for
  values and memory of the model (γ, Inv), and how memory may grow (Grow).
-/
import Derived.Calls
import Derived.Laws.Sem
import Derived.Laws.World
import Derived.Laws.NewBlocks
import Derived.Laws.Rows
import Derived.Laws.IdiomCopy
import Derived.Deep.MidRow
import Derived.Below
import Derived.Laws.StructEq
import Derived.Laws.Entries
import Derived.MapKept
import Derived.WideKeyRuns
import Derived.Laws.CopyRow
import Derived.Deep.Upon
import Derived.Laws.Tables
import Derived.Maps.RangeRun
import Derived.Deep.AppendSrc
import Derived.Room.Entries
import Derived.RangeFuncRecord
namespace Go.Ab

/-- What is known of a slice's room: nothing; there is none; the token t is the right to append to it. -/
inductive Cap where
  | unk
  | full
  | own (t : Nat)

inductive AV where
  | con (v : Value)
  | agg (cs : List AV)
  | tup (cs : List AV)
  | sl (sz : Nat) (es : List (List AV)) (k : Cap)
  | vw (sz o off len : Nat)
  | ptr (o off : Nat)
  | cptr (cs : List AV)
  | mp (o : Nat)
  | fn (f : FuncId) (first cap : List AV)
  | ifc (t : TypeId) (v : AV)
  | gd (b : Bool) (v : AV)
  | top

abbrev AV.int (n : Int) : AV := .con (.int .i64 n)
abbrev AV.bool (b : Bool) : AV := .con (.bool b)
abbrev AV.str (s : ByteArray) : AV := .con (.string s)
abbrev AV.nils : AV := .con (.slice none 0 0)
abbrev AV.undef : AV := .con Go.undef

inductive AObj where
  | cells (cs : List AV)
  | tok (live : Bool)
  | map (es : List (AV × AV))
  | umap (ro : Bool) (es : List (AV × AV))
  | iter (m : AV) (since : Nat) (seen : List Nat) (last : Nat)
  | siter (s : ByteArray) (pos : Nat)
  | gone

structure ORep where
  blk : Nat
  lo : Nat
  hi : Nat

structure Rep where
  F : Nat → Nat → Option Value
  ob : List ORep

def Rep.holds (R : Rep) (b off : Nat) (vs : List Value) : Prop := ∀ j v, vs[j]? = some v → R.F b (off + j) = some v

def maxN : Nat := 9223372036854775807

def ones (vs : List Value) : Prop := ∀ v ∈ vs, v.oneCell' = true

/-- What is known of the room behind a slice that has an address. -/
def CapOk (R : Rep) (sz b off len cap : Nat) : Cap → Prop
  | .unk => True
  | .full => cap = len
  | .own t => ∃ r, R.ob[t]? = some r ∧ r.blk = b ∧ r.lo = off + len * sz ∧ r.hi = off + cap * sz

mutual
def γ (R : Rep) : AV → Value → Prop
  | .con v, x => x = v
  | .agg cs, x => ∃ vs : List Value, x = .agg vs.toArray ∧ γs R cs vs ∧ ones vs
  | .tup cs, x => ∃ vs : List Value, x = .tuple vs.toArray ∧ γs R cs vs
  | .sl sz es k, x => (x = .slice none 0 0 ∧ es = []) ∨
      ∃ b off cap vs, x = .slice (some ⟨b, off, none⟩) es.length cap ∧ es.length ≤ cap ∧ cap ≤ maxN ∧ CapOk R sz b off es.length cap k ∧ γss R sz es vs ∧ ones vs ∧ R.holds b off vs
  | .vw sz o off len, x => (x = .slice none 0 0 ∧ len = 0) ∨ ∃ r cap, R.ob[o]? = some r ∧ x = .slice (some ⟨r.blk, off * sz, none⟩) len cap ∧ len ≤ cap ∧ cap ≤ maxN ∧ (off + cap) * sz ≤ r.hi ∧ (len = 0 → cap = 0)
  | .ptr o off, x => ∃ r, R.ob[o]? = some r ∧ x = .pointer (some ⟨r.blk, off, none⟩)
  | .cptr cs, x => ∃ b off vs, x = .pointer (some ⟨b, off, none⟩) ∧ γs R cs vs ∧ ones vs ∧ R.holds b off vs
  | .mp o, x => ∃ r, R.ob[o]? = some r ∧ x = .map (some r.blk)
  | .fn f first cap, x => ∃ vs ws : List Value, x = .func (.func f) vs.toArray ws.toArray ∧ γs R first vs ∧ γs R cap ws
  | .ifc t v, x => ∃ y, x = .iface t y ∧ γ R v y
  | .gd b v, x => if b then γ R v x else x = Go.undef
  | .top, _ => True
def γs (R : Rep) : List AV → List Value → Prop
  | [], vs => vs = []
  | c :: cs, vs => ∃ v vs', vs = v :: vs' ∧ γ R c v ∧ γs R cs vs'
def γss (R : Rep) (sz : Nat) : List (List AV) → List Value → Prop
  | [], vs => vs = []
  | e :: es, vs => ∃ v1 v2, vs = v1 ++ v2 ∧ v1.length = sz ∧ γs R e v1 ∧ γss R sz es v2
end

structure RepLe (R R' : Rep) : Prop where
  F : ∀ b j v, R.F b j = some v → R'.F b j = some v
  ob : ∀ (i : Nat) (r : ORep), R.ob[i]? = some r → R'.ob[i]? = some r

theorem RepLe.refl (R : Rep) : RepLe R R := ⟨fun _ _ _ h => h, fun _ _ h => h⟩
theorem RepLe.trans {R R' R'' : Rep} (h : RepLe R R') (k : RepLe R' R'') : RepLe R R'' :=
  ⟨fun b j v e => k.F b j v (h.F b j v e), fun i r e => k.ob i r (h.ob i r e)⟩

theorem Rep.holds.mono {R R' : Rep} (h : RepLe R R') {b off : Nat} {vs : List Value} (k : R.holds b off vs) : R'.holds b off vs :=
  fun j v e => h.F _ _ _ (k j v e)

theorem CapOk.mono {R R' : Rep} (h : RepLe R R') {sz b off len cap : Nat} {k : Cap} (hk : CapOk R sz b off len cap k) : CapOk R' sz b off len cap k := by
  cases k with
  | unk => trivial
  | full => exact hk
  | own t => obtain ⟨r, h1, h2⟩ := hk; exact ⟨r, h.ob _ _ h1, h2⟩

mutual
theorem γ_mono {R R' : Rep} (h : RepLe R R') : ∀ (c : AV) (x : Value), γ R c x → γ R' c x
  | .con v, x, hx => by simpa only [γ] using hx
  | .agg cs, x, hx => by
    simp only [γ] at hx ⊢
    obtain ⟨vs, e, h1, h2⟩ := hx
    exact ⟨vs, e, γs_mono h cs vs h1, h2⟩
  | .tup cs, x, hx => by
    simp only [γ] at hx ⊢
    obtain ⟨vs, e, h1⟩ := hx
    exact ⟨vs, e, γs_mono h cs vs h1⟩
  | .sl sz es k, x, hx => by
    simp only [γ] at hx ⊢
    rcases hx with hx | ⟨b, off, cap, vs, e, h1, h2, h3, h4, h5, h6⟩
    · exact .inl hx
    · exact .inr ⟨b, off, cap, vs, e, h1, h2, h3.mono h, γss_mono h sz es vs h4, h5, h6.mono h⟩
  | .vw sz o off len, x, hx => by
    simp only [γ] at hx ⊢
    rcases hx with hx | ⟨r, cap, h1, h2⟩
    · exact .inl hx
    · exact .inr ⟨r, cap, h.ob _ _ h1, h2⟩
  | .ptr o off, x, hx => by
    simp only [γ] at hx ⊢
    obtain ⟨r, h1, h2⟩ := hx
    exact ⟨r, h.ob _ _ h1, h2⟩
  | .cptr cs, x, hx => by
    simp only [γ] at hx ⊢
    obtain ⟨b, off, vs, e, h1, h2, h3⟩ := hx
    exact ⟨b, off, vs, e, γs_mono h cs vs h1, h2, h3.mono h⟩
  | .mp o, x, hx => by
    simp only [γ] at hx ⊢
    obtain ⟨r, h1, h2⟩ := hx
    exact ⟨r, h.ob _ _ h1, h2⟩
  | .fn f first cap, x, hx => by
    simp only [γ] at hx ⊢
    obtain ⟨vs, ws, e, h1, h2⟩ := hx
    exact ⟨vs, ws, e, γs_mono h first vs h1, γs_mono h cap ws h2⟩
  | .ifc t v, x, hx => by
    simp only [γ] at hx ⊢
    obtain ⟨y, e, h1⟩ := hx
    exact ⟨y, e, γ_mono h v y h1⟩
  | .gd b v, x, hx => by
    simp only [γ] at hx ⊢
    cases b
    · simpa using hx
    · exact γ_mono h v x (by simpa using hx)
  | .top, x, hx => by simp only [γ]
theorem γs_mono {R R' : Rep} (h : RepLe R R') : ∀ (cs : List AV) (vs : List Value), γs R cs vs → γs R' cs vs
  | [], vs, hx => by simpa only [γs] using hx
  | c :: cs, vs, hx => by
    simp only [γs] at hx ⊢
    obtain ⟨v, vs', e, h1, h2⟩ := hx
    exact ⟨v, vs', e, γ_mono h c v h1, γs_mono h cs vs' h2⟩
theorem γss_mono {R R' : Rep} (h : RepLe R R') (sz : Nat) : ∀ (es : List (List AV)) (vs : List Value), γss R sz es vs → γss R' sz es vs
  | [], vs, hx => by simpa only [γss] using hx
  | c :: cs, vs, hx => by
    simp only [γss] at hx ⊢
    obtain ⟨v1, v2, e, h0, h1, h2⟩ := hx
    exact ⟨v1, v2, e, h0, γs_mono h c v1 h1, γss_mono h sz cs v2 h2⟩
end

/-! ### Lists of values -/
theorem γs_length {R : Rep} : ∀ {cs : List AV} {vs : List Value}, γs R cs vs → vs.length = cs.length
  | [], vs, h => by simp only [γs] at h; simp [h]
  | c :: cs, vs, h => by
    simp only [γs] at h
    obtain ⟨v, vs', e, _, h2⟩ := h
    simp [e, γs_length h2]

theorem γs_get {R : Rep} : ∀ {cs : List AV} {vs : List Value}, γs R cs vs → ∀ {i : Nat} {c : AV}, cs[i]? = some c → ∃ v, vs[i]? = some v ∧ γ R c v
  | [], _, _, i, c, hi => by simp at hi
  | c0 :: cs, vs, h, i, c, hi => by
    simp only [γs] at h
    obtain ⟨v, vs', e, h1, h2⟩ := h
    subst e
    cases i with
    | zero => simp at hi; subst hi; exact ⟨v, by simp, h1⟩
    | succ i => simp at hi; simpa using γs_get h2 hi

theorem γs_append {R : Rep} : ∀ {cs : List AV} {vs : List Value} {ds : List AV} {ws : List Value}, γs R cs vs → γs R ds ws → γs R (cs ++ ds) (vs ++ ws)
  | [], vs, ds, ws, h, k => by simp only [γs] at h; subst h; simpa using k
  | c :: cs, vs, ds, ws, h, k => by
    simp only [γs] at h
    obtain ⟨v, vs', e, h1, h2⟩ := h
    subst e
    simp only [List.cons_append, γs]
    exact ⟨v, vs' ++ ws, rfl, h1, γs_append h2 k⟩

theorem γs_take {R : Rep} : ∀ {cs : List AV} {vs : List Value}, γs R cs vs → ∀ n, γs R (cs.take n) (vs.take n)
  | [], vs, h, n => by simp only [γs] at h; subst h; simp [γs]
  | c :: cs, vs, h, n => by
    simp only [γs] at h
    obtain ⟨v, vs', e, h1, h2⟩ := h
    subst e
    cases n with
    | zero => simp [γs]
    | succ n => simp only [List.take_succ_cons, γs]; exact ⟨v, _, rfl, h1, γs_take h2 n⟩

theorem γs_drop {R : Rep} : ∀ {cs : List AV} {vs : List Value}, γs R cs vs → ∀ n, γs R (cs.drop n) (vs.drop n)
  | [], vs, h, n => by simp only [γs] at h; subst h; simp [γs]
  | c :: cs, vs, h, n => by
    have h0 := h
    simp only [γs] at h
    obtain ⟨v, vs', e, h1, h2⟩ := h
    subst e
    cases n with
    | zero => simpa using h0
    | succ n => simpa using γs_drop h2 n

theorem γs_set {R : Rep} : ∀ {cs : List AV} {vs : List Value}, γs R cs vs → ∀ {c : AV} {v : Value} (i : Nat), γ R c v → γs R (cs.set i c) (vs.set i v)
  | [], vs, h, c, v, i, _ => by simp only [γs] at h; subst h; simp [γs]
  | c0 :: cs, vs, h, c, v, i, hv => by
    simp only [γs] at h
    obtain ⟨v0, vs', e, h1, h2⟩ := h
    subst e
    cases i with
    | zero => simp only [List.set_cons_zero, γs]; exact ⟨v, vs', rfl, hv, h2⟩
    | succ i => simp only [List.set_cons_succ, γs]; exact ⟨v0, _, rfl, h1, γs_set h2 i hv⟩

theorem γs_replicate {R : Rep} {c : AV} {v : Value} (h : γ R c v) : ∀ n, γs R (List.replicate n c) (List.replicate n v)
  | 0 => by simp [γs]
  | n + 1 => by simp only [List.replicate_succ, γs]; exact ⟨v, _, rfl, h, γs_replicate h n⟩

theorem γs_con {R : Rep} : ∀ (vs : List Value), γs R (vs.map .con) vs
  | [] => by simp [γs]
  | v :: vs => by simp only [List.map_cons, γs]; exact ⟨v, vs, rfl, by simp [γ], γs_con vs⟩

theorem γss_length {R : Rep} {sz : Nat} : ∀ {es : List (List AV)} {vs : List Value}, γss R sz es vs → vs.length = es.length * sz
  | [], vs, h => by simp only [γss] at h; simp [h]
  | e :: es, vs, h => by
    simp only [γss] at h
    obtain ⟨v1, v2, e, h0, _, h2⟩ := h
    simp [e, h0, γss_length h2, Nat.add_mul, Nat.add_comm]

theorem γss_append {R : Rep} {sz : Nat} : ∀ {es : List (List AV)} {vs : List Value} {ds : List (List AV)} {ws : List Value}, γss R sz es vs → γss R sz ds ws → γss R sz (es ++ ds) (vs ++ ws)
  | [], vs, ds, ws, h, k => by simp only [γss] at h; subst h; simpa using k
  | c :: cs, vs, ds, ws, h, k => by
    simp only [γss] at h
    obtain ⟨v1, v2, e, h0, h1, h2⟩ := h
    subst e
    simp only [List.cons_append, γss]
    exact ⟨v1, v2 ++ ws, by simp, h0, h1, γss_append h2 k⟩

theorem γss_take {R : Rep} {sz : Nat} : ∀ {es : List (List AV)} {vs : List Value}, γss R sz es vs → ∀ n, γss R sz (es.take n) (vs.take (n * sz))
  | [], vs, h, n => by simp only [γss] at h; subst h; simp [γss]
  | c :: cs, vs, h, n => by
    simp only [γss] at h
    obtain ⟨v1, v2, e, h0, h1, h2⟩ := h
    subst e
    cases n with
    | zero => simp [γss]
    | succ n =>
      simp only [List.take_succ_cons, γss]
      refine ⟨v1, v2.take (n * sz), ?_, h0, h1, γss_take h2 n⟩
      rw [List.take_append, List.take_of_length_le (by rw [h0, Nat.add_mul]; omega), h0]
      congr 2
      rw [Nat.add_mul]; omega

theorem γss_drop {R : Rep} {sz : Nat} : ∀ {es : List (List AV)} {vs : List Value}, γss R sz es vs → ∀ n, γss R sz (es.drop n) (vs.drop (n * sz))
  | [], vs, h, n => by simp only [γss] at h; subst h; simp [γss]
  | c :: cs, vs, h, n => by
    have hh := h
    simp only [γss] at h
    obtain ⟨v1, v2, e, h0, h1, h2⟩ := h
    subst e
    cases n with
    | zero => simpa using hh
    | succ n =>
      have := γss_drop h2 n
      have e2 : (n + 1) * sz - sz = n * sz := by rw [Nat.add_mul]; omega
      have e3 : (v1 ++ v2).drop ((n + 1) * sz) = v2.drop (n * sz) := by
        rw [List.drop_append, List.drop_of_length_le (by rw [h0, Nat.add_mul]; omega), h0, e2]; rfl
      rw [e3]; exact this

theorem γss_get {R : Rep} {sz : Nat} : ∀ {es : List (List AV)} {vs : List Value}, γss R sz es vs → ∀ {i : Nat} {e : List AV}, es[i]? = some e → ∃ vs1, γs R e vs1 ∧ vs1.length = sz ∧ ∀ j v, vs1[j]? = some v → vs[i * sz + j]? = some v
  | [], _, _, i, c, hi => by simp at hi
  | c0 :: cs, vs, h, i, c, hi => by
    simp only [γss] at h
    obtain ⟨v1, v2, e, h0, h1, h2⟩ := h
    subst e
    cases i with
    | zero =>
      simp at hi; subst hi
      refine ⟨v1, h1, h0, fun j v hj => ?_⟩
      have : j < v1.length := (List.getElem?_eq_some_iff.1 hj).1
      simp [List.getElem?_append, this]; simpa [this] using hj
    | succ i =>
      simp at hi
      obtain ⟨vs1, g1, g2, g3⟩ := γss_get h2 hi
      refine ⟨vs1, g1, g2, fun j v hj => ?_⟩
      have := g3 j v hj
      rw [List.getElem?_append_right (by rw [h0, Nat.add_mul]; omega), h0]
      have e2 : (i + 1) * sz + j - sz = i * sz + j := by rw [Nat.add_mul]; omega
      rw [e2]; exact this

theorem ones_append {a b : List Value} (h : ones a) (k : ones b) : ones (a ++ b) := fun v hv => by
  rcases List.mem_append.1 hv with h' | h'
  · exact h v h'
  · exact k v h'
theorem ones_take {a : List Value} (h : ones a) (n : Nat) : ones (a.take n) := fun v hv => h v (List.mem_of_mem_take hv)
theorem ones_drop {a : List Value} (h : ones a) (n : Nat) : ones (a.drop n) := fun v hv => h v (List.mem_of_mem_drop hv)
theorem ones_of_get {a b : List Value} {f : Nat → Nat} (h : ones a) (hb : ∀ j v, b[j]? = some v → a[f j]? = some v) : ones b := fun v hv => by
  obtain ⟨j, hj⟩ := List.getElem?_of_mem hv
  exact h v (List.mem_of_getElem? (hb j v hj))

theorem Rep.holds.nil (R : Rep) (b off : Nat) : R.holds b off [] := fun j v h => by simp at h
theorem Rep.holds.drop {R : Rep} {b off : Nat} {vs : List Value} (h : R.holds b off vs) (n : Nat) : R.holds b (off + n) (vs.drop n) := fun j v hj => by
  have := h (n + j) v (by simpa using hj)
  rwa [← Nat.add_assoc] at this
theorem Rep.holds.take {R : Rep} {b off : Nat} {vs : List Value} (h : R.holds b off vs) (n : Nat) : R.holds b off (vs.take n) := fun j v hj => by
  refine h j v ?_
  simp only [List.getElem?_take] at hj
  split at hj
  · exact hj
  · simp at hj
theorem Rep.holds.append {R : Rep} {b off : Nat} {vs ws : List Value} (h : R.holds b off vs) (k : R.holds b (off + vs.length) ws) : R.holds b off (vs ++ ws) := fun j v hj => by
  by_cases hlt : j < vs.length
  · exact h j v (by simpa [List.getElem?_append, hlt] using hj)
  · have := k (j - vs.length) v (by rwa [List.getElem?_append_right (by omega)] at hj)
    have e : off + vs.length + (j - vs.length) = off + j := by omega
    rwa [e] at this

/-! ### Memory -/
/-- The block that an object has for its own. -/
def own : AObj → ORep → Option Nat
  | .cells cs, r => if cs.isEmpty then none else some r.blk
  | .map _, r => some r.blk
  | .umap _ _, r => some r.blk
  | .iter _ _ _ _, r => some r.blk
  | .siter _ _, r => some r.blk
  | .tok true, r => if r.lo < r.hi then some r.blk else none
  | .tok false, _ => none
  | .gone, _ => none

def owned (R : Rep) (loc : List AObj) (b : Nat) : Prop := ∃ (i : Nat) (o : AObj) (r : ORep), loc[i]? = some o ∧ R.ob[i]? = some r ∧ own o r = some b

def γmap (R : Rep) : List (AV × AV) → List MapEntry → Prop
  | [], es => es = []
  | (k, v) :: m, es => ∃ e es', es = e :: es' ∧ γ R k e.key ∧ γ R v e.val ∧ γmap R m es'

/-- each entry's stamp is its place; nothing was ever taken out -/
def stamped (es : List MapEntry) (clock : Nat) : Prop := clock = es.length ∧ ∀ (i : Nat) (e : MapEntry), es[i]? = some e → e.born = i

def objOk (R : Rep) (w : World) : AObj → ORep → Prop
  | .cells cs, r => cs ≠ [] → ∃ vs ws t, w.heap[r.blk]? = some (.cells (vs ++ ws).toArray t (0, 0)) ∧ γs R cs vs ∧ ones vs ∧ (∀ j, R.F r.blk j = none) ∧ r.hi ≤ vs.length + ws.length
  | .tok true, r => ∀ j, r.lo ≤ j → j < r.hi → R.F r.blk j = none ∧ (w.cell? ⟨r.blk, j, none⟩).isSome = true ∧ w.frozen? ⟨r.blk, j, none⟩ = false
  | .tok false, _ => True
  | .map m, r => ∃ es clock, w.heap[r.blk]? = some (.map es clock) ∧ γmap R m es.toList ∧ stamped es.toList clock
  | .umap _ m, r => ∃ es m', w.heap[r.blk]? = some (.map es es.size) ∧ γmap R m' es.toList ∧ m'.Perm m ∧ (es.toList.map (·.key)).Nodup
  | .iter m since seen last, r => ∃ b, γ R m (.map (some b)) ∧ w.heap[r.blk]? = some (.mapIter (some b) since seen.toArray last)
  | .siter s pos, r => w.heap[r.blk]? = some (.stringIter s pos)
  | .gone, _ => True

theorem own_cells {cs : List AV} {r : ORep} {b : Nat} : own (.cells cs) r = some b ↔ cs ≠ [] ∧ b = r.blk := by
  cases cs with
  | nil => simp [own]
  | cons c cs => simp [own, eq_comm]

structure Inv (R : Rep) (loc : List AObj) (w : World) : Prop where
  F : ∀ b j v, R.F b j = some v → w.cell? ⟨b, j, none⟩ = some v
  len : R.ob.length = loc.length
  objs : ∀ (i : Nat) (o : AObj) (r : ORep), loc[i]? = some o → R.ob[i]? = some r → objOk R w o r
  apart : ∀ (i i' : Nat) (o o' : AObj) (r r' : ORep) (b : Nat), loc[i]? = some o → R.ob[i]? = some r → loc[i']? = some o' → R.ob[i']? = some r' → own o r = some b → own o' r' = some b → i = i'

structure Grow (R : Rep) (loc : List AObj) (w : World) (R' : Rep) (loc' : List AObj) (w' : World) : Prop where
  os : w'.os = w.os
  tape : w'.tape = w.tape
  output : w'.output = w.output
  size : w.heap.size ≤ w'.heap.size
  le : RepLe R R'
  kept : ∀ b, b < w.heap.size → ¬ owned R loc b → w'.heap[b]? = w.heap[b]? ∧ ∀ j, R'.F b j = R.F b j
  back : ∀ b, b < w.heap.size → owned R' loc' b → owned R loc b

theorem Grow.refl (R : Rep) (loc : List AObj) (w : World) : Grow R loc w R loc w :=
  ⟨rfl, rfl, rfl, Nat.le_refl _, RepLe.refl R, fun _ _ _ => ⟨rfl, fun _ => rfl⟩, fun _ _ h => h⟩

theorem Grow.trans {R R1 R2 : Rep} {loc loc1 loc2 : List AObj} {w w1 w2 : World} (h : Grow R loc w R1 loc1 w1) (k : Grow R1 loc1 w1 R2 loc2 w2) : Grow R loc w R2 loc2 w2 where
  os := k.os.trans h.os
  tape := k.tape.trans h.tape
  output := k.output.trans h.output
  size := Nat.le_trans h.size k.size
  le := h.le.trans k.le
  kept b hb hn := by
    have h1 := h.kept b hb hn
    have h2 := k.kept b (Nat.lt_of_lt_of_le hb h.size) (fun ho => hn (h.back b hb ho))
    exact ⟨h2.1.trans h1.1, fun j => (h2.2 j).trans (h1.2 j)⟩
  back b hb ho := h.back b hb (k.back b (Nat.lt_of_lt_of_le hb h.size) ho)

end Go.Ab

/-
  The abstract runner: what one operation does to abstract values (apure, astate), and a stretch of code (arun).
-/
namespace Go.Ab

/-- a condition that can be decided -/
structure DP where
  p : Prop
  d : Decidable p
def dp (p : Prop) [d : Decidable p] : DP := ⟨p, d⟩
@[simp] theorem dp_p (p : Prop) [d : Decidable p] : (dp p).p = p := rfl
def DP.and (a b : DP) : DP := ⟨a.p ∧ b.p, @instDecidableAnd _ _ a.d b.d⟩
@[simp] theorem DP.and_p (a b : DP) : (a.and b).p = (a.p ∧ b.p) := rfl


/-! ### Keys: numbers, truths, texts, structs of such -/
def scal : TypeDesc → AV → Bool
  | .int k, .con (.int k' _) => decide (k = k')
  | .string, .con (.string _) => true
  | .bool, .con (.bool _) => true
  | _, _ => false

def keq1 : AV → AV → Option Bool
  | .con (.int k a), .con (.int k' b) => if k = k' then some (decide (a = b)) else none
  | .con (.string a), .con (.string b) => some (decide (a = b))
  | .con (.bool a), .con (.bool b) => some (a == b)
  | _, _ => none

def keqs : List AV → List AV → Option Bool
  | [], [] => some true
  | c :: cs, d :: ds =>
    match keq1 c d, keqs cs ds with
    | some x, some y => some (x && y)
    | _, _ => none
  | _, _ => none

def keq : AV → AV → Option Bool
  | .agg cs, .agg ds => keqs cs ds
  | c, d => keq1 c d

/-- the fields of a struct of numbers, truths, texts, from a place on -/
def okFields (P : Program) : Nat → List Field → List AV → Bool
  | _, [], [] => true
  | n, f :: fs, c :: cs => f.name != "_" && f.offset == n && ((P.underlying f.type).any fun d => scal d c) && ((P.info? f.type).any fun i => i.size == 1) && okFields P (n + 1) fs cs
  | _, _, _ => false

def okKey (P : Program) (t : TypeId) (k : AV) : Bool :=
  match P.underlying t, k with
  | some (.struct fs), .agg cs => okFields P 0 fs.toList cs && !P.stoodInHeld t && !P.eqGuardType P.depth t
  | some d, k => scal d k
  | none, _ => false

/-- where a key stands in a map -/
def mfind (k : AV) : List (AV × AV) → Option (Option Nat)
  | [] => some none
  | e :: m =>
    match keq k e.1 with
    | some true => some (some 0)
    | some false => (mfind k m).map fun r => r.map (· + 1)
    | none => none

/-! ### What is asked of types -/
def fieldOf (P : Program) (t : TypeId) (f : Nat) : Option (Nat × TypeId) :=
  match P.underlying t with
  | some (.struct fs) => (fs[f]?).map fun g => (g.offset, g.type)
  | _ => none

/-- a struct or an array? how many cells? -/
def kindOf (P : Program) (t : TypeId) : Option (Bool × Nat) :=
  match P.underlying t, P.info? t with
  | some d, some i => some ((match d with | .struct _ | .array _ _ => true | _ => false), i.size)
  | _, _ => none

/-- a slice type's element type, its cells and bytes -/
def elOf (P : Program) (t : TypeId) : Option (TypeId × Nat × Nat) :=
  match P.underlying t with
  | some (.slice e) => (P.info? e).map fun i => (e, i.size, i.bytes)
  | _ => none

/-- an array type's length, its element's cells -/
def arrOf (P : Program) (t : TypeId) : Option (Nat × Nat) :=
  match P.underlying t with
  | some (.array len e) => (P.info? e).map fun i => (len, i.size)
  | _ => none

def zeroOf (P : Program) (t : TypeId) : Option (List Value) := (P.info? t).bind fun i => i.zero.bind fun z => if z.cells.toList.all Value.oneCell' && z.cells.size == i.size then some z.cells.toList else none

/-- where a struct's fields lie, and their cells -/
def placesOf (P : Program) (t : TypeId) : Option (List (Nat × Nat)) :=
  match P.underlying t with
  | some (.struct fs) => fs.toList.mapM fun f => (P.info? f.type).map fun i => (f.offset, i.size)
  | some (.array len e) => (P.info? e).map fun i => (List.range len).map fun j => (j * i.size, i.size)
  | _ => none

/-! ### Frames -/
structure Fr where
  tmps : List AV
  defs : List (FuncId × List AV × List AV)

def conv : Value → AV
  | .agg cs => if cs.toList.all Value.oneCell' then .agg (cs.toList.map .con) else .con (.agg cs)
  | .func (.func f) first cap => .fn f (first.toList.map .con) (cap.toList.map .con)
  | v => .con v

def Fr.eval (fr : Fr) : Operand → AV
  | .tmp t => fr.tmps.getD t .undef
  | .const v => conv v
  | .global g => .con (.pointer (some ⟨g, 0, none⟩))
  | .func f => .fn f [] []

def Fr.put (fr : Fr) (dst : Option Tmp) (v : AV) : Fr :=
  match dst with
  | some d => { fr with tmps := fr.tmps.set d v }
  | none => fr

/-- the value behind a guard, and what the guard says -/
def AV.strip : AV → AV
  | .gd _ v => v
  | v => v
def AV.gdOf : AV → Bool
  | .gd b _ => b
  | _ => true

def AV.cells : AV → List AV
  | .agg cs => cs
  | v => [v]

/-- a value that is one cell -/
def AV.one : AV → Bool
  | .con v => v.oneCell'
  | .agg _ | .tup _ | .gd _ _ | .top => false
  | _ => true

def partA (P : Program) (t : TypeId) (cs : List AV) (off : Nat) : Option (AV × DP) :=
  match kindOf P t with
  | some (true, n) => some (.agg ((cs.drop off).take n), dp (off + n ≤ cs.length))
  | some (false, _) => some (cs.getD off .undef, dp (off < cs.length))
  | none => none

def abin (op : BinOp) : AV → AV → Option (AV × DP)
  | .con (.int k a), .con (.int k' b) =>
    if k = k' then
      match op with
      | .add => some (.con (.int k (k.wrap (a + b))), dp True)
      | .sub => some (.con (.int k (k.wrap (a - b))), dp True)
      | .mul => some (.con (.int k (k.wrap (a * b))), dp True)
      | .quo => some (.con (.int k (k.wrap (a.tdiv b))), dp (b ≠ 0))
      | .rem => some (.con (.int k (a.tmod b)), dp (b ≠ 0))
      | .eql => some (.bool (a == b), dp True)
      | .neq => some (.bool (a != b), dp True)
      | .lss => some (.bool (decide (a < b)), dp True)
      | .leq => some (.bool (decide (a ≤ b)), dp True)
      | .gtr => some (.bool (decide (b < a)), dp True)
      | .geq => some (.bool (decide (b ≤ a)), dp True)
      | _ => none
    else none
  | .con (.string a), .con (.string b) =>
    match op with
    | .eql => some (.bool (decide (a = b)), dp True)
    | .neq => some (.bool !(decide (a = b)), dp True)
    | .lss => some (.bool (Op.bytesLess a.data.toList b.data.toList), dp True)
    | .leq => some (.bool (Op.bytesLess a.data.toList b.data.toList || decide (a = b)), dp True)
    | .add => some (.str (a ++ b), dp (((a.size + b.size : Nat) : Int) ≤ IntKind.i64.max))
    | _ => none
  | _, _ => none

def asIntA : AV → Option Int
  | .con (.int _ n) => some n
  | _ => none

def lenA : AV → Option Nat
  | .sl _ es _ => some es.length
  | .vw _ _ _ len => some len
  | .con (.slice none 0 0) => some 0
  | _ => none

def boundA : Option AV → Nat → Option Int
  | some v, _ => asIntA v
  | none, d => some d

def sliceA (x : AV) (lo hi mx : Option AV) : Option (AV × DP) :=
  match x with
  | .con (.string s) =>
    match boundA lo 0, boundA hi s.size, mx with
    | some l, some h, none => some (.str (s.extract l.toNat h.toNat), dp (0 ≤ l ∧ l ≤ h ∧ h ≤ s.size))
    | _, _, _ => none
  | .sl sz es k =>
    match boundA lo 0, boundA hi es.length, mx with
    | some l, some h, none => some (.sl sz ((es.take h.toNat).drop l.toNat) (match hi with | none => (match lo with | none => k | some _ => .unk) | some _ => .unk), dp (0 ≤ l ∧ l ≤ h ∧ h ≤ es.length))
    | some l, some h, some m =>
      match hi, asIntA m with
      | some _, some m => some (.sl sz ((es.take h.toNat).drop l.toNat) .full, dp (0 ≤ l ∧ l ≤ h ∧ h = m ∧ h ≤ es.length))
      | _, _ => none
    | _, _, _ => none
  | _ => none

def byteEls (s : ByteArray) : List (List AV) := s.data.toList.map fun b => [.con (.int .u8 b.toNat)]

def elemsOf (isStr : Bool) (sz : Nat) : AV → Option (List (List AV))
  | .sl z es _ => if z = sz ∧ isStr = false then some es else none
  | .con (.slice none 0 0) => if isStr = false then some [] else none
  | .con (.string s) => if sz = 1 ∧ isStr = true then some (byteEls s) else none
  | _ => none

def roomA : Nat := 140737488355328

def appendA (loc : List AObj) (isStr : Bool) (sz bytes : Nat) (s x : AV) : Option (AV × List AObj × DP) :=
  match elemsOf isStr sz x with
  | none => none
  | some new =>
    match s with
    | .con (.slice none 0 0) => some (.sl sz new (.own loc.length), loc ++ [.tok true], dp (new.length * bytes ≤ roomA ∧ new.length ≤ roomA))
    | .sl z es .full => if z = sz then some (.sl sz (es ++ new) (.own loc.length), loc ++ [.tok true], dp ((es.length + new.length) * bytes ≤ roomA ∧ es.length + new.length ≤ roomA)) else none
    | .sl z es (.own t) =>
      if z = sz then
        match loc[t]? with
        | some (.tok true) => some (.sl sz (es ++ new) (.own loc.length), (loc.set t (.tok false)) ++ [.tok true], dp ((es.length + new.length) * bytes ≤ roomA ∧ es.length + new.length ≤ roomA))
        | _ => none
      else none
    | _ => none

/-- the same, where what is made is to be an object that may be written -/
def appendV (loc : List AObj) (isStr : Bool) (sz bytes : Nat) (s x : AV) : Option (AV × List AObj × DP) :=
  match s with
  | .con (.slice none 0 0) =>
    match elemsOf isStr sz x with
    | none => none
    | some new => some (.vw sz loc.length 0 new.length, loc ++ [.cells new.flatten], dp (new.length * bytes ≤ roomA ∧ new.length ≤ roomA))
  | .vw z o 0 len =>
    match elemsOf isStr sz x with
    | none => none
    | some new =>
      if z = sz then
        match loc[o]? with
        | some (.cells cs) => some (.vw sz loc.length 0 (len + new.length), loc.set o .gone ++ [.cells (cs ++ new.flatten)], dp ((len + new.length) * bytes ≤ roomA ∧ len + new.length ≤ roomA ∧ cs.length = len * sz ∧ 0 < sz))
        | _ => none
      else none
  | s => appendA loc isStr sz bytes s x

def fillA (place : Nat → Option (Nat × Nat)) (cells : List AV) : List (Nat × AV) → Option (List AV)
  | [] => some cells
  | (i, v) :: rest =>
    match place i with
    | none => none
    | some (off, size) =>
      if v.cells.length = size ∧ off + size ≤ cells.length then fillA place (cells.take off ++ (v.cells ++ cells.drop (off + size))) rest else none

def zeroA (P : Program) (t : TypeId) : Option AV := ((P.info? t).bind fun i => i.zero).map conv

def valAt (es : List (AV × AV)) (z : AV) : Option Nat → AV
  | some i => ((es[i]?).map (·.2)).getD z
  | none => z

def chunk (sz : Nat) : Nat → List AV → List (List AV)
  | 0, _ => []
  | n + 1, cs => cs.take sz :: chunk sz n (cs.drop sz)

/-- operations that leave the objects alone -/
def apure (P : Program) (ev : Operand → AV) (loc : List AObj) : Op → Option (AV × DP)
  | .move x | .assign x => some (ev x, dp True)
  | .build t parts =>
    match placesOf P t, zeroOf P t with
    | some ps, some z =>
      match fillA (ps[·]?) (z.map .con) (parts.toList.map fun p => (p.1, ev p.2)) with
      | some cs => some (.agg cs, dp ((parts.toList.all fun p => (ev p.2).cells.all AV.one) = true))
      | none => none
    | _, _ => none
  | .load t x =>
    match ev x with
    | .ptr o off =>
      match loc[o]? with
      | some (.cells cs) => partA P t cs off
      | _ => none
    | .cptr cs => partA P t cs 0
    | _ => none
  | .fieldAddr s x f =>
    match fieldOf P s f with
    | some (off, ft) =>
      match kindOf P ft with
      | some (_, n + 1) =>
        match ev x with
        | .ptr o b => some (.ptr o (b + off), dp True)
        | .cptr cs => some (.cptr (cs.drop off), dp True)
        | _ => none
      | _ => none
    | none => none
  | .indexAddr t x i =>
    match elOf P t with
    | some (_, sz, _) =>
      match ev x, asIntA (ev i) with
      | .sl z es _, some n => if z = sz then some (.cptr (es.getD n.toNat []), dp (0 ≤ n ∧ n < es.length)) else none
      | .vw z o off len, some n => if z = sz then some (.ptr o ((off + n.toNat) * sz), dp (0 ≤ n ∧ n < len)) else none
      | _, _ => none
    | none =>
      match arrOf P t with
      | some (len, sz) =>
        match ev x, asIntA (ev i) with
        | .ptr o b, some n => some (.ptr o (b + n.toNat * sz), dp (0 ≤ n ∧ n < len))
        | .cptr cs, some n => some (.cptr (cs.drop (n.toNat * sz)), dp (0 ≤ n ∧ n < len))
        | _, _ => none
      | none => none
  | .field t x f =>
    match fieldOf P t f with
    | some (off, ft) =>
      match ev x with
      | .agg cs => partA P ft cs off
      | _ => none
    | none => none
  | .index t x i =>
    match P.underlying t, ev x, asIntA (ev i) with
    | some .string, .con (.string s), some n => some (.con (.int .u8 ((s.data.toList.getD n.toNat 0).toNat : Nat)), dp (0 ≤ n ∧ n < s.size))
    | _, _, _ => none
  | .binOp op t x y _ =>
    match abin op (ev x) (ev y) with
    | some r => some r
    | none =>
      if okKey P t (ev x) then
        match op, keq (ev x) (ev y) with
        | .eql, some b => some (.bool b, dp True)
        | .neq, some b => some (.bool !b, dp True)
        | _, _ => none
      else none
  | .unOp .not _ x =>
    match ev x with
    | .con (.bool b) => some (.bool !b, dp True)
    | _ => none
  | .unOp .neg _ x =>
    match ev x with
    | .con (.int k n) => some (.con (.int k (k.wrap (0 - n))), dp True)
    | _ => none
  | .slice t x lo hi mx =>
    match P.underlying t with
    | some .string =>
      match ev x with
      | .con (.string s) => sliceA (.con (.string s)) (lo.map ev) (hi.map ev) (mx.map ev)
      | _ => none
    | some (.slice e) =>
      match (P.info? e).map (·.size), ev x with
      | some sz, .sl z es k => if z = sz then sliceA (.sl z es k) (lo.map ev) (hi.map ev) (mx.map ev) else none
      | some sz, .con (.slice none 0 0) => sliceA (.sl sz [] .full) (lo.map ev) (hi.map ev) (mx.map ev)
      | _, _ => none
    | _ => none
  | .extract x i =>
    match ev x with
    | .tup vs => match vs[i]? with
      | some v => some (v, dp True)
      | none => none
    | _ => none
  | .nilCheck x =>
    match ev x with
    | .ptr o off => some (.ptr o off, dp True)
    | .cptr cs => some (.cptr cs, dp True)
    | .fn f a b => some (.fn f a b, dp True)
    | _ => none
  | .makeFunc (.func f) first cap => some (.fn f (first.toList.map ev) (cap.toList.map ev), dp True)
  | .lookup t m k ok =>
    match P.underlying t, ev m with
    | some (.map kt et), .mp o =>
      match loc[o]?, zeroA P et with
      | some (.umap true es), some z =>
        match mfind (ev k) es with
        | some r => some (if ok then .tup [valAt es z r, .bool r.isSome] else valAt es z r, dp (okKey P kt (ev k) = true ∧ (es.all fun e => (keq (ev k) e.1).isSome) = true))
        | none => none
      | some (.map es), some z =>
        match mfind (ev k) es with
        | some r => some (if ok then .tup [valAt es z r, .bool r.isSome] else valAt es z r, dp (okKey P kt (ev k) = true))
        | none => none
      | _, _ => none
    | _, _ => none
  | .entry it =>
    match ev it with
    | .ptr o 0 =>
      match loc[o]? with
      | some (.iter (.mp m) _ seen last) =>
        match loc[m]?, seen.getLast? with
        | some (.map es), some s =>
          match es[s]? with
          | some e => some (.tup [e.1, e.2], dp (es.length = last))
          | none => none
        | _, _ => none
      | _ => none
    | _ => none
  | .call { callee := .builtin .len, args, argTypes } =>
    match args.toList.map ev, argTypes.toList with
    | [x], t :: _ =>
      match P.underlying t, x with
      | some .string, .con (.string s) => some (.int s.size, dp True)
      | some (.slice _), x => (lenA x).map fun (n : Nat) => (AV.int (n : Int), dp True)
      | some (.map _ _), .mp o => match loc[o]? with
        | some (.map m) => some (.int m.length, dp True)
        | _ => none
      | _, _ => none
    | _, _ => none
  | .call { callee := .builtin .max, args, .. } =>
    match args.toList.map ev with
    | [.con (.int k a), .con (.int _ b)] => some (.con (.int k (if b > a then b else a)), dp True)
    | _ => none
  | .call { callee := .builtin .min, args, .. } =>
    match args.toList.map ev with
    | [.con (.int k a), .con (.int _ b)] => some (.con (.int k (if b < a then b else a)), dp True)
    | _ => none
  | _ => none

/-- which slice types' appends make objects -/
class OwnTy (P : Program) where
  own : TypeId → Bool

/-- operations that make or change objects -/
def astate (P : Program) [OwnTy P] (ev : Operand → AV) (loc : List AObj) : Op → Option (AV × List AObj × DP)
  | .alloc e => (zeroOf P e).map fun z => (.ptr loc.length 0, loc ++ [.cells (z.map .con)], dp True)
  | .box _ x => some (.ptr loc.length 0, loc ++ [.cells (ev x).cells], dp (((ev x).cells.all AV.one) = true))
  | .buildSlice t len parts =>
    match elOf P t with
    | some (e, sz, _) =>
      match zeroOf P e with
      | some z =>
        match fillA (fun i => some (i * sz, sz)) ((List.replicate len z).flatten.map .con) (parts.toList.map fun p => (p.1, ev p.2)) with
        | some cs => some (.sl sz (chunk sz len cs) .full, loc, dp (len * sz ≤ 2 ^ 24 ∧ 0 < sz ∧ (parts.toList.all fun p => (ev p.2).cells.all AV.one) = true))
        | none => none
      | none => none
    | none => none
  | .store t a x =>
    match ev a, kindOf P t with
    | .ptr o off, some (_, n) =>
      match loc[o]? with
      | some (.cells cs) => some (.undef, loc.set o (.cells (cs.take off ++ ((ev x).cells ++ cs.drop (off + (ev x).cells.length)))), dp (off + n ≤ cs.length ∧ (ev x).cells.length = n ∧ ((ev x).cells.all AV.one) = true ∧ 0 < cs.length))
      | _ => none
    | _, _ => none
  | .call { callee := .builtin .append, args, argTypes } =>
    match args.toList.map ev, argTypes.toList with
    | [s, x], [t, u] =>
      match elOf P t, P.underlying u with
      | some (e, sz, bytes), some (.slice _) => if (zeroOf P e).isSome then (if OwnTy.own P t then appendV loc false sz bytes s x else appendA loc false sz bytes s x) else none
      | some (e, sz, bytes), some .string => if (zeroOf P e).isSome then (if OwnTy.own P t then appendV loc true sz bytes s x else appendA loc true sz bytes s x) else none
      | _, _ => none
    | _, _ => none
  | .makeMap _ none => some (.mp loc.length, loc ++ [.map []], dp True)
  | .mapUpdate t m k x | .insert t m k x =>
    match P.underlying t, ev m with
    | some (.map kt _), .mp o =>
      match loc[o]? with
      | some (.map es) =>
        match mfind (ev k) es with
        | some (some i) => some (.undef, loc.set o (.map (es.set i (ev k, ev x))), dp (okKey P kt (ev k) = true))
        | some none => some (.undef, loc.set o (.map (es ++ [(ev k, ev x)])), dp (okKey P kt (ev k) = true))
        | none => none
      | _ => none
    | _, _ => none
  | .mapEntry t m k =>
    match P.underlying t, ev m with
    | some (.map kt et), .mp o =>
      match loc[o]?, zeroA P et with
      | some (.map es), some z =>
        match mfind (ev k) es with
        | some (some i) => some (.tup [valAt es z (some i), .int i], loc.set o (.map (es.set i (ev k, valAt es z (some i)))), dp (okKey P kt (ev k) = true))
        | some none => some (.tup [z, .int es.length], loc.set o (.map (es ++ [(ev k, z)])), dp (okKey P kt (ev k) = true))
        | none => none
      | _, _ => none
    | _, _ => none
  | .entryStore _ m s x =>
    match ev m, asIntA (ev s) with
    | .mp o, some n =>
      match loc[o]? with
      | some (.map es) =>
        match es[n.toNat]? with
        | some e => some (.undef, loc.set o (.map (es.set n.toNat (e.1, ev x))), dp (0 ≤ n))
        | none => none
      | _ => none
    | _, _ => none
  | .range t x =>
    match P.underlying t, ev x with
    | some .string, .con (.string s) => some (.ptr loc.length 0, loc ++ [.siter s 0], dp True)
    | some (.map _ _), .mp o =>
      match loc[o]? with
      | some (.map es) => some (.ptr loc.length 0, loc ++ [.iter (.mp o) es.length [] es.length], dp True)
      | _ => none
    | _, _ => none
  | .next x true =>
    match ev x with
    | .ptr o 0 =>
      match loc[o]? with
      | some (.siter s pos) =>
        if pos < s.size then some (.tup [.bool true, .int pos, .con (.int .i32 (Utf8.decode s pos).1)], loc.set o (.siter s (pos + (Utf8.decode s pos).2)), dp True)
        else some (.tup [.bool false], loc, dp True)
      | _ => none
    | _ => none
  | _ => none

/-- items of the todo list -/
inductive AI where
  | code (c : Code)
  | ops (ops : Array Oper) (todo : List Nat)
  | inBlock (id : Nat)
  | inScope (body : Code)
  | inLoop (body : Code)

def AI.item : AI → Item
  | .code c => .code c
  | .ops xs todo => .inRegion xs todo
  | .inBlock id => .inBlock id
  | .inScope body => .inScope body
  | .inLoop body => .inLoop body

def exitA (id : Nat) : List AI → Option (List AI)
  | .inBlock id' :: k => if id' == id then some k else exitA id k
  | _ :: k => exitA id k
  | [] => none

/-- Where a run stands still. -/
inductive Stop where
  | ret
  | cond (c : AV) (thn els : List AI)
  | guard (b : Bool) (o : Oper) (ops : Array Oper) (is : List Nat) (k : List AI)
  | call (f : AV) (args : List AV) (dst : Option Tmp) (k : List AI)
  | loop (body : Code) (k : List AI)
  | inLoop (body : Code) (k : List AI)
  | at (k : List AI)

/-- is an operation wanted? (its guard's value, where it is known by a Bool) -/
def wantedA (ops : Array Oper) (fr : Fr) (g : Nat × Bool) : Option Bool :=
  match (ops[g.1]?).bind (·.dst) with
  | some t =>
    match fr.tmps.getD t .undef with
    | .con (.bool b) => some (if g.2 then b else !b)
    | .gd b0 (.con (.bool b)) => some (if g.2 then b0 && b else b0 && !b)
    | .con (.tuple _) => some false
    | _ => none
  | none => none

def mkgd : Bool → AV → AV
  | true, v => v
  | false, _ => .undef

abbrev RunRes := Stop × Fr × List AObj × Prop

/-- a truth out of two, of which only one need be known -/
def pickA (c a b : AV) : Option (AV × DP) :=
  match c with
  | .con (.bool t) =>
    match a.strip, b.strip with
    | .con (.bool x), .con (.bool y) => some (.bool (if t then x else y), dp ((t = true → a.gdOf = true) ∧ (t = false → b.gdOf = true)))
    | .con (.bool x), _ => match t with
      | true => some (.bool x, dp (a.gdOf = true))
      | false => none
    | _, .con (.bool y) => match t with
      | true => none
      | false => some (.bool y, dp (b.gdOf = true))
    | _, _ => none
  | _ => none

/-- one operation whose guard, if any, is met -/
def aop (P : Program) [OwnTy P] (fr : Fr) (loc : List AObj) (op : Op) : Option (AV × List AObj × DP) :=
  match op with
  | .pick c a b =>
    match pickA (fr.eval c) (fr.eval a) (fr.eval b) with
    | some (v, C) => some (v, loc, C)
    | none => none
  | op =>
    match apure P fr.eval loc op with
    | some (v, c) => some (v, loc, c)
    | none => astate P fr.eval loc op

def callA (fr : Fr) : Op → Option (AV × List AV)
  | .call { callee := .value f, args, .. } => some (fr.eval f, args.toList.map fr.eval)
  | _ => none

def opGds (fr : Fr) (op : Op) : Bool := op.operands.toList.all fun x => (fr.eval x).gdOf

/-- run to the next call, test, loop or return -/
def arun (P : Program) [OwnTy P] : Nat → List AI → Fr → List AObj → Prop → RunRes
  | 0, K, fr, loc, C => (.at K, fr, loc, C)
  | n + 1, K, fr, loc, C =>
    match K with
    | [] => (.ret, fr, loc, C)
    | .code .ret :: _ => (.ret, fr, loc, C)
    | .code .skip :: k => arun P n k fr loc C
    | .code (.label _) :: k => arun P n k fr loc C
    | .inBlock _ :: k => arun P n k fr loc C
    | .inScope _ :: k => arun P n k fr loc C
    | .code (.scope c) :: k => arun P n (.code c :: .inScope c :: k) fr loc C
    | .code (.seq a b) :: k => arun P n (.code a :: .code b :: k) fr loc C
    | .code (.block id c) :: k => arun P n (.code c :: .inBlock id :: k) fr loc C
    | .code (.exit id) :: k =>
      match exitA id k with
      | some k' => arun P n k' fr loc C
      | none => (.at K, fr, loc, C)
    | .code (.region _ ops false) :: k => arun P n (.ops ops (List.range ops.size) :: k) fr loc C
    | .code (.cond c a b) :: k => (.cond (fr.eval c) (.code a :: k) (.code b :: k), fr, loc, C)
    | .code (.loop c) :: k => (.loop c k, fr, loc, C)
    | .inLoop c :: k => (.inLoop c k, fr, loc, C)
    | .ops _ [] :: k => arun P n k fr loc C
    | .ops ops (i :: is) :: k =>
      match ops[i]? with
      | none => (.at K, fr, loc, C)
      | some o =>
        match o.guard with
        | none =>
          match callA fr o.op with
          | some (f, args) => (.call f args o.dst (.ops ops is :: k), fr, loc, C)
          | none =>
            match aop P fr loc o.op with
            | some (v, loc', c) => arun P n (.ops ops is :: k) (fr.put o.dst v) loc' (C ∧ c.p)
            | none => (.at K, fr, loc, C)
        | some g =>
          match wantedA ops fr g with
          | none => (.at K, fr, loc, C)
          | some b =>
            match apure P (fun x => (fr.eval x).strip) loc o.op with
            | some (v, c) => arun P n (.ops ops is :: k) (fr.put o.dst (.gd b v)) loc (C ∧ (b = true → c.p ∧ opGds fr o.op = true))
            | none => (.guard b o ops is k, fr, loc, C)
    | _ => (.at K, fr, loc, C)

end Go.Ab

namespace Go.Ab
variable {P : Program}

theorem kindOf_spec {t : TypeId} {b : Bool} {n : Nat} (h : kindOf P t = some (b, n)) :
    ∃ d i, P.underlying t = some d ∧ P.info? t = some i ∧ i.size = n ∧ (match d with | .struct _ | .array _ _ => true | _ => false) = b := by
  unfold kindOf at h
  split at h
  · rename_i d i hd hi
    simp only [Option.some.injEq, Prod.mk.injEq] at h
    exact ⟨d, i, hd, hi, h.2, h.1⟩
  · cases h

theorem run_underlying' {t : TypeId} {d : TypeDesc} (h : P.underlying t = some d) (w : World) : (underlying t).run P w = .ok d w := run_underlying h w

theorem run_typeInfo' {t : TypeId} {i : TypeInfo} (h : P.info? t = some i) (w : World) : (typeInfo t).run P w = .ok i w := by
  simp [typeInfo, h]
theorem run_sizeOf' {t : TypeId} {i : TypeInfo} (h : P.info? t = some i) (w : World) : (sizeOf t).run P w = .ok i.size w := by
  simp [sizeOf, run_typeInfo' h]

theorem run_isAgg' {t : TypeId} {b : Bool} {n : Nat} (h : kindOf P t = some (b, n)) (w : World) : (isAgg t).run P w = .ok b w := by
  obtain ⟨d, i, hd, _, _, hb⟩ := kindOf_spec h
  unfold isAgg
  rw [Sem.run_bind, run_underlying' hd]
  simp only [Result.andThen_ok]
  cases d <;> simp_all

theorem run_loadVar' {t : TypeId} {b : Bool} {n : Nat} (h : kindOf P t = some (b, n)) (w : World) (blk off : Nat) (vs : List Value) (hr : w.rangeAt blk off vs) :
    (b = true → n ≤ vs.length → (loadVar t ⟨blk, off, none⟩).run P w = .ok (.agg (vs.take n).toArray) w) ∧
    (b = false → ∀ v, vs[0]? = some v → (loadVar t ⟨blk, off, none⟩).run P w = .ok v w) := by
  obtain ⟨d, i, hd, hi, hn, hb⟩ := kindOf_spec h
  constructor
  · rintro rfl hle
    refine run_loadVar_mid w blk off t (vs.take n) d ?_ hd ?_ ?_
    · intro j v hj
      refine hr j v ?_
      simp only [List.getElem?_take] at hj
      split at hj
      · exact hj
      · simp at hj
    · cases d <;> simp_all
    · simp [hi, hn]; omega
  · rintro rfl v hv
    have hc : w.cell? ⟨blk, off, none⟩ = some v := by simpa using hr 0 v hv
    simp [loadVar, run_isAgg' h, hc]

/-- what a part of known cells is -/
theorem partA_load {R : Rep} {w : World} {t : TypeId} {cs : List AV} {off : Nat} {v : AV} {C : DP} (h : partA P t cs off = some (v, C)) (hC : C.p)
    {vs : List Value} (hv : γs R cs vs) (h1 : ones vs) {blk base : Nat} (hr : w.rangeAt blk base vs) :
    ∃ x, (loadVar t ⟨blk, base + off, none⟩).run P w = .ok x w ∧ γ R v x := by
  have hr' : w.rangeAt blk (base + off) (vs.drop off) := by
    intro j u hj
    have := hr (off + j) u (by simpa using hj)
    rwa [← Nat.add_assoc] at this
  have hlen := γs_length hv
  unfold partA at h
  split at h
  · rename_i n hk
    cases h
    simp only [dp_p] at hC
    refine ⟨_, (run_loadVar' hk w blk (base + off) (vs.drop off) hr').1 rfl (by simp; omega), ?_⟩
    simp only [γ]
    exact ⟨_, rfl, γs_take (γs_drop hv off) n, ones_take (ones_drop h1 off) n⟩
  · rename_i n hk
    cases h
    obtain ⟨u, hu, hg⟩ := γs_get hv (i := off) (c := cs.getD off .undef) (by simp [List.getD, List.getElem?_eq_getElem hC])
    exact ⟨u, (run_loadVar' hk w blk (base + off) (vs.drop off) hr').2 rfl u (by simpa using hu), hg⟩
  · cases h

theorem partA_part {R : Rep} {w : World} {t : TypeId} {cs : List AV} {off : Nat} {v : AV} {C : DP} (h : partA P t cs off = some (v, C)) (hC : C.p)
    {vs : List Value} (hv : γs R cs vs) (h1 : ones vs) :
    ∃ x, (part t vs.toArray off).run P w = .ok x w ∧ γ R v x := by
  have hlen := γs_length hv
  unfold partA at h
  split at h
  · rename_i n hk
    cases h
    obtain ⟨d, i, hd, hi, hn, hb⟩ := kindOf_spec hk
    refine ⟨.agg ((vs.drop off).take n).toArray, ?_, ?_⟩
    · simp [part, run_isAgg' hk, run_sizeOf' hi, hn]
    · simp only [γ]
      exact ⟨_, rfl, γs_take (γs_drop hv off) n, ones_take (ones_drop h1 off) n⟩
  · rename_i n hk
    cases h
    obtain ⟨u, hu, hg⟩ := γs_get hv (i := off) (c := cs.getD off .undef) (by simp [List.getD, List.getElem?_eq_getElem hC])
    refine ⟨u, ?_, hg⟩
    simp [part, run_isAgg' hk, hu]
  · cases h

theorem fieldOf_spec {s : TypeId} {f off : Nat} {ft : TypeId} (h : fieldOf P s f = some (off, ft)) :
    ∃ fs g, P.underlying s = some (.struct fs) ∧ fs[f]? = some g ∧ g.offset = off ∧ g.type = ft := by
  unfold fieldOf at h
  split at h
  · rename_i fs hfs
    simp only [Option.map_eq_some_iff, Prod.mk.injEq] at h
    obtain ⟨g, h1, h2, h3⟩ := h
    exact ⟨fs, g, hfs, h1, h2, h3⟩
  · cases h

theorem Addr.add_eq (b o j : Nat) : (⟨b, o, none⟩ : Addr).add j = ⟨b, o + j, none⟩ := by unfold Addr.add; split <;> simp_all

theorem Inv.range {R : Rep} {loc : List AObj} {w : World} (h : Inv R loc w) {b off : Nat} {vs : List Value} (hr : R.holds b off vs) : w.rangeAt b off vs :=
  fun j v hj => h.F _ _ _ (hr j v hj)

theorem Inv.cells {R : Rep} {loc : List AObj} {w : World} (h : Inv R loc w) {o : Nat} {cs : List AV} (ho : loc[o]? = some (.cells cs)) :
    ∃ r vs, R.ob[o]? = some r ∧ γs R cs vs ∧ ones vs ∧ w.rangeAt r.blk 0 vs ∧ (cs ≠ [] → ∃ ws t, w.heap[r.blk]? = some (.cells (vs ++ ws).toArray t (0, 0)) ∧ (∀ j, R.F r.blk j = none) ∧ r.hi ≤ vs.length + ws.length) := by
  have hlt : o < loc.length := (List.getElem?_eq_some_iff.1 ho).1
  have hr : R.ob[o]? = some (R.ob[o]'(by rw [h.len]; exact hlt)) := List.getElem?_eq_getElem _
  have hok := h.objs o _ _ ho hr
  simp only [objOk] at hok
  by_cases hne : cs = []
  · subst hne
    exact ⟨_, [], hr, by simp [γs], by simp [ones], fun j v hj => by simp at hj, fun h => absurd rfl h⟩
  obtain ⟨vs, ws, t, h1, h2, h3, h4, h5⟩ := hok hne
  refine ⟨_, vs, hr, h2, h3, ?_, fun _ => ⟨ws, t, h1, h4, h5⟩⟩
  intro j v hj
  have hlt : j < vs.length := (List.getElem?_eq_some_iff.1 hj).1
  simp [World.cell?, h1, List.getElem?_append_left hlt, hj]


theorem elOf_spec {t e : TypeId} {sz bytes : Nat} (h : elOf P t = some (e, sz, bytes)) :
    ∃ i, P.underlying t = some (.slice e) ∧ P.info? e = some i ∧ i.size = sz ∧ i.bytes = bytes := by
  unfold elOf at h
  split at h
  · rename_i e' he
    simp only [Option.map_eq_some_iff, Prod.mk.injEq] at h
    obtain ⟨i, hi, rfl, h2, h3⟩ := h
    exact ⟨i, he, hi, h2, h3⟩
  · cases h

theorem asIntA_spec {R : Rep} {v : AV} {x : Value} {n : Int} (h : asIntA v = some n) (hx : γ R v x) : ∃ k, x = .int k n := by
  unfold asIntA at h
  split at h
  · cases h; simp only [γ] at hx; exact ⟨_, hx⟩
  · cases h

theorem bool_spec {R : Rep} {b : Bool} {x : Value} (hx : γ R (.con (.bool b)) x) : x = .bool b := by simpa only [γ] using hx

/-- zero cells -/
theorem zeroOf_spec {t : TypeId} {z : List Value} (h : zeroOf P t = some z) : ∃ i v, P.info? t = some i ∧ i.zero = some v ∧ v.cells.toList = z ∧ ones z ∧ z.length = i.size := by
  unfold zeroOf at h
  simp only [Option.bind_eq_some_iff] at h
  obtain ⟨i, hi, v, hv, hz⟩ := h
  split at hz
  · rename_i h1
    cases hz
    simp only [Bool.and_eq_true, beq_iff_eq] at h1
    exact ⟨i, v, hi, hv, rfl, fun u hu => List.all_eq_true.1 h1.1 u hu, by simpa using h1.2⟩
  · cases hz

theorem run_zeroValue' {t : TypeId} {i : TypeInfo} {v : Value} (hi : P.info? t = some i) (hz : i.zero = some v) (w : World) : (zeroValue t).run P w = .ok v w := by
  simp [zeroValue, run_typeInfo' hi, hz]

/-! ### abin -/
theorem bytes_list_beq (a b : ByteArray) : (a.toList == b.toList) = decide (a = b) := by
  rw [ByteArray.toList_eq, ByteArray.toList_eq]
  by_cases h : a = b
  · subst h; simp
  · have : a.data.toList ≠ b.data.toList := fun e => h (ByteArray.ext (Array.toList_inj.1 e))
    simp only [h, decide_false]
    exact beq_eq_false_iff_ne.2 this

theorem bytes_list_beq' (a b : ByteArray) : (a.data.toList == b.data.toList) = decide (a = b) := by
  rw [← bytes_list_beq, ByteArray.toList_eq, ByteArray.toList_eq]

theorem abin_sound {R : Rep} {op : BinOp} {p q v : AV} {C : DP} (h : abin op p q = some (v, C)) (hC : C.p) {x y : Value} (hx : γ R p x) (hy : γ R q y) (w : World) (t : TypeId) (a b : Operand) :
    ∃ z, (do eqGuard op t a b x y; binOp op t x y : Sem Value).run P w = .ok z w ∧ γ R v z := by
  unfold abin at h
  split at h
  · rename_i k n k' m
    simp only [γ] at hx hy
    subst hx; subst hy
    have hg : (eqGuard op t a b (.int k n) (.int k' m)).run P w = .ok () w := by
      unfold eqGuard; cases op <;> rfl
    split at h
    · rename_i hk
      subst hk
      rw [Sem.run_bind, hg]
      simp only [Result.andThen_ok]
      cases op <;> simp only [Option.some.injEq, Prod.mk.injEq, reduceCtorEq] at h
      all_goals (obtain ⟨rfl, rfl⟩ := h)
      all_goals simp_all [binOp, Op.intArith, Op.intDiv, Op.intCmp, γ]
    · cases h
  · rename_i s u
    simp only [γ] at hx hy
    subst hx; subst hy
    have hg : (eqGuard op t a b (.string s) (.string u)).run P w = .ok () w := by
      unfold eqGuard; cases op <;> rfl
    rw [Sem.run_bind, hg]
    simp only [Result.andThen_ok]
    cases op <;> simp only [Option.some.injEq, Prod.mk.injEq, reduceCtorEq] at h
    all_goals (obtain ⟨rfl, rfl⟩ := h)
    all_goals simp_all only [binOp, Op.stringOp, γ, bytes_list_beq]
    all_goals simp_all [ByteArray.toList_eq]
  · cases h

end Go.Ab

namespace Go.Ab
variable {P : Program}

/-! ### Keys -/
theorem scal_value {R : Rep} {d : TypeDesc} {c : AV} {x : Value} (h : scal d c = true) (hx : γ R c x) :
    (∃ k n, d = .int k ∧ c = .con (.int k n) ∧ x = .int k n) ∨ (∃ s, d = .string ∧ c = .con (.string s) ∧ x = .string s) ∨ (∃ b, d = .bool ∧ c = .con (.bool b) ∧ x = .bool b) := by
  unfold scal at h
  split at h
  · rename_i k k' n
    simp only [decide_eq_true_eq] at h
    subst h
    simp only [γ] at hx
    exact .inl ⟨_, _, rfl, rfl, hx⟩
  · simp only [γ] at hx
    exact .inr (.inl ⟨_, rfl, rfl, hx⟩)
  · simp only [γ] at hx
    exact .inr (.inr ⟨_, rfl, rfl, hx⟩)
  · cases h

theorem run_equal_scal {R : Rep} {w : World} {t : TypeId} {d : TypeDesc} (ht : P.underlying t = some d) {p q : AV} {x y : Value} {b : Bool} (h : scal d p = true) (hk : keq1 p q = some b) (hx : γ R p x) (hy : γ R q y) (n : Nat) :
    (Op.equalIn (n + 1) t x y).run P w = .ok b w := by
  rcases scal_value h hx with ⟨k, m, rfl, rfl, rfl⟩ | ⟨s, rfl, rfl, rfl⟩ | ⟨u, rfl, rfl, rfl⟩
  · cases q with
    | con v =>
      cases v with
      | int k' m' =>
        simp only [keq1] at hk
        split at hk
        · rename_i e; subst e
          simp only [γ] at hy; subst hy
          cases hk
          rw [run_equalIn_int w n t k k m m' ht]
          rfl
        · cases hk
      | _ => simp [keq1] at hk
    | _ => simp [keq1] at hk
  · cases q with
    | con v =>
      cases v with
      | string s' =>
        simp only [keq1, Option.some.injEq] at hk
        simp only [γ] at hy; subst hy
        rw [run_equalIn_string w n t s s' ht, bytes_list_beq, hk]
      | _ => simp [keq1] at hk
    | _ => simp [keq1] at hk
  · cases q with
    | con v =>
      cases v with
      | bool u' =>
        simp only [keq1, Option.some.injEq] at hk
        simp only [γ] at hy; subst hy
        rw [run_equalIn_bool w n t u u' ht, hk]
      | _ => simp [keq1] at hk
    | _ => simp [keq1] at hk

theorem run_part1 {w : World} {t : TypeId} {d : TypeDesc} {i : TypeInfo} (hd : P.underlying t = some d) (hi : P.info? t = some i) {c : AV} (hs : scal d c = true) {vs : List Value} {n : Nat} {v : Value} (hv : vs[n]? = some v) :
    (part t vs.toArray n).run P w = .ok v w := by
  have hk : kindOf P t = some (false, i.size) := by
    unfold scal at hs
    unfold kindOf
    split at hs <;> first | (simp [hd, hi]; done) | cases hs
  simp [part, run_isAgg' hk, hv]

theorem run_eqFields {R : Rep} {w : World} (m : Nat) : ∀ (fs : List Field) (n : Nat) (cs ds : List AV) (vs us vs0 us0 : List Value) (b : Bool), okFields P n fs cs = true → keqs cs ds = some b → γs R cs vs → γs R ds us → vs0.drop n = vs → us0.drop n = us →
    (Op.eqFields (m + 1) vs0.toArray us0.toArray fs).run P w = .ok b w
  | [], n, cs, ds, vs, us, vs0, us0, b, h, hk, _, _, _, _ => by
    cases cs with
    | nil =>
      cases ds with
      | nil => simp only [keqs, Option.some.injEq] at hk; subst hk; simp [Op.eqFields]
      | cons _ _ => simp [keqs] at hk
    | cons _ _ => simp [okFields] at h
  | f :: fs, n, cs, ds, vs, us, vs0, us0, b, h, hk, hv, hu, ev, eu => by
    cases cs with
    | nil => simp [okFields] at h
    | cons c cs =>
      cases ds with
      | nil => simp [keqs] at hk
      | cons d0 ds =>
        simp only [okFields, Bool.and_eq_true, bne_iff_ne, ne_eq, beq_iff_eq, Option.any_eq_true] at h
        obtain ⟨⟨⟨⟨hn, ho⟩, d, hd, hsc⟩, i, hi, hsz⟩, hrest⟩ := h
        simp only [keqs] at hk
        split at hk
        · rename_i x y hx hy
          cases hk
          simp only [γs] at hv hu
          obtain ⟨v, vs', rfl, hv1, hv2⟩ := hv
          obtain ⟨u, us', rfl, hu1, hu2⟩ := hu
          have e1 : vs0[n]? = some v := by have := congrArg (·[0]?) ev; simpa using this
          have e2 : us0[n]? = some u := by have := congrArg (·[0]?) eu; simpa using this
          have e3 : vs0.drop (n + 1) = vs' := by have := congrArg (List.drop 1) ev; simpa using this
          have e4 : us0.drop (n + 1) = us' := by have := congrArg (List.drop 1) eu; simpa using this
          subst ho
          simp only [Op.eqFields]
          rw [if_pos hn]
          simp only [Sem.run_bind, run_part1 hd hi hsc e1, run_part1 hd hi hsc e2, Result.andThen_ok, run_equal_scal hd hsc hx hv1 hu1 m]
          cases x with
          | false => simp
          | true =>
            simp only [Bool.not_true, Bool.false_eq_true, if_false, Bool.true_and]
            exact run_eqFields m fs (f.offset + 1) cs ds vs' us' vs0 us0 y hrest hy hv2 hu2 e3 e4
        · cases hk

theorem okKey_cases {t : TypeId} {k : AV} (h : okKey P t k = true) :
    (∃ fs cs, P.underlying t = some (.struct fs) ∧ k = .agg cs ∧ okFields P 0 fs.toList cs = true ∧ P.stoodInHeld t = false ∧ P.eqGuardType P.depth t = false) ∨ (∃ d, P.underlying t = some d ∧ scal d k = true) := by
  unfold okKey at h
  split at h
  · rename_i fs cs hu
    simp only [Bool.and_eq_true, Bool.not_eq_true'] at h
    exact .inl ⟨fs, cs, hu, rfl, h.1.1, h.1.2, h.2⟩
  · rename_i d hu _
    exact .inr ⟨d, hu, h⟩
  · cases h

theorem scal_keq {d : TypeDesc} {p q : AV} (h : scal d p = true) : keq p q = keq1 p q := by
  unfold scal at h
  split at h <;> first | rfl | cases h

theorem run_equal_key {R : Rep} {w : World} {t : TypeId} {p q : AV} {x y : Value} {b : Bool} (h : okKey P t p = true) (hk : keq p q = some b) (hx : γ R p x) (hy : γ R q y) (n : Nat) :
    (Op.equalIn (n + 2) t x y).run P w = .ok b w := by
  rcases okKey_cases h with ⟨fs, cs, hu, rfl, hf, hs, _⟩ | ⟨d, hu, hsc⟩
  · cases q with
    | agg ds =>
      simp only [γ] at hx hy
      obtain ⟨vs, rfl, hv, _⟩ := hx
      obtain ⟨us, rfl, hu', _⟩ := hy
      have hfo : P.fieldsOf t = fs := by simp [Program.fieldsOf, hu]
      rw [run_equalIn_struct w (n + 1) t _ _ (by rw [hfo]; exact hu) hs, hfo]
      exact run_eqFields n fs.toList 0 cs ds vs us vs us b hf hk hv hu' rfl rfl
    | _ => simp [keq, keq1] at hk
  · rw [scal_keq hsc] at hk
    exact run_equal_scal hu hsc hk hx hy (n + 1)

theorem run_checkKey_scal {R : Rep} {w : World} {t : TypeId} {d : TypeDesc} {c : AV} {v : Value} (hd : P.underlying t = some d) (hsc : scal d c = true) (hv : γ R c v) (em : Bool) (m : Nat) : (Instr.checkKey em (m + 1) t v).run P w = .ok () w := by
  rcases scal_value hsc hv with ⟨k, q, rfl, _, rfl⟩ | ⟨s, rfl, _, rfl⟩ | ⟨u, rfl, _, rfl⟩ <;> simp [Instr.checkKey, run_underlying hd]

theorem run_checkKey_ab {R : Rep} {w : World} {t : TypeId} {p : AV} {x : Value} (h : okKey P t p = true) (hx : γ R p x) (em : Bool) (n : Nat) :
    (Instr.checkKey em (n + 2) t x).run P w = .ok () w := by
  rcases okKey_cases h with ⟨fs, cs, hu, rfl, hf, hs, _⟩ | ⟨d, hu, hsc⟩
  · simp only [γ] at hx
    obtain ⟨vs, rfl, hv, _⟩ := hx
    obtain ⟨m, hm⟩ : ∃ m, m = n + 1 := ⟨_, rfl⟩
    have hck : ∀ {t : TypeId} {d : TypeDesc} {c : AV} {v : Value}, P.underlying t = some d → scal d c = true → γ R c v → (Instr.checkKey em m t v).run P w = .ok () w := by
      subst hm; intro t d c v h1 h2 h3; exact run_checkKey_scal h1 h2 h3 em n
    rw [show n + 2 = m + 1 by omega]
    clear hm
    simp only [Instr.checkKey, Sem.run_bind, run_underlying hu, Result.andThen_ok]
    rw [← Array.forIn_toList]
    have key : ∀ (fs : List Field) (n : Nat) (cs : List AV) (vs' : List Value), okFields P n fs cs = true → γs R cs vs' → vs.drop n = vs' →
        (forIn (m := Sem) fs PUnit.unit (fun f __s => if f.name ≠ "_" then do
            let a ← part f.type vs.toArray f.offset
            Instr.checkKey em m f.type a
            pure (ForInStep.yield PUnit.unit)
          else pure (ForInStep.yield PUnit.unit))).run P w = .ok PUnit.unit w := by
      intro fs
      induction fs with
      | nil => intro n cs vs' _ _ _; simp
      | cons f fs ih =>
        intro n cs vs' h hv ev
        cases cs with
        | nil => simp [okFields] at h
        | cons c cs =>
          simp only [okFields, Bool.and_eq_true, bne_iff_ne, ne_eq, beq_iff_eq, Option.any_eq_true] at h
          obtain ⟨⟨⟨⟨hn, ho⟩, d, hd, hsc⟩, i, hi, hsz⟩, hrest⟩ := h
          simp only [γs] at hv
          obtain ⟨v, vs'', rfl, hv1, hv2⟩ := hv
          have e1 : vs[n]? = some v := by have := congrArg (·[0]?) ev; simpa using this
          have e3 : vs.drop (n + 1) = vs'' := by have := congrArg (List.drop 1) ev; simpa using this
          subst ho
          simp only [List.forIn_cons]
          rw [if_pos hn]
          simp only [Sem.run_bind, run_part1 hd hi hsc e1, Result.andThen_ok, hck hd hsc hv1, Sem.run_pure]
          exact ih (f.offset + 1) cs vs'' hrest hv2 e3
    have := key fs.toList 0 cs vs hf hv rfl
    exact (congrArg (fun r : Result PUnit => r.andThen fun a w' => Sem.run P (pure ()) w') this).trans rfl
  · exact run_checkKey_scal hu hsc hx em (n + 1)

theorem findNow_ab {R : Rep} {d : TypeDesc} {p : AV} {x : Value} (hsc : scal d p = true) (hx : γ R p x) : ∀ (m : List (AV × AV)) (es : List MapEntry) (r : Option Nat) (i : Nat), mfind p m = some r → γmap R m es →
    Instr.findNow d x es i = some (r.bind fun j => (es[j]?).map fun e => (i + j, e.val))
  | [], es, r, i, h, hm => by
    simp only [mfind, Option.some.injEq] at h
    simp only [γmap] at hm
    subst h; subst hm
    simp [Instr.findNow]
  | (a, c) :: m, es, r, i, h, hm => by
    simp only [γmap] at hm
    obtain ⟨e, es', rfl, ha, hc, hm'⟩ := hm
    simp only [mfind, scal_keq hsc] at h
    have hnow : ∀ b, keq1 p a = some b → Instr.sameNow d x e.key = some b := by
      intro b hb
      rcases scal_value hsc hx with ⟨k, q, rfl, rfl, rfl⟩ | ⟨s, rfl, rfl, rfl⟩ | ⟨u, rfl, rfl, rfl⟩
      · cases a with
        | con v =>
          cases v with
          | int k' m' =>
            simp only [keq1] at hb
            split at hb
            · rename_i hke
              simp only [γ] at ha
              cases hb
              rw [ha]; subst hke
              simp [Instr.sameNow]
              rfl
            · cases hb
          | _ => simp [keq1] at hb
        | _ => simp [keq1] at hb
      · cases a with
        | con v =>
          cases v with
          | string s' =>
            simp only [keq1, Option.some.injEq] at hb
            simp only [γ] at ha
            rw [ha]
            simp only [Instr.sameNow, beq_toListBytes, bytes_list_beq, hb]
          | _ => simp [keq1] at hb
        | _ => simp [keq1] at hb
      · cases a with
        | con v =>
          cases v with
          | bool s' =>
            simp only [keq1, Option.some.injEq] at hb
            simp only [γ] at ha
            rw [ha]
            simp only [Instr.sameNow, hb]
          | _ => simp [keq1] at hb
        | _ => simp [keq1] at hb
    split at h
    · rename_i hk
      cases h
      simp [Instr.findNow, hnow _ hk]
    · rename_i hk
      simp only [Option.map_eq_some_iff] at h
      obtain ⟨r', h1, rfl⟩ := h
      simp only [Instr.findNow, hnow _ hk]
      rw [findNow_ab hsc hx m es' r' (i + 1) h1 hm']
      cases r' with
      | none => rfl
      | some j =>
        simp only [Option.map_some, Option.bind_some, List.getElem?_cons_succ]
        cases es'[j]? with
        | none => rfl
        | some e' => simp; omega
    · cases h

theorem findAsking_ab {R : Rep} {w : World} {t : TypeId} {p : AV} {x : Value} (hok : okKey P t p = true) (hx : γ R p x) : ∀ (m : List (AV × AV)) (es : List MapEntry) (r : Option Nat) (i : Nat), mfind p m = some r → γmap R m es →
    (Instr.findAsking t x es i).run P w = .ok (r.bind fun j => (es[j]?).map fun e => (i + j, e.val)) w
  | [], es, r, i, h, hm => by
    simp only [mfind, Option.some.injEq] at h
    simp only [γmap] at hm
    subst h; subst hm
    simp [Instr.findAsking]
  | (a, c) :: m, es, r, i, h, hm => by
    simp only [γmap] at hm
    obtain ⟨e, es', rfl, ha, hc, hm'⟩ := hm
    simp only [mfind] at h
    split at h
    · rename_i hk
      cases h
      have := run_equal_key (w := w) hok hk hx ha 9998
      simp only [Instr.findAsking, Op.equal, Op.maxDepth, Sem.run_bind]
      rw [show (10000 : Nat) = 9998 + 2 from rfl, this]
      simp
    · rename_i hk
      simp only [Option.map_eq_some_iff] at h
      obtain ⟨r', h1, rfl⟩ := h
      have := run_equal_key (w := w) hok hk hx ha 9998
      simp only [Instr.findAsking, Op.equal, Op.maxDepth, Sem.run_bind]
      rw [show (10000 : Nat) = 9998 + 2 from rfl, this]
      simp only [Result.andThen_ok, Bool.false_eq_true, if_false]
      rw [findAsking_ab hok hx m es' r' (i + 1) h1 hm']
      cases r' with
      | none => rfl
      | some j =>
        simp only [Option.map_some, Option.bind_some, List.getElem?_cons_succ]
        cases es'[j]? with
        | none => rfl
        | some e' => simp; omega
    · cases h

theorem run_findKey_ab {R : Rep} {w : World} {t : TypeId} {p : AV} {x : Value} (hok : okKey P t p = true) (hx : γ R p x) {m : List (AV × AV)} {es : List MapEntry} {r : Option Nat} (h : mfind p m = some r) (hm : γmap R m es) :
    (Instr.findKey t x es).run P w = .ok (r.bind fun j => (es[j]?).map fun e => (j, e.val)) w := by
  rcases okKey_cases hok with ⟨fs, cs, hu, rfl, hf, hs, _⟩ | ⟨d, hu, hsc⟩
  · rw [run_findKey_eq w (by simp [hu])]
    have := findAsking_ab (w := w) hok hx m es r 0 h hm
    simpa using this
  · have := findNow_ab hsc hx m es r 0 h hm
    rw [MapKept.run_findKey hu this]
    simp

theorem γmap_length {R : Rep} : ∀ {m : List (AV × AV)} {es : List MapEntry}, γmap R m es → es.length = m.length
  | [], es, h => by simp only [γmap] at h; simp [h]
  | (a, b) :: m, es, h => by
    simp only [γmap] at h
    obtain ⟨e, es', rfl, _, _, h2⟩ := h
    simp [γmap_length h2]

theorem γmap_get {R : Rep} : ∀ {m : List (AV × AV)} {es : List MapEntry}, γmap R m es → ∀ {i : Nat} {e : AV × AV}, m[i]? = some e → ∃ x, es[i]? = some x ∧ γ R e.1 x.key ∧ γ R e.2 x.val
  | [], es, h, i, e, hi => by simp at hi
  | (a, b) :: m, es, h, i, e, hi => by
    simp only [γmap] at h
    obtain ⟨e0, es', rfl, h1, h2, h3⟩ := h
    cases i with
    | zero => simp at hi; subst hi; exact ⟨e0, by simp, h1, h2⟩
    | succ i => simp at hi; simpa using γmap_get h3 hi

theorem mfind_lt {k : AV} : ∀ {m : List (AV × AV)} {j : Nat}, mfind k m = some (some j) → ∃ e, m[j]? = some e ∧ keq k e.1 = some true
  | [], j, h => by simp [mfind] at h
  | e :: m, j, h => by
    simp only [mfind] at h
    split at h
    · rename_i hk
      cases h
      exact ⟨e, by simp, hk⟩
    · simp only [Option.map_eq_some_iff] at h
      obtain ⟨r', h1, h2⟩ := h
      cases r' with
      | none => simp at h2
      | some j' =>
        simp at h2
        obtain ⟨e', h3, h4⟩ := mfind_lt h1
        subst h2
        exact ⟨e', by simpa using h3, h4⟩
    · cases h

/-- equal keys are the same value -/
theorem keq1_same {R : Rep} {p q : AV} {x y : Value} (h : keq1 p q = some true) (hx : γ R p x) (hy : γ R q y) : x = y := by
  unfold keq1 at h
  split at h
  · split at h
    · rename_i e; subst e
      simp only [Option.some.injEq, decide_eq_true_eq] at h
      simp only [γ] at hx hy
      rw [hx, hy, h]
    · cases h
  · simp only [Option.some.injEq, decide_eq_true_eq] at h
    simp only [γ] at hx hy
    rw [hx, hy, h]
  · simp only [Option.some.injEq, beq_iff_eq] at h
    simp only [γ] at hx hy
    rw [hx, hy, h]
  · cases h

theorem keqs_same {R : Rep} : ∀ {cs ds : List AV} {vs us : List Value}, keqs cs ds = some true → γs R cs vs → γs R ds us → vs = us
  | [], [], vs, us, h, hv, hu => by simp only [γs] at hv hu; rw [hv, hu]
  | [], _ :: _, vs, us, h, hv, hu => by simp [keqs] at h
  | _ :: _, [], vs, us, h, hv, hu => by simp [keqs] at h
  | c :: cs, d :: ds, vs, us, h, hv, hu => by
    simp only [γs] at hv hu
    obtain ⟨v, vs', rfl, h1, h2⟩ := hv
    obtain ⟨u, us', rfl, h3, h4⟩ := hu
    simp only [keqs] at h
    split at h
    · rename_i a b ha hb
      simp only [Option.some.injEq, Bool.and_eq_true] at h
      obtain ⟨rfl, rfl⟩ := h
      rw [keq1_same ha h1 h3, keqs_same hb h2 h4]
    · cases h

theorem keq_same {R : Rep} {p q : AV} {x y : Value} (h : keq p q = some true) (hx : γ R p x) (hy : γ R q y) : x = y := by
  unfold keq at h
  split at h
  · simp only [γ] at hx hy
    obtain ⟨vs, rfl, h1, _⟩ := hx
    obtain ⟨us, rfl, h2, _⟩ := hy
    rw [keqs_same h h1 h2]
  · exact keq1_same h hx hy

theorem sameBits_refl_scal {R : Rep} {p : AV} {x : Value} {q : AV} {b : Bool} (h : keq1 p q = some b) (hx : γ R p x) (n : Nat) : Instr.sameBits n x x = true := by
  have hb : ∀ s : ByteArray, (s == s) = true := fun s => by rw [beq_toListBytes, bytes_list_beq]; simp
  unfold keq1 at h
  split at h
  · simp only [γ] at hx; subst hx; cases n <;> simp [Instr.sameBits]
  · simp only [γ] at hx; subst hx; cases n <;> simp only [Instr.sameBits, hb]
  · simp only [γ] at hx; subst hx; cases n <;> simp [Instr.sameBits]
  · cases h

theorem sameBits_refl {R : Rep} {p q : AV} {x : Value} {b : Bool} (h : keq p q = some b) (hx : γ R p x) (n : Nat) : Instr.sameBits (n + 1) x x = true := by
  unfold keq at h
  split at h
  · simp only [γ] at hx
    obtain ⟨vs, rfl, h1, _⟩ := hx
    simp only [Instr.sameBits, BEq.rfl, Bool.true_and, List.all_eq_true, Prod.forall]
    have key : ∀ (cs ds : List AV) (vs : List Value) (b : Bool), keqs cs ds = some b → γs R cs vs → ∀ x y, (x, y) ∈ vs.zip vs → Instr.sameBits n x y = true := by
      intro cs
      induction cs with
      | nil => intro ds vs b h hv x y hm; simp only [γs] at hv; subst hv; simp at hm
      | cons c cs ih =>
        intro ds vs b h hv x y hm
        cases ds with
        | nil => simp [keqs] at h
        | cons d ds =>
          simp only [keqs] at h
          split at h
          · rename_i a' b' ha hb
            simp only [γs] at hv
            obtain ⟨v, vs', rfl, h1, h2⟩ := hv
            simp only [List.zip_cons_cons, List.mem_cons, Prod.mk.injEq] at hm
            rcases hm with ⟨rfl, rfl⟩ | hm
            · exact sameBits_refl_scal ha h1 n
            · exact ih ds vs' b' hb h2 x y hm
          · cases h
    intro x y hm
    exact key _ _ _ _ h h1 x y hm
  · exact sameBits_refl_scal h hx _

end Go.Ab

namespace Go.Ab
variable {P : Program}

/-! ### Worlds with the same heap -/
theorem cell?_heap {w w' : World} (h : w'.heap = w.heap) (a : Addr) : w'.cell? a = w.cell? a := by simp [World.cell?, h]
theorem frozen?_heap {w w' : World} (h : w'.heap = w.heap) (a : Addr) : w'.frozen? a = w.frozen? a := by simp [World.frozen?, h]

theorem objOk_heap {R : Rep} {w w' : World} (h : w'.heap = w.heap) {o : AObj} {r : ORep} (k : objOk R w o r) : objOk R w' o r := by
  cases o with
  | cells cs => simp only [objOk, h] at k ⊢; exact k
  | tok b => cases b <;> simp only [objOk] at k ⊢ <;> (try simp only [cell?_heap h, frozen?_heap h]) <;> exact k
  | map m => simp only [objOk, h] at k ⊢; exact k
  | umap ro m => simp only [objOk, h] at k ⊢; exact k
  | iter m s e l => simp only [objOk, h] at k ⊢; exact k
  | siter s p => simp only [objOk, h] at k ⊢; exact k
  | gone => trivial

theorem Inv.heap {R : Rep} {loc : List AObj} {w w' : World} (hi : Inv R loc w) (h : w'.heap = w.heap) : Inv R loc w' :=
  ⟨fun b j v e => by rw [cell?_heap h]; exact hi.F b j v e, hi.len, fun i o r h1 h2 => objOk_heap h (hi.objs i o r h1 h2), hi.apart⟩

theorem Grow.drew (R : Rep) (loc : List AObj) (w : World) : Grow R loc w R loc w.drew :=
  ⟨rfl, rfl, rfl, Nat.le_refl _, RepLe.refl R, fun _ _ _ => ⟨rfl, fun _ => rfl⟩, fun _ _ h => h⟩

/-! ### What an object's standing asks of memory -/
theorem γmap_mono {R R' : Rep} (h : RepLe R R') : ∀ (m : List (AV × AV)) (es : List MapEntry), γmap R m es → γmap R' m es
  | [], es, k => by simpa only [γmap] using k
  | (a, b) :: m, es, k => by
    simp only [γmap] at k ⊢
    obtain ⟨e, es', h1, h2, h3, h4⟩ := k
    exact ⟨e, es', h1, γ_mono h _ _ h2, γ_mono h _ _ h3, γmap_mono h m es' h4⟩

theorem Inv.blk_lt {R : Rep} {loc : List AObj} {w : World} (h : Inv R loc w) {b : Nat} (ho : owned R loc b) : b < w.heap.size := by
  obtain ⟨i, o, r, h1, h2, h3⟩ := ho
  have hk := h.objs i o r h1 h2
  cases o with
  | cells cs =>
    obtain ⟨hne, rfl⟩ := own_cells.1 h3
    simp only [objOk] at hk
    obtain ⟨vs, ws, t, e, _⟩ := hk hne
    exact (Array.getElem?_eq_some_iff.1 e).1
  | map m =>
    simp only [own, Option.some.injEq] at h3; subst h3
    simp only [objOk] at hk
    obtain ⟨vs, t, e, _⟩ := hk
    exact (Array.getElem?_eq_some_iff.1 e).1
  | tok b =>
    cases b
    · simp [own] at h3
    · simp only [own] at h3
      split at h3
      · rename_i hlt
        simp only [Option.some.injEq] at h3; subst h3
        simp only [objOk] at hk
        obtain ⟨_, hc, _⟩ := hk r.lo (Nat.le_refl _) hlt
        obtain ⟨v, hv⟩ := Option.isSome_iff_exists.1 hc
        exact World.block_lt_of_cell? w _ hv
      · cases h3
  | umap ro m =>
    simp only [own, Option.some.injEq] at h3; subst h3
    simp only [objOk] at hk
    obtain ⟨_, _, e, _⟩ := hk
    exact (Array.getElem?_eq_some_iff.1 e).1
  | iter m s e l =>
    simp only [own, Option.some.injEq] at h3; subst h3
    simp only [objOk] at hk
    obtain ⟨_, _, e⟩ := hk
    exact (Array.getElem?_eq_some_iff.1 e).1
  | siter s p =>
    simp only [own, Option.some.injEq] at h3; subst h3
    simp only [objOk] at hk
    exact (Array.getElem?_eq_some_iff.1 hk).1
  | gone => simp [own] at h3

theorem Inv.F_lt {R : Rep} {loc : List AObj} {w : World} (h : Inv R loc w) {b j : Nat} {v : Value} (hf : R.F b j = some v) : b < w.heap.size :=
  World.block_lt_of_cell? w _ (h.F b j v hf)

theorem Inv.F_new {R : Rep} {loc : List AObj} {w : World} (h : Inv R loc w) {b : Nat} (hb : w.heap.size ≤ b) (j : Nat) : R.F b j = none := by
  cases hf : R.F b j with
  | none => rfl
  | some v => have := h.F_lt hf; omega

/-! ### F, laid on -/
def Rep.add (R : Rep) (b off : Nat) (vs : List Value) : Rep :=
  { R with F := fun b' j => if b' = b ∧ off ≤ j ∧ j < off + vs.length then vs[j - off]? else R.F b' j }

theorem Rep.add_in (R : Rep) (b off : Nat) (vs : List Value) : (R.add b off vs).holds b off vs := by
  intro j v hj
  have hlt : j < vs.length := (List.getElem?_eq_some_iff.1 hj).1
  simp only [Rep.add]
  rw [if_pos (by simp; omega), Nat.add_sub_cancel_left]
  exact hj

theorem Rep.add_le {R : Rep} {b off : Nat} {vs : List Value} (h : ∀ j, off ≤ j → j < off + vs.length → R.F b j = none) : RepLe R (R.add b off vs) := by
  refine ⟨fun b' j v hf => ?_, fun _ _ h => h⟩
  simp only [Rep.add]
  split
  · rename_i hc
    obtain ⟨rfl, h1, h2⟩ := hc
    rw [h j h1 h2] at hf; cases hf
  · exact hf

theorem Rep.add_out {R : Rep} {b off : Nat} {vs : List Value} {b' j : Nat} (h : b' ≠ b ∨ j < off ∨ off + vs.length ≤ j) : (R.add b off vs).F b' j = R.F b' j := by
  simp only [Rep.add]
  rw [if_neg]
  rintro ⟨rfl, h1, h2⟩
  rcases h with h | h | h
  · exact h rfl
  · omega
  · omega

def Rep.push (R : Rep) (r : ORep) : Rep := { R with ob := R.ob ++ [r] }
theorem Rep.push_le (R : Rep) (r : ORep) : RepLe R (R.push r) := ⟨fun _ _ _ h => h, fun i x h => by
  simp only [Rep.push]
  rw [List.getElem?_append_left (List.getElem?_eq_some_iff.1 h).1]; exact h⟩

/-! ### Objects carried from world to world -/
/-- a block's own part is as it was -/
theorem objOk_carry {R R' : Rep} {w w' : World} (hle : RepLe R R') {o : AObj} {r : ORep} (k : objOk R w o r)
    (hb : ∀ b, own o r = some b → w'.heap[b]? = w.heap[b]? ∧ ∀ j, R'.F b j = R.F b j) : objOk R' w' o r := by
  cases o with
  | cells cs =>
    simp only [objOk] at k ⊢
    intro hne
    obtain ⟨vs, ws, t, h1, h2, h3, h4, h5⟩ := k hne
    obtain ⟨e1, e2⟩ := hb r.blk (own_cells.2 ⟨hne, rfl⟩)
    exact ⟨vs, ws, t, e1.trans h1, γs_mono hle _ _ h2, h3, fun j => (e2 j).trans (h4 j), h5⟩
  | map m =>
    simp only [objOk] at k ⊢
    obtain ⟨es, c, h1, h2, h3⟩ := k
    obtain ⟨e1, e2⟩ := hb r.blk rfl
    exact ⟨es, c, e1.trans h1, γmap_mono hle _ _ h2, h3⟩
  | tok b =>
    cases b
    · trivial
    · simp only [objOk] at k ⊢
      intro j h1 h2
      have hlt : r.lo < r.hi := by omega
      obtain ⟨e1, e2⟩ := hb r.blk (by simp [own, hlt])
      obtain ⟨k1, k2, k3⟩ := k j h1 h2
      refine ⟨(e2 j).trans k1, ?_, ?_⟩
      · simpa only [World.cell?, e1] using k2
      · simpa only [World.frozen?, e1] using k3
  | umap ro m =>
    simp only [objOk] at k ⊢
    obtain ⟨es, m', h1, h2, h3⟩ := k
    exact ⟨es, m', (hb r.blk rfl).1.trans h1, γmap_mono hle _ _ h2, h3⟩
  | iter m s e l =>
    simp only [objOk] at k ⊢
    obtain ⟨b, h1, h2⟩ := k
    obtain ⟨e1, e2⟩ := hb r.blk rfl
    exact ⟨b, γ_mono hle _ _ h1, e1.trans h2⟩
  | siter s p =>
    simp only [objOk] at k ⊢
    exact (hb r.blk rfl).1.trans k
  | gone => trivial

/-- one more object, in a new block -/
theorem push_obj {R : Rep} {loc : List AObj} {w : World} (h : Inv R loc w) (ob : Obj) (o : AObj) (ro : ORep)
    (hown : ∀ b, own o ro = some b → b = w.heap.size)
    (hok : objOk (R.push ro) (w.alloc ob) o ro) :
    Inv (R.push ro) (loc ++ [o]) (w.alloc ob) ∧ Grow R loc w (R.push ro) (loc ++ [o]) (w.alloc ob) := by
  have hle := Rep.push_le R ro
  have hold : ∀ b, b < w.heap.size → (w.alloc ob).heap[b]? = w.heap[b]? := fun b hb => RowKit.Below.heap_alloc w ob b hb
  have split : ∀ (i : Nat) (o' : AObj) (r' : ORep), (loc ++ [o])[i]? = some o' → (R.push ro).ob[i]? = some r' →
      (i < loc.length ∧ loc[i]? = some o' ∧ R.ob[i]? = some r') ∨ (i = loc.length ∧ o' = o ∧ r' = ro) := by
    intro i o' r' h1 h2
    simp only [Rep.push] at h2
    by_cases hi : i < loc.length
    · rw [List.getElem?_append_left hi] at h1
      rw [List.getElem?_append_left (by rw [h.len]; exact hi)] at h2
      exact .inl ⟨hi, h1, h2⟩
    · have hi2 : i = loc.length := by
        have := (List.getElem?_eq_some_iff.1 h1).1
        simp at this; omega
      subst hi2
      rw [List.getElem?_append_right (Nat.le_refl _)] at h1
      rw [List.getElem?_append_right (by rw [h.len]; exact Nat.le_refl _)] at h2
      simp [h.len] at h1 h2
      exact .inr ⟨rfl, h1.symm, h2.symm⟩
  constructor
  · constructor
    · intro b j v hf
      have := h.F b j v hf
      rw [World.cell?_alloc_lt (h := World.block_lt_of_cell? w _ this)]; exact this
    · simp [Rep.push, h.len]
    · intro i o' r' h1 h2
      rcases split i o' r' h1 h2 with ⟨_, k1, k2⟩ | ⟨_, rfl, rfl⟩
      · refine objOk_carry hle (h.objs i o' r' k1 k2) fun b hb => ⟨hold b (h.blk_lt ⟨i, o', r', k1, k2, hb⟩), fun _ => rfl⟩
      · exact hok
    · intro i i' o1 o2 r1 r2 b h1 h2 h3 h4 h5 h6
      rcases split i o1 r1 h1 h2 with ⟨_, k1, k2⟩ | ⟨e, rfl, rfl⟩
      · rcases split i' o2 r2 h3 h4 with ⟨_, k3, k4⟩ | ⟨e', rfl, rfl⟩
        · exact h.apart i i' o1 o2 r1 r2 b k1 k2 k3 k4 h5 h6
        · have := h.blk_lt ⟨i, o1, r1, k1, k2, h5⟩
          have := hown _ h6; omega
      · rcases split i' o2 r2 h3 h4 with ⟨_, k3, k4⟩ | ⟨e', rfl, rfl⟩
        · have := h.blk_lt ⟨i', o2, r2, k3, k4, h6⟩
          have := hown _ h5; omega
        · omega
  · refine ⟨rfl, rfl, rfl, by simp, hle, fun b hb _ => ⟨hold b hb, fun _ => rfl⟩, ?_⟩
    rintro b hb ⟨i, o', r', h1, h2, h3⟩
    rcases split i o' r' h1 h2 with ⟨_, k1, k2⟩ | ⟨_, rfl, rfl⟩
    · exact ⟨i, o', r', k1, k2, h3⟩
    · have := hown _ h3; omega

/-- new cells that are never written -/
theorem add_new {R : Rep} {loc : List AObj} {w : World} (h : Inv R loc w) (vs : List Value) (t : TypeId) :
    Inv (R.add w.heap.size 0 vs) loc (w.alloc (.cells vs.toArray t)) ∧ Grow R loc w (R.add w.heap.size 0 vs) loc (w.alloc (.cells vs.toArray t)) := by
  have hle : RepLe R (R.add w.heap.size 0 vs) := Rep.add_le fun j _ _ => h.F_new (Nat.le_refl _) j
  have hold : ∀ b, b < w.heap.size → (w.alloc (.cells vs.toArray t)).heap[b]? = w.heap[b]? := fun b hb => RowKit.Below.heap_alloc w _ b hb
  have hF : ∀ b, b < w.heap.size → ∀ j, (R.add w.heap.size 0 vs).F b j = R.F b j := fun b hb j => Rep.add_out (.inl (by omega))
  constructor
  · constructor
    · intro b j v hf
      by_cases hb : b = w.heap.size
      · subst hb
        simp only [Rep.add] at hf
        split at hf
        · rw [World.cell?_alloc_new]; simpa using hf
        · rw [h.F_new (Nat.le_refl _)] at hf; cases hf
      · rw [Rep.add_out (.inl hb)] at hf
        have := h.F b j v hf
        rw [World.cell?_alloc_lt (h := World.block_lt_of_cell? w _ this)]; exact this
    · exact h.len
    · intro i o r h1 h2
      refine objOk_carry hle (h.objs i o r h1 h2) fun b hb => ?_
      have := h.blk_lt ⟨i, o, r, h1, h2, hb⟩
      exact ⟨hold b this, hF b this⟩
    · exact h.apart
  · exact ⟨rfl, rfl, rfl, by simp, hle, fun b hb _ => ⟨hold b hb, hF b hb⟩, fun b _ ho => ho⟩


/-! ### Writing -/
theorem os_setCells' (b : Nat) : ∀ (vs : List Value) (o : Nat) (w : World), (w.setCells b o vs).os = w.os ∧ (w.setCells b o vs).tape = w.tape ∧ (w.setCells b o vs).output = w.output ∧ (w.setCells b o vs).heap.size = w.heap.size
  | [], _, _ => ⟨rfl, rfl, rfl, rfl⟩
  | v :: r, o, w => by
    have h := os_setCells' b r (o + 1) (w.setCell ⟨b, o, none⟩ v)
    rw [World.setCells]
    exact ⟨h.1.trans rfl, h.2.1.trans rfl, h.2.2.1.trans rfl, h.2.2.2.trans (by simp)⟩

theorem heap_setCells (b : Nat) : ∀ (vs : List Value) (o : Nat) (w : World) (k : Nat), k ≠ b → (w.setCells b o vs).heap[k]? = w.heap[k]?
  | [], _, _, _, _ => rfl
  | v :: r, o, w, k, h => by
    rw [World.setCells, heap_setCells b r (o + 1) _ k h]
    exact RowKit.Below.heap_setCell w _ v k h

/-- writing into an object's own cells -/
theorem store_obj {R : Rep} {loc : List AObj} {w : World} (h : Inv R loc w) {o : Nat} {cs : List AV} (ho : loc[o]? = some (.cells cs)) {r : ORep} (hr : R.ob[o]? = some r)
    {vs ws : List Value} {t : TypeId} (hb : w.heap[r.blk]? = some (.cells (vs ++ ws).toArray t (0, 0))) (hne : cs ≠ []) {cs' : List AV} {vs' : List Value} (hv : γs R cs' vs') (h1 : ones vs') (hlen : r.hi ≤ vs'.length + ws.length) :
    Inv R (loc.set o (.cells cs')) (w.setRow r.blk (vs' ++ ws).toArray) ∧ Grow R loc w R (loc.set o (.cells cs')) (w.setRow r.blk (vs' ++ ws).toArray) := by
  have hlt : o < loc.length := (List.getElem?_eq_some_iff.1 ho).1
  have hF : ∀ j, R.F r.blk j = none := by
    have := h.objs o _ r ho hr
    simp only [objOk] at this
    obtain ⟨_, _, _, _, _, _, h4, _⟩ := this hne
    exact h4
  have hold : ∀ b, b ≠ r.blk → (w.setRow r.blk (vs' ++ ws).toArray).heap[b]? = w.heap[b]? := fun b hb => setRow_other w r.blk b _ hb
  have split : ∀ (i : Nat) (x : AObj) (rx : ORep), (loc.set o (.cells cs'))[i]? = some x → R.ob[i]? = some rx → (i = o ∧ x = .cells cs' ∧ rx = r) ∨ (i ≠ o ∧ loc[i]? = some x) := by
    intro i x rx hx hrx
    by_cases hi : i = o
    · subst hi
      rw [List.getElem?_set_self hlt] at hx
      rw [hr] at hrx
      exact .inl ⟨rfl, (Option.some.inj hx).symm, (Option.some.inj hrx).symm⟩
    · rw [List.getElem?_set_ne (Ne.symm hi)] at hx
      exact .inr ⟨hi, hx⟩
  have hownr : own (.cells cs) r = some r.blk := own_cells.2 ⟨hne, rfl⟩
  constructor
  · constructor
    · intro b j v hf
      have hne : b ≠ r.blk := fun e => by subst e; rw [hF j] at hf; cases hf
      have := h.F b j v hf
      simpa only [World.cell?, hold b hne] using this
    · simp [h.len]
    · intro i x rx hx hrx
      rcases split i x rx hx hrx with ⟨rfl, rfl, rfl⟩ | ⟨hi, hx'⟩
      · exact fun _ => ⟨vs', ws, t, setRow_heap w _ _ _ t (0, 0) hb, hv, h1, hF, hlen⟩
      · refine objOk_carry (RepLe.refl R) (h.objs i x rx hx' hrx) fun b hb' => ⟨hold b ?_, fun _ => rfl⟩
        rintro rfl
        exact hi (h.apart i o x _ rx r _ hx' hrx ho hr hb' hownr)
    · intro i i' x x' rx rx' b hx hrx hx' hrx' e e'
      have back : ∀ (i : Nat) (x : AObj) (rx : ORep), (loc.set o (.cells cs'))[i]? = some x → R.ob[i]? = some rx → own x rx = some b → ∃ x0, loc[i]? = some x0 ∧ own x0 rx = some b := by
        intro i x rx hx hrx e
        rcases split i x rx hx hrx with ⟨rfl, rfl, rfl⟩ | ⟨hi, hx'⟩
        · exact ⟨_, ho, own_cells.2 ⟨hne, (own_cells.1 e).2⟩⟩
        · exact ⟨x, hx', e⟩
      obtain ⟨y, hy, ey⟩ := back i x rx hx hrx e
      obtain ⟨y', hy', ey'⟩ := back i' x' rx' hx' hrx' e'
      exact h.apart i i' y y' rx rx' b hy hrx hy' hrx' ey ey'
  · refine ⟨rfl, rfl, rfl, by simp, RepLe.refl R, fun b hb' hn => ⟨hold b ?_, fun _ => rfl⟩, ?_⟩
    · rintro rfl
      exact hn ⟨o, _, r, ho, hr, hownr⟩
    · rintro b hb' ⟨i, x, rx, hx, hrx, e⟩
      rcases split i x rx hx hrx with ⟨rfl, rfl, rfl⟩ | ⟨hi, hx'⟩
      · exact ⟨_, _, _, ho, hr, own_cells.2 ⟨hne, (own_cells.1 e).2⟩⟩
      · exact ⟨i, x, rx, hx', hrx, e⟩

/-- a token that is no right any more, and a new one -/
theorem tok_write {R : Rep} {loc : List AObj} {w : World} (h : Inv R loc w) {t : Nat} (ht : loc[t]? = some (.tok true)) {r : ORep} (hr : R.ob[t]? = some r)
    (vs : List Value) (hfit : r.lo + vs.length ≤ r.hi) :
    let R' := (R.add r.blk r.lo vs).push ⟨r.blk, r.lo + vs.length, r.hi⟩
    let loc' := (loc.set t (.tok false)) ++ [.tok true]
    let w' := w.setCells r.blk r.lo vs
    Inv R' loc' w' ∧ Grow R loc w R' loc' w' := by
  intro R' loc' w'
  have hok : ∀ j, r.lo ≤ j → j < r.hi → R.F r.blk j = none ∧ (w.cell? ⟨r.blk, j, none⟩).isSome = true ∧ w.frozen? ⟨r.blk, j, none⟩ = false := by
    have := h.objs t _ r ht hr
    simpa only [objOk] using this
  have hlt : t < loc.length := (List.getElem?_eq_some_iff.1 ht).1
  have hle0 : RepLe R (R.add r.blk r.lo vs) := Rep.add_le fun j h1 h2 => (hok j h1 (by omega)).1
  have hle : RepLe R R' := hle0.trans (Rep.push_le _ _)
  have hosw := os_setCells' r.blk vs r.lo w
  have hold : ∀ b, b ≠ r.blk → w'.heap[b]? = w.heap[b]? := fun b hb => heap_setCells r.blk vs r.lo w b hb
  have hF : ∀ b, b ≠ r.blk → ∀ j, R'.F b j = R.F b j := fun b hb j => Rep.add_out (R := R) (.inl hb)
  have hsplit : ∀ (i : Nat) (x : AObj) (rx : ORep), loc'[i]? = some x → R'.ob[i]? = some rx →
      (i = loc.length ∧ x = .tok true ∧ rx = ⟨r.blk, r.lo + vs.length, r.hi⟩) ∨ (i = t ∧ x = .tok false ∧ rx = r) ∨ (i < loc.length ∧ i ≠ t ∧ loc[i]? = some x ∧ R.ob[i]? = some rx) := by
    intro i x rx hx hrx
    have hlen : (loc.set t (.tok false)).length = loc.length := by simp
    have hob : R'.ob = R.ob ++ [⟨r.blk, r.lo + vs.length, r.hi⟩] := rfl
    rw [hob] at hrx
    by_cases hi : i < loc.length
    · rw [List.getElem?_append_left (by rw [hlen]; exact hi)] at hx
      rw [List.getElem?_append_left (by rw [h.len]; exact hi)] at hrx
      by_cases hit : i = t
      · subst hit
        rw [List.getElem?_set_self hlt] at hx
        rw [hr] at hrx
        exact .inr (.inl ⟨rfl, (Option.some.inj hx).symm, (Option.some.inj hrx).symm⟩)
      · rw [List.getElem?_set_ne (Ne.symm hit)] at hx
        exact .inr (.inr ⟨hi, hit, hx, hrx⟩)
    · have hi2 : i = loc.length := by
        have := (List.getElem?_eq_some_iff.1 hx).1
        simp [loc'] at this; omega
      subst hi2
      rw [List.getElem?_append_right (by rw [hlen]; exact Nat.le_refl _)] at hx
      rw [List.getElem?_append_right (by rw [h.len]; exact Nat.le_refl _)] at hrx
      simp [h.len, hlen] at hx hrx
      exact .inl ⟨rfl, hx.symm, hrx.symm⟩
  have hcin : ∀ j (hj : j < vs.length), w'.cell? ⟨r.blk, r.lo + j, none⟩ = some vs[j] := World.cell?_setCells_in r.blk vs r.lo w (fun j hj => (hok (r.lo + j) (by omega) (by omega)).2.1)
  have hcout : ∀ j, (j < r.lo ∨ r.lo + vs.length ≤ j) → w'.cell? ⟨r.blk, j, none⟩ = w.cell? ⟨r.blk, j, none⟩ := fun j hj => World.cell?_setCells_out r.blk vs r.lo w _ (fun _ _ => hj)
  have hother : ∀ (i : Nat) (x : AObj) (rx : ORep), i ≠ t → loc[i]? = some x → R.ob[i]? = some rx → ∀ b, own x rx = some b → r.lo < r.hi → b ≠ r.blk := by
    intro i x rx hi hx hrx b hb hlt' e
    subst e
    exact hi (h.apart i t x _ rx r _ hx hrx ht hr hb (by simp [own, hlt']))
  constructor
  · constructor
    · intro b j v hf
      by_cases hb : b = r.blk
      · subst hb
        by_cases hj : r.lo ≤ j ∧ j < r.lo + vs.length
        · have hf' : vs[j - r.lo]? = some v := by
            have : R'.F r.blk j = vs[j - r.lo]? := by simp only [R', Rep.push, Rep.add]; rw [if_pos (by simp; omega)]
            rw [← this]; exact hf
          have hlt2 := (List.getElem?_eq_some_iff.1 hf').1
          have e := hcin (j - r.lo) hlt2
          rw [show r.lo + (j - r.lo) = j by omega] at e
          rw [e, ← hf', List.getElem?_eq_getElem hlt2]
        · have hf' : R.F r.blk j = some v := by
            rw [← hf]; exact (Rep.add_out (R := R) (.inr (by omega))).symm
          rw [hcout j (by omega)]
          exact h.F _ _ _ hf'
      · rw [hF b hb] at hf
        have := h.F b j v hf
        simpa only [World.cell?, hold b hb] using this
    · simp [R', loc', Rep.push, Rep.add, h.len]
    · intro i x rx hx hrx
      rcases hsplit i x rx hx hrx with ⟨rfl, rfl, rfl⟩ | ⟨rfl, rfl, rfl⟩ | ⟨hi, hit, hx', hrx'⟩
      · intro j h1 h2
        simp only at h1 h2
        obtain ⟨k1, k2, k3⟩ := hok j (by omega) h2
        refine ⟨?_, ?_, ?_⟩
        · rw [← k1]; exact Rep.add_out (R := R) (.inr (by omega))
        · rw [hcout j (by omega)]; exact k2
        · rw [World.frozen?_setCells]; exact k3
      · trivial
      · by_cases hlt' : r.lo < r.hi
        · refine objOk_carry hle (h.objs i x rx hx' hrx') fun b hb => ?_
          have := hother i x rx hit hx' hrx' b hb hlt'
          exact ⟨hold b this, hF b this⟩
        · have hnil : vs = [] := by cases vs with
            | nil => rfl
            | cons v vs => simp at hfit; omega
          subst hnil
          refine objOk_carry hle (h.objs i x rx hx' hrx') fun b hb => ⟨rfl, fun j => ?_⟩
          exact Rep.add_out (R := R) (.inr (by simp; omega))
    · intro i i' x x' rx rx' b hx hrx hx' hrx' e e'
      have key : ∀ (i : Nat) (x : AObj) (rx : ORep), loc'[i]? = some x → R'.ob[i]? = some rx → own x rx = some b → (i = loc.length ∧ b = r.blk ∧ r.lo < r.hi) ∨ (i < loc.length ∧ i ≠ t ∧ loc[i]? = some x ∧ R.ob[i]? = some rx) := by
        intro i x rx hx hrx e
        rcases hsplit i x rx hx hrx with ⟨rfl, rfl, rfl⟩ | ⟨rfl, rfl, rfl⟩ | k
        · simp only [own] at e
          split at e
          · cases e; exact .inl ⟨rfl, rfl, by omega⟩
          · cases e
        · simp [own] at e
        · exact .inr k
      rcases key i x rx hx hrx e with ⟨rfl, rfl, hl⟩ | ⟨k1, k2, k3, k4⟩
      · rcases key i' x' rx' hx' hrx' e' with ⟨rfl, _, _⟩ | ⟨l1, l2, l3, l4⟩
        · rfl
        · exact absurd rfl (hother i' x' rx' l2 l3 l4 _ e' hl)
      · rcases key i' x' rx' hx' hrx' e' with ⟨rfl, rfl, hl⟩ | ⟨l1, l2, l3, l4⟩
        · exact absurd rfl (hother i x rx k2 k3 k4 _ e hl)
        · exact h.apart i i' x x' rx rx' b k3 k4 l3 l4 e e'
  · refine ⟨hosw.1, hosw.2.1, hosw.2.2.1, Nat.le_of_eq hosw.2.2.2.symm, hle, fun b hb hn => ?_, ?_⟩
    · by_cases hlt' : r.lo < r.hi
      · have hne : b ≠ r.blk := by
          rintro rfl
          exact hn ⟨t, _, r, ht, hr, by simp [own, hlt']⟩
        exact ⟨hold b hne, hF b hne⟩
      · have hnil : vs = [] := by cases vs with
          | nil => rfl
          | cons v vs => simp at hfit; omega
        subst hnil
        exact ⟨rfl, fun j => Rep.add_out (R := R) (.inr (by simp; omega))⟩
    · rintro b hb ⟨i, x, rx, hx, hrx, e⟩
      rcases hsplit i x rx hx hrx with ⟨rfl, rfl, rfl⟩ | ⟨rfl, rfl, rfl⟩ | ⟨k1, k2, k3, k4⟩
      · simp only [own] at e
        split at e
        · cases e; exact ⟨t, _, r, ht, hr, by simp [own]; omega⟩
        · cases e
      · simp [own] at e
      · exact ⟨i, x, rx, k3, k4, e⟩

/-- a new block whose first cells are never written, a token for the rest -/
theorem tok_new {R : Rep} {loc : List AObj} {w : World} (h : Inv R loc w) (vs ws : List Value) (t : TypeId) :
    let R' := (R.add w.heap.size 0 vs).push ⟨w.heap.size, vs.length, vs.length + ws.length⟩
    let loc' := loc ++ [.tok true]
    let w' := w.alloc (.cells (vs ++ ws).toArray t)
    Inv R' loc' w' ∧ Grow R loc w R' loc' w' := by
  intro R' loc' w'
  have hle0 : RepLe R (R.add w.heap.size 0 vs) := Rep.add_le fun j _ _ => h.F_new (Nat.le_refl _) j
  have hle : RepLe R R' := hle0.trans (Rep.push_le _ _)
  have hold : ∀ b, b < w.heap.size → w'.heap[b]? = w.heap[b]? := fun b hb => RowKit.Below.heap_alloc w _ b hb
  have hF : ∀ b, b < w.heap.size → ∀ j, R'.F b j = R.F b j := fun b hb j => Rep.add_out (R := R) (.inl (by omega))
  have hcell : ∀ j, w'.cell? ⟨w.heap.size, j, none⟩ = (vs ++ ws)[j]? := fun j => by simp [w', World.cell?_alloc_new]
  have hsplit : ∀ (i : Nat) (x : AObj) (rx : ORep), loc'[i]? = some x → R'.ob[i]? = some rx →
      (i = loc.length ∧ x = .tok true ∧ rx = ⟨w.heap.size, vs.length, vs.length + ws.length⟩) ∨ (i < loc.length ∧ loc[i]? = some x ∧ R.ob[i]? = some rx) := by
    intro i x rx hx hrx
    have hob : R'.ob = R.ob ++ [⟨w.heap.size, vs.length, vs.length + ws.length⟩] := rfl
    rw [hob] at hrx
    by_cases hi : i < loc.length
    · rw [List.getElem?_append_left hi] at hx
      rw [List.getElem?_append_left (by rw [h.len]; exact hi)] at hrx
      exact .inr ⟨hi, hx, hrx⟩
    · have hi2 : i = loc.length := by
        have := (List.getElem?_eq_some_iff.1 hx).1
        simp [loc'] at this; omega
      subst hi2
      rw [List.getElem?_append_right (Nat.le_refl _)] at hx
      rw [List.getElem?_append_right (by rw [h.len]; exact Nat.le_refl _)] at hrx
      simp [h.len] at hx hrx
      exact .inl ⟨rfl, hx.symm, hrx.symm⟩
  constructor
  · constructor
    · intro b j v hf
      by_cases hb : b = w.heap.size
      · subst hb
        rw [hcell]
        by_cases hj : j < vs.length
        · have : R'.F w.heap.size j = vs[j]? := by simp only [R', Rep.push, Rep.add]; rw [if_pos (by simp; omega), Nat.sub_zero]
          rw [List.getElem?_append_left hj, ← this]; exact hf
        · have : R'.F w.heap.size j = R.F w.heap.size j := Rep.add_out (R := R) (.inr (.inr (by omega)))
          rw [this, h.F_new (Nat.le_refl _)] at hf; cases hf
      · have hf' : R.F b j = some v := by rw [← hf]; exact (Rep.add_out (R := R) (.inl hb)).symm
        have := h.F b j v hf'
        rw [World.cell?_alloc_lt (h := World.block_lt_of_cell? w _ this)]; exact this
    · simp [R', loc', Rep.push, Rep.add, h.len]
    · intro i x rx hx hrx
      rcases hsplit i x rx hx hrx with ⟨rfl, rfl, rfl⟩ | ⟨hi, hx', hrx'⟩
      · intro j h1 h2
        simp only at h1 h2
        refine ⟨?_, ?_, ?_⟩
        · rw [show R'.F w.heap.size j = R.F w.heap.size j from Rep.add_out (R := R) (.inr (.inr (by omega)))]
          exact h.F_new (Nat.le_refl _) j
        · rw [hcell]; simp; omega
        · simp [w']
      · refine objOk_carry hle (h.objs i x rx hx' hrx') fun b hb => ?_
        have := h.blk_lt ⟨i, x, rx, hx', hrx', hb⟩
        exact ⟨hold b this, hF b this⟩
    · intro i i' x x' rx rx' b hx hrx hx' hrx' e e'
      have key : ∀ (i : Nat) (x : AObj) (rx : ORep), loc'[i]? = some x → R'.ob[i]? = some rx → own x rx = some b → (i = loc.length ∧ b = w.heap.size) ∨ (i < loc.length ∧ loc[i]? = some x ∧ R.ob[i]? = some rx ∧ b < w.heap.size) := by
        intro i x rx hx hrx e
        rcases hsplit i x rx hx hrx with ⟨rfl, rfl, rfl⟩ | ⟨k1, k2, k3⟩
        · simp only [own] at e
          split at e
          · cases e; exact .inl ⟨rfl, rfl⟩
          · cases e
        · exact .inr ⟨k1, k2, k3, h.blk_lt ⟨i, x, rx, k2, k3, e⟩⟩
      rcases key i x rx hx hrx e with ⟨rfl, rfl⟩ | ⟨k1, k2, k3, k4⟩
      · rcases key i' x' rx' hx' hrx' e' with ⟨rfl, _⟩ | ⟨l1, l2, l3, l4⟩
        · rfl
        · omega
      · rcases key i' x' rx' hx' hrx' e' with ⟨rfl, rfl⟩ | ⟨l1, l2, l3, l4⟩
        · omega
        · exact h.apart i i' x x' rx rx' b k2 k3 l2 l3 e e'
  · refine ⟨rfl, rfl, rfl, by simp [w'], hle, fun b hb hn => ⟨hold b hb, hF b hb⟩, ?_⟩
    rintro b hb ⟨i, x, rx, hx, hrx, e⟩
    rcases hsplit i x rx hx hrx with ⟨rfl, rfl, rfl⟩ | ⟨k1, k2, k3⟩
    · simp only [own] at e
      split at e
      · cases e; omega
      · cases e
    · exact ⟨i, x, rx, k2, k3, e⟩

/-- a token without room: of a slice that has none, or no address -/
theorem tok_empty {R : Rep} {loc : List AObj} {w : World} (h : Inv R loc w) (b n : Nat) :
    Inv (R.push ⟨b, n, n⟩) (loc ++ [.tok true]) w ∧ Grow R loc w (R.push ⟨b, n, n⟩) (loc ++ [.tok true]) w := by
  have hle : RepLe R (R.push ⟨b, n, n⟩) := Rep.push_le _ _
  have hsplit : ∀ (i : Nat) (x : AObj) (rx : ORep), (loc ++ [AObj.tok true])[i]? = some x → (R.push ⟨b, n, n⟩).ob[i]? = some rx →
      (i = loc.length ∧ x = .tok true ∧ rx = ⟨b, n, n⟩) ∨ (i < loc.length ∧ loc[i]? = some x ∧ R.ob[i]? = some rx) := by
    intro i x rx hx hrx
    simp only [Rep.push] at hrx
    by_cases hi : i < loc.length
    · rw [List.getElem?_append_left hi] at hx
      rw [List.getElem?_append_left (by rw [h.len]; exact hi)] at hrx
      exact .inr ⟨hi, hx, hrx⟩
    · have hi2 : i = loc.length := by
        have := (List.getElem?_eq_some_iff.1 hx).1
        simp at this; omega
      subst hi2
      rw [List.getElem?_append_right (Nat.le_refl _)] at hx
      rw [List.getElem?_append_right (by rw [h.len]; exact Nat.le_refl _)] at hrx
      simp [h.len] at hx hrx
      exact .inl ⟨rfl, hx.symm, hrx.symm⟩
  have key : ∀ (i : Nat) (x : AObj) (rx : ORep) (b' : Nat), (loc ++ [AObj.tok true])[i]? = some x → (R.push ⟨b, n, n⟩).ob[i]? = some rx → own x rx = some b' → loc[i]? = some x ∧ R.ob[i]? = some rx := by
    intro i x rx b' hx hrx e
    rcases hsplit i x rx hx hrx with ⟨rfl, rfl, rfl⟩ | ⟨k1, k2, k3⟩
    · simp [own] at e
    · exact ⟨k2, k3⟩
  constructor
  · constructor
    · exact h.F
    · simp [Rep.push, h.len]
    · intro i x rx hx hrx
      rcases hsplit i x rx hx hrx with ⟨rfl, rfl, rfl⟩ | ⟨k1, k2, k3⟩
      · intro j h1 h2; simp only at h1 h2; omega
      · exact objOk_carry hle (h.objs i x rx k2 k3) fun b _ => ⟨rfl, fun _ => rfl⟩
    · intro i i' x x' rx rx' b' hx hrx hx' hrx' e e'
      obtain ⟨k1, k2⟩ := key i x rx b' hx hrx e
      obtain ⟨l1, l2⟩ := key i' x' rx' b' hx' hrx' e'
      exact h.apart i i' x x' rx rx' b' k1 k2 l1 l2 e e'
  · refine ⟨rfl, rfl, rfl, Nat.le_refl _, hle, fun _ _ _ => ⟨rfl, fun _ => rfl⟩, ?_⟩
    rintro b' hb ⟨i, x, rx, hx, hrx, e⟩
    obtain ⟨k1, k2⟩ := key i x rx b' hx hrx e
    exact ⟨i, x, rx, k1, k2, e⟩

end Go.Ab

namespace Go.Ab
variable {P : Program}

/-! ### Cells of values -/
theorem γ_cells {R : Rep} {v : AV} {x : Value} (hx : γ R v x) (h1 : v.cells.all AV.one = true) : γs R v.cells x.cells.toList ∧ ones x.cells.toList := by
  cases v with
  | agg cs =>
    simp only [γ] at hx
    obtain ⟨vs, rfl, h2, h3⟩ := hx
    simpa [AV.cells, Value.cells] using ⟨h2, h3⟩
  | con u =>
    simp only [γ] at hx; subst hx
    simp [AV.cells, AV.one] at h1
    cases x <;> simp_all [Value.oneCell', Value.cells, AV.cells, γs, γ, ones]
  | tup cs => simp [AV.cells, AV.one] at h1
  | gd b u => simp [AV.cells, AV.one] at h1
  | top => simp [AV.cells, AV.one] at h1
  | sl sz es k =>
    have hh := hx
    simp only [γ] at hx
    rcases hx with ⟨rfl, _⟩ | ⟨b, off, cap, vs, rfl, _⟩ <;>
      exact ⟨by simpa [AV.cells, Value.cells, γs] using hh, by simp [Value.cells, ones, Value.oneCell']⟩
  | vw sz o off len =>
    have hh := hx
    simp only [γ] at hx
    rcases hx with ⟨rfl, _⟩ | ⟨r, cap, _, rfl, _⟩ <;>
      exact ⟨by simpa [AV.cells, Value.cells, γs] using hh, by simp [Value.cells, ones, Value.oneCell']⟩
  | ptr o off =>
    have hh := hx
    simp only [γ] at hx
    obtain ⟨r, _, rfl⟩ := hx
    exact ⟨by simpa [AV.cells, Value.cells, γs] using hh, by simp [Value.cells, ones, Value.oneCell']⟩
  | cptr cs =>
    have hh := hx
    simp only [γ] at hx
    obtain ⟨b, off, vs, rfl, _⟩ := hx
    exact ⟨by simpa [AV.cells, Value.cells, γs] using hh, by simp [Value.cells, ones, Value.oneCell']⟩
  | mp o =>
    have hh := hx
    simp only [γ] at hx
    obtain ⟨r, _, rfl⟩ := hx
    exact ⟨by simpa [AV.cells, Value.cells, γs] using hh, by simp [Value.cells, ones, Value.oneCell']⟩
  | fn f a c =>
    have hh := hx
    simp only [γ] at hx
    obtain ⟨vs, ws, rfl, _⟩ := hx
    exact ⟨by simpa [AV.cells, Value.cells, γs] using hh, by simp [Value.cells, ones, Value.oneCell']⟩
  | ifc t u =>
    have hh := hx
    simp only [γ] at hx
    obtain ⟨y, rfl, _⟩ := hx
    exact ⟨by simpa [AV.cells, Value.cells, γs] using hh, by simp [Value.cells, ones, Value.oneCell']⟩

theorem γ_cells_size {R : Rep} {v : AV} {x : Value} (hx : γ R v x) (h1 : v.cells.all AV.one = true) : x.cells.size = v.cells.length := by
  have := γs_length (γ_cells hx h1).1
  simpa using this

/-! ### fill -/
theorem foldl_put (off : Nat) : ∀ (cs : List Value) (k : Nat) (a : Array Value), off + k + cs.length ≤ a.size →
    ((cs.zipIdx k).foldl (fun (A : Array Value) (p : Value × Nat) => A.setIfInBounds (off + p.2) p.1) a).toList = a.toList.take (off + k) ++ cs ++ a.toList.drop (off + k + cs.length)
  | [], k, a, _ => by simp
  | c :: cs, k, a, h => by
    simp only [List.zipIdx_cons, List.foldl_cons]
    rw [foldl_put off cs (k + 1) _ (by simp at h ⊢; omega)]
    have := list_seg_step a.toList (off + k) c cs (by simp at h ⊢; omega)
    simpa [Array.toList_setIfInBounds, Nat.add_assoc] using this

theorem fillA_sound {R : Rep} {place placeC : Nat → Option (Nat × Nat)} (hp : ∀ i x, place i = some x → placeC i = some x) :
    ∀ (ps : List (Nat × AV)) (qs : List (Nat × Value)) (acs : List AV) (cells : Array Value) (out : List AV),
      ps.length = qs.length → (∀ (j i : Nat) (v : AV), ps[j]? = some (i, v) → ∃ x, qs[j]? = some (i, x) ∧ γ R v x ∧ v.cells.all AV.one = true) →
      γs R acs cells.toList → ones cells.toList → fillA place acs ps = some out →
      ∃ cells', Instr.fill placeC cells qs = some cells' ∧ γs R out cells'.toList ∧ ones cells'.toList
  | [], [], acs, cells, out, _, _, h1, h2, h => by
    simp only [fillA, Option.some.injEq] at h
    subst h
    exact ⟨cells, rfl, h1, h2⟩
  | [], _ :: _, _, _, _, hl, _, _, _, _ => by simp at hl
  | _ :: _, [], _, _, _, hl, _, _, _, _ => by simp at hl
  | (i, v) :: ps, (i', x) :: qs, acs, cells, out, hl, hv, h1, h2, h => by
    obtain ⟨x', hx', hg, h1'⟩ := hv 0 i v (by simp)
    simp at hx'
    obtain ⟨rfl, rfl⟩ := hx'
    simp only [fillA] at h
    split at h
    · cases h
    · rename_i off size hpl
      split at h
      · rename_i hc
        obtain ⟨hc1, hc2⟩ := hc
        have hsz := γ_cells_size hg h1'
        have hcl := γs_length h1
        have hfit : off + x.cells.size ≤ cells.size := by rw [hsz, hc1]; simpa [← hcl] using hc2
        have e := foldl_put off x.cells.toList 0 cells (by simpa using hfit)
        refine fillA_sound hp ps qs _ (x.cells.zipIdx.foldl (fun cs (c, j) => cs.setIfInBounds (off + j) c) cells) out (by simpa using hl) (fun j i v hj => hv (j + 1) i v (by simpa using hj)) ?_ ?_ h |>.imp fun cells' hh => ⟨?_, hh.2⟩
        · rw [← Array.foldl_toList, Array.toList_zipIdx]
          rw [e]
          simp only [Nat.add_zero, List.append_assoc]
          refine γs_append (γs_take h1 _) (γs_append (γ_cells hg h1').1 ?_)
          rw [Array.length_toList, hsz, hc1]
          exact γs_drop h1 _
        · rw [← Array.foldl_toList, Array.toList_zipIdx]
          rw [e]
          exact ones_append (ones_append (ones_take h2 _) (γ_cells hg h1').2) (ones_drop h2 _)
        · have hcond : (x.cells.size ≠ size || decide (off + x.cells.size > cells.size)) = false := by
            simp; omega
          simp only [Instr.fill, hp _ _ hpl]
          rw [if_neg (by simpa using hcond)]
          exact hh.1
      · cases h

theorem run_mapM_list {α β : Type} (f : α → Sem β) (g : α → Option β) (hf : ∀ a b, g a = some b → ∀ w, (f a).run P w = .ok b w) :
    ∀ (l : List α) (bs : List β), l.mapM g = some bs → ∀ w, (l.mapM f).run P w = .ok bs w
  | [], bs, h, w => by simp at h; subst h; simp
  | a :: l, bs, h, w => by
    simp only [List.mapM_cons, Option.bind_eq_bind, Option.bind_eq_some_iff, Option.pure_def, Option.some.injEq] at h
    obtain ⟨b, hb, bs', hbs, rfl⟩ := h
    simp [List.mapM_cons, hf a b hb, run_mapM_list f g hf l bs' hbs]

theorem placesOf_spec {t : TypeId} {ps : List (Nat × Nat)} (h : placesOf P t = some ps) :
    (∃ fs, P.underlying t = some (.struct fs) ∧ ∀ w, (fs.mapM (fun f => do pure (f.offset, ← sizeOf f.type) : Field → Sem (Nat × Nat))).run P w = .ok ps.toArray w) ∨
    (∃ len e i, P.underlying t = some (.array len e) ∧ P.info? e = some i ∧ ps = (List.range len).map fun j => (j * i.size, i.size)) := by
  unfold placesOf at h
  split at h
  · rename_i fs hfs
    refine .inl ⟨fs, hfs, fun w => ?_⟩
    rw [Array.mapM_eq_mapM_toList]
    have := run_mapM_list (P := P) (fun f : Field => (do pure (f.offset, ← sizeOf f.type) : Sem (Nat × Nat))) (fun f => (P.info? f.type).map fun i => (f.offset, i.size)) (by
      intro f b hb w
      simp only [Option.map_eq_some_iff] at hb
      obtain ⟨i, hi, rfl⟩ := hb
      simp [run_sizeOf' hi]) fs.toList ps h w
    rw [Sem.run_map, this]
    simp
  · rename_i len e hfs
    simp only [Option.map_eq_some_iff] at h
    obtain ⟨i, hi, rfl⟩ := h
    exact .inr ⟨len, e, i, hfs, hi, rfl⟩
  · cases h

/-! ### zero cells of a row -/
theorem row_zeros (z : List Value) (hz : 0 < z.length) : ∀ len, (List.range (len * z.length)).map (fun i => z.toArray[i % z.length]!) = (List.replicate len z).flatten
  | 0 => by simp
  | n + 1 => by
    rw [Nat.add_mul, Nat.one_mul, List.range_add, List.map_append, row_zeros z hz n, List.replicate_succ', List.flatten_append]
    congr 1
    simp only [List.map_map, List.flatten_cons, List.flatten_nil, List.append_nil]
    apply List.ext_getElem
    · simp
    · intro i h1 h2
      simp at h1
      simp [Nat.mod_eq_of_lt h1, h1]

theorem chunk_sound {R : Rep} {sz : Nat} : ∀ (n : Nat) (cs : List AV) (vs : List Value), γs R cs vs → cs.length = n * sz → γss R sz (chunk sz n cs) vs
  | 0, cs, vs, h, hl => by
    have : cs = [] := List.length_eq_zero_iff.1 (by simpa using hl)
    subst this
    simp only [γs] at h; subst h
    simp [chunk, γss]
  | n + 1, cs, vs, h, hl => by
    have hlen := γs_length h
    have e : (n + 1) * sz = n * sz + sz := by rw [Nat.add_mul, Nat.one_mul]
    simp only [chunk, γss]
    refine ⟨vs.take sz, vs.drop sz, by simp, by simp; omega, γs_take h sz, chunk_sound n _ _ (γs_drop h sz) (by simp; omega)⟩

theorem chunk_length (sz : Nat) : ∀ n cs, (chunk sz n cs).length = n
  | 0, _ => rfl
  | n + 1, cs => by simp [chunk, chunk_length sz n]

theorem fillA_length {place : Nat → Option (Nat × Nat)} : ∀ (ps : List (Nat × AV)) (acs out : List AV), fillA place acs ps = some out → out.length = acs.length
  | [], acs, out, h => by simp only [fillA, Option.some.injEq] at h; rw [h]
  | (i, v) :: ps, acs, out, h => by
    simp only [fillA] at h
    split at h
    · cases h
    · split at h
      · rename_i hc
        rw [fillA_length ps _ out h]
        simp; omega
      · cases h

end Go.Ab

namespace Go.Ab
variable {P : Program}

theorem sliceBound_ok (n : Int) (k : IntKind) (y : Nat) (code : BoundsCode) (h0 : 0 ≤ n) (h1 : n ≤ y) (w : World) :
    (Instr.sliceBound (.int k n) y code).run P w = .ok n.toNat w := by
  simp [Instr.sliceBound, asIntOf, h0, h1]

def γo (R : Rep) (o : Option AV) (x : Option Value) : Prop := match o, x with | none, none => True | some v, some u => γ R v u | _, _ => False

theorem ints_of {R : Rep} {o : Option AV} {d : Nat} {n : Int} (h : boundA o d = some n) {x : Option Value} (hx : γo R o x) :
    (o = none ∧ x = none ∧ n = d) ∨ (∃ k, x = some (.int k n)) := by
  cases o with
  | none => cases x with
    | none => simp [boundA] at h; exact .inl ⟨rfl, rfl, h.symm⟩
    | some u => simp [γo] at hx
  | some v => cases x with
    | none => simp [γo] at hx
    | some u =>
      simp only [boundA] at h
      obtain ⟨k, rfl⟩ := asIntA_spec h hx
      exact .inr ⟨k, rfl⟩


theorem sliceBounds_two (isSlice : Bool) (len cap : Nat) (lo hi : Option Value) (l h : Int)
    (hl : (lo = none ∧ l = 0) ∨ ∃ k, lo = some (.int k l)) (hh : (hi = none ∧ h = len) ∨ ∃ k, hi = some (.int k h))
    (h0 : 0 ≤ l) (h1 : l ≤ h) (h2 : h ≤ len) (hc : len ≤ cap) (w : World) :
    (Instr.sliceBounds isSlice len cap lo hi none).run P w = .ok (l.toNat, h.toNat, cap) w := by
  rcases hl with ⟨rfl, rfl⟩ | ⟨k, rfl⟩ <;> rcases hh with ⟨rfl, rfl⟩ | ⟨k', rfl⟩
  · simp [Instr.sliceBounds]
  · have := sliceBound_ok (P := P) h k' cap (if isSlice then .sliceAcap else .sliceAlen) (by omega) (by omega)
    simp [Instr.sliceBounds, this]
  · have := sliceBound_ok (P := P) l k len .sliceB h0 (by omega)
    simp [Instr.sliceBounds, this]
  · have a := sliceBound_ok (P := P) h k' cap (if isSlice then .sliceAcap else .sliceAlen) (by omega) (by omega)
    have b := sliceBound_ok (P := P) l k h.toNat .sliceB h0 (by omega)
    simp [Instr.sliceBounds, a, b]

theorem sliceBounds_three (isSlice : Bool) (len cap : Nat) (lo : Option Value) (k' km : IntKind) (l h : Int)
    (hl : (lo = none ∧ l = 0) ∨ ∃ k, lo = some (.int k l))
    (h0 : 0 ≤ l) (h1 : l ≤ h) (h2 : h ≤ len) (hc : len ≤ cap) (w : World) :
    (Instr.sliceBounds isSlice len cap lo (some (.int k' h)) (some (.int km h))).run P w = .ok (l.toNat, h.toNat, h.toNat) w := by
  have a := sliceBound_ok (P := P) h km cap (if isSlice then .slice3Acap else .slice3Alen) (by omega) (by omega)
  have b := sliceBound_ok (P := P) h k' h.toNat .slice3B (by omega) (by omega)
  rcases hl with ⟨rfl, rfl⟩ | ⟨k, rfl⟩
  · simp [Instr.sliceBounds, a, b]
  · have c := sliceBound_ok (P := P) l k h.toNat .slice3C h0 (by omega)
    simp [Instr.sliceBounds, a, b, c]

theorem sl_cut {R : Rep} {sz : Nat} {es : List (List AV)} {b off : Nat} {vs : List Value} (h4 : γss R sz es vs) (h5 : ones vs) (h6 : R.holds b off vs) (l h : Nat) :
    γss R sz ((es.take h).drop l) ((vs.take (h * sz)).drop (l * sz)) ∧ ones ((vs.take (h * sz)).drop (l * sz)) ∧ R.holds b (off + l * sz) ((vs.take (h * sz)).drop (l * sz)) :=
  ⟨γss_drop (γss_take h4 h) l, ones_drop (ones_take h5 _) _, (h6.take _).drop _⟩

theorem slice_sound {R : Rep} {t : TypeId} {x : AV} {lo hi mx : Option AV} {v : AV} {C : DP} (h : sliceA x lo hi mx = some (v, C)) (hC : C.p)
    (ht : (∃ s, x = .con (.string s) ∧ P.underlying t = some .string) ∨ (∃ sz es k e i, x = .sl sz es k ∧ P.underlying t = some (.slice e) ∧ P.info? e = some i ∧ i.size = sz))
    {cx : Value} {clo chi cmx : Option Value} (hx : γ R x cx) (hlo : γo R lo clo) (hhi : γo R hi chi) (hmx : γo R mx cmx) (w : World) :
    ∃ z, (Instr.slice t cx clo chi cmx).run P w = .ok z w ∧ γ R v z := by
  unfold sliceA at h
  split at h
  · rename_i s
    have hu : P.underlying t = some .string := by
      rcases ht with ⟨_, _, h⟩ | ⟨_, _, _, _, _, h, _⟩
      · exact h
      · cases h
    simp only [γ] at hx; subst hx
    split at h
    · rename_i l hh hl1 hh1
      cases h
      obtain ⟨c1, c2, c3⟩ := hC
      have hcm : cmx = none := by cases cmx <;> simp_all [γo]
      subst hcm
      have hl := ints_of hl1 hlo
      have hhh := ints_of hh1 hhi
      have := sliceBounds_two (P := P) false s.size s.size clo chi l hh (by rcases hl with ⟨_, h2, h3⟩ | h; exact .inl ⟨h2, by simpa using h3⟩; exact .inr h) (by rcases hhh with ⟨_, h2, h3⟩ | h; exact .inl ⟨h2, h3⟩; exact .inr h) c1 c2 c3 (Nat.le_refl _)
      refine ⟨.string (s.extract l.toNat hh.toNat), ?_, by simp [γ]⟩
      simp [Instr.slice, run_underlying' hu, this]
    · cases h
  · rename_i sz es k
    have hu : ∃ e i, P.underlying t = some (.slice e) ∧ P.info? e = some i ∧ i.size = sz := by
      rcases ht with ⟨_, h, _⟩ | ⟨_, _, _, e, i, h, h2, h3, h4⟩
      · cases h
      · cases h; exact ⟨e, i, h2, h3, h4⟩
    obtain ⟨e, i, hu, hi', hsz⟩ := hu
    simp only [γ] at hx
    split at h
    · rename_i l hh hl1 hh1
      cases h
      obtain ⟨c1, c2, c3⟩ := hC
      have hcm : cmx = none := by cases cmx <;> simp_all [γo]
      subst hcm
      have hl := ints_of hl1 hlo
      have hhh := ints_of hh1 hhi
      rcases hx with ⟨rfl, rfl⟩ | ⟨b, off, cap, vs, rfl, h1, h2, h3, h4, h5, h6⟩
      · have hl0 : l = 0 := by simp at c3; omega
        have hh0 : hh = 0 := by simp at c3; omega
        subst hl0; subst hh0
        have := sliceBounds_two (P := P) true 0 0 clo chi 0 0 (by rcases hl with ⟨_, h2, h3⟩ | h; exact .inl ⟨h2, by simp⟩; exact .inr h) (by rcases hhh with ⟨_, h2, h3⟩ | h; exact .inl ⟨h2, by simp⟩; exact .inr h) (by omega) (by omega) (by simp) (Nat.le_refl _)
        refine ⟨.slice none 0 0, ?_, ?_⟩
        · simp [Instr.slice, run_underlying' hu, this, run_sizeOf' hi']
        · simp [γ]
      · have := sliceBounds_two (P := P) true es.length cap clo chi l hh (by rcases hl with ⟨_, h2, h3⟩ | h; exact .inl ⟨h2, by simpa using h3⟩; exact .inr h) (by rcases hhh with ⟨_, h2, h3⟩ | h; exact .inl ⟨h2, h3⟩; exact .inr h) c1 c2 c3 h1
        have hcut := sl_cut h4 h5 h6 l.toNat hh.toNat
        have hlen : ((es.take hh.toNat).drop l.toNat).length = hh.toNat - l.toNat := by simp; omega
        refine ⟨_, by simp [Instr.slice, run_underlying' hu, this, run_sizeOf' hi', hsz]; rfl, ?_⟩
        simp only [γ]
        refine .inr ?_
        rw [hlen]
        by_cases hcl : cap = l.toNat
        · have hz : hh.toNat - l.toNat = 0 := by omega
          have hvs : (vs.take (hh.toNat * sz)).drop (l.toNat * sz) = [] := by
            apply List.drop_eq_nil_of_le
            rw [List.length_take]
            exact Nat.le_trans (Nat.min_le_left _ _) (Nat.mul_le_mul_right sz (by omega))
          refine ⟨b, off, cap - l.toNat, [], by rw [if_pos hcl], by omega, by unfold maxN at *; omega, ?_, ?_, by simp [ones], Rep.holds.nil _ _ _⟩
          · cases hi with
            | some _ => trivial
            | none => cases lo with
              | some _ => trivial
              | none =>
                have hl0 : l = 0 := by rcases hl with ⟨_, _, h3⟩ | ⟨k, hk⟩; simpa using h3; simp [γo] at hlo; rw [hk] at hlo; simp at hlo
                have hhe : hh = es.length := by rcases hhh with ⟨_, _, h3⟩ | ⟨k, hk⟩; exact h3; simp [γo] at hhi; rw [hk] at hhi; simp at hhi
                subst hl0; subst hhe
                simpa using h3
          · rw [← hvs]; exact hcut.1
        · refine ⟨b, off + l.toNat * sz, cap - l.toNat, _, by rw [if_neg hcl, Addr.add_eq], by omega, by unfold maxN at *; omega, ?_, hcut.1, hcut.2.1, hcut.2.2⟩
          cases hi with
          | some _ => trivial
          | none => cases lo with
            | some _ => trivial
            | none =>
              have hl0 : l = 0 := by rcases hl with ⟨_, _, h3⟩ | ⟨k, hk⟩; simpa using h3; simp [γo] at hlo; rw [hk] at hlo; simp at hlo
              have hhe : hh = es.length := by rcases hhh with ⟨_, _, h3⟩ | ⟨k, hk⟩; exact h3; simp [γo] at hhi; rw [hk] at hhi; simp at hhi
              subst hl0; subst hhe
              simpa using h3
    · rename_i l hh m hl1 hh1
      split at h
      · rename_i hv m' hm
        cases h
        obtain ⟨c1, c2, c3, c4⟩ := hC
        subst c3
        have hcm : ∃ km, cmx = some (.int km hh) := by
          cases cmx with
          | none => simp [γo] at hmx
          | some u => simp [γo] at hmx; obtain ⟨k, rfl⟩ := asIntA_spec hm hmx; exact ⟨k, rfl⟩
        obtain ⟨km, rfl⟩ := hcm
        have hl := ints_of hl1 hlo
        have hhh := ints_of hh1 hhi
        rcases hhh with ⟨_, rfl, _⟩ | ⟨k', rfl⟩
        · simp [γo] at hhi
        · rcases hx with ⟨rfl, rfl⟩ | ⟨b, off, cap, vs, rfl, h1, h2, h3, h4, h5, h6⟩
          · have hl0 : l = 0 := by simp at c4; omega
            have hh0 : hh = 0 := by simp at c4; omega
            subst hl0; subst hh0
            have := sliceBounds_three (P := P) true 0 0 clo k' km 0 0 (by rcases hl with ⟨_, h2, h3⟩ | h; exact .inl ⟨h2, by simp⟩; exact .inr h) (by omega) (by omega) (by simp) (Nat.le_refl _)
            refine ⟨.slice none 0 0, ?_, ?_⟩
            · simp [Instr.slice, run_underlying' hu, this, run_sizeOf' hi']
            · simp [γ]
          · have := sliceBounds_three (P := P) true es.length cap clo k' km l hh (by rcases hl with ⟨_, h2, h3⟩ | h; exact .inl ⟨h2, by simpa using h3⟩; exact .inr h) c1 c2 c4 h1
            have hcut := sl_cut h4 h5 h6 l.toNat hh.toNat
            have hlen : ((es.take hh.toNat).drop l.toNat).length = hh.toNat - l.toNat := by simp; omega
            refine ⟨_, by simp [Instr.slice, run_underlying' hu, this, run_sizeOf' hi', hsz]; rfl, ?_⟩
            simp only [γ]
            refine .inr ?_
            rw [hlen]
            by_cases hcl : hh.toNat = l.toNat
            · have hvs : (vs.take (hh.toNat * sz)).drop (l.toNat * sz) = [] := by
                apply List.drop_eq_nil_of_le
                rw [List.length_take]
                exact Nat.le_trans (Nat.min_le_left _ _) (Nat.mul_le_mul_right sz (by omega))
              refine ⟨b, off, hh.toNat - l.toNat, [], by rw [if_pos hcl], by omega, by unfold maxN at *; omega, ?_, ?_, by simp [ones], Rep.holds.nil _ _ _⟩
              · simp [CapOk]
              · rw [← hvs]; exact hcut.1
            · refine ⟨b, off + l.toNat * sz, hh.toNat - l.toNat, _, by rw [if_neg hcl, Addr.add_eq], by omega, by unfold maxN at *; omega, ?_, hcut.1, hcut.2.1, hcut.2.2⟩
              simp [CapOk]
      · cases h
    · cases h
  · cases h

end Go.Ab

namespace Go.Ab
variable {P : Program}

theorem partsOk {R : Rep} {ev : Operand → AV} {cev : Operand → Value} {parts : Array (Nat × Operand)} (hev : ∀ p ∈ parts, γ R (ev p.2) (cev p.2))
    (h1 : (parts.toList.all fun p => (ev p.2).cells.all AV.one) = true) :
    ((parts.toList.map fun p => (p.1, ev p.2)).length = ((parts.map fun (i, x) => (i, cev x)).toList).length) ∧
    ∀ (j i : Nat) (v : AV), (parts.toList.map fun p => (p.1, ev p.2))[j]? = some (i, v) → ∃ x, ((parts.map fun (i, x) => (i, cev x)).toList)[j]? = some (i, x) ∧ γ R v x ∧ v.cells.all AV.one = true := by
  constructor
  · simp
  · intro j i v hj
    simp only [List.getElem?_map, Option.map_eq_some_iff, Prod.mk.injEq] at hj
    obtain ⟨p, hp, rfl, rfl⟩ := hj
    have hm : p ∈ parts.toList := List.mem_of_getElem? hp
    refine ⟨cev p.2, ?_, hev p (Array.mem_toList_iff.1 hm), ?_⟩
    · have hp' : parts[j]? = some p := by rw [← hp, Array.getElem?_toList]
      rw [Array.getElem?_toList, Array.getElem?_map, hp']; rfl
    · exact List.all_eq_true.1 h1 p hm

theorem build_sound {R : Rep} {ev : Operand → AV} {cev : Operand → Value} {t : TypeId} {parts : Array (Nat × Operand)} {ps : List (Nat × Nat)} {z : List Value} {cs : List AV}
    (hp : placesOf P t = some ps) (hz : zeroOf P t = some z) (hf : fillA (ps[·]?) (z.map .con) (parts.toList.map fun p => (p.1, ev p.2)) = some cs)
    (hev : ∀ p ∈ parts, γ R (ev p.2) (cev p.2)) (h1 : (parts.toList.all fun p => (ev p.2).cells.all AV.one) = true) (w : World) :
    ∃ x, (Instr.build t (parts.map fun (i, x) => (i, cev x))).run P w = .ok x w ∧ γ R (.agg cs) x := by
  obtain ⟨i, v, hi, hv, hvz, hzo, _⟩ := zeroOf_spec hz
  obtain ⟨hl, hq⟩ := partsOk hev h1
  rcases placesOf_spec hp with ⟨fs, hfs, hm⟩ | ⟨len, el, ie, hfs, hie, rfl⟩
  rotate_left
  · obtain ⟨cells', e, h2, h3⟩ := fillA_sound (R := R) (place := (((List.range len).map fun j => (j * ie.size, ie.size))[·]?)) (placeC := fun j => some (j * ie.size, ie.size)) (fun j x h => by
      simp only [List.getElem?_map, Option.map_eq_some_iff] at h
      obtain ⟨a, ha, rfl⟩ := h
      have := (List.getElem?_eq_some_iff.1 ha).2
      simp only [List.getElem_range] at this
      rw [this]) _ _ _ v.cells cs hl hq (by rw [hvz]; exact γs_con z) (by rw [hvz]; exact hzo) hf
    refine ⟨.agg cells', ?_, ?_⟩
    · simp only [Instr.build, Sem.run_bind, run_zeroValue' hi hv, Result.andThen_ok, run_underlying' hfs, run_sizeOf' hie, e, Sem.run_pure]
    · simp only [γ]
      exact ⟨cells'.toList, rfl, h2, h3⟩
  obtain ⟨cells', e, h2, h3⟩ := fillA_sound (R := R) (place := (ps[·]?)) (placeC := (ps.toArray[·]?)) (fun i x h => by simpa using h) _ _ _ v.cells cs hl hq (by rw [hvz]; exact γs_con z) (by rw [hvz]; exact hzo) hf
  refine ⟨.agg cells', ?_, ?_⟩
  · simp only [Instr.build, Sem.run_bind, run_zeroValue' hi hv, Result.andThen_ok, run_underlying' hfs, hm, e, Sem.run_pure]
  · simp only [γ]
    exact ⟨cells'.toList, rfl, h2, h3⟩


theorem nilCheck_value {x : Value} {R : Rep} {v : AV} (hv : (∃ o off, v = .ptr o off) ∨ (∃ cs, v = .cptr cs) ∨ ∃ f a b, v = .fn f a b) (hx : γ R v x) :
    (∃ a, x = .pointer (some a)) ∨ ∃ f a b, x = .func (.func f) a b := by
  rcases hv with ⟨o, off, rfl⟩ | ⟨cs, rfl⟩ | ⟨f, a, b, rfl⟩
  · simp only [γ] at hx; obtain ⟨r, _, rfl⟩ := hx; exact .inl ⟨_, rfl⟩
  · simp only [γ] at hx; obtain ⟨b, off, vs, rfl, _⟩ := hx; exact .inl ⟨_, rfl⟩
  · simp only [γ] at hx; obtain ⟨vs, ws, rfl, _⟩ := hx; exact .inr ⟨_, _, _, rfl⟩

theorem γs_map {R : Rep} {ev : Operand → AV} {cev : Operand → Value} : ∀ (xs : List Operand), (∀ x ∈ xs, γ R (ev x) (cev x)) → γs R (xs.map ev) (xs.map cev)
  | [], _ => by simp [γs]
  | x :: xs, h => by
    simp only [List.map_cons, γs]
    exact ⟨_, _, rfl, h x (by simp), γs_map xs fun y hy => h y (by simp [hy])⟩

theorem γo_map {R : Rep} {ev : Operand → AV} {cev : Operand → Value} (o : Option Operand) (h : ∀ x, o = some x → γ R (ev x) (cev x)) : γo R (o.map ev) (o.map cev) := by
  cases o with
  | none => trivial
  | some x => exact h x rfl

/-- the operation's own run, with what it yields -/
def Yields (P : Program) (cev : Operand → Value) (o : Oper) (R : Rep) (v : AV) (w : World) : Prop := ∃ x, (execOp cev o).run P w = .ok (.value x) w ∧ γ R v x

theorem yields_of {cev : Operand → Value} {o : Oper} {R : Rep} {v : AV} {w : World} {s : Sem Value} (ho : execOp cev o = (do pure (.value (← s)) : Sem Next)) (h : ∃ x, s.run P w = .ok x w ∧ γ R v x) : Yields P cev o R v w := by
  obtain ⟨x, hx, hg⟩ := h
  refine ⟨x, ?_, hg⟩
  rw [ho, Sem.run_bind, hx]
  rfl

theorem load_sound {R : Rep} {loc : List AObj} {w : World} (hI : Inv R loc w) {t : TypeId} {p v : AV} {x : Value} {C : DP} (hC : C.p) (hx : γ R p x)
    (h : (∃ o off cs, p = .ptr o off ∧ loc[o]? = some (.cells cs) ∧ partA P t cs off = some (v, C)) ∨ (∃ cs, p = .cptr cs ∧ partA P t cs 0 = some (v, C))) :
    ∃ z, (Instr.loadAt t x).run P w = .ok z w ∧ γ R v z := by
  rcases h with ⟨o, off, cs, rfl, ho, hp⟩ | ⟨cs, rfl, hp⟩
  · simp only [γ] at hx
    obtain ⟨r, hr, rfl⟩ := hx
    obtain ⟨r', vs, hr', hv, h1, hrange, _⟩ := hI.cells ho
    rw [hr] at hr'; cases hr'
    obtain ⟨z, hz, hg⟩ := partA_load hp hC hv h1 hrange
    refine ⟨z, ?_, hg⟩
    simpa [Instr.loadAt, Instr.sureAddr] using hz
  · simp only [γ] at hx
    obtain ⟨b, off, vs, rfl, hv, h1, hh⟩ := hx
    obtain ⟨z, hz, hg⟩ := partA_load hp hC hv h1 (hI.range hh)
    refine ⟨z, ?_, hg⟩
    simpa [Instr.loadAt, Instr.sureAddr] using hz

theorem fieldAddr_sound {R : Rep} {w : World} {s : TypeId} {f off n : Nat} {ft : TypeId} {b : Bool} (hf : fieldOf P s f = some (off, ft)) (hk : kindOf P ft = some (b, n + 1)) {p v : AV} {x : Value} (hx : γ R p x)
    (h : (∃ o b, p = .ptr o b ∧ v = .ptr o (b + off)) ∨ (∃ cs, p = .cptr cs ∧ v = .cptr (cs.drop off))) :
    ∃ z, (Instr.fieldAt s x f).run P w = .ok z w ∧ γ R v z := by
  obtain ⟨fs, g, hfs, hg, rfl, rfl⟩ := fieldOf_spec hf
  obtain ⟨d, i, hd, hi, hn, _⟩ := kindOf_spec hk
  have hplace : ∀ a : Addr, (fieldPlace a g).run P w = .ok (a.add g.offset) w := by
    intro a
    simp [fieldPlace, run_sizeOf' hi, hn]
  rcases h with ⟨o, b, rfl, rfl⟩ | ⟨cs, rfl, rfl⟩
  · simp only [γ] at hx
    obtain ⟨r, hr, rfl⟩ := hx
    refine ⟨.pointer (some ⟨r.blk, b + g.offset, none⟩), ?_, ?_⟩
    · simp [Instr.fieldAt, run_underlying' hfs, hg, Instr.sureAddr, hplace, Addr.add_eq]
    · simp only [γ]; exact ⟨r, hr, rfl⟩
  · simp only [γ] at hx
    obtain ⟨b, o, vs, rfl, hv, h1, hh⟩ := hx
    refine ⟨.pointer (some ⟨b, o + g.offset, none⟩), ?_, ?_⟩
    · simp [Instr.fieldAt, run_underlying' hfs, hg, Instr.sureAddr, hplace, Addr.add_eq]
    · simp only [γ]
      exact ⟨b, o + g.offset, vs.drop g.offset, rfl, γs_drop hv _, ones_drop h1 _, hh.drop _⟩

theorem indexAddr_sound {R : Rep} {w : World} {t e : TypeId} {sz bytes : Nat} (he : elOf P t = some (e, sz, bytes)) {p v q : AV} {x y : Value} {n : Int} (hn : asIntA q = some n) {C : DP} (hC : C.p) (hx : γ R p x) (hy : γ R q y)
    (h : (∃ es k, p = .sl sz es k ∧ v = .cptr (es.getD n.toNat []) ∧ C = dp (0 ≤ n ∧ n < es.length)) ∨ (∃ o off len, p = .vw sz o off len ∧ v = .ptr o ((off + n.toNat) * sz) ∧ C = dp (0 ≤ n ∧ n < len))) :
    ∃ z, (Instr.indexAt t x y).run P w = .ok z w ∧ γ R v z := by
  obtain ⟨i, hu, hi, hsz, _⟩ := elOf_spec he
  obtain ⟨k, rfl⟩ := asIntA_spec hn hy
  rcases h with ⟨es, kk, rfl, rfl, rfl⟩ | ⟨o, off, len, rfl, rfl, rfl⟩
  · obtain ⟨h0, h1⟩ := hC
    simp only [γ] at hx
    rcases hx with ⟨_, rfl⟩ | ⟨b, off, cap, vs, rfl, g1, g2, g3, g4, g5, g6⟩
    · simp at h1; omega
    · have hlt : n.toNat < es.length := by omega
      obtain ⟨vs1, k1, k2, k3⟩ := γss_get g4 (i := n.toNat) (e := es.getD n.toNat []) (by simp [List.getD, List.getElem?_eq_getElem hlt])
      refine ⟨.pointer (some ⟨b, off + n.toNat * sz, none⟩), ?_, ?_⟩
      · simp [Instr.indexAt, asIntOf, run_underlying' hu, h0, h1, run_sizeOf' hi, hsz, Addr.add_eq]
      · simp only [γ]
        refine ⟨b, off + n.toNat * sz, vs1, rfl, k1, ones_of_get g5 k3, ?_⟩
        intro j v hj
        have := g6 _ v (k3 j v hj)
        rwa [← Nat.add_assoc] at this
  · obtain ⟨h0, h1⟩ := hC
    simp only [γ] at hx
    rcases hx with ⟨_, rfl⟩ | ⟨r, cap, hr, rfl, g1, g2⟩
    · omega
    refine ⟨.pointer (some ⟨r.blk, (off + n.toNat) * sz, none⟩), ?_, ?_⟩
    · simp [Instr.indexAt, asIntOf, run_underlying' hu, h0, h1, run_sizeOf' hi, hsz, Addr.add_eq, Nat.add_mul]
    · simp only [γ]; exact ⟨r, hr, rfl⟩

theorem arrAddr_sound {R : Rep} {w : World} {t : TypeId} {len sz : Nat} (he : arrOf P t = some (len, sz)) {p v q : AV} {x y : Value} {n : Int} (hn : asIntA q = some n) (h0 : 0 ≤ n) (h1 : n < len) (hx : γ R p x) (hy : γ R q y)
    (h : (∃ o b, p = .ptr o b ∧ v = .ptr o (b + n.toNat * sz)) ∨ (∃ cs, p = .cptr cs ∧ v = .cptr (cs.drop (n.toNat * sz)))) :
    ∃ z, (Instr.indexAt t x y).run P w = .ok z w ∧ γ R v z := by
  unfold arrOf at he
  split at he
  · rename_i len' e hu
    simp only [Option.map_eq_some_iff, Prod.mk.injEq] at he
    obtain ⟨i, hi, rfl, rfl⟩ := he
    obtain ⟨k, rfl⟩ := asIntA_spec hn hy
    rcases h with ⟨o, b, rfl, rfl⟩ | ⟨cs, rfl, rfl⟩
    · simp only [γ] at hx
      obtain ⟨r, hr, rfl⟩ := hx
      refine ⟨.pointer (some ⟨r.blk, b + n.toNat * i.size, none⟩), ?_, ?_⟩
      · simp [Instr.indexAt, asIntOf, run_underlying' hu, Instr.sureAddr, h0, h1, run_sizeOf' hi, Addr.add_eq]
      · simp only [γ]; exact ⟨r, hr, rfl⟩
    · simp only [γ] at hx
      obtain ⟨b, o, vs, rfl, hv, h2, hh⟩ := hx
      refine ⟨.pointer (some ⟨b, o + n.toNat * i.size, none⟩), ?_, ?_⟩
      · simp [Instr.indexAt, asIntOf, run_underlying' hu, Instr.sureAddr, h0, h1, run_sizeOf' hi, Addr.add_eq]
      · simp only [γ]
        exact ⟨b, o + n.toNat * i.size, _, rfl, γs_drop hv _, ones_drop h2 _, hh.drop _⟩
  · cases he

theorem tup_get {R : Rep} {vs : List AV} {x : Value} {i : Nat} {v : AV} (hx : γ R (.tup vs) x) (hv : vs[i]? = some v) {w : World} : ∃ z, (Instr.extract x i).run P w = .ok z w ∧ γ R v z := by
  simp only [γ] at hx
  obtain ⟨us, rfl, hu⟩ := hx
  obtain ⟨u, h1, h2⟩ := γs_get hu hv
  exact ⟨u, by simp [Instr.extract, h1], h2⟩

theorem len_sound {R : Rep} {loc : List AObj} {w : World} (hI : Inv R loc w) {v x : AV} {C : DP} {t : TypeId} {cx : Value} (hx : γ R x cx) (ts : Array TypeId) (ht : ts[0]? = some t) (ty : TypeId)
    (h : (match P.underlying t, x with
      | some .string, .con (.string s) => some (.int s.size, dp True)
      | some (.slice _), x => (lenA x).map fun (n : Nat) => (AV.int (n : Int), dp True)
      | some (.map _ _), .mp o => (match loc[o]? with
        | some (.map m) => some (.int m.length, dp True)
        | _ => none)
      | _, _ => none : Option (AV × DP)) = some (v, C)) :
    ∃ z, (Builtin.len_ ts ty #[cx]).run P w = .ok z w ∧ γ R v z := by
  split at h
  · rename_i s hu
    cases h
    simp only [γ] at hx; subst hx
    exact ⟨.int .i64 s.size, by simp [Builtin.len_, ht, run_underlying' hu, goInt], by simp [γ]⟩
  · rename_i e hu
    simp only [Option.map_eq_some_iff, Prod.mk.injEq] at h
    obtain ⟨n, hn, rfl, _⟩ := h
    have : ∃ a c, cx = .slice a n c := by
      unfold lenA at hn
      split at hn
      · cases hn
        simp only [γ] at hx
        rcases hx with ⟨rfl, rfl⟩ | ⟨b, off, cap, vs, rfl, _⟩
        · exact ⟨none, 0, rfl⟩
        · exact ⟨_, _, rfl⟩
      · cases hn
        simp only [γ] at hx
        rcases hx with ⟨rfl, rfl⟩ | ⟨r, cap, _, rfl, _⟩
        · exact ⟨none, 0, rfl⟩
        · exact ⟨_, _, rfl⟩
      · cases hn
        simp only [γ] at hx; subst hx
        exact ⟨none, 0, rfl⟩
      · cases hn
    obtain ⟨a, c, rfl⟩ := this
    exact ⟨.int .i64 n, by simp [Builtin.len_, ht, run_underlying' hu, goInt], by simp [γ]⟩
  · rename_i k e o hu
    split at h
    · rename_i m hm
      cases h
      simp only [γ] at hx
      obtain ⟨r, hr, rfl⟩ := hx
      have hk := hI.objs o _ r hm hr
      simp only [objOk] at hk
      obtain ⟨es, clock, hb, hg, _⟩ := hk
      have hlen : es.size = m.length := by
        have : ∀ (m : List (AV × AV)) (l : List MapEntry), γmap R m l → l.length = m.length := by
          intro m
          induction m with
          | nil => intro l h; simp only [γmap] at h; simp [h]
          | cons p m ih => intro l h; obtain ⟨k, v⟩ := p; simp only [γmap] at h; obtain ⟨e, es', rfl, _, _, h4⟩ := h; simp [ih es' h4]
        simpa using this m es.toList hg
      refine ⟨.int .i64 m.length, ?_, by simp [γ]⟩
      have hgo : (getObj r.blk).run P w = .ok (.map es clock) w := by simp [getObj, Sem.run, hb]
      simp [Builtin.len_, ht, run_underlying' hu, goInt, hgo, hlen]
    · cases h
  · cases h

end Go.Ab

namespace Go.Ab
variable {P : Program}

theorem γ_conv (R : Rep) (v : Value) : γ R (conv v) v := by
  unfold conv
  split
  · rename_i cs
    split
    · rename_i h1
      simp only [γ]
      exact ⟨cs.toList, by simp, γs_con _, fun v hv => List.all_eq_true.1 h1 v hv⟩
    · simp [γ]
  · rename_i f first cap
    simp only [γ]
    exact ⟨first.toList, cap.toList, by simp, γs_con _, γs_con _⟩
  · simp [γ]


theorem eq_sound {R : Rep} {op : BinOp} {p q v : AV} {t : TypeId} (hok : okKey P t p = true) {x y : Value} (hx : γ R p x) (hy : γ R q y)
    (h : (∃ b, op = .eql ∧ keq p q = some b ∧ v = .bool b) ∨ (∃ b, op = .neq ∧ keq p q = some b ∧ v = .bool !b)) (w : World) (a b : Operand) :
    ∃ z, (do eqGuard op t a b x y; binOp op t x y : Sem Value).run P w = .ok z w ∧ γ R v z := by
  have hg : (eqGuard op t a b x y).run P w = .ok () w := by
    rcases okKey_cases hok with ⟨fs, cs, hu, rfl, hf, hs, hgt⟩ | ⟨d, hu, hsc⟩
    · obtain ⟨ds, rfl⟩ : ∃ ds, q = .agg ds := by
        rcases h with ⟨_, _, hk, _⟩ | ⟨_, _, hk, _⟩ <;> (cases q with | agg ds => exact ⟨ds, rfl⟩ | _ => simp [keq, keq1] at hk)
      simp only [γ] at hx hy
      obtain ⟨vs, rfl, hv, _⟩ := hx
      obtain ⟨us, rfl, hu', _⟩ := hy
      exact run_eqGuard_agg w op t a b _ _ hgt
    · rcases scal_value hsc hx with ⟨k, m, rfl, rfl, rfl⟩ | ⟨s, rfl, rfl, rfl⟩ | ⟨u, rfl, rfl, rfl⟩ <;> (unfold eqGuard; cases op <;> rfl)
  rw [Sem.run_bind, hg]
  simp only [Result.andThen_ok]
  have he : ∀ b, keq p q = some b → (Op.equal t x y).run P w = .ok b w := fun b hb => by
    have := run_equal_key (w := w) hok hb hx hy 9998
    simpa [Op.equal, Op.maxDepth] using this
  rcases h with ⟨c, rfl, hk, rfl⟩ | ⟨c, rfl, hk, rfl⟩
  · refine ⟨.bool c, ?_, by simp [γ]⟩
    have := he c hk
    have e2 : (binOp .eql t x y : Sem Value).run P w = ((Op.equal t x y).run P w).andThen fun b w' => .ok (.bool b) w' := by
      rcases okKey_cases hok with ⟨fs, cs, hu, rfl, hf, hs, hgt⟩ | ⟨d, hu, hsc⟩
      · obtain ⟨ds, rfl⟩ : ∃ ds, q = .agg ds := by cases q with | agg ds => exact ⟨ds, rfl⟩ | _ => simp [keq, keq1] at hk
        simp only [γ] at hx hy
        obtain ⟨vs, rfl, hv, _⟩ := hx
        obtain ⟨us, rfl, hu', _⟩ := hy
        simp [binOp]
      · rw [scal_keq hsc] at hk
        rcases scal_value hsc hx with ⟨k, m, rfl, rfl, rfl⟩ | ⟨s, rfl, rfl, rfl⟩ | ⟨u, rfl, rfl, rfl⟩
        · cases q with
          | con u => cases u with
            | int k' m' =>
              simp only [γ] at hy; subst hy
              simp only [keq1] at hk
              split at hk
              · rename_i e; subst e
                rw [this]
                cases hk
                simp [binOp, Op.intArith, Op.intDiv, Op.intCmp]
                rfl
              · cases hk
            | _ => simp [keq1] at hk
          | _ => simp [keq1] at hk
        · cases q with
          | con u' => cases u' with
            | string s' =>
              simp only [γ] at hy; subst hy
              rw [this]
              simp only [keq1, Option.some.injEq] at hk
              simp only [binOp, Op.stringOp, bytes_list_beq, hk, Sem.run_pure, Result.andThen_ok]
            | _ => simp [keq1] at hk
          | _ => simp [keq1] at hk
        · cases q with
          | con u' => cases u' with
            | bool s' =>
              simp only [γ] at hy; subst hy
              simp [binOp]
            | _ => simp [keq1] at hk
          | _ => simp [keq1] at hk
    rw [e2, this]; rfl
  · refine ⟨.bool !c, ?_, by simp [γ]⟩
    have := he c hk
    have e2 : (binOp .neq t x y : Sem Value).run P w = ((Op.equal t x y).run P w).andThen fun b w' => .ok (.bool !b) w' := by
      rcases okKey_cases hok with ⟨fs, cs, hu, rfl, hf, hs, hgt⟩ | ⟨d, hu, hsc⟩
      · obtain ⟨ds, rfl⟩ : ∃ ds, q = .agg ds := by cases q with | agg ds => exact ⟨ds, rfl⟩ | _ => simp [keq, keq1] at hk
        simp only [γ] at hx hy
        obtain ⟨vs, rfl, hv, _⟩ := hx
        obtain ⟨us, rfl, hu', _⟩ := hy
        simp [binOp]
      · rw [scal_keq hsc] at hk
        rcases scal_value hsc hx with ⟨k, m, rfl, rfl, rfl⟩ | ⟨s, rfl, rfl, rfl⟩ | ⟨u, rfl, rfl, rfl⟩
        · cases q with
          | con u => cases u with
            | int k' m' =>
              simp only [γ] at hy; subst hy
              simp only [keq1] at hk
              split at hk
              · rename_i e; subst e
                rw [this]
                cases hk
                simp [binOp, Op.intArith, Op.intDiv, Op.intCmp]
                rfl
              · cases hk
            | _ => simp [keq1] at hk
          | _ => simp [keq1] at hk
        · cases q with
          | con u' => cases u' with
            | string s' =>
              simp only [γ] at hy; subst hy
              rw [this]
              simp only [keq1, Option.some.injEq] at hk
              simp only [binOp, Op.stringOp, bytes_list_beq, hk, Sem.run_pure, Result.andThen_ok]
            | _ => simp [keq1] at hk
          | _ => simp [keq1] at hk
        · cases q with
          | con u' => cases u' with
            | bool s' =>
              simp only [γ] at hy; subst hy
              simp [binOp]
            | _ => simp [keq1] at hk
          | _ => simp [keq1] at hk
    rw [e2, this]; rfl

theorem zeroA_spec {R : Rep} {t : TypeId} {z : AV} (h : zeroA P t = some z) (w : World) : ∃ v, (zeroValue t).run P w = .ok v w ∧ γ R z v := by
  simp only [zeroA, Option.map_eq_some_iff, Option.bind_eq_some_iff] at h
  obtain ⟨v, ⟨i, hi, hv⟩, rfl⟩ := h
  exact ⟨v, run_zeroValue' hi hv w, γ_conv R v⟩

/-- a map's block, and what stands in it -/
theorem Inv.map {R : Rep} {loc : List AObj} {w : World} (h : Inv R loc w) {o : Nat} {m : List (AV × AV)} (ho : loc[o]? = some (.map m)) :
    ∃ r es, R.ob[o]? = some r ∧ w.heap[r.blk]? = some (.map es es.size) ∧ γmap R m es.toList ∧ (∀ (i : Nat) (e : MapEntry), es.toList[i]? = some e → e.born = i) := by
  have hlt : o < R.ob.length := by rw [h.len]; exact (List.getElem?_eq_some_iff.1 ho).1
  have hr := List.getElem?_eq_getElem hlt
  have := h.objs o _ _ ho hr
  simp only [objOk, stamped] at this
  obtain ⟨es, c, h1, h2, rfl, h4⟩ := this
  exact ⟨_, es, hr, by simpa using h1, h2, h4⟩

theorem mp_value {R : Rep} {o : Nat} {x : Value} {r : ORep} (hx : γ R (.mp o) x) (hr : R.ob[o]? = some r) : x = .map (some r.blk) := by
  simp only [γ] at hx
  obtain ⟨r', h1, h2⟩ := hx
  rw [hr] at h1; cases h1; exact h2

theorem valAt_sound {R : Rep} {m : List (AV × AV)} {es : List MapEntry} (hm : γmap R m es) {k z : AV} {zv : Value} (hz : γ R z zv) {r : Option Nat} (hf : mfind k m = some r) :
    γ R (valAt m z r) (match r.bind fun j => (es[j]?).map fun e => (j, e.val) with | some (_, v) => v | none => zv) ∧ (r.bind fun j => (es[j]?).map fun e => (j, e.val)).isSome = r.isSome := by
  cases r with
  | none => simpa [valAt] using hz
  | some j =>
    obtain ⟨e, h1, _⟩ := mfind_lt hf
    obtain ⟨x, h2, h3, h4⟩ := γmap_get hm h1
    simp [valAt, h1, h2, h4]

theorem lookup_sound {R : Rep} {loc : List AObj} {w : World} (hI : Inv R loc w) {t kt et : TypeId} (ht : P.underlying t = some (.map kt et)) {o : Nat} {m : List (AV × AV)} (ho : loc[o]? = some (.map m)) {z k : AV} (hz : zeroA P et = some z)
    {r : Option Nat} (hf : mfind k m = some r) (hok : okKey P kt k = true) {x y : Value} (hx : γ R (.mp o) x) (hy : γ R k y) (ok : Bool) :
    ∃ u, (Instr.lookup t x y ok).run P w = .ok u w ∧ γ R (if ok then .tup [valAt m z r, .bool r.isSome] else valAt m z r) u := by
  obtain ⟨rr, es, hr, hb, hm, hst⟩ := hI.map ho
  rw [mp_value hx hr]
  obtain ⟨zv, hz1, hz2⟩ := zeroA_spec (R := R) hz w
  obtain ⟨h1, h2⟩ := valAt_sound hm hz2 hf
  have hfk := run_findKey_ab (w := w) hok hy hf hm
  have hck := fun em => run_checkKey_ab (w := w) hok hy em 9998
  simp only [Nat.reduceAdd] at hck
  simp only [Instr.lookup, Sem.run_bind, run_underlying ht, Result.andThen_ok, MapKept.run_getObj_map hb, Sem.run_pure, hck, hfk]
  cases hq : (r.bind fun j => (es.toList[j]?).map fun e => (j, e.val)) with
  | none =>
    rw [hq] at h1 h2
    simp only [Sem.run_bind, hz1, Result.andThen_ok, Sem.run_pure]
    refine ⟨_, rfl, ?_⟩
    cases ok
    · simpa using h1
    · simp only [if_true, γ, γs]
      exact ⟨[zv, .bool false], rfl, zv, _, rfl, h1, _, _, rfl, by rw [← h2]; rfl, rfl⟩
  | some p =>
    obtain ⟨j, v⟩ := p
    rw [hq] at h1 h2
    simp only [Result.andThen_ok, Sem.run_pure]
    refine ⟨_, rfl, ?_⟩
    cases ok
    · simpa using h1
    · simp only [if_true, γ, γs]
      exact ⟨[v, .bool true], rfl, v, _, rfl, h1, _, _, rfl, by rw [← h2]; rfl, rfl⟩

theorem mfind_none {k : AV} : ∀ {m : List (AV × AV)}, mfind k m = some none → ∀ e ∈ m, keq k e.1 = some false
  | [], _, e, he => by cases he
  | a :: m, h, e, he => by
    simp only [mfind] at h
    split at h
    · cases h
    · rename_i hk
      simp only [Option.map_eq_some_iff] at h
      obtain ⟨r, h1, h2⟩ := h
      cases r with
      | some j => simp at h2
      | none =>
        rcases List.mem_cons.1 he with rfl | he
        · exact hk
        · exact mfind_none h1 e he
    · cases h

theorem mfind_of_all {k : AV} : ∀ {m : List (AV × AV)}, (∀ e ∈ m, (keq k e.1).isSome = true) → ∃ r, mfind k m = some r
  | [], _ => ⟨none, rfl⟩
  | a :: m, h => by
    obtain ⟨r, hr⟩ := mfind_of_all (m := m) (fun e he => h e (.tail _ he))
    have := h a (.head _)
    cases hk : keq k a.1 with
    | none => rw [hk] at this; cases this
    | some b => cases b <;> simp [mfind, hk, hr]

theorem lookup_usound {R : Rep} {loc : List AObj} {w : World} (hI : Inv R loc w) {t kt et : TypeId} (ht : P.underlying t = some (.map kt et)) {o : Nat} {ro : Bool} {m : List (AV × AV)} (ho : loc[o]? = some (.umap ro m)) {z k : AV} (hz : zeroA P et = some z)
    {r : Option Nat} (hf : mfind k m = some r) (hok : okKey P kt k = true) (hall : (m.all fun e => (keq k e.1).isSome) = true) {x y : Value} (hx : γ R (.mp o) x) (hy : γ R k y) (ok : Bool) :
    ∃ u, (Instr.lookup t x y ok).run P w = .ok u w ∧ γ R (if ok then .tup [valAt m z r, .bool r.isSome] else valAt m z r) u := by
  have hlt : o < R.ob.length := by rw [hI.len]; exact (List.getElem?_eq_some_iff.1 ho).1
  have hr := List.getElem?_eq_getElem hlt
  have hob := hI.objs o _ _ ho hr
  simp only [objOk] at hob
  obtain ⟨es, m', hb, hm, hperm, hnd⟩ := hob
  rw [mp_value hx hr]
  obtain ⟨zv, hz1, hz2⟩ := zeroA_spec (R := R) hz w
  have hall' : ∀ e ∈ m', (keq k e.1).isSome = true := fun e he => List.all_eq_true.1 hall e (hperm.mem_iff.1 he)
  obtain ⟨r', hf'⟩ := mfind_of_all hall'
  -- the two searches find the same
  have hsame : valAt m' z r' = valAt m z r ∧ r'.isSome = r.isSome := by
    cases r with
    | none =>
      have hn := mfind_none hf
      cases r' with
      | none => exact ⟨rfl, rfl⟩
      | some j =>
        obtain ⟨e, h1, h2⟩ := mfind_lt hf'
        have := hn e (hperm.mem_iff.1 (List.mem_of_getElem? h1))
        rw [h2] at this; cases this
    | some i =>
      obtain ⟨e, h1, h2⟩ := mfind_lt hf
      have hem : e ∈ m' := hperm.mem_iff.2 (List.mem_of_getElem? h1)
      cases r' with
      | none =>
        have := mfind_none hf' e hem
        rw [h2] at this; cases this
      | some j =>
        obtain ⟨e', h3, h4⟩ := mfind_lt hf'
        obtain ⟨j', hj'⟩ := List.getElem?_of_mem hem
        obtain ⟨x1, a1, a2, a3⟩ := γmap_get hm h3
        obtain ⟨x2, b1, b2, b3⟩ := γmap_get hm hj'
        have e1 := keq_same h4 hy a2
        have e2 := keq_same h2 hy b2
        have hjj : j = j' := by
          have hl1 : j < (es.toList.map (·.key)).length := by simpa using (List.getElem?_eq_some_iff.1 a1).1
          have hl2 : j' < (es.toList.map (·.key)).length := by simpa using (List.getElem?_eq_some_iff.1 b1).1
          have g1 := (List.getElem?_eq_some_iff.1 a1).2
          have g2 := (List.getElem?_eq_some_iff.1 b1).2
          have hp := List.pairwise_iff_getElem.1 (List.nodup_iff_pairwise_ne.1 hnd)
          rcases Nat.lt_trichotomy j j' with hlt' | he | hlt'
          · exact absurd (by simp only [List.getElem_map, g1, g2, ← e1, ← e2]) (hp j j' hl1 hl2 hlt')
          · exact he
          · exact absurd (by simp only [List.getElem_map, g1, g2, ← e1, ← e2]) (hp j' j hl2 hl1 hlt')
        subst hjj
        rw [h3] at hj'; cases hj'
        exact ⟨by simp [valAt, h1, h3], rfl⟩
  rw [← hsame.1, ← hsame.2]
  obtain ⟨h1, h2⟩ := valAt_sound hm hz2 hf'
  have hfk := run_findKey_ab (w := w) hok hy hf' hm
  have hck := fun em => run_checkKey_ab (w := w) hok hy em 9998
  simp only [Nat.reduceAdd] at hck
  simp only [Instr.lookup, Sem.run_bind, run_underlying ht, Result.andThen_ok, MapKept.run_getObj_map hb, Sem.run_pure, hck, hfk]
  cases hq : (r'.bind fun j => (es.toList[j]?).map fun e => (j, e.val)) with
  | none =>
    rw [hq] at h1 h2
    simp only [Sem.run_bind, hz1, Result.andThen_ok, Sem.run_pure]
    refine ⟨_, rfl, ?_⟩
    cases ok
    · simpa using h1
    · simp only [if_true, γ, γs]
      exact ⟨[zv, .bool false], rfl, zv, _, rfl, h1, _, _, rfl, by rw [← h2]; rfl, rfl⟩
  | some p =>
    obtain ⟨j, v⟩ := p
    rw [hq] at h1 h2
    simp only [Result.andThen_ok, Sem.run_pure]
    refine ⟨_, rfl, ?_⟩
    cases ok
    · simpa using h1
    · simp only [if_true, γ, γs]
      exact ⟨[v, .bool true], rfl, v, _, rfl, h1, _, _, rfl, by rw [← h2]; rfl, rfl⟩

theorem born_nodup {es : List MapEntry} (h : ∀ (i : Nat) (e : MapEntry), es[i]? = some e → e.born = i) : (es.map (·.born)).Nodup := by
  rw [List.nodup_iff_pairwise_ne, List.pairwise_iff_getElem]
  intro i j hi hj hlt
  simp only [List.length_map] at hi hj
  simp only [List.getElem_map]
  rw [h i es[i] (List.getElem?_eq_getElem hi), h j es[j] (List.getElem?_eq_getElem hj)]
  omega

theorem entry_sound {R : Rep} {loc : List AObj} {w : World} (hI : Inv R loc w) {o m : Nat} {since last s : Nat} {seen : List Nat} (ho : loc[o]? = some (.iter (.mp m) since seen last)) {es : List (AV × AV)} (hm : loc[m]? = some (.map es))
    (hs : seen.getLast? = some s) {e : AV × AV} (he : es[s]? = some e) (hlen : es.length = last) {x : Value} (hx : γ R (.ptr o 0) x) :
    ∃ u, (Instr.entry x).run P w = .ok u w ∧ γ R (.tup [e.1, e.2]) u := by
  simp only [γ] at hx
  obtain ⟨r, hr, rfl⟩ := hx
  have hk := hI.objs o _ r ho hr
  simp only [objOk] at hk
  obtain ⟨b, hb, hit⟩ := hk
  obtain ⟨rr, mes, hrr, hheap, hgm, hst⟩ := hI.map hm
  have := mp_value hb hrr
  simp only [Value.map.injEq, Option.some.injEq] at this
  subst this
  obtain ⟨xe, h1, h2, h3⟩ := γmap_get hgm he
  have hl := γmap_length hgm
  have hseen : seen = seen.dropLast ++ [s] := by
    have hne : seen ≠ [] := by intro e; rw [e] at hs; simp at hs
    rw [List.getLast?_eq_some_getLast hne] at hs
    cases hs
    exact (List.dropLast_concat_getLast hne).symm
  have hborn := hst s xe h1
  rw [hseen] at hit
  have e2 : (seen.dropLast ++ [s]).toArray = (seen.dropLast.toArray).push xe.born := by simp [hborn]
  have hsz : mes.size = last := by rw [← hlen, ← hl]; simp
  rw [e2, ← hsz] at hit
  refine ⟨_, run_entry_at w r.blk rr.blk since _ mes mes.size xe hit hheap (List.mem_of_getElem? h1) (born_nodup hst), ?_⟩
  simp only [γ, γs]
  exact ⟨[xe.key, xe.val], rfl, xe.key, _, rfl, h2, xe.val, _, rfl, h3, rfl⟩

end Go.Ab

namespace Go.Ab
variable {P : Program}

theorem map_toArray {α β : Type} (f : α → β) (a : Array α) : a.map f = (a.toList.map f).toArray := by cases a; simp

theorem two_args {args : Array Operand} {ev : Operand → AV} {p q : AV} (h : args.toList.map ev = [p, q]) : ∃ y z, args = #[y, z] ∧ ev y = p ∧ ev z = q := by
  cases args with | mk l =>
  cases l with
  | nil => simp at h
  | cons y l => cases l with
    | nil => simp at h
    | cons z l => cases l with
      | nil => simp at h; exact ⟨y, z, rfl, h.1, h.2⟩
      | cons u l => simp at h

theorem apure_sound {R : Rep} {loc : List AObj} {w : World} {ev : Operand → AV} {cev : Operand → Value} (o : Oper) (hev : ∀ x ∈ o.op.operands.toList, γ R (ev x) (cev x))
    (hI : Inv R loc w) {v : AV} {C : DP} (h : apure P ev loc o.op = some (v, C)) (hC : C.p) : Yields P cev o R v w := by
  obtain ⟨dst, op, type, pos, after, guard⟩ := o
  simp only at h hev
  unfold apure at h
  split at h
  · rename_i x
    cases h
    exact ⟨cev x, rfl, hev x (by simp [Op.operands])⟩
  · rename_i x
    cases h
    exact ⟨cev x, rfl, hev x (by simp [Op.operands])⟩
  · -- build
    rename_i t parts
    split at h
    · rename_i ps z hps hz
      split at h
      · rename_i cs hcs
        cases h
        refine yields_of rfl (build_sound hps hz hcs (fun p hp => hev p.2 ?_) hC w)
        simp only [Op.operands]
        exact List.mem_map.2 ⟨p, Array.mem_toList_iff.2 hp, rfl⟩
      · cases h
    · cases h
  · -- load
    rename_i t x
    have hx := hev x (by simp [Op.operands])
    refine yields_of rfl (load_sound hI hC hx ?_)
    split at h
    · rename_i o off hp
      split at h
      · rename_i cs ho
        exact .inl ⟨o, off, cs, hp, ho, h⟩
      · cases h
    · rename_i cs hp
      exact .inr ⟨cs, hp, h⟩
    · cases h
  · -- fieldAddr
    rename_i s x f
    have hx := hev x (by simp [Op.operands])
    split at h
    · rename_i off ft hf
      split at h
      · rename_i b n hk
        refine yields_of rfl (fieldAddr_sound hf hk hx ?_)
        split at h
        · rename_i o b hp
          cases h; exact .inl ⟨o, b, hp, rfl⟩
        · rename_i cs hp
          cases h; exact .inr ⟨cs, hp, rfl⟩
        · cases h
      · cases h
    · cases h
  · -- indexAddr
    rename_i t x i
    have hx := hev x (by simp [Op.operands])
    have hi := hev i (by simp [Op.operands])
    split at h
    · rename_i e sz bytes he
      split at h
      · rename_i z es k n hp hn
        split at h
        · rename_i hz
          subst hz
          cases h
          exact yields_of rfl (indexAddr_sound he hn hC hx hi (.inl ⟨es, k, hp, rfl, rfl⟩))
        · cases h
      · rename_i z o off len n hp hn
        split at h
        · rename_i hz
          subst hz
          cases h
          exact yields_of rfl (indexAddr_sound he hn hC hx hi (.inr ⟨o, off, len, hp, rfl, rfl⟩))
        · cases h
      · cases h
    · split at h
      · rename_i len sz he
        split at h
        · rename_i o b n hp hn
          cases h
          exact yields_of rfl (arrAddr_sound he hn hC.1 hC.2 hx hi (.inl ⟨o, b, hp, rfl⟩))
        · rename_i cs n hp hn
          cases h
          exact yields_of rfl (arrAddr_sound he hn hC.1 hC.2 hx hi (.inr ⟨cs, hp, rfl⟩))
        · cases h
      · cases h
  · -- field
    rename_i t x f
    have hx := hev x (by simp [Op.operands])
    split at h
    · rename_i off ft hf
      split at h
      · rename_i cs hp
        rw [hp] at hx
        simp only [γ] at hx
        obtain ⟨vs, hxv, hv, h1⟩ := hx
        obtain ⟨fs, g, hfs, hg, rfl, rfl⟩ := fieldOf_spec hf
        obtain ⟨z, hz, hgz⟩ := partA_part (w := w) h hC hv h1
        refine yields_of rfl ⟨z, ?_, hgz⟩
        simp [Instr.field, run_underlying' hfs, hg, hxv, asAgg, hz]
      · cases h
    · cases h
  · -- index
    rename_i t x i
    have hx := hev x (by simp [Op.operands])
    have hi := hev i (by simp [Op.operands])
    split at h
    · rename_i s n hu hp hn
      cases h
      obtain ⟨h0, h1⟩ := hC
      rw [hp] at hx
      simp only [γ] at hx
      obtain ⟨k, hk⟩ := asIntA_spec hn hi
      have hlt : n.toNat < s.size := by omega
      refine yields_of rfl ⟨.int .u8 (s.data.toList.getD n.toNat 0).toNat, ?_, by simp [γ]⟩
      have hb : s[n.toNat]? = some (s.data.toList.getD n.toNat 0) := by
        have h2 : n.toNat < s.data.toList.length := by rw [Array.length_toList]; exact hlt
        rw [List.getD, List.getElem?_eq_getElem h2]
        have : s[n.toNat]? = some (s[n.toNat]'hlt) := getElem?_pos s n.toNat hlt
        rw [this]; rfl
      simp [Instr.index, hx, hk, asIntOf, run_underlying' hu, h0, hb]
    · cases h
  · -- binOp
    rename_i bop t x y ty
    have hx := hev x (by simp [Op.operands])
    have hy := hev y (by simp [Op.operands])
    split at h
    · rename_i r hr
      cases h
      exact yields_of rfl (abin_sound hr hC hx hy w t x y)
    · split at h
      · rename_i hok
        refine yields_of rfl (eq_sound hok hx hy ?_ w x y)
        split at h
        · rename_i b hb _
          cases h
          exact .inl ⟨_, rfl, by assumption, rfl⟩
        · rename_i b hb _
          cases h
          exact .inr ⟨_, rfl, by assumption, rfl⟩
        · cases h
      · cases h
  · rename_i t x
    have hx := hev x (by simp [Op.operands])
    split at h
    · rename_i b hp
      cases h
      rw [hp] at hx
      simp only [γ] at hx
      exact yields_of rfl ⟨.bool !b, by simp [hx, Op.unary], by simp [γ]⟩
    · cases h
  · rename_i t x
    have hx := hev x (by simp [Op.operands])
    split at h
    · rename_i k n hp
      cases h
      rw [hp] at hx
      simp only [γ] at hx
      exact yields_of rfl ⟨.int k (k.wrap (0 - n)), by simp [hx, Op.unary, Op.intArith], by simp [γ]⟩
    · cases h
  · -- slice
    rename_i t x lo hi mx
    have hx := hev x (by simp [Op.operands])
    have hlo := γo_map (R := R) (ev := ev) (cev := cev) lo (fun y hy => hev y (by subst hy; simp [Op.operands]))
    have hhi := γo_map (R := R) (ev := ev) (cev := cev) hi (fun y hy => hev y (by subst hy; simp [Op.operands]))
    have hmx := γo_map (R := R) (ev := ev) (cev := cev) mx (fun y hy => hev y (by subst hy; simp [Op.operands]))
    have key : (P.underlying t = some .string ∨ ∃ e, P.underlying t = some (.slice e)) → (∃ z, (Instr.slice t (cev x) (lo.map cev) (hi.map cev) (mx.map cev)).run P w = .ok z w ∧ γ R v z) →
        Yields P cev ⟨dst, .slice t x lo hi mx, type, pos, after, guard⟩ R v w := by
      intro hu ⟨z, hz, hg⟩
      refine yields_of (s := Instr.sliceAt t (cev x) (lo.map cev) (hi.map cev) (mx.map cev)) rfl ⟨z, ?_, hg⟩
      rcases hu with hu | ⟨e, hu⟩ <;> simp [Instr.sliceAt, run_underlying' hu, hz]
    split at h
    · rename_i hu
      split at h
      · rename_i s hp
        exact key (.inl hu) (slice_sound h hC (.inl ⟨s, rfl, hu⟩) (by rw [← hp]; exact hx) hlo hhi hmx w)
      · cases h
    · rename_i e hu
      split at h
      · rename_i sz z es k hsz hp
        split at h
        · rename_i hz
          subst hz
          simp only [Option.map_eq_some_iff] at hsz
          obtain ⟨i, hi', hsz⟩ := hsz
          exact key (.inr ⟨e, hu⟩) (slice_sound h hC (.inr ⟨z, es, k, e, i, rfl, hu, hi', hsz⟩) (by rw [← hp]; exact hx) hlo hhi hmx w)
        · cases h
      · rename_i sz hsz hp
        simp only [Option.map_eq_some_iff] at hsz
        obtain ⟨i, hi', hsz⟩ := hsz
        exact key (.inr ⟨e, hu⟩) (slice_sound h hC (.inr ⟨sz, [], .full, e, i, rfl, hu, hi', hsz⟩) (by rw [hp] at hx; simp only [γ] at hx ⊢; exact .inl ⟨hx, trivial⟩) hlo hhi hmx w)
      · cases h
    · cases h
  · -- extract
    rename_i x i
    have hx := hev x (by simp [Op.operands])
    split at h
    · rename_i vs hp
      rw [hp] at hx
      split at h
      · rename_i u hu
        cases h
        exact yields_of rfl (tup_get hx hu)
      · cases h
    · cases h
  · -- nilCheck
    rename_i x
    have hx := hev x (by simp [Op.operands])
    have : (∃ o off, v = .ptr o off) ∨ (∃ cs, v = .cptr cs) ∨ ∃ f a b, v = .fn f a b := by
      split at h <;> cases h
      · exact .inl ⟨_, _, rfl⟩
      · exact .inr (.inl ⟨_, rfl⟩)
      · exact .inr (.inr ⟨_, _, _, rfl⟩)
    have hv : ev x = v := by split at h <;> cases h <;> assumption
    rw [hv] at hx
    refine ⟨cev x, ?_, hx⟩
    rcases nilCheck_value this hx with ⟨a, e⟩ | ⟨f, a, b, e⟩ <;> simp [execOp, e]
  · -- makeFunc
    rename_i f first cap
    cases h
    have h1 := γs_map (R := R) (ev := ev) (cev := cev) first.toList (fun x hx => hev x (by simp [Op.operands]; exact .inl (Array.mem_toList_iff.1 hx)))
    have h2 := γs_map (R := R) (ev := ev) (cev := cev) cap.toList (fun x hx => hev x (by simp [Op.operands]; exact .inr (Array.mem_toList_iff.1 hx)))
    refine yields_of rfl ⟨.func (.func f) (first.map cev) (cap.map cev), rfl, ?_⟩
    simp only [γ]
    exact ⟨_, _, by rw [map_toArray, map_toArray], h1, h2⟩
  · -- lookup
    rename_i t m k ok
    have hm := hev m (by simp [Op.operands])
    have hk := hev k (by simp [Op.operands])
    split at h
    · rename_i kt et o ht hp
      split at h
      · rename_i es z ho hz
        split at h
        · rename_i r hf
          cases h
          rw [hp] at hm
          exact yields_of rfl (lookup_usound hI ht ho hz hf hC.1 hC.2 hm hk ok)
        · cases h
      · rename_i es z ho hz
        split at h
        · rename_i r hf
          cases h
          rw [hp] at hm
          exact yields_of rfl (lookup_sound hI ht ho hz hf hC hm hk ok)
        · cases h
      · cases h
    · cases h
  · -- entry
    rename_i it
    have hx := hev it (by simp [Op.operands])
    split at h
    · rename_i o hp
      split at h
      · rename_i m since seen last ho
        split at h
        · rename_i es s hm hs
          split at h
          · rename_i e he
            cases h
            rw [hp] at hx
            exact yields_of rfl (entry_sound hI ho hm hs he hC hx)
          · cases h
        · cases h
      · cases h
    · cases h
  · -- len
    rename_i args argTypes
    split at h
    · rename_i x t ts hargs hts
      have ha : ∃ y, args = #[y] ∧ ev y = x := by
        cases args with | mk l =>
        cases l with
        | nil => simp at hargs
        | cons y l => cases l with
          | nil => simp at hargs; exact ⟨y, rfl, hargs⟩
          | cons z l => simp at hargs
      obtain ⟨y, rfl, rfl⟩ := ha
      have hy := hev y (by simp [Op.operands, Call.operands])
      have ht : argTypes[0]? = some t := by rw [← Array.getElem?_toList, hts]; rfl
      obtain ⟨z, hz, hg⟩ := len_sound hI hy argTypes ht type h
      refine ⟨z, ?_, hg⟩
      simp [execOp, resolve, invoke, builtin, hz]
    · cases h
  · -- max
    rename_i args argTypes
    split at h
    · rename_i k a k' b hargs
      cases h
      obtain ⟨y, z, rfl, e1, e2⟩ := two_args hargs
      have hy := hev y (by simp [Op.operands, Call.operands])
      have hz := hev z (by simp [Op.operands, Call.operands])
      rw [e1] at hy; rw [e2] at hz
      simp only [γ] at hy hz
      refine ⟨.int k (if b > a then b else a), ?_, by simp [γ]⟩
      simp [execOp, resolve, invoke, builtin, Builtin.max_, hy, hz, Builtin.max2]
    · cases h
  · -- min
    rename_i args argTypes
    split at h
    · rename_i k a k' b hargs
      cases h
      obtain ⟨y, z, rfl, e1, e2⟩ := two_args hargs
      have hy := hev y (by simp [Op.operands, Call.operands])
      have hz := hev z (by simp [Op.operands, Call.operands])
      rw [e1] at hy; rw [e2] at hz
      simp only [γ] at hy hz
      refine ⟨.int k (if b < a then b else a), ?_, by simp [γ]⟩
      simp [execOp, resolve, invoke, builtin, Builtin.min_, hy, hz, Builtin.min2]
    · cases h
  · cases h

end Go.Ab

namespace Go.Ab
variable {P : Program}

theorem byteEls_sound (R : Rep) (s : ByteArray) : γss R 1 (byteEls s) (byteCells s) := by
  unfold byteEls byteCells
  induction s.data.toList with
  | nil => simp [γss]
  | cons b l ih =>
    simp only [List.map_cons, γss]
    exact ⟨[.int .u8 b.toNat], _, rfl, rfl, by simp [γs, γ], ih⟩

theorem src_sound {R : Rep} {loc : List AObj} {w : World} (hI : Inv R loc w) {isStr : Bool} {sz : Nat} {x : AV} {cx : Value} {new : List (List AV)} {u : TypeId} (h : elemsOf isStr sz x = some new) (hx : γ R x cx)
    (hu : if isStr then P.underlying u = some .string else ∃ e, P.underlying u = some (.slice e)) : ∃ news, Src P sz u cx new.length news w ∧ γss R sz new news ∧ ones news := by
  unfold elemsOf at h
  split at h
  · rename_i z es k
    split at h
    · rename_i hc
      obtain ⟨rfl, rfl⟩ := hc
      cases h
      simp only [Bool.false_eq_true, if_false] at hu
      obtain ⟨e, hu⟩ := hu
      simp only [γ] at hx
      rcases hx with ⟨rfl, rfl⟩ | ⟨b, off, cap, vs, rfl, _, _, _, h4, h5, h6⟩
      · exact ⟨[], Src.ofNil w hu 0, by simp [γss], by simp [ones]⟩
      · refine ⟨vs, Src.ofSlice w hu _ _ _ vs (γss_length h4) (fun j v hj => ?_) h5, h4, h5⟩
        rw [Addr.add_eq]
        exact hI.F _ _ _ (h6 j v hj)
    · cases h
  · split at h
    · rename_i hc
      subst hc
      cases h
      simp only [Bool.false_eq_true, if_false] at hu
      obtain ⟨e, hu⟩ := hu
      simp only [γ] at hx; subst hx
      exact ⟨[], Src.ofNil w hu 0, by simp [γss], by simp [ones]⟩
    · cases h
  · rename_i s
    split at h
    · rename_i hc
      obtain ⟨rfl, rfl⟩ := hc
      cases h
      simp only [if_true] at hu
      simp only [γ] at hx; subst hx
      have hl : (byteEls s).length = s.size := by unfold byteEls; rw [List.length_map, Array.length_toList]; rfl
      rw [hl]
      have hs := Src.ofString (P := P) w hu s
      exact ⟨_, hs, byteEls_sound R s, hs.one⟩
    · cases h
  · cases h

theorem grownCap_bounds (w : World) (need cap : Nat) (e : TypeId) (h : need ≤ 281474976710656) : need ≤ grownCap w need cap e ∧ grownCap w need cap e ≤ maxN := by
  unfold grownCap maxN
  have : (w.tape w.drawn (.appendCap need cap e)) % (2 ^ 63 - need) < 2 ^ 63 - need := Nat.mod_lt _ (by omega)
  simp only [Question.cut] at *
  omega

/-- there is no room: a new row -/
theorem append_grow {R : Rep} {loc : List AObj} {w : World} (hI : Inv R loc w) {t u ty e : TypeId} {i : TypeInfo} {z : Value} (ht : P.underlying t = some (.slice e)) (hi : P.info? e = some i) (hz : i.zero = some z) (hzs : z.cells.size = i.size)
    {cx : Value} {n : Nat} {news : List Value} (hsrc : Src P i.size u cx n news w) {new : List (List AV)} (hnew : γss R i.size new news) (h1n : ones news)
    {es : List (List AV)} {base : Option Addr} {cap : Nat} {olds : List Value} (hes : γss R i.size es olds) (h1o : ones olds)
    (hold : (Builtin.firstCells i.size es.length (.slice base es.length cap)).run P w.drew = .ok olds.toArray w.drew) (hn : new.length = n)
    (hg : cap < es.length + n) (hroom : (es.length + n) * i.bytes ≤ roomA) (hroom2 : es.length + n ≤ roomA) :
    ∃ val w' R', (Builtin.append_ #[t, u] ty #[.slice base es.length cap, cx]).run P w = .ok val w' ∧ Inv R' (loc ++ [.tok true]) w' ∧ Grow R loc w R' (loc ++ [.tok true]) w' ∧ γ R' (.sl i.size (es ++ new) (.own loc.length)) val := by
  have hfit : Builtin.nextslicecap (es.length + n) cap * i.bytes ≤ 281474976710656 := by
    have h1 := Room.nextslicecap_le' (need := es.length + n) (old := cap) hg
    have h2 := Nat.mul_le_mul_right i.bytes h1
    unfold roomA at hroom
    rw [Nat.mul_assoc] at h2
    omega
  have hrun := run_append_grow_src (P := P) w t u ty e i z ht hi hz base es.length cap olds hold cx n news hsrc hg (by unfold roomA at hroom2; omega) hfit
  have hcap := grownCap_bounds w (es.length + n) cap e (by unfold roomA at hroom2; omega)
  generalize grownCap w (es.length + n) cap e = gc at *
  have hall : γss R i.size (es ++ new) (olds ++ news) := γss_append hes hnew
  have hlen : (olds ++ news).length = (es.length + n) * i.size := by rw [γss_length hall, List.length_append, hn]
  generalize hrest : (Builtin.zeroCells z.cells (gc - (es.length + n))).toList = rest at *
  have hId : Inv R loc w.drew := hI.heap rfl
  obtain ⟨k1, k2⟩ := tok_new hId (olds ++ news) rest e
  have hw : ((olds ++ news).toArray ++ Builtin.zeroCells z.cells (gc - (es.length + n))) = (olds ++ news ++ rest).toArray := by
    apply Array.ext'; simp [← hrest]
  rw [hw] at hrun
  refine ⟨_, _, _, hrun, k1, (Grow.drew R loc w).trans k2, ?_⟩
  have hrl : rest.length = (gc - (es.length + n)) * i.size := by rw [← hrest, Array.length_toList, size_zeroCells, hzs]
  simp only [γ]
  refine .inr ⟨w.heap.size, 0, gc, olds ++ news, ?_, ?_, hcap.2, ?_, ?_, ones_append h1o h1n, ?_⟩
  · simp [hn]
  · simp [hn]; exact hcap.1
  · refine ⟨⟨w.heap.size, (olds ++ news).length, (olds ++ news).length + rest.length⟩, ?_, rfl, ?_, ?_⟩
    · have hob : ((R.add w.drew.heap.size 0 (olds ++ news)).push ⟨w.drew.heap.size, (olds ++ news).length, (olds ++ news).length + rest.length⟩).ob = R.ob ++ [⟨w.heap.size, (olds ++ news).length, (olds ++ news).length + rest.length⟩] := rfl
      rw [hob, List.getElem?_append_right (by rw [hI.len]; exact Nat.le_refl _), hI.len]
      simp
    · simp only [Nat.zero_add, List.length_append, hn] at hlen ⊢
      exact hlen
    · simp only [Nat.zero_add]
      rw [hlen, hrl, ← Nat.add_mul]
      congr 1
      omega
  · exact γss_mono k2.le _ _ _ hall
  · intro j v hj
    have := Rep.add_in R w.heap.size 0 (olds ++ news) j v hj
    exact this

theorem ownAt_push {R : Rep} {loc : List AObj} (hlen : R.ob.length = loc.length) (r : ORep) : (R.ob ++ [r])[loc.length]? = some r := by
  rw [List.getElem?_append_right (by rw [hlen]; exact Nat.le_refl _), hlen]
  simp

theorem tok_kill {R : Rep} {loc : List AObj} {w : World} (h : Inv R loc w) (t : Nat) (ht : loc[t]? = some (.tok true)) :
    Inv R (loc.set t (.tok false)) w ∧ Grow R loc w R (loc.set t (.tok false)) w := by
  have hlt : t < loc.length := (List.getElem?_eq_some_iff.1 ht).1
  have back : ∀ (i : Nat) (x : AObj) (r : ORep) (b : Nat), (loc.set t (.tok false))[i]? = some x → own x r = some b → loc[i]? = some x := by
    intro i x r b hx e
    by_cases hi : i = t
    · subst hi
      rw [List.getElem?_set_self hlt] at hx
      cases hx
      simp [own] at e
    · rwa [List.getElem?_set_ne (Ne.symm hi)] at hx
  constructor
  · refine ⟨h.F, by simp [h.len], ?_, ?_⟩
    · intro i x r hx hr
      by_cases hi : i = t
      · subst hi
        rw [List.getElem?_set_self hlt] at hx
        cases hx
        trivial
      · rw [List.getElem?_set_ne (Ne.symm hi)] at hx
        exact h.objs i x r hx hr
    · intro i i' x x' r r' b hx hr hx' hr' e e'
      exact h.apart i i' x x' r r' b (back i x r b hx e) hr (back i' x' r' b hx' e') hr' e e'
  · refine ⟨rfl, rfl, rfl, Nat.le_refl _, RepLe.refl R, fun _ _ _ => ⟨rfl, fun _ => rfl⟩, ?_⟩
    rintro b hb ⟨i, x, r, hx, hr, e⟩
    exact ⟨i, x, r, back i x r b hx e, hr, e⟩

theorem append_sound {R : Rep} {loc loc' : List AObj} {w : World} (hI : Inv R loc w) {t u ty e : TypeId} {sz bytes : Nat} {z : List Value} {isStr : Bool} (he : elOf P t = some (e, sz, bytes)) (hz : zeroOf P e = some z)
    (hu : if isStr then P.underlying u = some .string else ∃ e, P.underlying u = some (.slice e))
    {s x v : AV} {C : DP} (h : appendA loc isStr sz bytes s x = some (v, loc', C)) (hC : C.p) {cs cx : Value} (hs : γ R s cs) (hx : γ R x cx) :
    ∃ val w' R', (Builtin.append_ #[t, u] ty #[cs, cx]).run P w = .ok val w' ∧ Inv R' loc' w' ∧ Grow R loc w R' loc' w' ∧ γ R' v val := by
  obtain ⟨i, ht, hi, rfl, rfl⟩ := elOf_spec he
  obtain ⟨i', zv, hi', hzv, hzz, hzo, hzl⟩ := zeroOf_spec hz
  rw [hi] at hi'; cases hi'
  have hzs : zv.cells.size = i.size := by rw [← hzl, ← hzz]; simp
  unfold appendA at h
  split at h
  · cases h
  rename_i new hnew
  obtain ⟨news, hsrc, hn1, hn2⟩ := src_sound hI hnew hx hu
  split at h
  · -- onto nil
    cases h
    simp only [γ] at hs; subst hs
    by_cases h0 : new.length = 0
    · have hne : new = [] := List.length_eq_zero_iff.1 h0
      subst hne
      have hnn : news = [] := by simpa [γss] using hn1
      subst hnn
      have hrun := run_append_nothing (P := P) w t u ty e i ht hi none 0 0 (Nat.le_refl _) cx hsrc
      obtain ⟨k1, k2⟩ := tok_empty hI 0 0
      exact ⟨_, _, _, hrun, k1, k2, by simp [γ]⟩
    · have := append_grow (P := P) hI (ty := ty) ht hi hzv hzs hsrc hn1 hn2 (es := []) (base := none) (cap := 0) (olds := []) (by simp [γss]) (by simp [ones]) (by simpa using run_firstCells_none w.drew i.size 0 0 0) rfl (by simp; omega) (by simpa using hC.1) (by simpa using hC.2)
      simpa using this
  · -- onto a full one
    rename_i z' es
    split at h
    · rename_i hzz'
      subst hzz'
      cases h
      simp only [γ] at hs
      by_cases h0 : new.length = 0
      · have hne : new = [] := List.length_eq_zero_iff.1 h0
        subst hne
        have hnn : news = [] := by simpa [γss] using hn1
        subst hnn
        rcases hs with ⟨rfl, rfl⟩ | ⟨b, off, cap, vs, rfl, g1, g2, g3, g4, g5, g6⟩
        · have hrun := run_append_nothing (P := P) w t u ty e i ht hi none 0 0 (Nat.le_refl _) cx hsrc
          obtain ⟨k1, k2⟩ := tok_empty hI 0 0
          exact ⟨_, _, _, hrun, k1, k2, by simp [γ]⟩
        · have hrun := run_append_nothing (P := P) w t u ty e i ht hi (some ⟨b, off, none⟩) es.length cap g1 cx hsrc
          obtain ⟨k1, k2⟩ := tok_empty hI b (off + es.length * i.size)
          refine ⟨_, _, _, hrun, k1, k2, ?_⟩
          simp only [γ, List.append_nil]
          simp only [CapOk] at g3
          subst g3
          exact .inr ⟨b, off, es.length, vs, rfl, g1, g2, ⟨_, ownAt_push hI.len _, rfl, rfl, rfl⟩, γss_mono k2.le _ _ _ g4, g5, g6.mono k2.le⟩
      · rcases hs with ⟨rfl, rfl⟩ | ⟨b, off, cap, vs, rfl, g1, g2, g3, g4, g5, g6⟩
        · have := append_grow (P := P) hI (ty := ty) ht hi hzv hzs hsrc hn1 hn2 (es := []) (base := none) (cap := 0) (olds := []) (by simp [γss]) (by simp [ones]) (by simpa using run_firstCells_none w.drew i.size 0 0 0) rfl (by simp; omega) (by simpa using hC.1) (by simpa using hC.2)
          simpa using this
        · simp only [CapOk] at g3
          subst g3
          exact append_grow (P := P) hI (ty := ty) ht hi hzv hzs hsrc hn1 hn2 g4 g5 (run_firstCells_some w.drew i.size es.length _ es.length es.length vs (γss_length g4) (fun j v hj => by rw [Addr.add_eq]; exact hI.F _ _ _ (g6 j v hj))) rfl (by omega) hC.1 hC.2
    · cases h
  · -- onto one with a right
    rename_i z' es tk
    split at h
    · rename_i hzz'
      subst hzz'
      split at h
      · rename_i htk
        cases h
        simp only [γ] at hs
        have htlt : tk < loc.length := (List.getElem?_eq_some_iff.1 htk).1
        rcases hs with ⟨rfl, rfl⟩ | ⟨b, off, cap, vs, rfl, g1, g2, g3, g4, g5, g6⟩
        · -- nil with a token
          obtain ⟨j1, j2⟩ := tok_kill hI tk htk
          have hl : (loc.set tk (.tok false)).length = loc.length := by simp
          by_cases h0 : new.length = 0
          · have hne : new = [] := List.length_eq_zero_iff.1 h0
            subst hne
            have hnn : news = [] := by simpa [γss] using hn1
            subst hnn
            have hrun := run_append_nothing (P := P) w t u ty e i ht hi none 0 0 (Nat.le_refl _) cx hsrc
            obtain ⟨k1, k2⟩ := tok_empty j1 0 0
            exact ⟨_, _, _, hrun, k1, j2.trans k2, by simp [γ]⟩
          · obtain ⟨val, w', R', a1, a2, a3, a4⟩ := append_grow (P := P) j1 (ty := ty) ht hi hzv hzs hsrc hn1 hn2 (es := []) (base := none) (cap := 0) (olds := []) (by simp [γss]) (by simp [ones]) (by simpa using run_firstCells_none w.drew i.size 0 0 0) rfl (by simp; omega) (by simpa using hC.1) (by simpa using hC.2)
            rw [hl] at a4
            exact ⟨val, w', R', a1, a2, j2.trans a3, a4⟩
        · obtain ⟨r, hr, rfl, hlo, hhi⟩ := g3
          by_cases hroom : es.length + new.length ≤ cap
          · have hnl := γss_length hn1
            have hfit : r.lo + news.length ≤ r.hi := by
              rw [hlo, hhi, hnl]
              have := Nat.mul_le_mul_right i.size hroom
              rw [Nat.add_mul] at this
              omega
            have hok := hI.objs tk _ r htk hr
            simp only [objOk] at hok
            have hrun := run_append_room_src (P := P) w t u ty e i ht hi r.blk off es.length cap cx new.length news hsrc hroom
              (fun j hj => (hok (off + es.length * i.size + j) (by omega) (by omega)).2.1) (fun j hj => (hok (off + es.length * i.size + j) (by omega) (by omega)).2.2)
            rw [← hlo] at hrun
            obtain ⟨k1, k2⟩ := tok_write hI htk hr news hfit
            refine ⟨_, _, _, hrun, k1, k2, ?_⟩
            simp only [γ]
            refine .inr ⟨r.blk, off, cap, vs ++ news, by simp, by simpa using hroom, g2, ?_, ?_, ones_append g5 hn2, ?_⟩
            · refine ⟨_, ownAt_push hI.len _, rfl, ?_, ?_⟩
              · simp only [List.length_append, hlo, hnl, Nat.add_mul]; omega
              · exact hhi
            · exact γss_mono k2.le _ _ _ (γss_append g4 hn1)
            · refine Rep.holds.append (g6.mono k2.le) ?_
              rw [γss_length g4, ← hlo]
              intro j v hj
              exact Rep.add_in R r.blk r.lo news j v hj
          · -- a new row; the right is gone
            obtain ⟨j1, j2⟩ := tok_kill hI tk htk
            have hl : (loc.set tk (.tok false)).length = loc.length := by simp
            obtain ⟨val, w', R', a1, a2, a3, a4⟩ := append_grow (P := P) j1 (ty := ty) ht hi hzv hzs hsrc hn1 hn2 g4 g5 (run_firstCells_some w.drew i.size es.length _ es.length cap vs (γss_length g4) (fun j v hj => by rw [Addr.add_eq]; exact hI.F _ _ _ (g6 j v hj))) rfl (by omega) hC.1 hC.2
            rw [hl] at a4
            exact ⟨val, w', R', a1, a2, j2.trans a3, a4⟩
      · cases h
    · cases h
  · cases h

end Go.Ab

namespace Go.Ab
variable {P : Program}

/-- an object's own block, laid anew -/
theorem put_obj {R : Rep} {loc : List AObj} {w w0 : World} (h : Inv R loc w) {o : Nat} {x : AObj} (ho : loc[o]? = some x) {r : ORep} (hr : R.ob[o]? = some r) (hx : own x r = some r.blk) {x' : AObj} (hx' : own x' r = some r.blk)
    (hF : ∀ j, R.F r.blk j = none) (hw : w0 = w ∨ w0 = w.drew) (ob : Obj) {w' : World} (hw' : w' = { w0 with heap := w0.heap.setIfInBounds r.blk ob }) (hok : objOk R w' x' r) :
    Inv R (loc.set o x') w' ∧ Grow R loc w R (loc.set o x') w' := by
  have hlt : o < loc.length := (List.getElem?_eq_some_iff.1 ho).1
  have hheap : w'.heap = w.heap.setIfInBounds r.blk ob := by rcases hw with rfl | rfl <;> (subst hw'; rfl)
  have hold : ∀ b, b ≠ r.blk → w'.heap[b]? = w.heap[b]? := fun b hb => by rw [hheap]; simp [Ne.symm hb]
  have split : ∀ (i : Nat) (y : AObj) (ry : ORep), (loc.set o x')[i]? = some y → R.ob[i]? = some ry → (i = o ∧ y = x' ∧ ry = r) ∨ (i ≠ o ∧ loc[i]? = some y) := by
    intro i y ry hy hry
    by_cases hi : i = o
    · subst hi
      rw [List.getElem?_set_self hlt] at hy
      rw [hr] at hry
      exact .inl ⟨rfl, (Option.some.inj hy).symm, (Option.some.inj hry).symm⟩
    · rw [List.getElem?_set_ne (Ne.symm hi)] at hy
      exact .inr ⟨hi, hy⟩
  constructor
  · constructor
    · intro b j v hf
      have hne : b ≠ r.blk := fun e => by subst e; rw [hF j] at hf; cases hf
      have := h.F b j v hf
      simpa only [World.cell?, hold b hne] using this
    · simp [h.len]
    · intro i y ry hy hry
      rcases split i y ry hy hry with ⟨rfl, rfl, rfl⟩ | ⟨hi, hy'⟩
      · exact hok
      · refine objOk_carry (RepLe.refl R) (h.objs i y ry hy' hry) fun b hb' => ⟨hold b ?_, fun _ => rfl⟩
        rintro rfl
        exact hi (h.apart i o y _ ry r _ hy' hry ho hr hb' hx)
    · intro i i' y y' ry ry' b hy hry hy' hry' e e'
      have back : ∀ (i : Nat) (y : AObj) (ry : ORep), (loc.set o x')[i]? = some y → R.ob[i]? = some ry → own y ry = some b → ∃ y0, loc[i]? = some y0 ∧ own y0 ry = some b := by
        intro i y ry hy hry e
        rcases split i y ry hy hry with ⟨rfl, rfl, rfl⟩ | ⟨hi, hy'⟩
        · exact ⟨_, ho, by rw [hx'] at e; rw [hx]; exact e⟩
        · exact ⟨y, hy', e⟩
      obtain ⟨z, hz, ez⟩ := back i y ry hy hry e
      obtain ⟨z', hz', ez'⟩ := back i' y' ry' hy' hry' e'
      exact h.apart i i' z z' ry ry' b hz hry hz' hry' ez ez'
  · have hos : w'.os = w.os ∧ w'.tape = w.tape ∧ w'.output = w.output := by rcases hw with rfl | rfl <;> (subst hw'; exact ⟨rfl, rfl, rfl⟩)
    refine ⟨hos.1, hos.2.1, hos.2.2, by rw [hheap]; simp, RepLe.refl R, fun b hb' hn => ⟨hold b ?_, fun _ => rfl⟩, ?_⟩
    · rintro rfl
      exact hn ⟨o, _, r, ho, hr, hx⟩
    · rintro b hb' ⟨i, y, ry, hy, hry, e⟩
      rcases split i y ry hy hry with ⟨rfl, rfl, rfl⟩ | ⟨hi, hy'⟩
      · rw [hx'] at e; cases e
        exact ⟨_, _, _, ho, hr, hx⟩
      · exact ⟨i, y, ry, hy', hry, e⟩

theorem F_none {R : Rep} {loc : List AObj} {w : World} (h : Inv R loc w) {b : Nat} {ob : Obj} (hb : w.heap[b]? = some ob) (hn : ∀ a : Addr, a.block = b → w.cell? a = none) (j : Nat) : R.F b j = none := by
  cases hf : R.F b j with
  | none => rfl
  | some v => have := h.F b j v hf; rw [hn _ rfl] at this; cases this

theorem Inv.map_F {R : Rep} {loc : List AObj} {w : World} (h : Inv R loc w) {r : Nat} {es : Array MapEntry} {c : Nat} (hb : w.heap[r]? = some (.map es c)) (j : Nat) : R.F r j = none :=
  F_none h hb (fun a ha => by simp [World.cell?, ha, hb]) j

theorem γmap_set {R : Rep} : ∀ {m : List (AV × AV)} {es : List MapEntry}, γmap R m es → ∀ (i : Nat) {e : AV × AV} {x : MapEntry}, γ R e.1 x.key → γ R e.2 x.val → γmap R (m.set i e) (es.set i x)
  | [], es, h, i, e, x, _, _ => by simp only [γmap] at h; subst h; simp [γmap]
  | (a, b) :: m, es, h, i, e, x, h1, h2 => by
    simp only [γmap] at h
    obtain ⟨e0, es', rfl, k1, k2, k3⟩ := h
    cases i with
    | zero => simp only [List.set_cons_zero, γmap]; exact ⟨x, es', rfl, h1, h2, k3⟩
    | succ i => simp only [List.set_cons_succ, γmap]; exact ⟨e0, _, rfl, k1, k2, γmap_set k3 i h1 h2⟩

theorem γmap_snoc {R : Rep} : ∀ {m : List (AV × AV)} {es : List MapEntry}, γmap R m es → ∀ {e : AV × AV} {x : MapEntry}, γ R e.1 x.key → γ R e.2 x.val → γmap R (m ++ [e]) (es ++ [x])
  | [], es, h, e, x, h1, h2 => by simp only [γmap] at h; subst h; simp only [List.nil_append, γmap]; exact ⟨x, [], rfl, h1, h2, rfl⟩
  | (a, b) :: m, es, h, e, x, h1, h2 => by
    simp only [γmap] at h
    obtain ⟨e0, es', rfl, k1, k2, k3⟩ := h
    simp only [List.cons_append, γmap]
    exact ⟨e0, _, rfl, k1, k2, γmap_snoc k3 h1 h2⟩

theorem stamped_set {es : List MapEntry} (h : ∀ (i : Nat) (e : MapEntry), es[i]? = some e → e.born = i) {i : Nat} {x e0 : MapEntry} (he : es[i]? = some e0) (hx : x.born = e0.born) :
    ∀ (j : Nat) (e : MapEntry), (es.set i x)[j]? = some e → e.born = j := by
  intro j e hj
  by_cases hij : j = i
  · subst hij
    rw [List.getElem?_set_self (List.getElem?_eq_some_iff.1 he).1] at hj
    cases hj; rw [hx]; exact h _ _ he
  · rw [List.getElem?_set_ne (Ne.symm hij)] at hj
    exact h j e hj

theorem stamped_snoc {es : List MapEntry} (h : ∀ (i : Nat) (e : MapEntry), es[i]? = some e → e.born = i) {x : MapEntry} (hx : x.born = es.length) :
    ∀ (j : Nat) (e : MapEntry), (es ++ [x])[j]? = some e → e.born = j := by
  intro j e hj
  by_cases hlt : j < es.length
  · rw [List.getElem?_append_left hlt] at hj; exact h j e hj
  · rw [List.getElem?_append_right (by omega)] at hj
    have hj0 : j - es.length = 0 := by
      have := (List.getElem?_eq_some_iff.1 hj).1
      simp at this; omega
    rw [hj0] at hj
    simp at hj
    subst hj
    rw [hx]; omega

/-- a map, laid anew -/
theorem put_map {R : Rep} {loc : List AObj} {w : World} (hI : Inv R loc w) {o : Nat} {m m' : List (AV × AV)} (ho : loc[o]? = some (.map m)) {r : ORep} (hr : R.ob[o]? = some r) {es es' : Array MapEntry} {c : Nat}
    (hb : w.heap[r.blk]? = some (.map es c)) (hm : γmap R m' es'.toList) (hs : ∀ (i : Nat) (e : MapEntry), es'.toList[i]? = some e → e.born = i) :
    Inv R (loc.set o (.map m')) { w with heap := w.heap.setIfInBounds r.blk (.map es' es'.size) } ∧ Grow R loc w R (loc.set o (.map m')) { w with heap := w.heap.setIfInBounds r.blk (.map es' es'.size) } := by
  refine put_obj hI ho hr rfl (x' := .map m') rfl (hI.map_F hb) (.inl rfl) _ rfl ?_
  refine ⟨es', es'.size, ?_, hm, by simp, hs⟩
  have hlt : r.blk < w.heap.size := (Array.getElem?_eq_some_iff.1 hb).1
  simp [hlt]

theorem run_keyThatStays {R : Rep} {w : World} {p q : AV} {x y : Value} {b : Bool} (h : keq p q = some true) (hx : γ R p x) (hy : γ R q y) : (Instr.keyThatStays y x).run P w = .ok x w := by
  have := keq_same h hx hy
  subst this
  simp only [Instr.keyThatStays, sameBits_refl h hx 9999, if_true, Sem.run_pure]

theorem modify_toList (es : Array MapEntry) (i : Nat) (f : MapEntry → MapEntry) : (es.modify i f).toList = es.toList.modify i f := by simp

theorem list_modify_set {α : Type} {l : List α} {i : Nat} {a : α} (h : l[i]? = some a) (f : α → α) : l.modify i f = l.set i (f a) := by
  apply List.ext_getElem?
  intro j
  rw [List.getElem?_modify, List.getElem?_set]
  have hlt := (List.getElem?_eq_some_iff.1 h).1
  by_cases hij : i = j
  · subst hij
    have e : l[i] = a := by rw [List.getElem?_eq_getElem hlt] at h; exact Option.some.inj h
    simp [hlt, e]
  · simp [hij]

def updA (m : List (AV × AV)) (k v : AV) : Option Nat → List (AV × AV)
  | some i => m.set i (k, v)
  | none => m ++ [(k, v)]

def entA (m : List (AV × AV)) (z : AV) : Option Nat → AV
  | some i => .tup [valAt m z (some i), .int i]
  | none => .tup [z, .int m.length]

theorem mapUpdate_sound {R : Rep} {loc : List AObj} {w : World} (hI : Inv R loc w) {t kt et : TypeId} (ht : P.underlying t = some (.map kt et)) {o : Nat} {m : List (AV × AV)} (ho : loc[o]? = some (.map m)) {k v : AV}
    {r : Option Nat} (hf : mfind k m = some r) (hok : okKey P kt k = true) {x y z : Value} (hx : γ R (.mp o) x) (hy : γ R k y) (hz : γ R v z) :
    ∃ w', (Instr.mapUpdate t x y z).run P w = .ok () w' ∧ Inv R (loc.set o (.map (updA m k v r))) w' ∧
      Grow R loc w R (loc.set o (.map (updA m k v r))) w' := by
  obtain ⟨rr, es, hr, hb, hm, hst⟩ := hI.map ho
  rw [mp_value hx hr]
  have hfk := run_findKey_ab (w := w) hok hy hf hm
  have hck := fun em => run_checkKey_ab (w := w) hok hy em 9998
  simp only [Nat.reduceAdd] at hck
  cases r with
  | none =>
    simp only [Option.bind_none] at hfk
    obtain ⟨k1, k2⟩ := put_map hI ho hr hb (m' := m ++ [(k, v)]) (es' := es.push { key := y, val := z, born := es.size }) (by simp only [Array.toList_push]; exact γmap_snoc hm hy hz)
      (by simp only [Array.toList_push]; exact stamped_snoc hst (by simp))
    refine ⟨_, ?_, k1, k2⟩
    simp only [Instr.mapUpdate, Sem.run_bind, run_underlying ht, Result.andThen_ok, MapKept.run_getObj_map hb, hck, hfk, MapKept.run_setObj_map _ hb, Array.size_push]
  | some i =>
    obtain ⟨e, h1, h2⟩ := mfind_lt hf
    obtain ⟨xe, h3, h4, h5⟩ := γmap_get hm h1
    simp only [Option.bind_some, h3, Option.map_some] at hfk
    have h3' : es[i]? = some xe := by simpa using h3
    have hkt := run_keyThatStays (P := P) (w := w) (b := true) h2 hy h4
    obtain ⟨k1, k2⟩ := put_map hI ho hr hb (m' := m.set i (k, v)) (es' := es.modify i fun e => { e with key := y, val := z })
      (by rw [modify_toList, list_modify_set h3]; exact γmap_set hm i hy hz)
      (by rw [modify_toList, list_modify_set h3]; exact stamped_set hst h3 rfl)
    refine ⟨_, ?_, k1, k2⟩
    simp only [Instr.mapUpdate, Sem.run_bind, run_underlying ht, Result.andThen_ok, MapKept.run_getObj_map hb, hck, hfk, h3', Option.map_some, Option.getD_some, hkt, MapKept.run_setObj_map _ hb, Array.size_modify]

theorem mapEntry_sound {R : Rep} {loc : List AObj} {w : World} (hI : Inv R loc w) {t kt et : TypeId} (ht : P.underlying t = some (.map kt et)) {o : Nat} {m : List (AV × AV)} (ho : loc[o]? = some (.map m)) {k z : AV} (hz : zeroA P et = some z)
    {r : Option Nat} (hf : mfind k m = some r) (hok : okKey P kt k = true) {x y : Value} (hx : γ R (.mp o) x) (hy : γ R k y) :
    ∃ u w', (Instr.mapEntry t x y).run P w = .ok u w' ∧ γ R (entA m z r) u ∧ Inv R (loc.set o (.map (updA m k (valAt m z r) r))) w' ∧
      Grow R loc w R (loc.set o (.map (updA m k (valAt m z r) r))) w' := by
  obtain ⟨rr, es, hr, hb, hm, hst⟩ := hI.map ho
  rw [mp_value hx hr]
  have hfk := run_findKey_ab (w := w) hok hy hf hm
  have hck := fun em => run_checkKey_ab (w := w) hok hy em 9998
  simp only [Nat.reduceAdd] at hck
  obtain ⟨zv, hz1, hz2⟩ := zeroA_spec (R := R) hz w
  have hl := γmap_length hm
  cases r with
  | none =>
    simp only [Option.bind_none] at hfk
    obtain ⟨k1, k2⟩ := put_map hI ho hr hb (m' := m ++ [(k, z)]) (es' := es.push { key := y, val := zv, born := es.size }) (by simp only [Array.toList_push]; exact γmap_snoc hm hy hz2)
      (by simp only [Array.toList_push]; exact stamped_snoc hst (by simp))
    refine ⟨.tuple #[zv, goInt es.size], _, ?_, ?_, k1, k2⟩
    · simp only [Instr.mapEntry, Sem.run_bind, run_underlying ht, Result.andThen_ok, MapKept.run_getObj_map hb, hck, hfk, hz1, MapKept.run_setObj_map _ hb, Array.size_push, Sem.run_pure]
    · simp only [entA, γ, γs]
      exact ⟨[zv, goInt es.size], rfl, zv, _, rfl, hz2, _, _, rfl, by simp [goInt, ← hl], rfl⟩
  | some i =>
    obtain ⟨e, h1, h2⟩ := mfind_lt hf
    obtain ⟨xe, h3, h4, h5⟩ := γmap_get hm h1
    simp only [Option.bind_some, h3, Option.map_some] at hfk
    have h3' : es[i]? = some xe := by simpa using h3
    have hkt := run_keyThatStays (P := P) (w := w) (b := true) h2 hy h4
    have hv : valAt m z (some i) = e.2 := by simp [valAt, h1]
    obtain ⟨k1, k2⟩ := put_map hI ho hr hb (m' := m.set i (k, e.2)) (es' := es.modify i fun e => { e with key := y })
      (by rw [modify_toList, list_modify_set h3]; exact γmap_set hm i hy h5)
      (by rw [modify_toList, list_modify_set h3]; exact stamped_set hst h3 rfl)
    simp only [entA, updA, hv]
    refine ⟨.tuple #[xe.val, goInt xe.born], _, ?_, ?_, k1, k2⟩
    · simp only [Instr.mapEntry, Sem.run_bind, run_underlying ht, Result.andThen_ok, MapKept.run_getObj_map hb, hck, hfk, h3', Option.map_some, Option.getD_some, hkt, MapKept.run_setObj_map _ hb, Array.size_modify, Sem.run_pure]
    · simp only [γ, γs]
      exact ⟨[xe.val, goInt xe.born], rfl, xe.val, _, rfl, h5, _, _, rfl, by simp [goInt, hst i xe h3], rfl⟩

theorem findIdx_born {es : Array MapEntry} (h : ∀ (i : Nat) (e : MapEntry), es.toList[i]? = some e → e.born = i) {n : Nat} (hn : n < es.size) : es.findIdx? (fun e => (e.born : Int) == (n : Int)) = some n := by
  rw [Array.findIdx?_eq_some_iff_getElem]
  refine ⟨hn, ?_, fun j hj => ?_⟩
  · have := h n es[n] (by simp [hn])
    simp [this]
  · have hj' : j < es.size := by omega
    have := h j es[j] (by simp [hj'])
    simp only [this]
    simp
    omega

theorem entryStore_sound {R : Rep} {loc : List AObj} {w : World} (hI : Inv R loc w) (t : TypeId) {o : Nat} {m : List (AV × AV)} (ho : loc[o]? = some (.map m)) {q v : AV} {n : Int} (hn : asIntA q = some n) (h0 : 0 ≤ n) {e : AV × AV} (he : m[n.toNat]? = some e)
    {x y z : Value} (hx : γ R (.mp o) x) (hy : γ R q y) (hz : γ R v z) :
    ∃ w', (Instr.entryStore t x y z).run P w = .ok () w' ∧ Inv R (loc.set o (.map (m.set n.toNat (e.1, v)))) w' ∧ Grow R loc w R (loc.set o (.map (m.set n.toNat (e.1, v)))) w' := by
  obtain ⟨rr, es, hr, hb, hm, hst⟩ := hI.map ho
  rw [mp_value hx hr]
  obtain ⟨k, rfl⟩ := asIntA_spec hn hy
  obtain ⟨xe, h3, h4, h5⟩ := γmap_get hm he
  have hlt : n.toNat < es.size := by have := (List.getElem?_eq_some_iff.1 h3).1; simpa using this
  have hfi := findIdx_born hst hlt
  rw [Int.toNat_of_nonneg h0] at hfi
  obtain ⟨k1, k2⟩ := put_map hI ho hr hb (m' := m.set n.toNat (e.1, v)) (es' := es.modify n.toNat fun e => { e with val := z })
    (by rw [modify_toList, list_modify_set h3]; exact γmap_set hm _ h4 hz)
    (by rw [modify_toList, list_modify_set h3]; exact stamped_set hst h3 rfl)
  refine ⟨_, ?_, k1, k2⟩
  simp only [Instr.entryStore, Sem.run_bind, Sem.run_pure, Result.andThen_ok, MapKept.run_getObj_map hb, asInt, asIntOf, hfi, MapKept.run_setObj_map _ hb, Array.size_modify]

theorem range_map_sound {R : Rep} {loc : List AObj} {w : World} (hI : Inv R loc w) {t kt et : TypeId} (ht : P.underlying t = some (.map kt et)) {o : Nat} {m : List (AV × AV)} (ho : loc[o]? = some (.map m)) {x : Value} (hx : γ R (.mp o) x) :
    ∃ y w' R', (Instr.range t x).run P w = .ok y w' ∧ Inv R' (loc ++ [.iter (.mp o) m.length [] m.length]) w' ∧ Grow R loc w R' (loc ++ [.iter (.mp o) m.length [] m.length]) w' ∧ γ R' (.ptr loc.length 0) y := by
  obtain ⟨rr, es, hr, hb, hm, hst⟩ := hI.map ho
  have hxx := hx
  rw [mp_value hx hr] at hxx ⊢
  have hl := γmap_length hm
  simp only [Array.length_toList] at hl
  have hle := Rep.push_le R ⟨w.heap.size, 0, 0⟩
  obtain ⟨k1, k2⟩ := push_obj hI (.mapIter (some rr.blk) m.length #[] m.length) (.iter (.mp o) m.length [] m.length) ⟨w.heap.size, 0, 0⟩ (fun b h => by cases h; rfl)
    ⟨rr.blk, γ_mono hle _ _ hxx, World.alloc_heap_new w _⟩
  refine ⟨.pointer (some ⟨w.heap.size, 0, none⟩), _, _, ?_, k1, k2, ?_⟩
  · simp only [Instr.range, Sem.run_bind, run_underlying ht, Result.andThen_ok, MapKept.run_getObj_map hb, Sem.run_pure, hl, run_newObj, World.alloc_eq]
  · simp only [γ]
    exact ⟨_, ownAt_push hI.len _, rfl⟩

theorem range_str_sound {R : Rep} {loc : List AObj} {w : World} (hI : Inv R loc w) {t : TypeId} (ht : P.underlying t = some .string) (s : ByteArray) :
    ∃ y w' R', (Instr.range t (.string s)).run P w = .ok y w' ∧ Inv R' (loc ++ [.siter s 0]) w' ∧ Grow R loc w R' (loc ++ [.siter s 0]) w' ∧ γ R' (.ptr loc.length 0) y := by
  have hle := Rep.push_le R ⟨w.heap.size, 0, 0⟩
  obtain ⟨k1, k2⟩ := push_obj hI (.stringIter s 0) (.siter s 0) ⟨w.heap.size, 0, 0⟩ (fun b h => by cases h; rfl) (World.alloc_heap_new w _)
  refine ⟨.pointer (some ⟨w.heap.size, 0, none⟩), _, _, ?_, k1, k2, ?_⟩
  · simp only [Instr.range, Sem.run_bind, run_underlying ht, Result.andThen_ok, Sem.run_pure, run_newObj, World.alloc_eq]
  · simp only [γ]
    exact ⟨_, ownAt_push hI.len _, rfl⟩

theorem next_str_sound {R : Rep} {loc : List AObj} {w : World} (hI : Inv R loc w) {o pos : Nat} {s : ByteArray} (ho : loc[o]? = some (.siter s pos)) {x : Value} (hx : γ R (.ptr o 0) x) (ty : TypeId) :
    (pos < s.size → ∃ y w', (Instr.next x true ty).run P w = .ok y w' ∧ γ R (.tup [.bool true, .int pos, .con (.int .i32 (Utf8.decode s pos).1)]) y ∧ Inv R (loc.set o (.siter s (pos + (Utf8.decode s pos).2))) w' ∧ Grow R loc w R (loc.set o (.siter s (pos + (Utf8.decode s pos).2))) w') ∧
    (¬ pos < s.size → ∃ y, (Instr.next x true ty).run P w = .ok y w ∧ γ R (.tup [.bool false]) y) := by
  simp only [γ] at hx
  obtain ⟨r, hr, rfl⟩ := hx
  have hk := hI.objs o _ r ho hr
  simp only [objOk] at hk
  have hget : (getObj r.blk).run P w = .ok (.stringIter s pos) w := by simp [getObj, Sem.run, hk]
  have hset : ∀ ob, (setObj r.blk ob).run P w = .ok () { w with heap := w.heap.setIfInBounds r.blk ob } := fun ob => by simp [setObj, Sem.run, hk]
  constructor
  · intro hlt
    obtain ⟨k1, k2⟩ := put_obj hI ho hr rfl (x' := .siter s (pos + (Utf8.decode s pos).2)) rfl (F_none hI hk (fun a ha => by simp [World.cell?, ha, hk])) (.inl rfl) (.stringIter s (pos + (Utf8.decode s pos).2)) rfl (by
      simp only [objOk]
      have hb : r.blk < w.heap.size := (Array.getElem?_eq_some_iff.1 hk).1
      simp [hb])
    refine ⟨.tuple #[.bool true, goInt pos, .int .i32 (Utf8.decode s pos).1], _, ?_, ?_, k1, k2⟩
    · simp only [Instr.next, Sem.run_bind, hget, Result.andThen_ok, if_pos hlt, hset, Sem.run_pure]
    · simp only [γ, γs]
      exact ⟨[.bool true, goInt pos, .int .i32 (Utf8.decode s pos).1], rfl, _, _, rfl, rfl, _, _, rfl, rfl, _, _, rfl, rfl, rfl⟩
  · intro hge
    refine ⟨.tuple #[.bool false], ?_, ?_⟩
    · simp only [Instr.next, Sem.run_bind, hget, Result.andThen_ok, if_neg hge, Sem.run_pure]
    · simp only [γ, γs]
      exact ⟨[.bool false], rfl, _, _, rfl, rfl, rfl⟩

/-- a map's next entry: nothing is left, or one that was not met -/
theorem next_map_sound {R : Rep} {loc : List AObj} {w : World} (hI : Inv R loc w) {o m last : Nat} {seen : List Nat} {es : List (AV × AV)} (hm : loc[m]? = some (.map es)) (ho : loc[o]? = some (.iter (.mp m) es.length seen last)) (hlast : es.length ≤ last) {x : Value} (hx : γ R (.ptr o 0) x) (ty : TypeId) :
    ((∀ i, i < es.length → i ∈ seen) ∧ ∃ y, (Instr.next x false ty).run P w = .ok y w ∧ γ R (.tup [.bool false]) y) ∨
    (∃ i e y w', es[i]? = some e ∧ i ∉ seen ∧ (Instr.next x false ty).run P w = .ok y w' ∧ γ R (.tup [.bool true, e.1, e.2]) y ∧
      Inv R (loc.set o (.iter (.mp m) es.length (seen ++ [i]) es.length)) w' ∧ Grow R loc w R (loc.set o (.iter (.mp m) es.length (seen ++ [i]) es.length)) w') := by
  simp only [γ] at hx
  obtain ⟨r, hr, rfl⟩ := hx
  have hk := hI.objs o _ r ho hr
  simp only [objOk] at hk
  obtain ⟨b, hb, hit⟩ := hk
  obtain ⟨rr, mes, hrr, hheap, hgm, hst⟩ := hI.map hm
  have := mp_value hb hrr
  simp only [Value.map.injEq, Option.some.injEq] at this
  subst this
  have hl := γmap_length hgm
  simp only [Array.length_toList] at hl
  have hold : ∀ x ∈ mes.toList, x.born < es.length := by
    intro x hxm
    obtain ⟨i, hi⟩ := List.getElem?_of_mem hxm
    rw [hst i x hi]
    have := (List.getElem?_eq_some_iff.1 hi).1
    simp at this; omega
  rcases run_next_at (P := P) w ty r.blk rr.blk es.length last seen.toArray mes mes.size hit hheap hold hlast with ⟨h0, h1⟩ | ⟨e, he, w1, hw1, h1⟩
  · refine .inl ⟨fun i hi => ?_, _, h1, ?_⟩
    · have hi' : i < mes.size := by omega
      have hb := hst i mes[i] (by simp [hi'])
      rw [Array.size_eq_zero_iff] at h0
      have := Array.filter_eq_empty_iff.1 h0 mes[i] (by simp)
      rw [hb] at this
      simpa using this
    · simp only [γ, γs]
      exact ⟨[.bool false], rfl, _, _, rfl, rfl, rfl⟩
  · simp only [leftOf, Array.toList_filter, List.mem_filter] at he
    obtain ⟨i, hi⟩ := List.getElem?_of_mem he.1
    have hborn := hst i e hi
    have hilt : i < es.length := by
      have := (List.getElem?_eq_some_iff.1 hi).1
      simp at this; omega
    obtain ⟨x', hx1, hx2, hx3⟩ := γmap_get hgm (List.getElem?_eq_getElem hilt)
    rw [hi] at hx1; cases hx1
    have hni : i ∉ seen := by
      have := he.2
      rw [hborn] at this
      simpa using this
    obtain ⟨k1, k2⟩ := put_obj hI ho hr rfl (x' := .iter (.mp m) es.length (seen ++ [i]) es.length) rfl (F_none hI hit (fun a ha => by simp [World.cell?, ha, hit])) hw1 (.mapIter (some rr.blk) es.length (seen.toArray.push e.born) mes.size) rfl (by
      refine ⟨rr.blk, hb, ?_⟩
      have hb : r.blk < w1.heap.size := by
        have := (Array.getElem?_eq_some_iff.1 hit).1
        rcases hw1 with rfl | rfl <;> exact this
      simp [hb, hborn, hl])
    refine .inr ⟨i, es[i], _, _, List.getElem?_eq_getElem hilt, hni, h1, ?_, ?_, ?_⟩
    · simp only [γ, γs]
      exact ⟨[.bool true, e.key, e.val], rfl, _, _, rfl, rfl, _, _, rfl, hx2, _, _, rfl, hx3, rfl⟩
    · exact k1
    · exact k2

end Go.Ab

/-
  Slices that are objects: appending to them, or to nil, gives a slice that is an object again, whose cells may be written.
-/
namespace Go.Ab
variable {P : Program}

theorem setCells_block (b : Nat) : ∀ (vs : List Value) (o : Nat) (w : World) (A : List Value) (t : TypeId), w.heap[b]? = some (.cells A.toArray t (0, 0)) → o + vs.length ≤ A.length →
    (w.setCells b o vs).heap[b]? = some (.cells (A.take o ++ vs ++ A.drop (o + vs.length)).toArray t (0, 0))
  | [], o, w, A, t, h, _ => by simpa [World.setCells] using h
  | v :: vs, o, w, A, t, h, hl => by
    simp only [List.length_cons] at hl
    have h1 := heap_setCell_same w b o A.toArray t v h
    have h2 : (w.setCell ⟨b, o, none⟩ v).heap[b]? = some (.cells (A.set o v).toArray t (0, 0)) := by
      rw [h1]; simp
    rw [World.setCells, setCells_block b vs (o + 1) _ (A.set o v) t h2 (by simp; omega)]
    have := list_seg_step A o v vs (by omega)
    rw [this]
    simp

/-- an object that is no more; another one that takes its block -/
theorem obj_move {R : Rep} {loc : List AObj} {w w' : World} (h : Inv R loc w) {o : Nat} {cs : List AV} (ho : loc[o]? = some (.cells cs)) {r : ORep} (hr : R.ob[o]? = some r) (hne : cs ≠ [])
    (hheap : ∀ b, b ≠ r.blk → w'.heap[b]? = w.heap[b]?) (hos : w'.os = w.os) (htape : w'.tape = w.tape) (hout : w'.output = w.output) (hsize : w'.heap.size = w.heap.size)
    (o' : AObj) (ro : ORep) (hown : ∀ b, own o' ro = some b → b = r.blk) (hok : objOk (R.push ro) w' o' ro) :
    Inv (R.push ro) (loc.set o .gone ++ [o']) w' ∧ Grow R loc w (R.push ro) (loc.set o .gone ++ [o']) w' := by
  have hle := Rep.push_le R ro
  have hlt : o < loc.length := (List.getElem?_eq_some_iff.1 ho).1
  have hF : ∀ j, R.F r.blk j = none := by
    have := h.objs o _ r ho hr
    simp only [objOk] at this
    obtain ⟨_, _, _, _, _, _, h4, _⟩ := this hne
    exact h4
  have hownr : own (.cells cs) r = some r.blk := own_cells.2 ⟨hne, rfl⟩
  have hsplit : ∀ (i : Nat) (x : AObj) (rx : ORep), (loc.set o .gone ++ [o'])[i]? = some x → (R.push ro).ob[i]? = some rx →
      (i = loc.length ∧ x = o' ∧ rx = ro) ∨ (i = o ∧ x = .gone) ∨ (i < loc.length ∧ i ≠ o ∧ loc[i]? = some x ∧ R.ob[i]? = some rx) := by
    intro i x rx hx hrx
    have hob : (R.push ro).ob = R.ob ++ [ro] := rfl
    have hlen : (loc.set o AObj.gone).length = loc.length := by simp
    rw [hob] at hrx
    by_cases hi : i < loc.length
    · rw [List.getElem?_append_left (by rw [hlen]; exact hi)] at hx
      rw [List.getElem?_append_left (by rw [h.len]; exact hi)] at hrx
      by_cases hio : i = o
      · subst hio
        rw [List.getElem?_set_self hlt] at hx
        exact .inr (.inl ⟨rfl, (Option.some.inj hx).symm⟩)
      · rw [List.getElem?_set_ne (Ne.symm hio)] at hx
        exact .inr (.inr ⟨hi, hio, hx, hrx⟩)
    · have hi2 : i = loc.length := by
        have := (List.getElem?_eq_some_iff.1 hx).1
        simp at this; omega
      subst hi2
      rw [List.getElem?_append_right (by rw [hlen]; exact Nat.le_refl _), hlen] at hx
      rw [List.getElem?_append_right (by rw [h.len]; exact Nat.le_refl _)] at hrx
      simp [h.len] at hx hrx
      exact .inl ⟨rfl, hx.symm, hrx.symm⟩
  have hblk : ∀ (i : Nat) (x : AObj) (rx : ORep) (b : Nat), i ≠ o → loc[i]? = some x → R.ob[i]? = some rx → own x rx = some b → b ≠ r.blk := by
    rintro i x rx b hio h1 h2 h3 rfl
    exact hio (h.apart i o x _ rx r _ h1 h2 ho hr h3 hownr)
  constructor
  · constructor
    · intro b j v hf
      have hne : b ≠ r.blk := fun e => by subst e; have := hF j; rw [show R.F r.blk j = some v from hf] at this; cases this
      have := h.F b j v hf
      simpa only [World.cell?, hheap b hne] using this
    · simp [Rep.push, h.len]
    · intro i x rx hx hrx
      rcases hsplit i x rx hx hrx with ⟨rfl, rfl, rfl⟩ | ⟨rfl, rfl⟩ | ⟨k1, k2, k3, k4⟩
      · exact hok
      · trivial
      · exact objOk_carry hle (h.objs i x rx k3 k4) fun b hb => ⟨hheap b (hblk i x rx b k2 k3 k4 hb), fun _ => rfl⟩
    · intro i i' x x' rx rx' b hx hrx hx' hrx' e e'
      rcases hsplit i x rx hx hrx with ⟨rfl, rfl, rfl⟩ | ⟨rfl, rfl⟩ | ⟨k1, k2, k3, k4⟩
      · rcases hsplit i' x' rx' hx' hrx' with ⟨rfl, rfl, rfl⟩ | ⟨rfl, rfl⟩ | ⟨l1, l2, l3, l4⟩
        · rfl
        · simp [own] at e'
        · exact absurd (hown b e) (hblk i' x' rx' b l2 l3 l4 e')
      · simp [own] at e
      · rcases hsplit i' x' rx' hx' hrx' with ⟨rfl, rfl, rfl⟩ | ⟨rfl, rfl⟩ | ⟨l1, l2, l3, l4⟩
        · exact absurd (hown b e') (hblk i x rx b k2 k3 k4 e)
        · simp [own] at e'
        · exact h.apart i i' x x' rx rx' b k3 k4 l3 l4 e e'
  · refine ⟨hos, htape, hout, by omega, hle, fun b hb hn => ⟨hheap b ?_, fun _ => rfl⟩, ?_⟩
    · rintro rfl
      exact hn ⟨o, _, r, ho, hr, hownr⟩
    · rintro b hb ⟨i, x, rx, hx, hrx, e⟩
      rcases hsplit i x rx hx hrx with ⟨rfl, rfl, rfl⟩ | ⟨rfl, rfl⟩ | ⟨k1, k2, k3, k4⟩
      · rw [hown b e]; exact ⟨o, _, r, ho, hr, hownr⟩
      · simp [own] at e
      · exact ⟨i, x, rx, k3, k4, e⟩

/-- an object that is no more -/
theorem obj_gone {R : Rep} {loc : List AObj} {w : World} (h : Inv R loc w) (o : Nat) : Inv R (loc.set o .gone) w ∧ Grow R loc w R (loc.set o .gone) w := by
  have back : ∀ (i : Nat) (x : AObj) (r : ORep) (b : Nat), (loc.set o .gone)[i]? = some x → own x r = some b → loc[i]? = some x := by
    intro i x r b hx e
    by_cases hi : o = i
    · subst hi
      by_cases hlt : o < loc.length
      · rw [List.getElem?_set_self hlt] at hx
        cases hx
        simp [own] at e
      · rw [List.getElem?_eq_none (by simp; omega)] at hx; cases hx
    · rwa [List.getElem?_set_ne hi] at hx
  constructor
  · refine ⟨h.F, by simp [h.len], ?_, ?_⟩
    · intro i x r hx hr
      by_cases hi : o = i
      · subst hi
        by_cases hlt : o < loc.length
        · rw [List.getElem?_set_self hlt] at hx
          cases hx
          trivial
        · rw [List.getElem?_eq_none (by simp; omega)] at hx; cases hx
      · rw [List.getElem?_set_ne hi] at hx
        exact h.objs i x r hx hr
    · intro i i' x x' r r' b hx hr hx' hr' e e'
      exact h.apart i i' x x' r r' b (back i x r b hx e) hr (back i' x' r' b hx' e') hr' e e'
  · refine ⟨rfl, rfl, rfl, Nat.le_refl _, RepLe.refl R, fun _ _ _ => ⟨rfl, fun _ => rfl⟩, ?_⟩
    rintro b hb ⟨i, x, r, hx, hr, e⟩
    exact ⟨i, x, r, back i x r b hx e, hr, e⟩

/-- one more object that has no block -/
theorem push_none {R : Rep} {loc : List AObj} {w : World} (h : Inv R loc w) (ro : ORep) :
    Inv (R.push ro) (loc ++ [.cells []]) w ∧ Grow R loc w (R.push ro) (loc ++ [.cells []]) w := by
  have hle : RepLe R (R.push ro) := Rep.push_le _ _
  have hsplit : ∀ (i : Nat) (x : AObj) (rx : ORep), (loc ++ [AObj.cells []])[i]? = some x → (R.push ro).ob[i]? = some rx →
      (i = loc.length ∧ x = .cells [] ∧ rx = ro) ∨ (i < loc.length ∧ loc[i]? = some x ∧ R.ob[i]? = some rx) := by
    intro i x rx hx hrx
    simp only [Rep.push] at hrx
    by_cases hi : i < loc.length
    · rw [List.getElem?_append_left hi] at hx
      rw [List.getElem?_append_left (by rw [h.len]; exact hi)] at hrx
      exact .inr ⟨hi, hx, hrx⟩
    · have hi2 : i = loc.length := by
        have := (List.getElem?_eq_some_iff.1 hx).1
        simp at this; omega
      subst hi2
      rw [List.getElem?_append_right (Nat.le_refl _)] at hx
      rw [List.getElem?_append_right (by rw [h.len]; exact Nat.le_refl _)] at hrx
      simp [h.len] at hx hrx
      exact .inl ⟨rfl, hx.symm, hrx.symm⟩
  have key : ∀ (i : Nat) (x : AObj) (rx : ORep) (b' : Nat), (loc ++ [AObj.cells []])[i]? = some x → (R.push ro).ob[i]? = some rx → own x rx = some b' → loc[i]? = some x ∧ R.ob[i]? = some rx := by
    intro i x rx b' hx hrx e
    rcases hsplit i x rx hx hrx with ⟨rfl, rfl, rfl⟩ | ⟨k1, k2, k3⟩
    · simp [own] at e
    · exact ⟨k2, k3⟩
  constructor
  · constructor
    · exact h.F
    · simp [Rep.push, h.len]
    · intro i x rx hx hrx
      rcases hsplit i x rx hx hrx with ⟨rfl, rfl, rfl⟩ | ⟨k1, k2, k3⟩
      · intro h; exact absurd rfl h
      · exact objOk_carry hle (h.objs i x rx k2 k3) fun b _ => ⟨rfl, fun _ => rfl⟩
    · intro i i' x x' rx rx' b' hx hrx hx' hrx' e e'
      obtain ⟨k1, k2⟩ := key i x rx b' hx hrx e
      obtain ⟨l1, l2⟩ := key i' x' rx' b' hx' hrx' e'
      exact h.apart i i' x x' rx rx' b' k1 k2 l1 l2 e e'
  · refine ⟨rfl, rfl, rfl, Nat.le_refl _, hle, fun _ _ _ => ⟨rfl, fun _ => rfl⟩, ?_⟩
    rintro b' hb ⟨i, x, rx, hx, hrx, e⟩
    obtain ⟨k1, k2⟩ := key i x rx b' hx hrx e
    exact ⟨i, x, rx, k1, k2, e⟩

theorem γss_flatten {R : Rep} {sz : Nat} : ∀ {es : List (List AV)} {vs : List Value}, γss R sz es vs → γs R es.flatten vs
  | [], vs, h => by simpa [γss, γs] using h
  | e :: es, vs, h => by
    simp only [γss] at h
    obtain ⟨v1, v2, rfl, h0, h1, h2⟩ := h
    exact γs_append h1 (γss_flatten h2)

theorem frozen_cells {w : World} {b : Nat} {A : Array Value} {t : TypeId} (h : w.heap[b]? = some (.cells A t (0, 0))) (j : Nat) : w.frozen? ⟨b, j, none⟩ = false := by
  simp [World.frozen?, h]

/-- there is no room: a new row, which is an object -/
theorem appendV_grow {R : Rep} {loc : List AObj} {w : World} (hI : Inv R loc w) {t u ty e : TypeId} {i : TypeInfo} {z : Value} (ht : P.underlying t = some (.slice e)) (hi : P.info? e = some i) (hz : i.zero = some z) (hzs : z.cells.size = i.size)
    {cx : Value} {n : Nat} {news : List Value} (hsrc : Src P i.size u cx n news w) {new : List (List AV)} (hnew : γss R i.size new news) (h1n : ones news)
    {cs : List AV} {len : Nat} {base : Option Addr} {cap : Nat} {olds : List Value} (hes : γs R cs olds) (hlen : olds.length = len * i.size) (h1o : ones olds)
    (hold : (Builtin.firstCells i.size len (.slice base len cap)).run P w.drew = .ok olds.toArray w.drew) (hn : new.length = n) (hn0 : 0 < n)
    (hg : cap < len + n) (hroom : (len + n) * i.bytes ≤ roomA) (hroom2 : len + n ≤ roomA) :
    ∃ val w' R', (Builtin.append_ #[t, u] ty #[.slice base len cap, cx]).run P w = .ok val w' ∧ Inv R' (loc ++ [.cells (cs ++ new.flatten)]) w' ∧ Grow R loc w R' (loc ++ [.cells (cs ++ new.flatten)]) w' ∧ γ R' (.vw i.size loc.length 0 (len + n)) val := by
  have hfit : Builtin.nextslicecap (len + n) cap * i.bytes ≤ 281474976710656 := by
    have h1 := Room.nextslicecap_le' (need := len + n) (old := cap) hg
    have h2 := Nat.mul_le_mul_right i.bytes h1
    unfold roomA at hroom
    rw [Nat.mul_assoc] at h2
    omega
  have hrun := run_append_grow_src (P := P) w t u ty e i z ht hi hz base len cap olds hold cx n news hsrc hg (by unfold roomA at hroom2; omega) hfit
  have hcap := grownCap_bounds w (len + n) cap e (by unfold roomA at hroom2; omega)
  generalize grownCap w (len + n) cap e = gc at *
  have hall : γs R (cs ++ new.flatten) (olds ++ news) := γs_append hes (γss_flatten hnew)
  have hnl : news.length = n * i.size := by rw [γss_length hnew, hn]
  have hl2 : (olds ++ news).length = (len + n) * i.size := by rw [List.length_append, hlen, hnl, Nat.add_mul]
  generalize hrest : (Builtin.zeroCells z.cells (gc - (len + n))).toList = rest at *
  have hw : ((olds ++ news).toArray ++ Builtin.zeroCells z.cells (gc - (len + n))) = (olds ++ news ++ rest).toArray := by
    apply Array.ext'; simp [← hrest]
  rw [hw] at hrun
  have hrl : rest.length = (gc - (len + n)) * i.size := by rw [← hrest, Array.length_toList, size_zeroCells, hzs]
  have hId : Inv R loc w.drew := hI.heap rfl
  have hle := Rep.push_le R ⟨w.drew.heap.size, 0, gc * i.size⟩
  obtain ⟨k1, k2⟩ := push_obj hId (.cells (olds ++ news ++ rest).toArray e) (.cells (cs ++ new.flatten)) ⟨w.drew.heap.size, 0, gc * i.size⟩ (fun b h => (own_cells.1 h).2) (by
    refine fun _ => ⟨olds ++ news, rest, e, ?_, γs_mono hle _ _ hall, ones_append h1o h1n, fun j => ?_, ?_⟩
    · exact World.alloc_heap_new w.drew _
    · exact hId.F_new (Nat.le_refl _) j
    · show gc * i.size ≤ _
      rw [hl2, hrl, ← Nat.add_mul]
      exact Nat.mul_le_mul_right _ (by omega))
  refine ⟨_, _, _, hrun, k1, (Grow.drew R loc w).trans k2, ?_⟩
  simp only [γ]
  refine .inr ⟨⟨w.heap.size, 0, gc * i.size⟩, gc, ownAt_push hI.len _, ?_, hcap.1, hcap.2, by simp, fun h => by omega⟩
  simp

theorem appendV_sound {R : Rep} {loc loc' : List AObj} {w : World} (hI : Inv R loc w) {t u ty e : TypeId} {sz bytes : Nat} {z : List Value} {isStr : Bool} (he : elOf P t = some (e, sz, bytes)) (hz : zeroOf P e = some z)
    (hu : if isStr then P.underlying u = some .string else ∃ e, P.underlying u = some (.slice e))
    {s x v : AV} {C : DP} (h : appendV loc isStr sz bytes s x = some (v, loc', C)) (hC : C.p) {cs cx : Value} (hs : γ R s cs) (hx : γ R x cx) :
    ∃ val w' R', (Builtin.append_ #[t, u] ty #[cs, cx]).run P w = .ok val w' ∧ Inv R' loc' w' ∧ Grow R loc w R' loc' w' ∧ γ R' v val := by
  unfold appendV at h
  split at h
  · -- onto nil
    split at h
    · cases h
    rename_i new hnew
    obtain ⟨i, ht, hi, rfl, rfl⟩ := elOf_spec he
    obtain ⟨i', zv, hi', hzv, hzz, hzo, hzl⟩ := zeroOf_spec hz
    rw [hi] at hi'; cases hi'
    have hzs : zv.cells.size = i.size := by rw [← hzl, ← hzz]; simp
    obtain ⟨news, hsrc, hn1, hn2⟩ := src_sound hI hnew hx hu
    cases h
    simp only [γ] at hs; subst hs
    by_cases h0 : new.length = 0
    · have hne : new = [] := List.length_eq_zero_iff.1 h0
      subst hne
      have hnn : news = [] := by simpa [γss] using hn1
      subst hnn
      have hrun := run_append_nothing (P := P) w t u ty e i ht hi none 0 0 (Nat.le_refl _) cx hsrc
      obtain ⟨k1, k2⟩ := push_none hI ⟨0, 0, 0⟩
      exact ⟨_, _, _, hrun, k1, k2, by simp [γ]⟩
    · have := appendV_grow (P := P) hI (ty := ty) ht hi hzv hzs hsrc hn1 hn2 (cs := []) (len := 0) (base := none) (cap := 0) (olds := []) (by simp [γs]) (by simp) (by simp [ones]) (by simpa using run_firstCells_none w.drew i.size 0 0 0) rfl (by omega) (by omega) (by simpa using hC.1) (by simpa using hC.2)
      simpa using this
  · -- onto an object
    rename_i z' o len
    split at h
    · cases h
    rename_i new hnew
    obtain ⟨i, ht, hi, rfl, rfl⟩ := elOf_spec he
    obtain ⟨i', zv, hi', hzv, hzz, hzo, hzl⟩ := zeroOf_spec hz
    rw [hi] at hi'; cases hi'
    have hzs : zv.cells.size = i.size := by rw [← hzl, ← hzz]; simp
    obtain ⟨news, hsrc, hn1, hn2⟩ := src_sound hI hnew hx hu
    split at h
    · rename_i hzz'
      subst hzz'
      split at h
      · rename_i acs ho
        cases h
        obtain ⟨c1, c2, c3, c4⟩ := hC
        have hnl : news.length = new.length * i.size := γss_length hn1
        obtain ⟨j1, j2⟩ := obj_gone hI o
        have hl : (loc.set o AObj.gone).length = loc.length := by simp
        simp only [γ] at hs
        by_cases h0 : new.length = 0
        · -- nothing is appended
          have hne : new = [] := List.length_eq_zero_iff.1 h0
          subst hne
          have hnn : news = [] := by simpa [γss] using hn1
          subst hnn
          rcases hs with ⟨rfl, rfl⟩ | ⟨r, cap, hr, rfl, g1, g2, g3, g4⟩
          · have hcs : acs = [] := List.length_eq_zero_iff.1 (by rw [c3]; simp)
            subst hcs
            have hrun := run_append_nothing (P := P) w t u ty e i ht hi none 0 0 (Nat.le_refl _) cx hsrc
            obtain ⟨k1, k2⟩ := push_none j1 ⟨0, 0, 0⟩
            exact ⟨_, _, _, hrun, by simpa using k1, by simpa using j2.trans k2, by simp [γ]⟩
          · have hrun := run_append_nothing (P := P) w t u ty e i ht hi (some ⟨r.blk, 0 * i.size, none⟩) len cap g1 cx hsrc
            by_cases hcs : acs = []
            · subst hcs
              obtain ⟨k1, k2⟩ := push_none j1 r
              refine ⟨_, _, _, hrun, by simpa using k1, by simpa using j2.trans k2, ?_⟩
              simp only [γ]
              refine .inr ⟨r, cap, ?_, by simp, by simpa using g1, g2, g3, by simpa using g4⟩
              rw [← hl]; exact ownAt_push j1.len _
            · have hok := hI.objs o _ r ho hr
              simp only [objOk] at hok
              obtain ⟨vs, ws, ty', a1, a2, a3, a4, a5⟩ := hok hcs
              have hle := Rep.push_le R r
              obtain ⟨k1, k2⟩ := obj_move hI ho hr hcs (w' := w) (fun _ _ => rfl) rfl rfl rfl rfl (.cells acs) r (fun b hb => (own_cells.1 hb).2) (fun _ => ⟨vs, ws, ty', a1, γs_mono hle _ _ a2, a3, a4, a5⟩)
              refine ⟨_, _, _, hrun, by simpa using k1, by simpa using k2, ?_⟩
              simp only [γ]
              refine .inr ⟨r, cap, ?_, by simp, by simpa using g1, g2, g3, by simpa using g4⟩
              exact ownAt_push hI.len _
        · rcases hs with ⟨rfl, rfl⟩ | ⟨r, cap, hr, rfl, g1, g2, g3, g4⟩
          · have hcs : acs = [] := List.length_eq_zero_iff.1 (by rw [c3]; simp)
            subst hcs
            obtain ⟨val, w', R', b1, b2, b3, b4⟩ := appendV_grow (P := P) j1 (ty := ty) ht hi hzv hzs hsrc hn1 hn2 (cs := []) (len := 0) (base := none) (cap := 0) (olds := []) (by simp [γs]) (by simp) (by simp [ones]) (by simpa using run_firstCells_none w.drew i.size 0 0 0) rfl (by omega) (by omega) (by simpa using c1) (by simpa using c2)
            rw [hl] at b4
            exact ⟨val, w', R', b1, by simpa using b2, by simpa using j2.trans b3, by simpa using b4⟩
          · obtain ⟨r', vs, hr', hv, ho1, hrange, hrest⟩ := hI.cells ho
            rw [hr] at hr'; cases hr'
            have hvl : vs.length = len * i.size := by rw [γs_length hv, c3]
            by_cases hroom : len + new.length ≤ cap
            · have hlen0 : len ≠ 0 := fun e => by have := g4 e; omega
              have hcs : acs ≠ [] := fun e => by
                subst e
                have h1 : 0 < len * i.size := Nat.mul_pos (by omega) c4
                simp only [List.length_nil] at c3
                omega
              obtain ⟨ws, ty', a1, a4, a5⟩ := hrest hcs
              have hcap : (len + new.length) * i.size ≤ r.hi := Nat.le_trans (Nat.mul_le_mul_right _ hroom) (by simpa using g3)
              rw [Nat.add_mul] at hcap
              have hrun := run_append_room_src (P := P) w t u ty e i ht hi r.blk (0 * i.size) len cap cx new.length news hsrc hroom
                (fun j hj => by simp [World.cell?, a1]; omega) (fun j hj => frozen_cells a1 _)
              simp only [Nat.zero_mul, Nat.zero_add] at hrun
              have hset := setCells_block r.blk news (len * i.size) w (vs ++ ws) ty' a1 (by simp; omega)
              have e1 : (vs ++ ws).take (len * i.size) = vs := by rw [← hvl]; simp
              rw [e1] at hset
              have hosw := os_setCells' r.blk news (len * i.size) w
              have hle := Rep.push_le R r
              obtain ⟨k1, k2⟩ := obj_move hI ho hr hcs (w' := w.setCells r.blk (len * i.size) news) (fun b hb => heap_setCells r.blk news _ w b hb) hosw.1 hosw.2.1 hosw.2.2.1 hosw.2.2.2 (.cells (acs ++ new.flatten)) r (fun b hb => (own_cells.1 hb).2)
                (fun _ => ⟨vs ++ news, (vs ++ ws).drop (len * i.size + news.length), ty', by rw [hset], γs_mono hle _ _ (γs_append hv (γss_flatten hn1)), ones_append ho1 hn2, a4, by simp; omega⟩)
              refine ⟨_, _, _, by simpa using hrun, k1, k2, ?_⟩
              simp only [γ]
              refine .inr ⟨r, cap, ownAt_push hI.len _, by simp, hroom, g2, g3, fun h => by omega⟩
            · obtain ⟨val, w', R', b1, b2, b3, b4⟩ := appendV_grow (P := P) j1 (ty := ty) ht hi hzv hzs hsrc hn1 hn2 (cs := acs) (len := len) (base := some ⟨r.blk, 0 * i.size, none⟩) (cap := cap) (olds := vs) hv hvl ho1 (run_firstCells_some w.drew i.size len _ len cap vs hvl (fun j v hj => by rw [Addr.add_eq]; have := hrange j v hj; simpa using this)) rfl (by omega) (by omega) c1 c2
              rw [hl] at b4
              exact ⟨val, w', R', b1, b2, j2.trans b3, b4⟩
      · cases h
    · cases h
  · exact append_sound hI he hz hu h hC hs hx

end Go.Ab
