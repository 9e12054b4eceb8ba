/-
  Part F of this proof: GK2.
-/
import Derived.Test.YtjlibainifpbaaaGreatDoorE
namespace Go.Ab.Tz
open Go.Proofs
set_option maxRecDepth 100000
def orcK (known : List (FuncId × List AV × AV)) (pures : List FuncId) : Orc := ⟨known, pures, [(95, [], .mp 0, [.umap true rulesL])], libF, [35]⟩
def KOk (e : FuncId × List AV × AV) : Prop := PCalls P e.1 e.2.1 e.2.2 ∧ bnds 0 e.2.1
theorem orcK_ok {known : List (FuncId × List AV × AV)} {pures : List FuncId} (h : ∀ e ∈ known, KOk e) : OrcOk P (orcK known pures) where
  ok := fun e he => (h e he).1
  bnd := fun e he => (h e he).2
  made := fun e h => by
    simp only [orcK, List.mem_singleton] at h
    subst h
    exact rules_calls
  mbnd := fun e h => by
    simp only [orcK, List.mem_singleton] at h
    subst h
    simp [bnds]
  lok := libF_ok
theorem all_nil {α : Type} {p : α → Prop} : ∀ e ∈ ([] : List α), p e := fun e h => by simp at h
theorem all_cons {α : Type} {p : α → Prop} {a : α} {l : List α} (h : p a) (k : ∀ e ∈ l, p e) : ∀ e ∈ a :: l, p e := fun e he => by
  rcases List.mem_cons.1 he with rfl | he
  · exact h
  · exact k e he

def K1 : List (FuncId × List AV × AV) := [(37, [pNil], .bool true), (37, [pCons0], .bool true), (37, [pConsAny], .bool true), (37, [pAny], .bool true), (37, [pInt], .bool true), (37, [pP], .bool true)]
theorem K1_ok : ∀ e ∈ K1, KOk e := by
  refine all_cons ⟨k_mayNil, ?_⟩ (all_cons ⟨k_mayCons0, ?_⟩ (all_cons ⟨k_mayConsAny, ?_⟩ (all_cons ⟨k_mayAny, ?_⟩ (all_cons ⟨k_mayInt, ?_⟩ (all_cons ⟨k_mayP, ?_⟩ all_nil))))) <;>
    simp [pNil, pCons0, pConsAny, pAny, pInt, pP, lP, lAny, mk, bs, sNil, sCons, sX, sE, bnds, bndss, AV.bnd, Cap.bnd]
def pu : List FuncId := [23, 25, 26, 27, 28, 43, 44, 45, 37, 72, 73]
theorem ok1 : OrcOk P (orcK K1 pu) := orcK_ok K1_ok
def sList : AV := bs [108, 105, 115, 116]
def lst : AV := .sl 5 [[sNil, sList, .int 0, .int 0, .nils], [sCons, sList, .int 1, .int 0, .sl 4 [[.int 2, .int 0, bs [105, 110, 116], .nils]] .unk]] .unk
def ll (l : List AV) : AV := .sl 5 (l.map fun v => match v with | .agg cs => cs | _ => []) .unk
theorem k_check1 : PCalls P 20 [lst, ll [pNil, pConsAny]] (.int 0) := PCalls.run mixed ok1 3000 (by kernel_rfl)
theorem k_check2 : PCalls P 20 [.nils, ll [pAny]] (.int 0) := PCalls.run mixed ok1 3000 (by kernel_rfl)
theorem k_check3 : PCalls P 20 [.nils, .nils] (.int 0) := PCalls.run mixed ok1 3000 (by kernel_rfl)
theorem k_check4 : PCalls P 20 [.nils, ll [pInt]] (.int 0) := PCalls.run mixed ok1 3000 (by kernel_rfl)
theorem k_check5 : PCalls P 20 [lst, ll [pP]] (.int 0) := PCalls.run mixed ok1 3000 (by kernel_rfl)
end Go.Ab.Tz
