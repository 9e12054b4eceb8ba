/-
  Part G of this proof: GK3.
-/
import Derived.Test.YtjlibainifpbaaaGreatDoorF
namespace Go.Ab.Tz
open Go.Proofs
set_option maxRecDepth 100000
def K2 : List (FuncId × List AV × AV) := [(20, [lst, ll [pNil, pConsAny]], .int 0), (20, [.nils, ll [pAny]], .int 0), (20, [.nils, .nils], .int 0), (20, [.nils, ll [pInt]], .int 0), (20, [lst, ll [pP]], .int 0), (37, [pP], .bool true)]
theorem K2_ok : ∀ e ∈ K2, KOk e := by
  refine all_cons ⟨k_check1, ?_⟩ (all_cons ⟨k_check2, ?_⟩ (all_cons ⟨k_check3, ?_⟩ (all_cons ⟨k_check4, ?_⟩ (all_cons ⟨k_check5, ?_⟩ (all_cons ⟨k_mayP, ?_⟩ all_nil))))) <;>
    simp [lst, ll, sList, pNil, pConsAny, pAny, pInt, pP, lP, lAny, mk, bs, sNil, sCons, sX, sE, bnds, bndss, AV.bnd, Cap.bnd]
def pu2 : List FuncId := [23, 25, 26, 27, 28, 43, 44, 45, 37, 72, 73, 20, 24, 31, 9, 11, 13, 14, 39]
theorem ok2 : OrcOk P (orcK K2 pu2) := orcK_ok K2_ok
theorem k_awake : PCalls P 8 [] (.bool true) := PCalls.run mixed ok2 5000 (by kernel_rfl)
def K3 : List (FuncId × List AV × AV) := (8, [], .bool true) :: K2
theorem K3_ok : ∀ e ∈ K3, KOk e := all_cons ⟨k_awake, trivial⟩ K2_ok
theorem ok3 : OrcOk P (orcK K3 pu2) := orcK_ok K3_ok
theorem k_known : PCalls P 5 [] (.bool true) := PCalls.run mixed ok3 5000 (by kernel_rfl)
end Go.Ab.Tz
