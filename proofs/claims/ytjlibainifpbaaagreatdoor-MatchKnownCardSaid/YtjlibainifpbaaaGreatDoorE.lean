/-
  Part E of this proof: GK1.
-/
import Derived.Test.YtjlibainifpbaaaGreatDoorD
namespace Go.Ab.Tz
open Go.Proofs
set_option maxRecDepth 100000
def bs (l : List UInt8) : AV := .con (.string ⟨l.toArray⟩)
def mk (k n a : Int) (s : AV) (l : AV) : AV := .agg [.int k, .int n, .int a, s, l]
def sNil : AV := bs [78, 105, 108]
def sCons : AV := bs [67, 111, 110, 115]
def sX : AV := bs [120]
def sE : AV := bs []
def lAny : AV := .sl 5 [[.int 10, .int 0, .int 0, sE, .nils]] .unk
def pNil : AV := mk 16 0 0 sNil .nils
def pCons0 : AV := mk 16 0 0 sCons .nils
def pConsAny : AV := mk 16 0 0 sCons lAny
def pAny : AV := mk 10 0 0 sE .nils
def pInt : AV := mk 12 0 0 sE .nils
def lP : AV := .sl 5 [[.int 15, .int 0, .int 0, sE, .sl 5 [[.int 12, .int 0, .int 0, sE, .nils], [.int 11, .int 0, .int 0, sX, .nils]] .unk]] .unk
def pP : AV := mk 16 0 0 sCons lP
theorem k_mayNil : PCalls P 37 [pNil] (.bool true) := PCalls.run mixed orc_ok 3000 (by kernel_rfl)
theorem k_mayCons0 : PCalls P 37 [pCons0] (.bool true) := PCalls.run mixed orc_ok 3000 (by kernel_rfl)
theorem k_mayConsAny : PCalls P 37 [pConsAny] (.bool true) := PCalls.run mixed orc_ok 3000 (by kernel_rfl)
theorem k_mayAny : PCalls P 37 [pAny] (.bool true) := PCalls.run mixed orc_ok 3000 (by kernel_rfl)
theorem k_mayInt : PCalls P 37 [pInt] (.bool true) := PCalls.run mixed orc_ok 3000 (by kernel_rfl)
theorem k_mayP : PCalls P 37 [pP] (.bool true) := PCalls.run mixed orc_ok 3000 (by kernel_rfl)
end Go.Ab.Tz
