/- Short words for the functions' quick forms. -/
import Derived.Test.YtgegccpdegaccaaGreatDoorFc
namespace Go.Ab
noncomputable def ci (n : Nat) : G := cst (.int .i64 (.ofNat n))
noncomputable def cu (n : Nat) : G := cst (.int .u8 (.ofNat n))
noncomputable def cT : G := cst (.bool true)
noncomputable def cF : G := cst (.bool false)
noncomputable def cE : G := cst (.str [])
noncomputable def cN : G := cst .nilslice
noncomputable def cP : G := cst .nilptr
noncomputable def a1 (a : G) : AL := fun t => [a t]
def Zi : AV := .int .i64 (.ofNat 0)
def Ns : AV := .nilslice
end Go.Ab
