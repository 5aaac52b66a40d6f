/- The law's own function by the evaluator as it stands (its quick form has no word for a residue that is compared). -/
import Derived.Test.YtnjonnilpfenfaaGreatDoorOdT
open Go.Ab
namespace Go.Proofs.YtnjonnilpfenfaaGreatDoor.OptDead
noncomputable def tab3 : Tab := fun f => Bool.rec (motive := fun _ => FQ) (tab2 f) (slQ Tryz.prog [] sp2 400 6) (Nat.beq f 6)
theorem tab3_ok : TabOK Tryz.prog [] sp2 tab3 := by
  intro f
  show FQok Tryz.prog [] sp2 (Bool.rec (motive := fun _ => FQ) (tab2 f) (slQ Tryz.prog [] sp2 400 6) (Nat.beq f 6)) f
  cases h : Nat.beq f 6 with
  | false => exact tab2_ok f
  | true => rw [Nat.eq_of_beq_eq_true h]; exact slQ_ok 400 6
end Go.Proofs.YtnjonnilpfenfaaGreatDoor.OptDead
