/- 'spruelaw20.OptDead': for all arguments the law's call returns true: the tied card. Conditions: the row's own (the listed package-level variables, tied to the program's text). -/
import Derived.Test.YtnjonnilpfenfaaGreatDoorLw
import Derived.Test.YtnjonnilpfenfaaGreatDoorTi
import Derived.Test.YtnjonnilpfenfaaGreatDoorOdS
import Derived.Test.YtnjonnilpfenfaaGreatDoorOdU
import Derived.Test.YtnjonnilpfenfaaGreatDoorOdR0
import Derived.Test.YtnjonnilpfenfaaGreatDoorOdR1
import Derived.Test.YtnjonnilpfenfaaGreatDoorOdR2
import Derived.Test.YtnjonnilpfenfaaGreatDoorOdR3
import Derived.Test.YtnjonnilpfenfaaGreatDoorFact
import Derived.Test.YtnjonnilpfenfaaGreatDoorOdFact
open Go.Ab
namespace Go.Proofs.YtnjonnilpfenfaaGreatDoor.OptDead
open Go.ChangeShapes Go.WideShapes Go.ChangeAt Go.RowKit

theorem hname : Tryz.f6.name ≠ "runtime.NumGoroutine" := by
  intro h
  have : (Tryz.f6.name == "runtime.NumGoroutine") = false := by kernel_rfl
  rw [h] at this
  exact absurd this (by decide)
theorem hbody : ∃ c, Tryz.f6.body = some c := Option.isSome_iff_exists.1 (by kernel_rfl)

theorem walk (a0 : Int) (a1 : Bool) (a2 : Int) (W : World) {m : Int} (hm : W.cell? ⟨0, 0, none⟩ = some (.int .i64 m)) (ht : Pow W) :
    Calls Tryz.prog 6 #[.int .i64 a0, .bool a1, .int .i64 a2] W fun e w' => e = .returned (.bool true) ∧ Below W.heap.size W w' := by
  obtain ⟨c, hb⟩ := hbody
  have go : ∀ args, isT (run tab3 300 6 args H0) = true → VRs mu0 args [.int .i64 a0, .bool a1, .int .i64 a2] → Calls Tryz.prog 6 #[.int .i64 a0, .bool a1, .int .i64 a2] W fun e w' => e = .returned (.bool true) ∧ Below W.heap.size W w' :=
    fun args hr ha => calls_of_run Tryz.func6 hname hb tab3_ok hr hm ht (sp2_ok hm ht) (args' := #[.int .i64 a0, .bool a1, .int .i64 a2]) ha
  obtain ⟨k2, g2, e2⟩ : ∃ k : Nat, k < 16 ∧ a2 % (16 : Nat) = (k : Int) := ⟨(a2 % 16).toNat, by omega, by omega⟩
  rcases a1 with _ | _
  · obtain ⟨k0, g0, e0⟩ : ∃ k : Nat, k < 18 ∧ a0 % (18 : Nat) = (k : Int) := ⟨(a0 % 18).toNat, by omega, by omega⟩
    replace g0 : k0 = 0 ∨ k0 = 1 ∨ k0 = 2 ∨ k0 = 3 ∨ k0 = 4 ∨ k0 = 5 ∨ k0 = 6 ∨ k0 = 7 ∨ k0 = 8 ∨ k0 = 9 ∨ k0 = 10 ∨ k0 = 11 ∨ k0 = 12 ∨ k0 = 13 ∨ k0 = 14 ∨ k0 = 15 ∨ k0 = 16 ∨ k0 = 17 := by omega
    rcases g0 with rfl | rfl | rfl | rfl | rfl | rfl | rfl | rfl | rfl | rfl | rfl | rfl | rfl | rfl | rfl | rfl | rfl | rfl
    · exact go _ (isTs_at r_0_f k2 g2) (.cons (.cls 18 0 a0 e0) (.cons (.bool false) (.cons (.cls 16 k2 a2 e2) (.nil _))))
    · exact go _ (isTs_at r_1_f k2 g2) (.cons (.cls 18 1 a0 e0) (.cons (.bool false) (.cons (.cls 16 k2 a2 e2) (.nil _))))
    · exact go _ (isTs_at r_2_f k2 g2) (.cons (.cls 18 2 a0 e0) (.cons (.bool false) (.cons (.cls 16 k2 a2 e2) (.nil _))))
    · exact go _ (isTs_at r_3_f k2 g2) (.cons (.cls 18 3 a0 e0) (.cons (.bool false) (.cons (.cls 16 k2 a2 e2) (.nil _))))
    · exact go _ (isTs_at r_4_f k2 g2) (.cons (.cls 18 4 a0 e0) (.cons (.bool false) (.cons (.cls 16 k2 a2 e2) (.nil _))))
    · exact go _ (isTs_at r_5_f k2 g2) (.cons (.cls 18 5 a0 e0) (.cons (.bool false) (.cons (.cls 16 k2 a2 e2) (.nil _))))
    · exact go _ (isTs_at r_6_f k2 g2) (.cons (.cls 18 6 a0 e0) (.cons (.bool false) (.cons (.cls 16 k2 a2 e2) (.nil _))))
    · exact go _ (isTs_at r_7_f k2 g2) (.cons (.cls 18 7 a0 e0) (.cons (.bool false) (.cons (.cls 16 k2 a2 e2) (.nil _))))
    · exact go _ (isTs_at r_8_f k2 g2) (.cons (.cls 18 8 a0 e0) (.cons (.bool false) (.cons (.cls 16 k2 a2 e2) (.nil _))))
    · exact go _ (isTs_at r_9_f k2 g2) (.cons (.cls 18 9 a0 e0) (.cons (.bool false) (.cons (.cls 16 k2 a2 e2) (.nil _))))
    · exact go _ (isTs_at r_10_f k2 g2) (.cons (.cls 18 10 a0 e0) (.cons (.bool false) (.cons (.cls 16 k2 a2 e2) (.nil _))))
    · exact go _ (isTs_at r_11_f k2 g2) (.cons (.cls 18 11 a0 e0) (.cons (.bool false) (.cons (.cls 16 k2 a2 e2) (.nil _))))
    · exact go _ (isTs_at r_12_f k2 g2) (.cons (.cls 18 12 a0 e0) (.cons (.bool false) (.cons (.cls 16 k2 a2 e2) (.nil _))))
    · exact go _ (isTs_at r_13_f k2 g2) (.cons (.cls 18 13 a0 e0) (.cons (.bool false) (.cons (.cls 16 k2 a2 e2) (.nil _))))
    · exact go _ (isTs_at r_14_f k2 g2) (.cons (.cls 18 14 a0 e0) (.cons (.bool false) (.cons (.cls 16 k2 a2 e2) (.nil _))))
    · exact go _ (isTs_at r_15_f k2 g2) (.cons (.cls 18 15 a0 e0) (.cons (.bool false) (.cons (.cls 16 k2 a2 e2) (.nil _))))
    · exact go _ (isTs_at r_16_f k2 g2) (.cons (.cls 18 16 a0 e0) (.cons (.bool false) (.cons (.cls 16 k2 a2 e2) (.nil _))))
    · exact go _ (isTs_at r_17_f k2 g2) (.cons (.cls 18 17 a0 e0) (.cons (.bool false) (.cons (.cls 16 k2 a2 e2) (.nil _))))
  · obtain ⟨k0, g0, e0⟩ : ∃ k : Nat, k < 90 ∧ a0 % (90 : Nat) = (k : Int) := ⟨(a0 % 90).toNat, by omega, by omega⟩
    replace g0 : k0 = 0 ∨ k0 = 1 ∨ k0 = 2 ∨ k0 = 3 ∨ k0 = 4 ∨ k0 = 5 ∨ k0 = 6 ∨ k0 = 7 ∨ k0 = 8 ∨ k0 = 9 ∨ k0 = 10 ∨ k0 = 11 ∨ k0 = 12 ∨ k0 = 13 ∨ k0 = 14 ∨ k0 = 15 ∨ k0 = 16 ∨ k0 = 17 ∨ k0 = 18 ∨ k0 = 19 ∨ k0 = 20 ∨ k0 = 21 ∨ k0 = 22 ∨ k0 = 23 ∨ k0 = 24 ∨ k0 = 25 ∨ k0 = 26 ∨ k0 = 27 ∨ k0 = 28 ∨ k0 = 29 ∨ k0 = 30 ∨ k0 = 31 ∨ k0 = 32 ∨ k0 = 33 ∨ k0 = 34 ∨ k0 = 35 ∨ k0 = 36 ∨ k0 = 37 ∨ k0 = 38 ∨ k0 = 39 ∨ k0 = 40 ∨ k0 = 41 ∨ k0 = 42 ∨ k0 = 43 ∨ k0 = 44 ∨ k0 = 45 ∨ k0 = 46 ∨ k0 = 47 ∨ k0 = 48 ∨ k0 = 49 ∨ k0 = 50 ∨ k0 = 51 ∨ k0 = 52 ∨ k0 = 53 ∨ k0 = 54 ∨ k0 = 55 ∨ k0 = 56 ∨ k0 = 57 ∨ k0 = 58 ∨ k0 = 59 ∨ k0 = 60 ∨ k0 = 61 ∨ k0 = 62 ∨ k0 = 63 ∨ k0 = 64 ∨ k0 = 65 ∨ k0 = 66 ∨ k0 = 67 ∨ k0 = 68 ∨ k0 = 69 ∨ k0 = 70 ∨ k0 = 71 ∨ k0 = 72 ∨ k0 = 73 ∨ k0 = 74 ∨ k0 = 75 ∨ k0 = 76 ∨ k0 = 77 ∨ k0 = 78 ∨ k0 = 79 ∨ k0 = 80 ∨ k0 = 81 ∨ k0 = 82 ∨ k0 = 83 ∨ k0 = 84 ∨ k0 = 85 ∨ k0 = 86 ∨ k0 = 87 ∨ k0 = 88 ∨ k0 = 89 := by omega
    rcases g0 with rfl | rfl | rfl | rfl | rfl | rfl | rfl | rfl | rfl | rfl | rfl | rfl | rfl | rfl | rfl | rfl | rfl | rfl | rfl | rfl | rfl | rfl | rfl | rfl | rfl | rfl | rfl | rfl | rfl | rfl | rfl | rfl | rfl | rfl | rfl | rfl | rfl | rfl | rfl | rfl | rfl | rfl | rfl | rfl | rfl | rfl | rfl | rfl | rfl | rfl | rfl | rfl | rfl | rfl | rfl | rfl | rfl | rfl | rfl | rfl | rfl | rfl | rfl | rfl | rfl | rfl | rfl | rfl | rfl | rfl | rfl | rfl | rfl | rfl | rfl | rfl | rfl | rfl | rfl | rfl | rfl | rfl | rfl | rfl | rfl | rfl | rfl | rfl | rfl | rfl
    · exact go _ (isTs_at r_0_t k2 g2) (.cons (.cls 90 0 a0 e0) (.cons (.bool true) (.cons (.cls 16 k2 a2 e2) (.nil _))))
    · exact go _ (isTs_at r_1_t k2 g2) (.cons (.cls 90 1 a0 e0) (.cons (.bool true) (.cons (.cls 16 k2 a2 e2) (.nil _))))
    · exact go _ (isTs_at r_2_t k2 g2) (.cons (.cls 90 2 a0 e0) (.cons (.bool true) (.cons (.cls 16 k2 a2 e2) (.nil _))))
    · exact go _ (isTs_at r_3_t k2 g2) (.cons (.cls 90 3 a0 e0) (.cons (.bool true) (.cons (.cls 16 k2 a2 e2) (.nil _))))
    · exact go _ (isTs_at r_4_t k2 g2) (.cons (.cls 90 4 a0 e0) (.cons (.bool true) (.cons (.cls 16 k2 a2 e2) (.nil _))))
    · exact go _ (isTs_at r_5_t k2 g2) (.cons (.cls 90 5 a0 e0) (.cons (.bool true) (.cons (.cls 16 k2 a2 e2) (.nil _))))
    · exact go _ (isTs_at r_6_t k2 g2) (.cons (.cls 90 6 a0 e0) (.cons (.bool true) (.cons (.cls 16 k2 a2 e2) (.nil _))))
    · exact go _ (isTs_at r_7_t k2 g2) (.cons (.cls 90 7 a0 e0) (.cons (.bool true) (.cons (.cls 16 k2 a2 e2) (.nil _))))
    · exact go _ (isTs_at r_8_t k2 g2) (.cons (.cls 90 8 a0 e0) (.cons (.bool true) (.cons (.cls 16 k2 a2 e2) (.nil _))))
    · exact go _ (isTs_at r_9_t k2 g2) (.cons (.cls 90 9 a0 e0) (.cons (.bool true) (.cons (.cls 16 k2 a2 e2) (.nil _))))
    · exact go _ (isTs_at r_10_t k2 g2) (.cons (.cls 90 10 a0 e0) (.cons (.bool true) (.cons (.cls 16 k2 a2 e2) (.nil _))))
    · exact go _ (isTs_at r_11_t k2 g2) (.cons (.cls 90 11 a0 e0) (.cons (.bool true) (.cons (.cls 16 k2 a2 e2) (.nil _))))
    · exact go _ (isTs_at r_12_t k2 g2) (.cons (.cls 90 12 a0 e0) (.cons (.bool true) (.cons (.cls 16 k2 a2 e2) (.nil _))))
    · exact go _ (isTs_at r_13_t k2 g2) (.cons (.cls 90 13 a0 e0) (.cons (.bool true) (.cons (.cls 16 k2 a2 e2) (.nil _))))
    · exact go _ (isTs_at r_14_t k2 g2) (.cons (.cls 90 14 a0 e0) (.cons (.bool true) (.cons (.cls 16 k2 a2 e2) (.nil _))))
    · exact go _ (isTs_at r_15_t k2 g2) (.cons (.cls 90 15 a0 e0) (.cons (.bool true) (.cons (.cls 16 k2 a2 e2) (.nil _))))
    · exact go _ (isTs_at r_16_t k2 g2) (.cons (.cls 90 16 a0 e0) (.cons (.bool true) (.cons (.cls 16 k2 a2 e2) (.nil _))))
    · exact go _ (isTs_at r_17_t k2 g2) (.cons (.cls 90 17 a0 e0) (.cons (.bool true) (.cons (.cls 16 k2 a2 e2) (.nil _))))
    · exact go _ (isTs_at r_18_t k2 g2) (.cons (.cls 90 18 a0 e0) (.cons (.bool true) (.cons (.cls 16 k2 a2 e2) (.nil _))))
    · exact go _ (isTs_at r_19_t k2 g2) (.cons (.cls 90 19 a0 e0) (.cons (.bool true) (.cons (.cls 16 k2 a2 e2) (.nil _))))
    · exact go _ (isTs_at r_20_t k2 g2) (.cons (.cls 90 20 a0 e0) (.cons (.bool true) (.cons (.cls 16 k2 a2 e2) (.nil _))))
    · exact go _ (isTs_at r_21_t k2 g2) (.cons (.cls 90 21 a0 e0) (.cons (.bool true) (.cons (.cls 16 k2 a2 e2) (.nil _))))
    · exact go _ (isTs_at r_22_t k2 g2) (.cons (.cls 90 22 a0 e0) (.cons (.bool true) (.cons (.cls 16 k2 a2 e2) (.nil _))))
    · exact go _ (isTs_at r_23_t k2 g2) (.cons (.cls 90 23 a0 e0) (.cons (.bool true) (.cons (.cls 16 k2 a2 e2) (.nil _))))
    · exact go _ (isTs_at r_24_t k2 g2) (.cons (.cls 90 24 a0 e0) (.cons (.bool true) (.cons (.cls 16 k2 a2 e2) (.nil _))))
    · exact go _ (isTs_at r_25_t k2 g2) (.cons (.cls 90 25 a0 e0) (.cons (.bool true) (.cons (.cls 16 k2 a2 e2) (.nil _))))
    · exact go _ (isTs_at r_26_t k2 g2) (.cons (.cls 90 26 a0 e0) (.cons (.bool true) (.cons (.cls 16 k2 a2 e2) (.nil _))))
    · exact go _ (isTs_at r_27_t k2 g2) (.cons (.cls 90 27 a0 e0) (.cons (.bool true) (.cons (.cls 16 k2 a2 e2) (.nil _))))
    · exact go _ (isTs_at r_28_t k2 g2) (.cons (.cls 90 28 a0 e0) (.cons (.bool true) (.cons (.cls 16 k2 a2 e2) (.nil _))))
    · exact go _ (isTs_at r_29_t k2 g2) (.cons (.cls 90 29 a0 e0) (.cons (.bool true) (.cons (.cls 16 k2 a2 e2) (.nil _))))
    · exact go _ (isTs_at r_30_t k2 g2) (.cons (.cls 90 30 a0 e0) (.cons (.bool true) (.cons (.cls 16 k2 a2 e2) (.nil _))))
    · exact go _ (isTs_at r_31_t k2 g2) (.cons (.cls 90 31 a0 e0) (.cons (.bool true) (.cons (.cls 16 k2 a2 e2) (.nil _))))
    · exact go _ (isTs_at r_32_t k2 g2) (.cons (.cls 90 32 a0 e0) (.cons (.bool true) (.cons (.cls 16 k2 a2 e2) (.nil _))))
    · exact go _ (isTs_at r_33_t k2 g2) (.cons (.cls 90 33 a0 e0) (.cons (.bool true) (.cons (.cls 16 k2 a2 e2) (.nil _))))
    · exact go _ (isTs_at r_34_t k2 g2) (.cons (.cls 90 34 a0 e0) (.cons (.bool true) (.cons (.cls 16 k2 a2 e2) (.nil _))))
    · exact go _ (isTs_at r_35_t k2 g2) (.cons (.cls 90 35 a0 e0) (.cons (.bool true) (.cons (.cls 16 k2 a2 e2) (.nil _))))
    · exact go _ (isTs_at r_36_t k2 g2) (.cons (.cls 90 36 a0 e0) (.cons (.bool true) (.cons (.cls 16 k2 a2 e2) (.nil _))))
    · exact go _ (isTs_at r_37_t k2 g2) (.cons (.cls 90 37 a0 e0) (.cons (.bool true) (.cons (.cls 16 k2 a2 e2) (.nil _))))
    · exact go _ (isTs_at r_38_t k2 g2) (.cons (.cls 90 38 a0 e0) (.cons (.bool true) (.cons (.cls 16 k2 a2 e2) (.nil _))))
    · exact go _ (isTs_at r_39_t k2 g2) (.cons (.cls 90 39 a0 e0) (.cons (.bool true) (.cons (.cls 16 k2 a2 e2) (.nil _))))
    · exact go _ (isTs_at r_40_t k2 g2) (.cons (.cls 90 40 a0 e0) (.cons (.bool true) (.cons (.cls 16 k2 a2 e2) (.nil _))))
    · exact go _ (isTs_at r_41_t k2 g2) (.cons (.cls 90 41 a0 e0) (.cons (.bool true) (.cons (.cls 16 k2 a2 e2) (.nil _))))
    · exact go _ (isTs_at r_42_t k2 g2) (.cons (.cls 90 42 a0 e0) (.cons (.bool true) (.cons (.cls 16 k2 a2 e2) (.nil _))))
    · exact go _ (isTs_at r_43_t k2 g2) (.cons (.cls 90 43 a0 e0) (.cons (.bool true) (.cons (.cls 16 k2 a2 e2) (.nil _))))
    · exact go _ (isTs_at r_44_t k2 g2) (.cons (.cls 90 44 a0 e0) (.cons (.bool true) (.cons (.cls 16 k2 a2 e2) (.nil _))))
    · exact go _ (isTs_at r_45_t k2 g2) (.cons (.cls 90 45 a0 e0) (.cons (.bool true) (.cons (.cls 16 k2 a2 e2) (.nil _))))
    · exact go _ (isTs_at r_46_t k2 g2) (.cons (.cls 90 46 a0 e0) (.cons (.bool true) (.cons (.cls 16 k2 a2 e2) (.nil _))))
    · exact go _ (isTs_at r_47_t k2 g2) (.cons (.cls 90 47 a0 e0) (.cons (.bool true) (.cons (.cls 16 k2 a2 e2) (.nil _))))
    · exact go _ (isTs_at r_48_t k2 g2) (.cons (.cls 90 48 a0 e0) (.cons (.bool true) (.cons (.cls 16 k2 a2 e2) (.nil _))))
    · exact go _ (isTs_at r_49_t k2 g2) (.cons (.cls 90 49 a0 e0) (.cons (.bool true) (.cons (.cls 16 k2 a2 e2) (.nil _))))
    · exact go _ (isTs_at r_50_t k2 g2) (.cons (.cls 90 50 a0 e0) (.cons (.bool true) (.cons (.cls 16 k2 a2 e2) (.nil _))))
    · exact go _ (isTs_at r_51_t k2 g2) (.cons (.cls 90 51 a0 e0) (.cons (.bool true) (.cons (.cls 16 k2 a2 e2) (.nil _))))
    · exact go _ (isTs_at r_52_t k2 g2) (.cons (.cls 90 52 a0 e0) (.cons (.bool true) (.cons (.cls 16 k2 a2 e2) (.nil _))))
    · exact go _ (isTs_at r_53_t k2 g2) (.cons (.cls 90 53 a0 e0) (.cons (.bool true) (.cons (.cls 16 k2 a2 e2) (.nil _))))
    · exact go _ (isTs_at r_54_t k2 g2) (.cons (.cls 90 54 a0 e0) (.cons (.bool true) (.cons (.cls 16 k2 a2 e2) (.nil _))))
    · exact go _ (isTs_at r_55_t k2 g2) (.cons (.cls 90 55 a0 e0) (.cons (.bool true) (.cons (.cls 16 k2 a2 e2) (.nil _))))
    · exact go _ (isTs_at r_56_t k2 g2) (.cons (.cls 90 56 a0 e0) (.cons (.bool true) (.cons (.cls 16 k2 a2 e2) (.nil _))))
    · exact go _ (isTs_at r_57_t k2 g2) (.cons (.cls 90 57 a0 e0) (.cons (.bool true) (.cons (.cls 16 k2 a2 e2) (.nil _))))
    · exact go _ (isTs_at r_58_t k2 g2) (.cons (.cls 90 58 a0 e0) (.cons (.bool true) (.cons (.cls 16 k2 a2 e2) (.nil _))))
    · exact go _ (isTs_at r_59_t k2 g2) (.cons (.cls 90 59 a0 e0) (.cons (.bool true) (.cons (.cls 16 k2 a2 e2) (.nil _))))
    · exact go _ (isTs_at r_60_t k2 g2) (.cons (.cls 90 60 a0 e0) (.cons (.bool true) (.cons (.cls 16 k2 a2 e2) (.nil _))))
    · exact go _ (isTs_at r_61_t k2 g2) (.cons (.cls 90 61 a0 e0) (.cons (.bool true) (.cons (.cls 16 k2 a2 e2) (.nil _))))
    · exact go _ (isTs_at r_62_t k2 g2) (.cons (.cls 90 62 a0 e0) (.cons (.bool true) (.cons (.cls 16 k2 a2 e2) (.nil _))))
    · exact go _ (isTs_at r_63_t k2 g2) (.cons (.cls 90 63 a0 e0) (.cons (.bool true) (.cons (.cls 16 k2 a2 e2) (.nil _))))
    · exact go _ (isTs_at r_64_t k2 g2) (.cons (.cls 90 64 a0 e0) (.cons (.bool true) (.cons (.cls 16 k2 a2 e2) (.nil _))))
    · exact go _ (isTs_at r_65_t k2 g2) (.cons (.cls 90 65 a0 e0) (.cons (.bool true) (.cons (.cls 16 k2 a2 e2) (.nil _))))
    · exact go _ (isTs_at r_66_t k2 g2) (.cons (.cls 90 66 a0 e0) (.cons (.bool true) (.cons (.cls 16 k2 a2 e2) (.nil _))))
    · exact go _ (isTs_at r_67_t k2 g2) (.cons (.cls 90 67 a0 e0) (.cons (.bool true) (.cons (.cls 16 k2 a2 e2) (.nil _))))
    · exact go _ (isTs_at r_68_t k2 g2) (.cons (.cls 90 68 a0 e0) (.cons (.bool true) (.cons (.cls 16 k2 a2 e2) (.nil _))))
    · exact go _ (isTs_at r_69_t k2 g2) (.cons (.cls 90 69 a0 e0) (.cons (.bool true) (.cons (.cls 16 k2 a2 e2) (.nil _))))
    · exact go _ (isTs_at r_70_t k2 g2) (.cons (.cls 90 70 a0 e0) (.cons (.bool true) (.cons (.cls 16 k2 a2 e2) (.nil _))))
    · exact go _ (isTs_at r_71_t k2 g2) (.cons (.cls 90 71 a0 e0) (.cons (.bool true) (.cons (.cls 16 k2 a2 e2) (.nil _))))
    · exact go _ (isTs_at r_72_t k2 g2) (.cons (.cls 90 72 a0 e0) (.cons (.bool true) (.cons (.cls 16 k2 a2 e2) (.nil _))))
    · exact go _ (isTs_at r_73_t k2 g2) (.cons (.cls 90 73 a0 e0) (.cons (.bool true) (.cons (.cls 16 k2 a2 e2) (.nil _))))
    · exact go _ (isTs_at r_74_t k2 g2) (.cons (.cls 90 74 a0 e0) (.cons (.bool true) (.cons (.cls 16 k2 a2 e2) (.nil _))))
    · exact go _ (isTs_at r_75_t k2 g2) (.cons (.cls 90 75 a0 e0) (.cons (.bool true) (.cons (.cls 16 k2 a2 e2) (.nil _))))
    · exact go _ (isTs_at r_76_t k2 g2) (.cons (.cls 90 76 a0 e0) (.cons (.bool true) (.cons (.cls 16 k2 a2 e2) (.nil _))))
    · exact go _ (isTs_at r_77_t k2 g2) (.cons (.cls 90 77 a0 e0) (.cons (.bool true) (.cons (.cls 16 k2 a2 e2) (.nil _))))
    · exact go _ (isTs_at r_78_t k2 g2) (.cons (.cls 90 78 a0 e0) (.cons (.bool true) (.cons (.cls 16 k2 a2 e2) (.nil _))))
    · exact go _ (isTs_at r_79_t k2 g2) (.cons (.cls 90 79 a0 e0) (.cons (.bool true) (.cons (.cls 16 k2 a2 e2) (.nil _))))
    · exact go _ (isTs_at r_80_t k2 g2) (.cons (.cls 90 80 a0 e0) (.cons (.bool true) (.cons (.cls 16 k2 a2 e2) (.nil _))))
    · exact go _ (isTs_at r_81_t k2 g2) (.cons (.cls 90 81 a0 e0) (.cons (.bool true) (.cons (.cls 16 k2 a2 e2) (.nil _))))
    · exact go _ (isTs_at r_82_t k2 g2) (.cons (.cls 90 82 a0 e0) (.cons (.bool true) (.cons (.cls 16 k2 a2 e2) (.nil _))))
    · exact go _ (isTs_at r_83_t k2 g2) (.cons (.cls 90 83 a0 e0) (.cons (.bool true) (.cons (.cls 16 k2 a2 e2) (.nil _))))
    · exact go _ (isTs_at r_84_t k2 g2) (.cons (.cls 90 84 a0 e0) (.cons (.bool true) (.cons (.cls 16 k2 a2 e2) (.nil _))))
    · exact go _ (isTs_at r_85_t k2 g2) (.cons (.cls 90 85 a0 e0) (.cons (.bool true) (.cons (.cls 16 k2 a2 e2) (.nil _))))
    · exact go _ (isTs_at r_86_t k2 g2) (.cons (.cls 90 86 a0 e0) (.cons (.bool true) (.cons (.cls 16 k2 a2 e2) (.nil _))))
    · exact go _ (isTs_at r_87_t k2 g2) (.cons (.cls 90 87 a0 e0) (.cons (.bool true) (.cons (.cls 16 k2 a2 e2) (.nil _))))
    · exact go _ (isTs_at r_88_t k2 g2) (.cons (.cls 90 88 a0 e0) (.cons (.bool true) (.cons (.cls 16 k2 a2 e2) (.nil _))))
    · exact go _ (isTs_at r_89_t k2 g2) (.cons (.cls 90 89 a0 e0) (.cons (.bool true) (.cons (.cls 16 k2 a2 e2) (.nil _))))

set_option maxRecDepth 100000 in
theorem lifted (os : Os) (started : os.Started) (H : Type) (enc : TypeId × Value → H) :
    ReturnsInHanded {} Tryz.checked os 6 .any (fun w args => (Rows.optDeadSpec.pre enc Tryz.prog Tryz.f6 [] false w args ∧ laidMetH Tryz.prog Rows.optDeadRow.laid w) ∧ sizedMet enc Tryz.prog Tryz.f6 (OpenSpec.ofChange Rows.optDeadSpec) false w args)
      (Rows.optDeadSpec.post enc Tryz.prog Tryz.f6 false true false false) := by
  refine handed_of (C := Tryz.checked) (X := fun w _ => laidMetH Tryz.prog Rows.optDeadRow.laid w) (fun _ _ _ hh h => h.of_heap hh) own started (by kernel_rfl) Tryz.func6
    (ChangeSpec.witness_shaped (enc := enc) (C := Tryz.checked) (os := os) (X := fun w _ => laidMetH Tryz.prog Rows.optDeadRow.laid w) false (World.laidAll Tryz.prog os Rows.optDeadRow.laid) #[.int .i64 0, .bool false, .int .i64 0] 8 (World.laidAll_os _ _ _)
      (World.shaped_of_ZipB (by kernel_rfl) (by kernel_rfl)) (by kernel_rfl) (by kernel_rfl) (by kernel_rfl)
      (by rw [MakeChecks.laidMetH_plain _ _ _ (by kernel_rfl)]; exact laidMet_laidAll _ (by kernel_rfl) (by kernel_rfl))) ?_
  intro W base args ds gs before hval0 hW hL hsh
  have hval : ∀ (j : Nat) t v, Tryz.f6.params[j]? = some t → args[j]? = some v → Value.okWide Tryz.prog W .any base t v := hval0
  have hW' := hW
  obtain ⟨p, q, hA0, hV, rfl, _, _⟩ := hW
  have hA : DataW.TrodAll enc Tryz.prog W 0 (fun _ => true) true Tryz.f6.params.toList args.toList ds p := hA0
  rw [Tryz.params6] at hA hval
  obtain ⟨v0, vs0, d0, ds0, p0, q0, hargs, rfl, rfl, h0, r0⟩ := trodAll_cons hA
  obtain ⟨v1, vs1, d1, ds1, p1, q1, rfl, rfl, rfl, h1, r1⟩ := trodAll_cons r0
  obtain ⟨v2, vs2, d2, ds2, p2, q2, rfl, rfl, rfl, h2, r2⟩ := trodAll_cons r1
  obtain ⟨rfl, rfl, rfl⟩ := trodAll_nil r2
  obtain rfl : args = #[v0, v1, v2] := by cases args; simp_all
  obtain ⟨rfl, rfl⟩ := trodVars_none hV
  obtain ⟨a0, rfl, rfl, rfl, w0⟩ := open_int Tryz.underlying3 (hval 0 3 v0 rfl rfl) h0
  obtain ⟨a1, rfl, rfl, rfl⟩ := open_bool Tryz.underlying4 (hval 1 4 v1 rfl rfl) h1
  obtain ⟨a2, rfl, rfl, rfl, w2⟩ := open_int Tryz.underlying3 (hval 2 3 v2 rfl rfl) h2
  clear hA0 hval0
  simp only [List.append_nil] at hW'
  obtain ⟨m, hm⟩ := maxLen_cell hsh
  refine (walk a0 a1 a2 W hm (pow_laid hL (by kernel_rfl))).mono fun e W' ⟨he, hb⟩ => ?_
  subst he
  exact ⟨_, rfl, _, _, _, [], [], [], hW', trodAll_mk1 (shut_bool Tryz.underlying4 _), trodAll_cons_mk (shut_int Tryz.underlying3 w0) (trodAll_cons_mk (shut_bool Tryz.underlying4 _) (trodAll_mk1 (shut_int Tryz.underlying3 w2))), rfl, hb.frame _, fun h => by cases h⟩

theorem closed : joinedFacts Tryz.pinned.checked.prog 6 Tryz.f6 Rows.optDeadSpec Rows.optDeadRow = true := by
  show joinedFacts Tryz.prog 6 Tryz.f6 Rows.optDeadSpec Rows.optDeadRow = true
  unfold joinedFacts
  rw [fact1, fact2, fact3, fact4, fact_laidOut, fact_mapsRowed, fact_mayEnter, fact_stopsHeard, fact_lifts, fact_make]
  kernel_rfl

theorem said : Rows.OptDeadSaid :=
  OpenClaim.holds_of_wide 6 Tryz.f6 rfl rfl rfl rfl rfl rfl rfl ⟨rfl, rfl, rfl, rfl, rfl⟩ rfl rfl rfl rfl rfl (by kernel_rfl) Tryz.func6 closed
    (of_decide_eq_true (by kernel_rfl)) (by unfold Func.isWrapper; first | (rw [if_pos (by decide +kernel)]; kernel_rfl) | (rw [if_neg (by decide +kernel)]; exact ⟨rfl, rfl⟩))
    (fun os started H enc _ => lifted os started H enc)

theorem plain (f : FuncId) (fn : Func) (hf : Tryz.pinned.checked.prog.funcNamed "sprue/spruelaw20.OptDead" = some f) (hfn : Tryz.pinned.checked.prog.funcs[f]? = some fn) :
    false = Tryz.pinned.checked.prog.looks [] ∧ ∀ (j : Nat) t, fn.params[j]? = some t → Tryz.pinned.checked.prog.wantsStandIn t = false := by
  obtain rfl : f = 6 := Option.some.inj ((show Tryz.prog.funcNamed "sprue/spruelaw20.OptDead" = some 6 by kernel_rfl).symm.trans hf) |>.symm
  obtain rfl : fn = Tryz.f6 := (Option.some.inj (Tryz.func6.symm.trans hfn)).symm
  refine ⟨by kernel_rfl, fun j t ht => ?_⟩
  rw [Tryz.params6] at ht
  have hm : t ∈ [3, 4, 3] := by simpa using Array.mem_of_getElem? ht
  have hall : ([3, 4, 3].all fun u => !Tryz.prog.wantsStandIn u) = true := by kernel_rfl
  exact (show Tryz.prog.wantsStandIn t = false by simpa using List.all_eq_true.1 hall t hm)

/-- THE CARD. -/
theorem card : Rows.OptDeadCardSaid :=
  Claim7.holds_tied_plain_at .later [] _ _ _ _ said (fun _ h => by cases h) (by kernel_rfl) (fun _ h => by cases h) ti_optDead rfl ⟨rfl, rfl⟩ (by kernel_rfl) rfl plain (goesBy_no rfl)
end Go.Proofs.YtnjonnilpfenfaaGreatDoor.OptDead

namespace Go.Proofs.YtnjonnilpfenfaaGreatDoor
/-- THE STATEMENT. -/
theorem optDead_card : Rows.OptDeadCardSaid := OptDead.card
end Go.Proofs.YtnjonnilpfenfaaGreatDoor
