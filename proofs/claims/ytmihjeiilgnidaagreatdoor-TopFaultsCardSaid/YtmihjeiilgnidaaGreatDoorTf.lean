/- 'spruetop.TopFaults': for all arguments the law's call returns true: the tied card. Conditions: the row's own (the listed package-level variables, tied to the program's text). -/
import Derived.Test.YtmihjeiilgnidaaGreatDoorLaw
import Derived.Test.YtmihjeiilgnidaaGreatDoorTfR0
import Derived.Test.YtmihjeiilgnidaaGreatDoorTfR1
import Derived.Test.YtmihjeiilgnidaaGreatDoorTfR2
import Derived.Test.YtmihjeiilgnidaaGreatDoorTfR3
import Derived.Test.YtmihjeiilgnidaaGreatDoorTfR4
import Derived.Test.YtmihjeiilgnidaaGreatDoorTfR5
import Derived.Test.YtmihjeiilgnidaaGreatDoorTfR6
import Derived.Test.YtmihjeiilgnidaaGreatDoorTfR7
import Derived.Test.YtmihjeiilgnidaaGreatDoorTfR8
import Derived.Test.YtmihjeiilgnidaaGreatDoorTfR9
import Derived.Test.YtmihjeiilgnidaaGreatDoorTfR10
import Derived.Test.YtmihjeiilgnidaaGreatDoorTfR11
import Derived.Test.YtmihjeiilgnidaaGreatDoorTfR12
import Derived.Test.YtmihjeiilgnidaaGreatDoorTfR13
import Derived.Test.YtmihjeiilgnidaaGreatDoorTfR14
import Derived.Test.YtmihjeiilgnidaaGreatDoorTfR15
import Derived.Test.YtmihjeiilgnidaaGreatDoorFact
import Derived.Test.YtmihjeiilgnidaaGreatDoorTfFact
open Go.Ab
namespace Go.Proofs.YtmihjeiilgnidaaGreatDoor.TopFaults
open Go.ChangeShapes Go.WideShapes Go.ChangeAt Go.RowKit

theorem vrs_cls {a0 : Int} {a1 : Int} {a2 : Bool} {k0 : Nat} (h0 : a0 % (20 : Nat) = (k0 : Int)) {k1 : Nat} (h1 : a1 % (6 : Nat) = (k1 : Int)) : VRs mu0 [.cls 20 k0, .cls 6 k1, .bool a2] [.int .i64 a0, .int .i64 a1, .bool a2] :=
  .cons (.cls 20 k0 a0 h0) (.cons (.cls 6 k1 a1 h1) (.cons (.bool a2) (.nil _)))

theorem hname : Tryz.f5.name ≠ "runtime.NumGoroutine" := by
  intro h
  have : (Tryz.f5.name == "runtime.NumGoroutine") = false := by kernel_rfl
  rw [h] at this
  exact absurd this (by decide)
theorem hbody : ∃ c, Tryz.f5.body = some c := Option.isSome_iff_exists.1 (by kernel_rfl)

theorem walk (a0 : Int) (a1 : Int) (a2 : Bool) (W : World) {m : Int} (hm : W.cell? ⟨0, 0, none⟩ = some (.int .i64 m)) (ht : ∀ c : Nat, c < 256 → W.cell? ⟨2, c, none⟩ = some (.int .u8 (if Lib.isSp (UInt8.ofNat c) then 1 else 0))) :
    Calls Tryz.prog 5 #[.int .i64 a0, .int .i64 a1, .bool a2] W fun e w' => e = .returned (.bool true) ∧ Below W.heap.size W w' := by
  obtain ⟨c, hb⟩ := hbody
  have go : ∀ args, isT (run tab 300 5 args H0) = true → VRs mu0 args [.int .i64 a0, .int .i64 a1, .bool a2] → Calls Tryz.prog 5 #[.int .i64 a0, .int .i64 a1, .bool a2] W fun e w' => e = .returned (.bool true) ∧ Below W.heap.size W w' :=
    fun args hr ha => calls_of_run Tryz.func5 hname hb tab_ok hr hm ht (args' := #[.int .i64 a0, .int .i64 a1, .bool a2]) ha
  obtain ⟨k0, g0, e0⟩ : ∃ k : Nat, k < 20 ∧ a0 % (20 : Nat) = (k : Int) := ⟨(a0 % 20).toNat, by omega, by omega⟩
  replace g0 : k0 = 0 ∨ k0 = 1 ∨ k0 = 2 ∨ k0 = 3 ∨ k0 = 4 ∨ k0 = 5 ∨ k0 = 6 ∨ k0 = 7 ∨ k0 = 8 ∨ k0 = 9 ∨ k0 = 10 ∨ k0 = 11 ∨ k0 = 12 ∨ k0 = 13 ∨ k0 = 14 ∨ k0 = 15 ∨ k0 = 16 ∨ k0 = 17 ∨ k0 = 18 ∨ k0 = 19 := by omega
  obtain ⟨k1, g1, e1⟩ : ∃ k : Nat, k < 6 ∧ a1 % (6 : Nat) = (k : Int) := ⟨(a1 % 6).toNat, by omega, by omega⟩
  replace g1 : k1 = 0 ∨ k1 = 1 ∨ k1 = 2 ∨ k1 = 3 ∨ k1 = 4 ∨ k1 = 5 := by omega
  rcases g0 with rfl | rfl | rfl | rfl | rfl | rfl | rfl | rfl | rfl | rfl | rfl | rfl | rfl | rfl | rfl | rfl | rfl | rfl | rfl | rfl
  · rcases g1 with rfl | rfl | rfl | rfl | rfl | rfl
    · rcases a2 with _ | _
      · exact go _ run_0_0_f (vrs_cls e0 e1)
      · exact go _ run_0_0_t (vrs_cls e0 e1)
    · rcases a2 with _ | _
      · exact go _ run_0_1_f (vrs_cls e0 e1)
      · exact go _ run_0_1_t (vrs_cls e0 e1)
    · rcases a2 with _ | _
      · exact go _ run_0_2_f (vrs_cls e0 e1)
      · exact go _ run_0_2_t (vrs_cls e0 e1)
    · rcases a2 with _ | _
      · exact go _ run_0_3_f (vrs_cls e0 e1)
      · exact go _ run_0_3_t (vrs_cls e0 e1)
    · rcases a2 with _ | _
      · exact go _ run_0_4_f (vrs_cls e0 e1)
      · exact go _ run_0_4_t (vrs_cls e0 e1)
    · rcases a2 with _ | _
      · exact go _ run_0_5_f (vrs_cls e0 e1)
      · exact go _ run_0_5_t (vrs_cls e0 e1)
  · rcases g1 with rfl | rfl | rfl | rfl | rfl | rfl
    · rcases a2 with _ | _
      · exact go _ run_1_0_f (vrs_cls e0 e1)
      · exact go _ run_1_0_t (vrs_cls e0 e1)
    · rcases a2 with _ | _
      · exact go _ run_1_1_f (vrs_cls e0 e1)
      · exact go _ run_1_1_t (vrs_cls e0 e1)
    · rcases a2 with _ | _
      · exact go _ run_1_2_f (vrs_cls e0 e1)
      · exact go _ run_1_2_t (vrs_cls e0 e1)
    · rcases a2 with _ | _
      · exact go _ run_1_3_f (vrs_cls e0 e1)
      · exact go _ run_1_3_t (vrs_cls e0 e1)
    · rcases a2 with _ | _
      · exact go _ run_1_4_f (vrs_cls e0 e1)
      · exact go _ run_1_4_t (vrs_cls e0 e1)
    · rcases a2 with _ | _
      · exact go _ run_1_5_f (vrs_cls e0 e1)
      · exact go _ run_1_5_t (vrs_cls e0 e1)
  · rcases g1 with rfl | rfl | rfl | rfl | rfl | rfl
    · rcases a2 with _ | _
      · exact go _ run_2_0_f (vrs_cls e0 e1)
      · exact go _ run_2_0_t (vrs_cls e0 e1)
    · rcases a2 with _ | _
      · exact go _ run_2_1_f (vrs_cls e0 e1)
      · exact go _ run_2_1_t (vrs_cls e0 e1)
    · rcases a2 with _ | _
      · exact go _ run_2_2_f (vrs_cls e0 e1)
      · exact go _ run_2_2_t (vrs_cls e0 e1)
    · rcases a2 with _ | _
      · exact go _ run_2_3_f (vrs_cls e0 e1)
      · exact go _ run_2_3_t (vrs_cls e0 e1)
    · rcases a2 with _ | _
      · exact go _ run_2_4_f (vrs_cls e0 e1)
      · exact go _ run_2_4_t (vrs_cls e0 e1)
    · rcases a2 with _ | _
      · exact go _ run_2_5_f (vrs_cls e0 e1)
      · exact go _ run_2_5_t (vrs_cls e0 e1)
  · rcases g1 with rfl | rfl | rfl | rfl | rfl | rfl
    · rcases a2 with _ | _
      · exact go _ run_3_0_f (vrs_cls e0 e1)
      · exact go _ run_3_0_t (vrs_cls e0 e1)
    · rcases a2 with _ | _
      · exact go _ run_3_1_f (vrs_cls e0 e1)
      · exact go _ run_3_1_t (vrs_cls e0 e1)
    · rcases a2 with _ | _
      · exact go _ run_3_2_f (vrs_cls e0 e1)
      · exact go _ run_3_2_t (vrs_cls e0 e1)
    · rcases a2 with _ | _
      · exact go _ run_3_3_f (vrs_cls e0 e1)
      · exact go _ run_3_3_t (vrs_cls e0 e1)
    · rcases a2 with _ | _
      · exact go _ run_3_4_f (vrs_cls e0 e1)
      · exact go _ run_3_4_t (vrs_cls e0 e1)
    · rcases a2 with _ | _
      · exact go _ run_3_5_f (vrs_cls e0 e1)
      · exact go _ run_3_5_t (vrs_cls e0 e1)
  · rcases g1 with rfl | rfl | rfl | rfl | rfl | rfl
    · rcases a2 with _ | _
      · exact go _ run_4_0_f (vrs_cls e0 e1)
      · exact go _ run_4_0_t (vrs_cls e0 e1)
    · rcases a2 with _ | _
      · exact go _ run_4_1_f (vrs_cls e0 e1)
      · exact go _ run_4_1_t (vrs_cls e0 e1)
    · rcases a2 with _ | _
      · exact go _ run_4_2_f (vrs_cls e0 e1)
      · exact go _ run_4_2_t (vrs_cls e0 e1)
    · rcases a2 with _ | _
      · exact go _ run_4_3_f (vrs_cls e0 e1)
      · exact go _ run_4_3_t (vrs_cls e0 e1)
    · rcases a2 with _ | _
      · exact go _ run_4_4_f (vrs_cls e0 e1)
      · exact go _ run_4_4_t (vrs_cls e0 e1)
    · rcases a2 with _ | _
      · exact go _ run_4_5_f (vrs_cls e0 e1)
      · exact go _ run_4_5_t (vrs_cls e0 e1)
  · rcases g1 with rfl | rfl | rfl | rfl | rfl | rfl
    · rcases a2 with _ | _
      · exact go _ run_5_0_f (vrs_cls e0 e1)
      · exact go _ run_5_0_t (vrs_cls e0 e1)
    · rcases a2 with _ | _
      · exact go _ run_5_1_f (vrs_cls e0 e1)
      · exact go _ run_5_1_t (vrs_cls e0 e1)
    · rcases a2 with _ | _
      · exact go _ run_5_2_f (vrs_cls e0 e1)
      · exact go _ run_5_2_t (vrs_cls e0 e1)
    · rcases a2 with _ | _
      · exact go _ run_5_3_f (vrs_cls e0 e1)
      · exact go _ run_5_3_t (vrs_cls e0 e1)
    · rcases a2 with _ | _
      · exact go _ run_5_4_f (vrs_cls e0 e1)
      · exact go _ run_5_4_t (vrs_cls e0 e1)
    · rcases a2 with _ | _
      · exact go _ run_5_5_f (vrs_cls e0 e1)
      · exact go _ run_5_5_t (vrs_cls e0 e1)
  · rcases g1 with rfl | rfl | rfl | rfl | rfl | rfl
    · rcases a2 with _ | _
      · exact go _ run_6_0_f (vrs_cls e0 e1)
      · exact go _ run_6_0_t (vrs_cls e0 e1)
    · rcases a2 with _ | _
      · exact go _ run_6_1_f (vrs_cls e0 e1)
      · exact go _ run_6_1_t (vrs_cls e0 e1)
    · rcases a2 with _ | _
      · exact go _ run_6_2_f (vrs_cls e0 e1)
      · exact go _ run_6_2_t (vrs_cls e0 e1)
    · rcases a2 with _ | _
      · exact go _ run_6_3_f (vrs_cls e0 e1)
      · exact go _ run_6_3_t (vrs_cls e0 e1)
    · rcases a2 with _ | _
      · exact go _ run_6_4_f (vrs_cls e0 e1)
      · exact go _ run_6_4_t (vrs_cls e0 e1)
    · rcases a2 with _ | _
      · exact go _ run_6_5_f (vrs_cls e0 e1)
      · exact go _ run_6_5_t (vrs_cls e0 e1)
  · rcases g1 with rfl | rfl | rfl | rfl | rfl | rfl
    · rcases a2 with _ | _
      · exact go _ run_7_0_f (vrs_cls e0 e1)
      · exact go _ run_7_0_t (vrs_cls e0 e1)
    · rcases a2 with _ | _
      · exact go _ run_7_1_f (vrs_cls e0 e1)
      · exact go _ run_7_1_t (vrs_cls e0 e1)
    · rcases a2 with _ | _
      · exact go _ run_7_2_f (vrs_cls e0 e1)
      · exact go _ run_7_2_t (vrs_cls e0 e1)
    · rcases a2 with _ | _
      · exact go _ run_7_3_f (vrs_cls e0 e1)
      · exact go _ run_7_3_t (vrs_cls e0 e1)
    · rcases a2 with _ | _
      · exact go _ run_7_4_f (vrs_cls e0 e1)
      · exact go _ run_7_4_t (vrs_cls e0 e1)
    · rcases a2 with _ | _
      · exact go _ run_7_5_f (vrs_cls e0 e1)
      · exact go _ run_7_5_t (vrs_cls e0 e1)
  · rcases g1 with rfl | rfl | rfl | rfl | rfl | rfl
    · rcases a2 with _ | _
      · exact go _ run_8_0_f (vrs_cls e0 e1)
      · exact go _ run_8_0_t (vrs_cls e0 e1)
    · rcases a2 with _ | _
      · exact go _ run_8_1_f (vrs_cls e0 e1)
      · exact go _ run_8_1_t (vrs_cls e0 e1)
    · rcases a2 with _ | _
      · exact go _ run_8_2_f (vrs_cls e0 e1)
      · exact go _ run_8_2_t (vrs_cls e0 e1)
    · rcases a2 with _ | _
      · exact go _ run_8_3_f (vrs_cls e0 e1)
      · exact go _ run_8_3_t (vrs_cls e0 e1)
    · rcases a2 with _ | _
      · exact go _ run_8_4_f (vrs_cls e0 e1)
      · exact go _ run_8_4_t (vrs_cls e0 e1)
    · rcases a2 with _ | _
      · exact go _ run_8_5_f (vrs_cls e0 e1)
      · exact go _ run_8_5_t (vrs_cls e0 e1)
  · rcases g1 with rfl | rfl | rfl | rfl | rfl | rfl
    · rcases a2 with _ | _
      · exact go _ run_9_0_f (vrs_cls e0 e1)
      · exact go _ run_9_0_t (vrs_cls e0 e1)
    · rcases a2 with _ | _
      · exact go _ run_9_1_f (vrs_cls e0 e1)
      · exact go _ run_9_1_t (vrs_cls e0 e1)
    · rcases a2 with _ | _
      · exact go _ run_9_2_f (vrs_cls e0 e1)
      · exact go _ run_9_2_t (vrs_cls e0 e1)
    · rcases a2 with _ | _
      · exact go _ run_9_3_f (vrs_cls e0 e1)
      · exact go _ run_9_3_t (vrs_cls e0 e1)
    · rcases a2 with _ | _
      · exact go _ run_9_4_f (vrs_cls e0 e1)
      · exact go _ run_9_4_t (vrs_cls e0 e1)
    · rcases a2 with _ | _
      · exact go _ run_9_5_f (vrs_cls e0 e1)
      · exact go _ run_9_5_t (vrs_cls e0 e1)
  · rcases g1 with rfl | rfl | rfl | rfl | rfl | rfl
    · rcases a2 with _ | _
      · exact go _ run_10_0_f (vrs_cls e0 e1)
      · exact go _ run_10_0_t (vrs_cls e0 e1)
    · rcases a2 with _ | _
      · exact go _ run_10_1_f (vrs_cls e0 e1)
      · exact go _ run_10_1_t (vrs_cls e0 e1)
    · rcases a2 with _ | _
      · exact go _ run_10_2_f (vrs_cls e0 e1)
      · exact go _ run_10_2_t (vrs_cls e0 e1)
    · rcases a2 with _ | _
      · exact go _ run_10_3_f (vrs_cls e0 e1)
      · exact go _ run_10_3_t (vrs_cls e0 e1)
    · rcases a2 with _ | _
      · exact go _ run_10_4_f (vrs_cls e0 e1)
      · exact go _ run_10_4_t (vrs_cls e0 e1)
    · rcases a2 with _ | _
      · exact go _ run_10_5_f (vrs_cls e0 e1)
      · exact go _ run_10_5_t (vrs_cls e0 e1)
  · rcases g1 with rfl | rfl | rfl | rfl | rfl | rfl
    · rcases a2 with _ | _
      · exact go _ run_11_0_f (vrs_cls e0 e1)
      · exact go _ run_11_0_t (vrs_cls e0 e1)
    · rcases a2 with _ | _
      · exact go _ run_11_1_f (vrs_cls e0 e1)
      · exact go _ run_11_1_t (vrs_cls e0 e1)
    · rcases a2 with _ | _
      · exact go _ run_11_2_f (vrs_cls e0 e1)
      · exact go _ run_11_2_t (vrs_cls e0 e1)
    · rcases a2 with _ | _
      · exact go _ run_11_3_f (vrs_cls e0 e1)
      · exact go _ run_11_3_t (vrs_cls e0 e1)
    · rcases a2 with _ | _
      · exact go _ run_11_4_f (vrs_cls e0 e1)
      · exact go _ run_11_4_t (vrs_cls e0 e1)
    · rcases a2 with _ | _
      · exact go _ run_11_5_f (vrs_cls e0 e1)
      · exact go _ run_11_5_t (vrs_cls e0 e1)
  · rcases g1 with rfl | rfl | rfl | rfl | rfl | rfl
    · rcases a2 with _ | _
      · exact go _ run_12_0_f (vrs_cls e0 e1)
      · exact go _ run_12_0_t (vrs_cls e0 e1)
    · rcases a2 with _ | _
      · exact go _ run_12_1_f (vrs_cls e0 e1)
      · exact go _ run_12_1_t (vrs_cls e0 e1)
    · rcases a2 with _ | _
      · exact go _ run_12_2_f (vrs_cls e0 e1)
      · exact go _ run_12_2_t (vrs_cls e0 e1)
    · rcases a2 with _ | _
      · exact go _ run_12_3_f (vrs_cls e0 e1)
      · exact go _ run_12_3_t (vrs_cls e0 e1)
    · rcases a2 with _ | _
      · exact go _ run_12_4_f (vrs_cls e0 e1)
      · exact go _ run_12_4_t (vrs_cls e0 e1)
    · rcases a2 with _ | _
      · exact go _ run_12_5_f (vrs_cls e0 e1)
      · exact go _ run_12_5_t (vrs_cls e0 e1)
  · rcases g1 with rfl | rfl | rfl | rfl | rfl | rfl
    · rcases a2 with _ | _
      · exact go _ run_13_0_f (vrs_cls e0 e1)
      · exact go _ run_13_0_t (vrs_cls e0 e1)
    · rcases a2 with _ | _
      · exact go _ run_13_1_f (vrs_cls e0 e1)
      · exact go _ run_13_1_t (vrs_cls e0 e1)
    · rcases a2 with _ | _
      · exact go _ run_13_2_f (vrs_cls e0 e1)
      · exact go _ run_13_2_t (vrs_cls e0 e1)
    · rcases a2 with _ | _
      · exact go _ run_13_3_f (vrs_cls e0 e1)
      · exact go _ run_13_3_t (vrs_cls e0 e1)
    · rcases a2 with _ | _
      · exact go _ run_13_4_f (vrs_cls e0 e1)
      · exact go _ run_13_4_t (vrs_cls e0 e1)
    · rcases a2 with _ | _
      · exact go _ run_13_5_f (vrs_cls e0 e1)
      · exact go _ run_13_5_t (vrs_cls e0 e1)
  · rcases g1 with rfl | rfl | rfl | rfl | rfl | rfl
    · rcases a2 with _ | _
      · exact go _ run_14_0_f (vrs_cls e0 e1)
      · exact go _ run_14_0_t (vrs_cls e0 e1)
    · rcases a2 with _ | _
      · exact go _ run_14_1_f (vrs_cls e0 e1)
      · exact go _ run_14_1_t (vrs_cls e0 e1)
    · rcases a2 with _ | _
      · exact go _ run_14_2_f (vrs_cls e0 e1)
      · exact go _ run_14_2_t (vrs_cls e0 e1)
    · rcases a2 with _ | _
      · exact go _ run_14_3_f (vrs_cls e0 e1)
      · exact go _ run_14_3_t (vrs_cls e0 e1)
    · rcases a2 with _ | _
      · exact go _ run_14_4_f (vrs_cls e0 e1)
      · exact go _ run_14_4_t (vrs_cls e0 e1)
    · rcases a2 with _ | _
      · exact go _ run_14_5_f (vrs_cls e0 e1)
      · exact go _ run_14_5_t (vrs_cls e0 e1)
  · rcases g1 with rfl | rfl | rfl | rfl | rfl | rfl
    · rcases a2 with _ | _
      · exact go _ run_15_0_f (vrs_cls e0 e1)
      · exact go _ run_15_0_t (vrs_cls e0 e1)
    · rcases a2 with _ | _
      · exact go _ run_15_1_f (vrs_cls e0 e1)
      · exact go _ run_15_1_t (vrs_cls e0 e1)
    · rcases a2 with _ | _
      · exact go _ run_15_2_f (vrs_cls e0 e1)
      · exact go _ run_15_2_t (vrs_cls e0 e1)
    · rcases a2 with _ | _
      · exact go _ run_15_3_f (vrs_cls e0 e1)
      · exact go _ run_15_3_t (vrs_cls e0 e1)
    · rcases a2 with _ | _
      · exact go _ run_15_4_f (vrs_cls e0 e1)
      · exact go _ run_15_4_t (vrs_cls e0 e1)
    · rcases a2 with _ | _
      · exact go _ run_15_5_f (vrs_cls e0 e1)
      · exact go _ run_15_5_t (vrs_cls e0 e1)
  · rcases g1 with rfl | rfl | rfl | rfl | rfl | rfl
    · rcases a2 with _ | _
      · exact go _ run_16_0_f (vrs_cls e0 e1)
      · exact go _ run_16_0_t (vrs_cls e0 e1)
    · rcases a2 with _ | _
      · exact go _ run_16_1_f (vrs_cls e0 e1)
      · exact go _ run_16_1_t (vrs_cls e0 e1)
    · rcases a2 with _ | _
      · exact go _ run_16_2_f (vrs_cls e0 e1)
      · exact go _ run_16_2_t (vrs_cls e0 e1)
    · rcases a2 with _ | _
      · exact go _ run_16_3_f (vrs_cls e0 e1)
      · exact go _ run_16_3_t (vrs_cls e0 e1)
    · rcases a2 with _ | _
      · exact go _ run_16_4_f (vrs_cls e0 e1)
      · exact go _ run_16_4_t (vrs_cls e0 e1)
    · rcases a2 with _ | _
      · exact go _ run_16_5_f (vrs_cls e0 e1)
      · exact go _ run_16_5_t (vrs_cls e0 e1)
  · rcases g1 with rfl | rfl | rfl | rfl | rfl | rfl
    · rcases a2 with _ | _
      · exact go _ run_17_0_f (vrs_cls e0 e1)
      · exact go _ run_17_0_t (vrs_cls e0 e1)
    · rcases a2 with _ | _
      · exact go _ run_17_1_f (vrs_cls e0 e1)
      · exact go _ run_17_1_t (vrs_cls e0 e1)
    · rcases a2 with _ | _
      · exact go _ run_17_2_f (vrs_cls e0 e1)
      · exact go _ run_17_2_t (vrs_cls e0 e1)
    · rcases a2 with _ | _
      · exact go _ run_17_3_f (vrs_cls e0 e1)
      · exact go _ run_17_3_t (vrs_cls e0 e1)
    · rcases a2 with _ | _
      · exact go _ run_17_4_f (vrs_cls e0 e1)
      · exact go _ run_17_4_t (vrs_cls e0 e1)
    · rcases a2 with _ | _
      · exact go _ run_17_5_f (vrs_cls e0 e1)
      · exact go _ run_17_5_t (vrs_cls e0 e1)
  · rcases g1 with rfl | rfl | rfl | rfl | rfl | rfl
    · rcases a2 with _ | _
      · exact go _ run_18_0_f (vrs_cls e0 e1)
      · exact go _ run_18_0_t (vrs_cls e0 e1)
    · rcases a2 with _ | _
      · exact go _ run_18_1_f (vrs_cls e0 e1)
      · exact go _ run_18_1_t (vrs_cls e0 e1)
    · rcases a2 with _ | _
      · exact go _ run_18_2_f (vrs_cls e0 e1)
      · exact go _ run_18_2_t (vrs_cls e0 e1)
    · rcases a2 with _ | _
      · exact go _ run_18_3_f (vrs_cls e0 e1)
      · exact go _ run_18_3_t (vrs_cls e0 e1)
    · rcases a2 with _ | _
      · exact go _ run_18_4_f (vrs_cls e0 e1)
      · exact go _ run_18_4_t (vrs_cls e0 e1)
    · rcases a2 with _ | _
      · exact go _ run_18_5_f (vrs_cls e0 e1)
      · exact go _ run_18_5_t (vrs_cls e0 e1)
  · rcases g1 with rfl | rfl | rfl | rfl | rfl | rfl
    · rcases a2 with _ | _
      · exact go _ run_19_0_f (vrs_cls e0 e1)
      · exact go _ run_19_0_t (vrs_cls e0 e1)
    · rcases a2 with _ | _
      · exact go _ run_19_1_f (vrs_cls e0 e1)
      · exact go _ run_19_1_t (vrs_cls e0 e1)
    · rcases a2 with _ | _
      · exact go _ run_19_2_f (vrs_cls e0 e1)
      · exact go _ run_19_2_t (vrs_cls e0 e1)
    · rcases a2 with _ | _
      · exact go _ run_19_3_f (vrs_cls e0 e1)
      · exact go _ run_19_3_t (vrs_cls e0 e1)
    · rcases a2 with _ | _
      · exact go _ run_19_4_f (vrs_cls e0 e1)
      · exact go _ run_19_4_t (vrs_cls e0 e1)
    · rcases a2 with _ | _
      · exact go _ run_19_5_f (vrs_cls e0 e1)
      · exact go _ run_19_5_t (vrs_cls e0 e1)

set_option maxRecDepth 100000 in
theorem lifted (os : Os) (started : os.Started) (H : Type) (enc : TypeId × Value → H) :
    ReturnsInHanded {} Tryz.checked os 5 .any (fun w args => (Rows.topFaultsSpec.pre enc Tryz.prog Tryz.f5 [] false w args ∧ laidMetH Tryz.prog Rows.topFaultsRow.laid w) ∧ sizedMet enc Tryz.prog Tryz.f5 (OpenSpec.ofChange Rows.topFaultsSpec) false w args)
      (Rows.topFaultsSpec.post enc Tryz.prog Tryz.f5 false true false false) := by
  refine handed_of (C := Tryz.checked) (X := fun w _ => laidMetH Tryz.prog Rows.topFaultsRow.laid w) (fun _ _ _ hh h => h.of_heap hh) own started (by kernel_rfl) Tryz.func5
    (ChangeSpec.witness_shaped (enc := enc) (C := Tryz.checked) (os := os) (X := fun w _ => laidMetH Tryz.prog Rows.topFaultsRow.laid w) false (World.laidAll Tryz.prog os Rows.topFaultsRow.laid) #[.int .i64 0, .int .i64 0, .bool false] 8 (World.laidAll_os _ _ _)
      (World.shaped_of_ZipB (by kernel_rfl) (by kernel_rfl)) (by kernel_rfl) (by kernel_rfl) (by kernel_rfl)
      (by rw [MakeChecks.laidMetH_plain _ _ _ (by kernel_rfl)]; exact laidMet_laidAll _ (by kernel_rfl) (by kernel_rfl))) ?_
  intro W base args ds gs before hval0 hW hL hsh
  have hval : ∀ (j : Nat) t v, Tryz.f5.params[j]? = some t → args[j]? = some v → Value.okWide Tryz.prog W .any base t v := hval0
  have hW' := hW
  obtain ⟨p, q, hA0, hV, rfl, _, _⟩ := hW
  have hA : DataW.TrodAll enc Tryz.prog W 0 (fun _ => true) true Tryz.f5.params.toList args.toList ds p := hA0
  rw [Tryz.params5] at hA hval
  obtain ⟨v0, vs0, d0, ds0, p0, q0, hargs, rfl, rfl, h0, r0⟩ := trodAll_cons hA
  obtain ⟨v1, vs1, d1, ds1, p1, q1, rfl, rfl, rfl, h1, r1⟩ := trodAll_cons r0
  obtain ⟨v2, vs2, d2, ds2, p2, q2, rfl, rfl, rfl, h2, r2⟩ := trodAll_cons r1
  obtain ⟨rfl, rfl, rfl⟩ := trodAll_nil r2
  obtain rfl : args = #[v0, v1, v2] := by cases args; simp_all
  obtain ⟨rfl, rfl⟩ := trodVars_none hV
  obtain ⟨a0, rfl, rfl, rfl, w0⟩ := open_int Tryz.underlying3 (hval 0 3 v0 rfl rfl) h0
  obtain ⟨a1, rfl, rfl, rfl, w1⟩ := open_int Tryz.underlying3 (hval 1 3 v1 rfl rfl) h1
  obtain ⟨a2, rfl, rfl, rfl⟩ := open_bool Tryz.underlying4 (hval 2 4 v2 rfl rfl) h2
  clear hA0 hval0
  simp only [List.append_nil] at hW'
  obtain ⟨m, hm⟩ := maxLen_cell hsh
  refine (walk a0 a1 a2 W hm (space_cells (show laidMetH Tryz.prog Rows.moldRefusesRow.laid W from hL))).mono fun e W' ⟨he, hb⟩ => ?_
  subst he
  exact ⟨_, rfl, _, _, _, [], [], [], hW', trodAll_mk1 (shut_bool Tryz.underlying4 _), trodAll_cons_mk (shut_int Tryz.underlying3 w0) (trodAll_cons_mk (shut_int Tryz.underlying3 w1) (trodAll_mk1 (shut_bool Tryz.underlying4 _))), rfl, hb.frame _, fun h => by cases h⟩

theorem closed : joinedFacts Tryz.pinned.checked.prog 5 Tryz.f5 Rows.topFaultsSpec Rows.topFaultsRow = true := by
  show joinedFacts Tryz.prog 5 Tryz.f5 Rows.topFaultsSpec Rows.topFaultsRow = true
  unfold joinedFacts
  rw [fact1, fact2, fact3, fact4, fact_laidOut, fact_mapsRowed, fact_mayEnter, fact_stopsHeard, fact_lifts, fact_make]
  kernel_rfl

theorem said : Rows.TopFaultsSaid :=
  OpenClaim.holds_of_wide 5 Tryz.f5 rfl rfl rfl rfl rfl rfl rfl ⟨rfl, rfl, rfl, rfl, rfl⟩ rfl rfl rfl rfl rfl (by kernel_rfl) Tryz.func5 closed
    (of_decide_eq_true (by kernel_rfl)) (by unfold Func.isWrapper; first | (rw [if_pos (by decide +kernel)]; kernel_rfl) | (rw [if_neg (by decide +kernel)]; exact ⟨rfl, rfl⟩))
    (fun os started H enc _ => lifted os started H enc)

theorem plain (f : FuncId) (fn : Func) (hf : Tryz.pinned.checked.prog.funcNamed "sprue/spruetop.TopFaults" = some f) (hfn : Tryz.pinned.checked.prog.funcs[f]? = some fn) :
    false = Tryz.pinned.checked.prog.looks [] ∧ ∀ (j : Nat) t, fn.params[j]? = some t → Tryz.pinned.checked.prog.wantsStandIn t = false := by
  obtain rfl : f = 5 := Option.some.inj ((show Tryz.prog.funcNamed "sprue/spruetop.TopFaults" = some 5 by kernel_rfl).symm.trans hf) |>.symm
  obtain rfl : fn = Tryz.f5 := (Option.some.inj (Tryz.func5.symm.trans hfn)).symm
  refine ⟨by kernel_rfl, fun j t ht => ?_⟩
  rw [Tryz.params5] at ht
  have hm : t ∈ [3, 3, 4] := by simpa using Array.mem_of_getElem? ht
  have hall : ([3, 3, 4].all fun u => !Tryz.prog.wantsStandIn u) = true := by kernel_rfl
  exact (show Tryz.prog.wantsStandIn t = false by simpa using List.all_eq_true.1 hall t hm)

/-- THE CARD. -/
theorem card : Rows.TopFaultsCardSaid :=
  Claim7.holds_tied_plain_at .later [] _ _ _ _ said (fun _ h => by cases h) (by kernel_rfl) (fun _ h => by cases h) topFaults_row_tie rfl ⟨rfl, rfl⟩ (by kernel_rfl) rfl plain (goesBy_no rfl)
end Go.Proofs.YtmihjeiilgnidaaGreatDoor.TopFaults

namespace Go.Proofs.YtmihjeiilgnidaaGreatDoor
/-- THE STATEMENT. -/
theorem topFaults_card : Rows.TopFaultsCardSaid := TopFaults.card
end Go.Proofs.YtmihjeiilgnidaaGreatDoor
