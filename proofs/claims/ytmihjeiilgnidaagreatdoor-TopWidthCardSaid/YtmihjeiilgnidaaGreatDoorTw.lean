/- 'spruetop.TopWidth': for all arguments the law's call returns true: the tied card. Conditions: the row's own (the listed package-level variables, tied to the program's text). -/
import Derived.Test.YtmihjeiilgnidaaGreatDoorLw
import Derived.Test.YtmihjeiilgnidaaGreatDoorTwS
import Derived.Test.YtmihjeiilgnidaaGreatDoorTwR0
import Derived.Test.YtmihjeiilgnidaaGreatDoorTwR1
import Derived.Test.YtmihjeiilgnidaaGreatDoorTwR2
import Derived.Test.YtmihjeiilgnidaaGreatDoorTwR3
import Derived.Test.YtmihjeiilgnidaaGreatDoorTwR4
import Derived.Test.YtmihjeiilgnidaaGreatDoorTwR5
import Derived.Test.YtmihjeiilgnidaaGreatDoorTwR6
import Derived.Test.YtmihjeiilgnidaaGreatDoorTwR7
import Derived.Test.YtmihjeiilgnidaaGreatDoorTwR8
import Derived.Test.YtmihjeiilgnidaaGreatDoorTwR9
import Derived.Test.YtmihjeiilgnidaaGreatDoorTwR10
import Derived.Test.YtmihjeiilgnidaaGreatDoorTwR11
import Derived.Test.YtmihjeiilgnidaaGreatDoorTwR12
import Derived.Test.YtmihjeiilgnidaaGreatDoorTwR13
import Derived.Test.YtmihjeiilgnidaaGreatDoorTwR14
import Derived.Test.YtmihjeiilgnidaaGreatDoorTwR15
import Derived.Test.YtmihjeiilgnidaaGreatDoorFact
import Derived.Test.YtmihjeiilgnidaaGreatDoorTwFact
open Go.Ab
namespace Go.Proofs.YtmihjeiilgnidaaGreatDoor.TopWidth
open Go.ChangeShapes Go.WideShapes Go.ChangeAt Go.RowKit

theorem vrs_cls {a0 : Int} {a1 : Int} {k0 : Nat} (h0 : a0 % (12 : Nat) = (k0 : Int)) {k1 : Nat} (h1 : a1 % (16 : Nat) = (k1 : Int)) : VRs mu0 [.cls 12 k0, .cls 16 k1] [.int .i64 a0, .int .i64 a1] :=
  .cons (.cls 12 k0 a0 h0) (.cons (.cls 16 k1 a1 h1) (.nil _))

theorem hname : Tryz.f8.name ≠ "runtime.NumGoroutine" := by
  intro h
  have : (Tryz.f8.name == "runtime.NumGoroutine") = false := by kernel_rfl
  rw [h] at this
  exact absurd this (by decide)
theorem hbody : ∃ c, Tryz.f8.body = some c := Option.isSome_iff_exists.1 (by kernel_rfl)

theorem walk (a0 : Int) (a1 : Int) (W : World) {m : Int} (hm : W.cell? ⟨0, 0, none⟩ = some (.int .i64 m)) (ht : ∀ c : Nat, c < 256 → W.cell? ⟨2, c, none⟩ = some (.int .u8 (if Lib.isSp (UInt8.ofNat c) then 1 else 0))) :
    Calls Tryz.prog 8 #[.int .i64 a0, .int .i64 a1] W fun e w' => e = .returned (.bool true) ∧ Below W.heap.size W w' := by
  obtain ⟨c, hb⟩ := hbody
  have go : ∀ args, isT (run tab1 300 8 args H0) = true → VRs mu0 args [.int .i64 a0, .int .i64 a1] → Calls Tryz.prog 8 #[.int .i64 a0, .int .i64 a1] W fun e w' => e = .returned (.bool true) ∧ Below W.heap.size W w' :=
    fun args hr ha => calls_of_run Tryz.func8 hname hb tab1_ok hr hm ht (sp1_ok hm ht) (args' := #[.int .i64 a0, .int .i64 a1]) ha
  obtain ⟨k0, g0, e0⟩ : ∃ k : Nat, k < 12 ∧ a0 % (12 : Nat) = (k : Int) := ⟨(a0 % 12).toNat, by omega, by omega⟩
  replace g0 : k0 = 0 ∨ k0 = 1 ∨ k0 = 2 ∨ k0 = 3 ∨ k0 = 4 ∨ k0 = 5 ∨ k0 = 6 ∨ k0 = 7 ∨ k0 = 8 ∨ k0 = 9 ∨ k0 = 10 ∨ k0 = 11 := by omega
  obtain ⟨k1, g1, e1⟩ : ∃ k : Nat, k < 16 ∧ a1 % (16 : Nat) = (k : Int) := ⟨(a1 % 16).toNat, by omega, by omega⟩
  replace g1 : k1 = 0 ∨ k1 = 1 ∨ k1 = 2 ∨ k1 = 3 ∨ k1 = 4 ∨ k1 = 5 ∨ k1 = 6 ∨ k1 = 7 ∨ k1 = 8 ∨ k1 = 9 ∨ k1 = 10 ∨ k1 = 11 ∨ k1 = 12 ∨ k1 = 13 ∨ k1 = 14 ∨ k1 = 15 := by omega
  rcases g0 with rfl | rfl | rfl | rfl | rfl | rfl | rfl | rfl | rfl | rfl | rfl | rfl
  · rcases g1 with rfl | rfl | rfl | rfl | rfl | rfl | rfl | rfl | rfl | rfl | rfl | rfl | rfl | rfl | rfl | rfl
    · exact go _ run_0_0 (vrs_cls e0 e1)
    · exact go _ run_0_1 (vrs_cls e0 e1)
    · exact go _ run_0_2 (vrs_cls e0 e1)
    · exact go _ run_0_3 (vrs_cls e0 e1)
    · exact go _ run_0_4 (vrs_cls e0 e1)
    · exact go _ run_0_5 (vrs_cls e0 e1)
    · exact go _ run_0_6 (vrs_cls e0 e1)
    · exact go _ run_0_7 (vrs_cls e0 e1)
    · exact go _ run_0_8 (vrs_cls e0 e1)
    · exact go _ run_0_9 (vrs_cls e0 e1)
    · exact go _ run_0_10 (vrs_cls e0 e1)
    · exact go _ run_0_11 (vrs_cls e0 e1)
    · exact go _ run_0_12 (vrs_cls e0 e1)
    · exact go _ run_0_13 (vrs_cls e0 e1)
    · exact go _ run_0_14 (vrs_cls e0 e1)
    · exact go _ run_0_15 (vrs_cls e0 e1)
  · rcases g1 with rfl | rfl | rfl | rfl | rfl | rfl | rfl | rfl | rfl | rfl | rfl | rfl | rfl | rfl | rfl | rfl
    · exact go _ run_1_0 (vrs_cls e0 e1)
    · exact go _ run_1_1 (vrs_cls e0 e1)
    · exact go _ run_1_2 (vrs_cls e0 e1)
    · exact go _ run_1_3 (vrs_cls e0 e1)
    · exact go _ run_1_4 (vrs_cls e0 e1)
    · exact go _ run_1_5 (vrs_cls e0 e1)
    · exact go _ run_1_6 (vrs_cls e0 e1)
    · exact go _ run_1_7 (vrs_cls e0 e1)
    · exact go _ run_1_8 (vrs_cls e0 e1)
    · exact go _ run_1_9 (vrs_cls e0 e1)
    · exact go _ run_1_10 (vrs_cls e0 e1)
    · exact go _ run_1_11 (vrs_cls e0 e1)
    · exact go _ run_1_12 (vrs_cls e0 e1)
    · exact go _ run_1_13 (vrs_cls e0 e1)
    · exact go _ run_1_14 (vrs_cls e0 e1)
    · exact go _ run_1_15 (vrs_cls e0 e1)
  · rcases g1 with rfl | rfl | rfl | rfl | rfl | rfl | rfl | rfl | rfl | rfl | rfl | rfl | rfl | rfl | rfl | rfl
    · exact go _ run_2_0 (vrs_cls e0 e1)
    · exact go _ run_2_1 (vrs_cls e0 e1)
    · exact go _ run_2_2 (vrs_cls e0 e1)
    · exact go _ run_2_3 (vrs_cls e0 e1)
    · exact go _ run_2_4 (vrs_cls e0 e1)
    · exact go _ run_2_5 (vrs_cls e0 e1)
    · exact go _ run_2_6 (vrs_cls e0 e1)
    · exact go _ run_2_7 (vrs_cls e0 e1)
    · exact go _ run_2_8 (vrs_cls e0 e1)
    · exact go _ run_2_9 (vrs_cls e0 e1)
    · exact go _ run_2_10 (vrs_cls e0 e1)
    · exact go _ run_2_11 (vrs_cls e0 e1)
    · exact go _ run_2_12 (vrs_cls e0 e1)
    · exact go _ run_2_13 (vrs_cls e0 e1)
    · exact go _ run_2_14 (vrs_cls e0 e1)
    · exact go _ run_2_15 (vrs_cls e0 e1)
  · rcases g1 with rfl | rfl | rfl | rfl | rfl | rfl | rfl | rfl | rfl | rfl | rfl | rfl | rfl | rfl | rfl | rfl
    · exact go _ run_3_0 (vrs_cls e0 e1)
    · exact go _ run_3_1 (vrs_cls e0 e1)
    · exact go _ run_3_2 (vrs_cls e0 e1)
    · exact go _ run_3_3 (vrs_cls e0 e1)
    · exact go _ run_3_4 (vrs_cls e0 e1)
    · exact go _ run_3_5 (vrs_cls e0 e1)
    · exact go _ run_3_6 (vrs_cls e0 e1)
    · exact go _ run_3_7 (vrs_cls e0 e1)
    · exact go _ run_3_8 (vrs_cls e0 e1)
    · exact go _ run_3_9 (vrs_cls e0 e1)
    · exact go _ run_3_10 (vrs_cls e0 e1)
    · exact go _ run_3_11 (vrs_cls e0 e1)
    · exact go _ run_3_12 (vrs_cls e0 e1)
    · exact go _ run_3_13 (vrs_cls e0 e1)
    · exact go _ run_3_14 (vrs_cls e0 e1)
    · exact go _ run_3_15 (vrs_cls e0 e1)
  · rcases g1 with rfl | rfl | rfl | rfl | rfl | rfl | rfl | rfl | rfl | rfl | rfl | rfl | rfl | rfl | rfl | rfl
    · exact go _ run_4_0 (vrs_cls e0 e1)
    · exact go _ run_4_1 (vrs_cls e0 e1)
    · exact go _ run_4_2 (vrs_cls e0 e1)
    · exact go _ run_4_3 (vrs_cls e0 e1)
    · exact go _ run_4_4 (vrs_cls e0 e1)
    · exact go _ run_4_5 (vrs_cls e0 e1)
    · exact go _ run_4_6 (vrs_cls e0 e1)
    · exact go _ run_4_7 (vrs_cls e0 e1)
    · exact go _ run_4_8 (vrs_cls e0 e1)
    · exact go _ run_4_9 (vrs_cls e0 e1)
    · exact go _ run_4_10 (vrs_cls e0 e1)
    · exact go _ run_4_11 (vrs_cls e0 e1)
    · exact go _ run_4_12 (vrs_cls e0 e1)
    · exact go _ run_4_13 (vrs_cls e0 e1)
    · exact go _ run_4_14 (vrs_cls e0 e1)
    · exact go _ run_4_15 (vrs_cls e0 e1)
  · rcases g1 with rfl | rfl | rfl | rfl | rfl | rfl | rfl | rfl | rfl | rfl | rfl | rfl | rfl | rfl | rfl | rfl
    · exact go _ run_5_0 (vrs_cls e0 e1)
    · exact go _ run_5_1 (vrs_cls e0 e1)
    · exact go _ run_5_2 (vrs_cls e0 e1)
    · exact go _ run_5_3 (vrs_cls e0 e1)
    · exact go _ run_5_4 (vrs_cls e0 e1)
    · exact go _ run_5_5 (vrs_cls e0 e1)
    · exact go _ run_5_6 (vrs_cls e0 e1)
    · exact go _ run_5_7 (vrs_cls e0 e1)
    · exact go _ run_5_8 (vrs_cls e0 e1)
    · exact go _ run_5_9 (vrs_cls e0 e1)
    · exact go _ run_5_10 (vrs_cls e0 e1)
    · exact go _ run_5_11 (vrs_cls e0 e1)
    · exact go _ run_5_12 (vrs_cls e0 e1)
    · exact go _ run_5_13 (vrs_cls e0 e1)
    · exact go _ run_5_14 (vrs_cls e0 e1)
    · exact go _ run_5_15 (vrs_cls e0 e1)
  · rcases g1 with rfl | rfl | rfl | rfl | rfl | rfl | rfl | rfl | rfl | rfl | rfl | rfl | rfl | rfl | rfl | rfl
    · exact go _ run_6_0 (vrs_cls e0 e1)
    · exact go _ run_6_1 (vrs_cls e0 e1)
    · exact go _ run_6_2 (vrs_cls e0 e1)
    · exact go _ run_6_3 (vrs_cls e0 e1)
    · exact go _ run_6_4 (vrs_cls e0 e1)
    · exact go _ run_6_5 (vrs_cls e0 e1)
    · exact go _ run_6_6 (vrs_cls e0 e1)
    · exact go _ run_6_7 (vrs_cls e0 e1)
    · exact go _ run_6_8 (vrs_cls e0 e1)
    · exact go _ run_6_9 (vrs_cls e0 e1)
    · exact go _ run_6_10 (vrs_cls e0 e1)
    · exact go _ run_6_11 (vrs_cls e0 e1)
    · exact go _ run_6_12 (vrs_cls e0 e1)
    · exact go _ run_6_13 (vrs_cls e0 e1)
    · exact go _ run_6_14 (vrs_cls e0 e1)
    · exact go _ run_6_15 (vrs_cls e0 e1)
  · rcases g1 with rfl | rfl | rfl | rfl | rfl | rfl | rfl | rfl | rfl | rfl | rfl | rfl | rfl | rfl | rfl | rfl
    · exact go _ run_7_0 (vrs_cls e0 e1)
    · exact go _ run_7_1 (vrs_cls e0 e1)
    · exact go _ run_7_2 (vrs_cls e0 e1)
    · exact go _ run_7_3 (vrs_cls e0 e1)
    · exact go _ run_7_4 (vrs_cls e0 e1)
    · exact go _ run_7_5 (vrs_cls e0 e1)
    · exact go _ run_7_6 (vrs_cls e0 e1)
    · exact go _ run_7_7 (vrs_cls e0 e1)
    · exact go _ run_7_8 (vrs_cls e0 e1)
    · exact go _ run_7_9 (vrs_cls e0 e1)
    · exact go _ run_7_10 (vrs_cls e0 e1)
    · exact go _ run_7_11 (vrs_cls e0 e1)
    · exact go _ run_7_12 (vrs_cls e0 e1)
    · exact go _ run_7_13 (vrs_cls e0 e1)
    · exact go _ run_7_14 (vrs_cls e0 e1)
    · exact go _ run_7_15 (vrs_cls e0 e1)
  · rcases g1 with rfl | rfl | rfl | rfl | rfl | rfl | rfl | rfl | rfl | rfl | rfl | rfl | rfl | rfl | rfl | rfl
    · exact go _ run_8_0 (vrs_cls e0 e1)
    · exact go _ run_8_1 (vrs_cls e0 e1)
    · exact go _ run_8_2 (vrs_cls e0 e1)
    · exact go _ run_8_3 (vrs_cls e0 e1)
    · exact go _ run_8_4 (vrs_cls e0 e1)
    · exact go _ run_8_5 (vrs_cls e0 e1)
    · exact go _ run_8_6 (vrs_cls e0 e1)
    · exact go _ run_8_7 (vrs_cls e0 e1)
    · exact go _ run_8_8 (vrs_cls e0 e1)
    · exact go _ run_8_9 (vrs_cls e0 e1)
    · exact go _ run_8_10 (vrs_cls e0 e1)
    · exact go _ run_8_11 (vrs_cls e0 e1)
    · exact go _ run_8_12 (vrs_cls e0 e1)
    · exact go _ run_8_13 (vrs_cls e0 e1)
    · exact go _ run_8_14 (vrs_cls e0 e1)
    · exact go _ run_8_15 (vrs_cls e0 e1)
  · rcases g1 with rfl | rfl | rfl | rfl | rfl | rfl | rfl | rfl | rfl | rfl | rfl | rfl | rfl | rfl | rfl | rfl
    · exact go _ run_9_0 (vrs_cls e0 e1)
    · exact go _ run_9_1 (vrs_cls e0 e1)
    · exact go _ run_9_2 (vrs_cls e0 e1)
    · exact go _ run_9_3 (vrs_cls e0 e1)
    · exact go _ run_9_4 (vrs_cls e0 e1)
    · exact go _ run_9_5 (vrs_cls e0 e1)
    · exact go _ run_9_6 (vrs_cls e0 e1)
    · exact go _ run_9_7 (vrs_cls e0 e1)
    · exact go _ run_9_8 (vrs_cls e0 e1)
    · exact go _ run_9_9 (vrs_cls e0 e1)
    · exact go _ run_9_10 (vrs_cls e0 e1)
    · exact go _ run_9_11 (vrs_cls e0 e1)
    · exact go _ run_9_12 (vrs_cls e0 e1)
    · exact go _ run_9_13 (vrs_cls e0 e1)
    · exact go _ run_9_14 (vrs_cls e0 e1)
    · exact go _ run_9_15 (vrs_cls e0 e1)
  · rcases g1 with rfl | rfl | rfl | rfl | rfl | rfl | rfl | rfl | rfl | rfl | rfl | rfl | rfl | rfl | rfl | rfl
    · exact go _ run_10_0 (vrs_cls e0 e1)
    · exact go _ run_10_1 (vrs_cls e0 e1)
    · exact go _ run_10_2 (vrs_cls e0 e1)
    · exact go _ run_10_3 (vrs_cls e0 e1)
    · exact go _ run_10_4 (vrs_cls e0 e1)
    · exact go _ run_10_5 (vrs_cls e0 e1)
    · exact go _ run_10_6 (vrs_cls e0 e1)
    · exact go _ run_10_7 (vrs_cls e0 e1)
    · exact go _ run_10_8 (vrs_cls e0 e1)
    · exact go _ run_10_9 (vrs_cls e0 e1)
    · exact go _ run_10_10 (vrs_cls e0 e1)
    · exact go _ run_10_11 (vrs_cls e0 e1)
    · exact go _ run_10_12 (vrs_cls e0 e1)
    · exact go _ run_10_13 (vrs_cls e0 e1)
    · exact go _ run_10_14 (vrs_cls e0 e1)
    · exact go _ run_10_15 (vrs_cls e0 e1)
  · rcases g1 with rfl | rfl | rfl | rfl | rfl | rfl | rfl | rfl | rfl | rfl | rfl | rfl | rfl | rfl | rfl | rfl
    · exact go _ run_11_0 (vrs_cls e0 e1)
    · exact go _ run_11_1 (vrs_cls e0 e1)
    · exact go _ run_11_2 (vrs_cls e0 e1)
    · exact go _ run_11_3 (vrs_cls e0 e1)
    · exact go _ run_11_4 (vrs_cls e0 e1)
    · exact go _ run_11_5 (vrs_cls e0 e1)
    · exact go _ run_11_6 (vrs_cls e0 e1)
    · exact go _ run_11_7 (vrs_cls e0 e1)
    · exact go _ run_11_8 (vrs_cls e0 e1)
    · exact go _ run_11_9 (vrs_cls e0 e1)
    · exact go _ run_11_10 (vrs_cls e0 e1)
    · exact go _ run_11_11 (vrs_cls e0 e1)
    · exact go _ run_11_12 (vrs_cls e0 e1)
    · exact go _ run_11_13 (vrs_cls e0 e1)
    · exact go _ run_11_14 (vrs_cls e0 e1)
    · exact go _ run_11_15 (vrs_cls e0 e1)

set_option maxRecDepth 100000 in
theorem lifted (os : Os) (started : os.Started) (H : Type) (enc : TypeId × Value → H) :
    ReturnsInHanded {} Tryz.checked os 8 .any (fun w args => (Rows.topWidthSpec.pre enc Tryz.prog Tryz.f8 [] false w args ∧ laidMetH Tryz.prog Rows.topWidthRow.laid w) ∧ sizedMet enc Tryz.prog Tryz.f8 (OpenSpec.ofChange Rows.topWidthSpec) false w args)
      (Rows.topWidthSpec.post enc Tryz.prog Tryz.f8 false true false false) := by
  refine handed_of (C := Tryz.checked) (X := fun w _ => laidMetH Tryz.prog Rows.topWidthRow.laid w) (fun _ _ _ hh h => h.of_heap hh) own started (by kernel_rfl) Tryz.func8
    (ChangeSpec.witness_shaped (enc := enc) (C := Tryz.checked) (os := os) (X := fun w _ => laidMetH Tryz.prog Rows.topWidthRow.laid w) false (World.laidAll Tryz.prog os Rows.topWidthRow.laid) #[.int .i64 0, .int .i64 0] 8 (World.laidAll_os _ _ _)
      (World.shaped_of_ZipB (by kernel_rfl) (by kernel_rfl)) (by kernel_rfl) (by kernel_rfl) (by kernel_rfl)
      (by rw [MakeChecks.laidMetH_plain _ _ _ (by kernel_rfl)]; exact laidMet_laidAll _ (by kernel_rfl) (by kernel_rfl))) ?_
  intro W base args ds gs before hval0 hW hL hsh
  have hval : ∀ (j : Nat) t v, Tryz.f8.params[j]? = some t → args[j]? = some v → Value.okWide Tryz.prog W .any base t v := hval0
  have hW' := hW
  obtain ⟨p, q, hA0, hV, rfl, _, _⟩ := hW
  have hA : DataW.TrodAll enc Tryz.prog W 0 (fun _ => true) true Tryz.f8.params.toList args.toList ds p := hA0
  rw [Tryz.params8] at hA hval
  obtain ⟨v0, vs0, d0, ds0, p0, q0, hargs, rfl, rfl, h0, r0⟩ := trodAll_cons hA
  obtain ⟨v1, vs1, d1, ds1, p1, q1, rfl, rfl, rfl, h1, r1⟩ := trodAll_cons r0
  obtain ⟨rfl, rfl, rfl⟩ := trodAll_nil r1
  obtain rfl : args = #[v0, v1] := by cases args; simp_all
  obtain ⟨rfl, rfl⟩ := trodVars_none hV
  obtain ⟨a0, rfl, rfl, rfl, w0⟩ := open_int Tryz.underlying3 (hval 0 3 v0 rfl rfl) h0
  obtain ⟨a1, rfl, rfl, rfl, w1⟩ := open_int Tryz.underlying3 (hval 1 3 v1 rfl rfl) h1
  clear hA0 hval0
  simp only [List.append_nil] at hW'
  obtain ⟨m, hm⟩ := maxLen_cell hsh
  refine (walk a0 a1 W hm (space_cells (show laidMetH Tryz.prog Rows.moldRefusesRow.laid W from hL))).mono fun e W' ⟨he, hb⟩ => ?_
  subst he
  exact ⟨_, rfl, _, _, _, [], [], [], hW', trodAll_mk1 (shut_bool Tryz.underlying4 _), trodAll_cons_mk (shut_int Tryz.underlying3 w0) (trodAll_mk1 (shut_int Tryz.underlying3 w1)), rfl, hb.frame _, fun h => by cases h⟩

theorem closed : joinedFacts Tryz.pinned.checked.prog 8 Tryz.f8 Rows.topWidthSpec Rows.topWidthRow = true := by
  show joinedFacts Tryz.prog 8 Tryz.f8 Rows.topWidthSpec Rows.topWidthRow = true
  unfold joinedFacts
  rw [fact1, fact2, fact3, fact4, fact_laidOut, fact_mapsRowed, fact_mayEnter, fact_stopsHeard, fact_lifts, fact_make]
  kernel_rfl

theorem said : Rows.TopWidthSaid :=
  OpenClaim.holds_of_wide 8 Tryz.f8 rfl rfl rfl rfl rfl rfl rfl ⟨rfl, rfl, rfl, rfl, rfl⟩ rfl rfl rfl rfl rfl (by kernel_rfl) Tryz.func8 closed
    (of_decide_eq_true (by kernel_rfl)) (by unfold Func.isWrapper; first | (rw [if_pos (by decide +kernel)]; kernel_rfl) | (rw [if_neg (by decide +kernel)]; exact ⟨rfl, rfl⟩))
    (fun os started H enc _ => lifted os started H enc)

theorem plain (f : FuncId) (fn : Func) (hf : Tryz.pinned.checked.prog.funcNamed "sprue/spruetop.TopWidth" = some f) (hfn : Tryz.pinned.checked.prog.funcs[f]? = some fn) :
    false = Tryz.pinned.checked.prog.looks [] ∧ ∀ (j : Nat) t, fn.params[j]? = some t → Tryz.pinned.checked.prog.wantsStandIn t = false := by
  obtain rfl : f = 8 := Option.some.inj ((show Tryz.prog.funcNamed "sprue/spruetop.TopWidth" = some 8 by kernel_rfl).symm.trans hf) |>.symm
  obtain rfl : fn = Tryz.f8 := (Option.some.inj (Tryz.func8.symm.trans hfn)).symm
  refine ⟨by kernel_rfl, fun j t ht => ?_⟩
  rw [Tryz.params8] at ht
  have hm : t ∈ [3, 3] := by simpa using Array.mem_of_getElem? ht
  have hall : ([3, 3].all fun u => !Tryz.prog.wantsStandIn u) = true := by kernel_rfl
  exact (show Tryz.prog.wantsStandIn t = false by simpa using List.all_eq_true.1 hall t hm)

/-- THE CARD. -/
theorem card : Rows.TopWidthCardSaid :=
  Claim7.holds_tied_plain_at .later [] _ _ _ _ said (fun _ h => by cases h) (by kernel_rfl) (fun _ h => by cases h) topWidth_row_tie rfl ⟨rfl, rfl⟩ (by kernel_rfl) rfl plain (goesBy_no rfl)
end Go.Proofs.YtmihjeiilgnidaaGreatDoor.TopWidth

namespace Go.Proofs.YtmihjeiilgnidaaGreatDoor
/-- THE STATEMENT. -/
theorem topWidth_card : Rows.TopWidthCardSaid := TopWidth.card
end Go.Proofs.YtmihjeiilgnidaaGreatDoor
