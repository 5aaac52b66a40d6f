/- 'spruelaw20.VmSteps': for all arguments the law's call returns true: the tied card. Conditions: the row's own (the listed package-level variables, tied to the program's text). -/
import Derived.Test.YtnjonnilpfenfaaGreatDoorLw
import Derived.Test.YtnjonnilpfenfaaGreatDoorTi
import Derived.Test.YtnjonnilpfenfaaGreatDoorVsS
import Derived.Test.YtnjonnilpfenfaaGreatDoorVsR0
import Derived.Test.YtnjonnilpfenfaaGreatDoorVsR1
import Derived.Test.YtnjonnilpfenfaaGreatDoorVsR2
import Derived.Test.YtnjonnilpfenfaaGreatDoorVsR3
import Derived.Test.YtnjonnilpfenfaaGreatDoorFact
import Derived.Test.YtnjonnilpfenfaaGreatDoorVsFact
open Go.Ab
namespace Go.Proofs.YtnjonnilpfenfaaGreatDoor.VmSteps
open Go.ChangeShapes Go.WideShapes Go.ChangeAt Go.RowKit

theorem hname : Tryz.f5.name ≠ "runtime.NumGoroutine" := by
  intro h
  have : (Tryz.f5.name == "runtime.NumGoroutine") = false := by kernel_rfl
  rw [h] at this
  exact absurd this (by decide)
theorem hbody : ∃ c, Tryz.f5.body = some c := Option.isSome_iff_exists.1 (by kernel_rfl)

theorem walk (a0 : Int) (a1 : Int) (a2 : Int) (W : World) {m : Int} (hm : W.cell? ⟨0, 0, none⟩ = some (.int .i64 m)) (ht : Pow W) :
    Calls Tryz.prog 5 #[.int .i64 a0, .int .i64 a1, .int .i64 a2] W fun e w' => e = .returned (.bool true) ∧ Below W.heap.size W w' := by
  obtain ⟨c, hb⟩ := hbody
  have go : ∀ args, isT (run tab1 300 5 args H0) = true → VRs mu0 args [.int .i64 a0, .int .i64 a1, .int .i64 a2] → Calls Tryz.prog 5 #[.int .i64 a0, .int .i64 a1, .int .i64 a2] W fun e w' => e = .returned (.bool true) ∧ Below W.heap.size W w' :=
    fun args hr ha => calls_of_run Tryz.func5 hname hb tab1_ok hr hm ht (sp1_ok hm ht) (args' := #[.int .i64 a0, .int .i64 a1, .int .i64 a2]) ha
  obtain ⟨k0, g0, e0⟩ : ∃ k : Nat, k < 120 ∧ a0 % (120 : Nat) = (k : Int) := ⟨(a0 % 120).toNat, by omega, by omega⟩
  obtain ⟨k1, g1, e1⟩ : ∃ k : Nat, k < 6 ∧ a1 % (6 : Nat) = (k : Int) := ⟨(a1 % 6).toNat, by omega, by omega⟩
  obtain ⟨k2, g2, e2⟩ : ∃ k : Nat, k < 16 ∧ a2 % (16 : Nat) = (k : Int) := ⟨(a2 % 16).toNat, by omega, by omega⟩
  rcases Nat.lt_or_ge k0 1 with h | h
  · exact go _ (isTs_at r_0_0 k2 g2) (.cons (.rng 120 0 0 a0 (by rw [if_neg (by decide), e0]; omega) (by rw [if_neg (by decide), e0]; omega)) (.cons (.rng 6 0 5 a1 (by rw [if_neg (by decide), e1]; omega) (by rw [if_neg (by decide), e1]; omega)) (.cons (.cls 16 k2 a2 e2) (.nil _))))
  · rcases Nat.lt_or_ge k1 1 with h | h
    · exact go _ (isTs_at r_1_0 k2 g2) (.cons (.rng 120 1 119 a0 (by rw [if_neg (by decide), e0]; omega) (by rw [if_neg (by decide), e0]; omega)) (.cons (.rng 6 0 0 a1 (by rw [if_neg (by decide), e1]; omega) (by rw [if_neg (by decide), e1]; omega)) (.cons (.cls 16 k2 a2 e2) (.nil _))))
    · rcases Nat.lt_or_ge k0 2 with h | h
      · exact go _ (isTs_at r_1_1 k2 g2) (.cons (.rng 120 1 1 a0 (by rw [if_neg (by decide), e0]; omega) (by rw [if_neg (by decide), e0]; omega)) (.cons (.rng 6 1 5 a1 (by rw [if_neg (by decide), e1]; omega) (by rw [if_neg (by decide), e1]; omega)) (.cons (.cls 16 k2 a2 e2) (.nil _))))
      · rcases Nat.lt_or_ge k0 3 with h | h
        · exact go _ (isTs_at r_2_1 k2 g2) (.cons (.rng 120 2 2 a0 (by rw [if_neg (by decide), e0]; omega) (by rw [if_neg (by decide), e0]; omega)) (.cons (.rng 6 1 5 a1 (by rw [if_neg (by decide), e1]; omega) (by rw [if_neg (by decide), e1]; omega)) (.cons (.cls 16 k2 a2 e2) (.nil _))))
        · rcases Nat.lt_or_ge k0 4 with h | h
          · exact go _ (isTs_at r_3_1 k2 g2) (.cons (.rng 120 3 3 a0 (by rw [if_neg (by decide), e0]; omega) (by rw [if_neg (by decide), e0]; omega)) (.cons (.rng 6 1 5 a1 (by rw [if_neg (by decide), e1]; omega) (by rw [if_neg (by decide), e1]; omega)) (.cons (.cls 16 k2 a2 e2) (.nil _))))
          · rcases Nat.lt_or_ge k0 5 with h | h
            · exact go _ (isTs_at r_4_1 k2 g2) (.cons (.rng 120 4 4 a0 (by rw [if_neg (by decide), e0]; omega) (by rw [if_neg (by decide), e0]; omega)) (.cons (.rng 6 1 5 a1 (by rw [if_neg (by decide), e1]; omega) (by rw [if_neg (by decide), e1]; omega)) (.cons (.cls 16 k2 a2 e2) (.nil _))))
            · rcases Nat.lt_or_ge k0 6 with h | h
              · exact go _ (isTs_at r_5_1 k2 g2) (.cons (.rng 120 5 5 a0 (by rw [if_neg (by decide), e0]; omega) (by rw [if_neg (by decide), e0]; omega)) (.cons (.rng 6 1 5 a1 (by rw [if_neg (by decide), e1]; omega) (by rw [if_neg (by decide), e1]; omega)) (.cons (.cls 16 k2 a2 e2) (.nil _))))
              · rcases Nat.lt_or_ge k0 7 with h | h
                · exact go _ (isTs_at r_6_1 k2 g2) (.cons (.rng 120 6 6 a0 (by rw [if_neg (by decide), e0]; omega) (by rw [if_neg (by decide), e0]; omega)) (.cons (.rng 6 1 5 a1 (by rw [if_neg (by decide), e1]; omega) (by rw [if_neg (by decide), e1]; omega)) (.cons (.cls 16 k2 a2 e2) (.nil _))))
                · rcases Nat.lt_or_ge k0 8 with h | h
                  · exact go _ (isTs_at r_7_1 k2 g2) (.cons (.rng 120 7 7 a0 (by rw [if_neg (by decide), e0]; omega) (by rw [if_neg (by decide), e0]; omega)) (.cons (.rng 6 1 5 a1 (by rw [if_neg (by decide), e1]; omega) (by rw [if_neg (by decide), e1]; omega)) (.cons (.cls 16 k2 a2 e2) (.nil _))))
                  · rcases Nat.lt_or_ge k1 2 with h | h
                    · exact go _ (isTs_at r_8_1 k2 g2) (.cons (.rng 120 8 119 a0 (by rw [if_neg (by decide), e0]; omega) (by rw [if_neg (by decide), e0]; omega)) (.cons (.rng 6 1 1 a1 (by rw [if_neg (by decide), e1]; omega) (by rw [if_neg (by decide), e1]; omega)) (.cons (.cls 16 k2 a2 e2) (.nil _))))
                    · rcases Nat.lt_or_ge k0 9 with h | h
                      · exact go _ (isTs_at r_8_2 k2 g2) (.cons (.rng 120 8 8 a0 (by rw [if_neg (by decide), e0]; omega) (by rw [if_neg (by decide), e0]; omega)) (.cons (.rng 6 2 5 a1 (by rw [if_neg (by decide), e1]; omega) (by rw [if_neg (by decide), e1]; omega)) (.cons (.cls 16 k2 a2 e2) (.nil _))))
                      · rcases Nat.lt_or_ge k0 10 with h | h
                        · exact go _ (isTs_at r_9_2 k2 g2) (.cons (.rng 120 9 9 a0 (by rw [if_neg (by decide), e0]; omega) (by rw [if_neg (by decide), e0]; omega)) (.cons (.rng 6 2 5 a1 (by rw [if_neg (by decide), e1]; omega) (by rw [if_neg (by decide), e1]; omega)) (.cons (.cls 16 k2 a2 e2) (.nil _))))
                        · rcases Nat.lt_or_ge k0 11 with h | h
                          · exact go _ (isTs_at r_10_2 k2 g2) (.cons (.rng 120 10 10 a0 (by rw [if_neg (by decide), e0]; omega) (by rw [if_neg (by decide), e0]; omega)) (.cons (.rng 6 2 5 a1 (by rw [if_neg (by decide), e1]; omega) (by rw [if_neg (by decide), e1]; omega)) (.cons (.cls 16 k2 a2 e2) (.nil _))))
                          · rcases Nat.lt_or_ge k0 12 with h | h
                            · exact go _ (isTs_at r_11_2 k2 g2) (.cons (.rng 120 11 11 a0 (by rw [if_neg (by decide), e0]; omega) (by rw [if_neg (by decide), e0]; omega)) (.cons (.rng 6 2 5 a1 (by rw [if_neg (by decide), e1]; omega) (by rw [if_neg (by decide), e1]; omega)) (.cons (.cls 16 k2 a2 e2) (.nil _))))
                            · rcases Nat.lt_or_ge k0 13 with h | h
                              · exact go _ (isTs_at r_12_2 k2 g2) (.cons (.rng 120 12 12 a0 (by rw [if_neg (by decide), e0]; omega) (by rw [if_neg (by decide), e0]; omega)) (.cons (.rng 6 2 5 a1 (by rw [if_neg (by decide), e1]; omega) (by rw [if_neg (by decide), e1]; omega)) (.cons (.cls 16 k2 a2 e2) (.nil _))))
                              · rcases Nat.lt_or_ge k0 14 with h | h
                                · exact go _ (isTs_at r_13_2 k2 g2) (.cons (.rng 120 13 13 a0 (by rw [if_neg (by decide), e0]; omega) (by rw [if_neg (by decide), e0]; omega)) (.cons (.rng 6 2 5 a1 (by rw [if_neg (by decide), e1]; omega) (by rw [if_neg (by decide), e1]; omega)) (.cons (.cls 16 k2 a2 e2) (.nil _))))
                                · rcases Nat.lt_or_ge k0 15 with h | h
                                  · exact go _ (isTs_at r_14_2 k2 g2) (.cons (.rng 120 14 14 a0 (by rw [if_neg (by decide), e0]; omega) (by rw [if_neg (by decide), e0]; omega)) (.cons (.rng 6 2 5 a1 (by rw [if_neg (by decide), e1]; omega) (by rw [if_neg (by decide), e1]; omega)) (.cons (.cls 16 k2 a2 e2) (.nil _))))
                                  · rcases Nat.lt_or_ge k1 3 with h | h
                                    · exact go _ (isTs_at r_15_2 k2 g2) (.cons (.rng 120 15 119 a0 (by rw [if_neg (by decide), e0]; omega) (by rw [if_neg (by decide), e0]; omega)) (.cons (.rng 6 2 2 a1 (by rw [if_neg (by decide), e1]; omega) (by rw [if_neg (by decide), e1]; omega)) (.cons (.cls 16 k2 a2 e2) (.nil _))))
                                    · rcases Nat.lt_or_ge k0 16 with h | h
                                      · exact go _ (isTs_at r_15_3 k2 g2) (.cons (.rng 120 15 15 a0 (by rw [if_neg (by decide), e0]; omega) (by rw [if_neg (by decide), e0]; omega)) (.cons (.rng 6 3 5 a1 (by rw [if_neg (by decide), e1]; omega) (by rw [if_neg (by decide), e1]; omega)) (.cons (.cls 16 k2 a2 e2) (.nil _))))
                                      · rcases Nat.lt_or_ge k0 17 with h | h
                                        · exact go _ (isTs_at r_16_3 k2 g2) (.cons (.rng 120 16 16 a0 (by rw [if_neg (by decide), e0]; omega) (by rw [if_neg (by decide), e0]; omega)) (.cons (.rng 6 3 5 a1 (by rw [if_neg (by decide), e1]; omega) (by rw [if_neg (by decide), e1]; omega)) (.cons (.cls 16 k2 a2 e2) (.nil _))))
                                        · rcases Nat.lt_or_ge k0 18 with h | h
                                          · exact go _ (isTs_at r_17_3 k2 g2) (.cons (.rng 120 17 17 a0 (by rw [if_neg (by decide), e0]; omega) (by rw [if_neg (by decide), e0]; omega)) (.cons (.rng 6 3 5 a1 (by rw [if_neg (by decide), e1]; omega) (by rw [if_neg (by decide), e1]; omega)) (.cons (.cls 16 k2 a2 e2) (.nil _))))
                                          · rcases Nat.lt_or_ge k0 19 with h | h
                                            · exact go _ (isTs_at r_18_3 k2 g2) (.cons (.rng 120 18 18 a0 (by rw [if_neg (by decide), e0]; omega) (by rw [if_neg (by decide), e0]; omega)) (.cons (.rng 6 3 5 a1 (by rw [if_neg (by decide), e1]; omega) (by rw [if_neg (by decide), e1]; omega)) (.cons (.cls 16 k2 a2 e2) (.nil _))))
                                            · rcases Nat.lt_or_ge k0 20 with h | h
                                              · exact go _ (isTs_at r_19_3 k2 g2) (.cons (.rng 120 19 19 a0 (by rw [if_neg (by decide), e0]; omega) (by rw [if_neg (by decide), e0]; omega)) (.cons (.rng 6 3 5 a1 (by rw [if_neg (by decide), e1]; omega) (by rw [if_neg (by decide), e1]; omega)) (.cons (.cls 16 k2 a2 e2) (.nil _))))
                                              · rcases Nat.lt_or_ge k0 21 with h | h
                                                · exact go _ (isTs_at r_20_3 k2 g2) (.cons (.rng 120 20 20 a0 (by rw [if_neg (by decide), e0]; omega) (by rw [if_neg (by decide), e0]; omega)) (.cons (.rng 6 3 5 a1 (by rw [if_neg (by decide), e1]; omega) (by rw [if_neg (by decide), e1]; omega)) (.cons (.cls 16 k2 a2 e2) (.nil _))))
                                                · rcases Nat.lt_or_ge k0 22 with h | h
                                                  · exact go _ (isTs_at r_21_3 k2 g2) (.cons (.rng 120 21 21 a0 (by rw [if_neg (by decide), e0]; omega) (by rw [if_neg (by decide), e0]; omega)) (.cons (.rng 6 3 5 a1 (by rw [if_neg (by decide), e1]; omega) (by rw [if_neg (by decide), e1]; omega)) (.cons (.cls 16 k2 a2 e2) (.nil _))))
                                                  · rcases Nat.lt_or_ge k0 23 with h | h
                                                    · exact go _ (isTs_at r_22_3 k2 g2) (.cons (.rng 120 22 22 a0 (by rw [if_neg (by decide), e0]; omega) (by rw [if_neg (by decide), e0]; omega)) (.cons (.rng 6 3 5 a1 (by rw [if_neg (by decide), e1]; omega) (by rw [if_neg (by decide), e1]; omega)) (.cons (.cls 16 k2 a2 e2) (.nil _))))
                                                    · rcases Nat.lt_or_ge k0 24 with h | h
                                                      · exact go _ (isTs_at r_23_3 k2 g2) (.cons (.rng 120 23 23 a0 (by rw [if_neg (by decide), e0]; omega) (by rw [if_neg (by decide), e0]; omega)) (.cons (.rng 6 3 5 a1 (by rw [if_neg (by decide), e1]; omega) (by rw [if_neg (by decide), e1]; omega)) (.cons (.cls 16 k2 a2 e2) (.nil _))))
                                                      · rcases Nat.lt_or_ge k0 25 with h | h
                                                        · exact go _ (isTs_at r_24_3 k2 g2) (.cons (.rng 120 24 24 a0 (by rw [if_neg (by decide), e0]; omega) (by rw [if_neg (by decide), e0]; omega)) (.cons (.rng 6 3 5 a1 (by rw [if_neg (by decide), e1]; omega) (by rw [if_neg (by decide), e1]; omega)) (.cons (.cls 16 k2 a2 e2) (.nil _))))
                                                        · rcases Nat.lt_or_ge k0 26 with h | h
                                                          · exact go _ (isTs_at r_25_3 k2 g2) (.cons (.rng 120 25 25 a0 (by rw [if_neg (by decide), e0]; omega) (by rw [if_neg (by decide), e0]; omega)) (.cons (.rng 6 3 5 a1 (by rw [if_neg (by decide), e1]; omega) (by rw [if_neg (by decide), e1]; omega)) (.cons (.cls 16 k2 a2 e2) (.nil _))))
                                                          · rcases Nat.lt_or_ge k0 27 with h | h
                                                            · exact go _ (isTs_at r_26_3 k2 g2) (.cons (.rng 120 26 26 a0 (by rw [if_neg (by decide), e0]; omega) (by rw [if_neg (by decide), e0]; omega)) (.cons (.rng 6 3 5 a1 (by rw [if_neg (by decide), e1]; omega) (by rw [if_neg (by decide), e1]; omega)) (.cons (.cls 16 k2 a2 e2) (.nil _))))
                                                            · rcases Nat.lt_or_ge k0 28 with h | h
                                                              · exact go _ (isTs_at r_27_3 k2 g2) (.cons (.rng 120 27 27 a0 (by rw [if_neg (by decide), e0]; omega) (by rw [if_neg (by decide), e0]; omega)) (.cons (.rng 6 3 5 a1 (by rw [if_neg (by decide), e1]; omega) (by rw [if_neg (by decide), e1]; omega)) (.cons (.cls 16 k2 a2 e2) (.nil _))))
                                                              · rcases Nat.lt_or_ge k0 29 with h | h
                                                                · exact go _ (isTs_at r_28_3 k2 g2) (.cons (.rng 120 28 28 a0 (by rw [if_neg (by decide), e0]; omega) (by rw [if_neg (by decide), e0]; omega)) (.cons (.rng 6 3 5 a1 (by rw [if_neg (by decide), e1]; omega) (by rw [if_neg (by decide), e1]; omega)) (.cons (.cls 16 k2 a2 e2) (.nil _))))
                                                                · rcases Nat.lt_or_ge k0 30 with h | h
                                                                  · exact go _ (isTs_at r_29_3 k2 g2) (.cons (.rng 120 29 29 a0 (by rw [if_neg (by decide), e0]; omega) (by rw [if_neg (by decide), e0]; omega)) (.cons (.rng 6 3 5 a1 (by rw [if_neg (by decide), e1]; omega) (by rw [if_neg (by decide), e1]; omega)) (.cons (.cls 16 k2 a2 e2) (.nil _))))
                                                                  · rcases Nat.lt_or_ge k0 31 with h | h
                                                                    · exact go _ (isTs_at r_30_3 k2 g2) (.cons (.rng 120 30 30 a0 (by rw [if_neg (by decide), e0]; omega) (by rw [if_neg (by decide), e0]; omega)) (.cons (.rng 6 3 5 a1 (by rw [if_neg (by decide), e1]; omega) (by rw [if_neg (by decide), e1]; omega)) (.cons (.cls 16 k2 a2 e2) (.nil _))))
                                                                    · exact go _ (isTs_at r_31_3 k2 g2) (.cons (.rng 120 31 119 a0 (by rw [if_neg (by decide), e0]; omega) (by rw [if_neg (by decide), e0]; omega)) (.cons (.rng 6 3 5 a1 (by rw [if_neg (by decide), e1]; omega) (by rw [if_neg (by decide), e1]; omega)) (.cons (.cls 16 k2 a2 e2) (.nil _))))

set_option maxRecDepth 100000 in
theorem lifted (os : Os) (started : os.Started) (H : Type) (enc : TypeId × Value → H) :
    ReturnsInHanded {} Tryz.checked os 5 .any (fun w args => (Rows.vmStepsSpec.pre enc Tryz.prog Tryz.f5 [] false w args ∧ laidMetH Tryz.prog Rows.vmStepsRow.laid w) ∧ sizedMet enc Tryz.prog Tryz.f5 (OpenSpec.ofChange Rows.vmStepsSpec) false w args)
      (Rows.vmStepsSpec.post enc Tryz.prog Tryz.f5 false true false false) := by
  refine handed_of (C := Tryz.checked) (X := fun w _ => laidMetH Tryz.prog Rows.vmStepsRow.laid w) (fun _ _ _ hh h => h.of_heap hh) own started (by kernel_rfl) Tryz.func5
    (ChangeSpec.witness_shaped (enc := enc) (C := Tryz.checked) (os := os) (X := fun w _ => laidMetH Tryz.prog Rows.vmStepsRow.laid w) false (World.laidAll Tryz.prog os Rows.vmStepsRow.laid) #[.int .i64 0, .int .i64 0, .int .i64 0] 8 (World.laidAll_os _ _ _)
      (World.shaped_of_ZipB (by kernel_rfl) (by kernel_rfl)) (by kernel_rfl) (by kernel_rfl) (by kernel_rfl)
      (by rw [MakeChecks.laidMetH_plain _ _ _ (by kernel_rfl)]; exact laidMet_laidAll _ (by kernel_rfl) (by kernel_rfl))) ?_
  intro W base args ds gs before hval0 hW hL hsh
  have hval : ∀ (j : Nat) t v, Tryz.f5.params[j]? = some t → args[j]? = some v → Value.okWide Tryz.prog W .any base t v := hval0
  have hW' := hW
  obtain ⟨p, q, hA0, hV, rfl, _, _⟩ := hW
  have hA : DataW.TrodAll enc Tryz.prog W 0 (fun _ => true) true Tryz.f5.params.toList args.toList ds p := hA0
  rw [Tryz.params5] at hA hval
  obtain ⟨v0, vs0, d0, ds0, p0, q0, hargs, rfl, rfl, h0, r0⟩ := trodAll_cons hA
  obtain ⟨v1, vs1, d1, ds1, p1, q1, rfl, rfl, rfl, h1, r1⟩ := trodAll_cons r0
  obtain ⟨v2, vs2, d2, ds2, p2, q2, rfl, rfl, rfl, h2, r2⟩ := trodAll_cons r1
  obtain ⟨rfl, rfl, rfl⟩ := trodAll_nil r2
  obtain rfl : args = #[v0, v1, v2] := by cases args; simp_all
  obtain ⟨rfl, rfl⟩ := trodVars_none hV
  obtain ⟨a0, rfl, rfl, rfl, w0⟩ := open_int Tryz.underlying3 (hval 0 3 v0 rfl rfl) h0
  obtain ⟨a1, rfl, rfl, rfl, w1⟩ := open_int Tryz.underlying3 (hval 1 3 v1 rfl rfl) h1
  obtain ⟨a2, rfl, rfl, rfl, w2⟩ := open_int Tryz.underlying3 (hval 2 3 v2 rfl rfl) h2
  clear hA0 hval0
  simp only [List.append_nil] at hW'
  obtain ⟨m, hm⟩ := maxLen_cell hsh
  refine (walk a0 a1 a2 W hm (pow_laid hL (by kernel_rfl))).mono fun e W' ⟨he, hb⟩ => ?_
  subst he
  exact ⟨_, rfl, _, _, _, [], [], [], hW', trodAll_mk1 (shut_bool Tryz.underlying4 _), trodAll_cons_mk (shut_int Tryz.underlying3 w0) (trodAll_cons_mk (shut_int Tryz.underlying3 w1) (trodAll_mk1 (shut_int Tryz.underlying3 w2))), rfl, hb.frame _, fun h => by cases h⟩

theorem closed : joinedFacts Tryz.pinned.checked.prog 5 Tryz.f5 Rows.vmStepsSpec Rows.vmStepsRow = true := by
  show joinedFacts Tryz.prog 5 Tryz.f5 Rows.vmStepsSpec Rows.vmStepsRow = true
  unfold joinedFacts
  rw [fact1, fact2, fact3, fact4, fact_laidOut, fact_mapsRowed, fact_mayEnter, fact_stopsHeard, fact_lifts, fact_make]
  kernel_rfl

theorem said : Rows.VmStepsSaid :=
  OpenClaim.holds_of_wide 5 Tryz.f5 rfl rfl rfl rfl rfl rfl rfl ⟨rfl, rfl, rfl, rfl, rfl⟩ rfl rfl rfl rfl rfl (by kernel_rfl) Tryz.func5 closed
    (of_decide_eq_true (by kernel_rfl)) (by unfold Func.isWrapper; first | (rw [if_pos (by decide +kernel)]; kernel_rfl) | (rw [if_neg (by decide +kernel)]; exact ⟨rfl, rfl⟩))
    (fun os started H enc _ => lifted os started H enc)

theorem plain (f : FuncId) (fn : Func) (hf : Tryz.pinned.checked.prog.funcNamed "sprue/spruelaw20.VmSteps" = some f) (hfn : Tryz.pinned.checked.prog.funcs[f]? = some fn) :
    false = Tryz.pinned.checked.prog.looks [] ∧ ∀ (j : Nat) t, fn.params[j]? = some t → Tryz.pinned.checked.prog.wantsStandIn t = false := by
  obtain rfl : f = 5 := Option.some.inj ((show Tryz.prog.funcNamed "sprue/spruelaw20.VmSteps" = some 5 by kernel_rfl).symm.trans hf) |>.symm
  obtain rfl : fn = Tryz.f5 := (Option.some.inj (Tryz.func5.symm.trans hfn)).symm
  refine ⟨by kernel_rfl, fun j t ht => ?_⟩
  rw [Tryz.params5] at ht
  have hm : t ∈ [3, 3, 3] := by simpa using Array.mem_of_getElem? ht
  have hall : ([3, 3, 3].all fun u => !Tryz.prog.wantsStandIn u) = true := by kernel_rfl
  exact (show Tryz.prog.wantsStandIn t = false by simpa using List.all_eq_true.1 hall t hm)

/-- THE CARD. -/
theorem card : Rows.VmStepsCardSaid :=
  Claim7.holds_tied_plain_at .later [] _ _ _ _ said (fun _ h => by cases h) (by kernel_rfl) (fun _ h => by cases h) ti_vmSteps rfl ⟨rfl, rfl⟩ (by kernel_rfl) rfl plain (goesBy_no rfl)
end Go.Proofs.YtnjonnilpfenfaaGreatDoor.VmSteps

namespace Go.Proofs.YtnjonnilpfenfaaGreatDoor
/-- THE STATEMENT. -/
theorem vmSteps_card : Rows.VmStepsCardSaid := VmSteps.card
end Go.Proofs.YtnjonnilpfenfaaGreatDoor
