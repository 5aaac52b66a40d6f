/- 'spruelaw20.VmWrites': for all arguments the law's call returns true: the tied card. Conditions: the row's own (the listed package-level variables, tied to the program's text). -/
import Derived.Test.YtnjonnilpfenfaaGreatDoorLw
import Derived.Test.YtnjonnilpfenfaaGreatDoorTi
import Derived.Test.YtnjonnilpfenfaaGreatDoorVwS
import Derived.Test.YtnjonnilpfenfaaGreatDoorVwR0
import Derived.Test.YtnjonnilpfenfaaGreatDoorVwR1
import Derived.Test.YtnjonnilpfenfaaGreatDoorVwR2
import Derived.Test.YtnjonnilpfenfaaGreatDoorVwR3
import Derived.Test.YtnjonnilpfenfaaGreatDoorVwR4
import Derived.Test.YtnjonnilpfenfaaGreatDoorVwR5
import Derived.Test.YtnjonnilpfenfaaGreatDoorVwR6
import Derived.Test.YtnjonnilpfenfaaGreatDoorVwR7
import Derived.Test.YtnjonnilpfenfaaGreatDoorFact
import Derived.Test.YtnjonnilpfenfaaGreatDoorVwFact
open Go.Ab
namespace Go.Proofs.YtnjonnilpfenfaaGreatDoor.VmWrites
open Go.ChangeShapes Go.WideShapes Go.ChangeAt Go.RowKit

theorem hname : Tryz.f4.name ≠ "runtime.NumGoroutine" := by
  intro h
  have : (Tryz.f4.name == "runtime.NumGoroutine") = false := by kernel_rfl
  rw [h] at this
  exact absurd this (by decide)
theorem hbody : ∃ c, Tryz.f4.body = some c := Option.isSome_iff_exists.1 (by kernel_rfl)

theorem walk (a0 : Int) (a1 : Int) (W : World) {m : Int} (hm : W.cell? ⟨0, 0, none⟩ = some (.int .i64 m)) (ht : Pow W) :
    Calls Tryz.prog 4 #[.int .i64 a0, .int .i64 a1] W fun e w' => e = .returned (.bool true) ∧ Below W.heap.size W w' := by
  obtain ⟨c, hb⟩ := hbody
  have go : ∀ args, isT (run tab1 300 4 args H0) = true → VRs mu0 args [.int .i64 a0, .int .i64 a1] → Calls Tryz.prog 4 #[.int .i64 a0, .int .i64 a1] W fun e w' => e = .returned (.bool true) ∧ Below W.heap.size W w' :=
    fun args hr ha => calls_of_run Tryz.func4 hname hb tab1_ok hr hm ht (sp1_ok hm ht) (args' := #[.int .i64 a0, .int .i64 a1]) ha
  obtain ⟨k0, g0, e0⟩ : ∃ k : Nat, k < 40 ∧ a0 % (40 : Nat) = (k : Int) := ⟨(a0 % 40).toNat, by omega, by omega⟩
  replace g0 : k0 = 0 ∨ k0 = 1 ∨ k0 = 2 ∨ k0 = 3 ∨ k0 = 4 ∨ k0 = 5 ∨ k0 = 6 ∨ k0 = 7 ∨ k0 = 8 ∨ k0 = 9 ∨ k0 = 10 ∨ k0 = 11 ∨ k0 = 12 ∨ k0 = 13 ∨ k0 = 14 ∨ k0 = 15 ∨ k0 = 16 ∨ k0 = 17 ∨ k0 = 18 ∨ k0 = 19 ∨ k0 = 20 ∨ k0 = 21 ∨ k0 = 22 ∨ k0 = 23 ∨ k0 = 24 ∨ k0 = 25 ∨ k0 = 26 ∨ k0 = 27 ∨ k0 = 28 ∨ k0 = 29 ∨ k0 = 30 ∨ k0 = 31 ∨ k0 = 32 ∨ k0 = 33 ∨ k0 = 34 ∨ k0 = 35 ∨ k0 = 36 ∨ k0 = 37 ∨ k0 = 38 ∨ k0 = 39 := by omega
  obtain ⟨k1, g1, e1⟩ : ∃ k : Nat, k < 16 ∧ a1 % (16 : Nat) = (k : Int) := ⟨(a1 % 16).toNat, by omega, by omega⟩
  rcases g0 with rfl | rfl | rfl | rfl | rfl | rfl | rfl | rfl | rfl | rfl | rfl | rfl | rfl | rfl | rfl | rfl | rfl | rfl | rfl | rfl | rfl | rfl | rfl | rfl | rfl | rfl | rfl | rfl | rfl | rfl | rfl | rfl | rfl | rfl | rfl | rfl | rfl | rfl | rfl | rfl
  · exact go _ (isTs_at r_0 k1 g1) (.cons (.cls 40 0 a0 e0) (.cons (.cls 16 k1 a1 e1) (.nil _)))
  · exact go _ (isTs_at r_1 k1 g1) (.cons (.cls 40 1 a0 e0) (.cons (.cls 16 k1 a1 e1) (.nil _)))
  · exact go _ (isTs_at r_2 k1 g1) (.cons (.cls 40 2 a0 e0) (.cons (.cls 16 k1 a1 e1) (.nil _)))
  · exact go _ (isTs_at r_3 k1 g1) (.cons (.cls 40 3 a0 e0) (.cons (.cls 16 k1 a1 e1) (.nil _)))
  · exact go _ (isTs_at r_4 k1 g1) (.cons (.cls 40 4 a0 e0) (.cons (.cls 16 k1 a1 e1) (.nil _)))
  · exact go _ (isTs_at r_5 k1 g1) (.cons (.cls 40 5 a0 e0) (.cons (.cls 16 k1 a1 e1) (.nil _)))
  · exact go _ (isTs_at r_6 k1 g1) (.cons (.cls 40 6 a0 e0) (.cons (.cls 16 k1 a1 e1) (.nil _)))
  · exact go _ (isTs_at r_7 k1 g1) (.cons (.cls 40 7 a0 e0) (.cons (.cls 16 k1 a1 e1) (.nil _)))
  · exact go _ (isTs_at r_8 k1 g1) (.cons (.cls 40 8 a0 e0) (.cons (.cls 16 k1 a1 e1) (.nil _)))
  · exact go _ (isTs_at r_9 k1 g1) (.cons (.cls 40 9 a0 e0) (.cons (.cls 16 k1 a1 e1) (.nil _)))
  · exact go _ (isTs_at r_10 k1 g1) (.cons (.cls 40 10 a0 e0) (.cons (.cls 16 k1 a1 e1) (.nil _)))
  · exact go _ (isTs_at r_11 k1 g1) (.cons (.cls 40 11 a0 e0) (.cons (.cls 16 k1 a1 e1) (.nil _)))
  · exact go _ (isTs_at r_12 k1 g1) (.cons (.cls 40 12 a0 e0) (.cons (.cls 16 k1 a1 e1) (.nil _)))
  · exact go _ (isTs_at r_13 k1 g1) (.cons (.cls 40 13 a0 e0) (.cons (.cls 16 k1 a1 e1) (.nil _)))
  · exact go _ (isTs_at r_14 k1 g1) (.cons (.cls 40 14 a0 e0) (.cons (.cls 16 k1 a1 e1) (.nil _)))
  · exact go _ (isTs_at r_15 k1 g1) (.cons (.cls 40 15 a0 e0) (.cons (.cls 16 k1 a1 e1) (.nil _)))
  · exact go _ (isTs_at r_16 k1 g1) (.cons (.cls 40 16 a0 e0) (.cons (.cls 16 k1 a1 e1) (.nil _)))
  · exact go _ (isTs_at r_17 k1 g1) (.cons (.cls 40 17 a0 e0) (.cons (.cls 16 k1 a1 e1) (.nil _)))
  · exact go _ (isTs_at r_18 k1 g1) (.cons (.cls 40 18 a0 e0) (.cons (.cls 16 k1 a1 e1) (.nil _)))
  · exact go _ (isTs_at r_19 k1 g1) (.cons (.cls 40 19 a0 e0) (.cons (.cls 16 k1 a1 e1) (.nil _)))
  · exact go _ (isTs_at r_20 k1 g1) (.cons (.cls 40 20 a0 e0) (.cons (.cls 16 k1 a1 e1) (.nil _)))
  · exact go _ (isTs_at r_21 k1 g1) (.cons (.cls 40 21 a0 e0) (.cons (.cls 16 k1 a1 e1) (.nil _)))
  · exact go _ (isTs_at r_22 k1 g1) (.cons (.cls 40 22 a0 e0) (.cons (.cls 16 k1 a1 e1) (.nil _)))
  · exact go _ (isTs_at r_23 k1 g1) (.cons (.cls 40 23 a0 e0) (.cons (.cls 16 k1 a1 e1) (.nil _)))
  · exact go _ (isTs_at r_24 k1 g1) (.cons (.cls 40 24 a0 e0) (.cons (.cls 16 k1 a1 e1) (.nil _)))
  · exact go _ (isTs_at r_25 k1 g1) (.cons (.cls 40 25 a0 e0) (.cons (.cls 16 k1 a1 e1) (.nil _)))
  · exact go _ (isTs_at r_26 k1 g1) (.cons (.cls 40 26 a0 e0) (.cons (.cls 16 k1 a1 e1) (.nil _)))
  · exact go _ (isTs_at r_27 k1 g1) (.cons (.cls 40 27 a0 e0) (.cons (.cls 16 k1 a1 e1) (.nil _)))
  · exact go _ (isTs_at r_28 k1 g1) (.cons (.cls 40 28 a0 e0) (.cons (.cls 16 k1 a1 e1) (.nil _)))
  · exact go _ (isTs_at r_29 k1 g1) (.cons (.cls 40 29 a0 e0) (.cons (.cls 16 k1 a1 e1) (.nil _)))
  · exact go _ (isTs_at r_30 k1 g1) (.cons (.cls 40 30 a0 e0) (.cons (.cls 16 k1 a1 e1) (.nil _)))
  · exact go _ (isTs_at r_31 k1 g1) (.cons (.cls 40 31 a0 e0) (.cons (.cls 16 k1 a1 e1) (.nil _)))
  · exact go _ (isTs_at r_32 k1 g1) (.cons (.cls 40 32 a0 e0) (.cons (.cls 16 k1 a1 e1) (.nil _)))
  · exact go _ (isTs_at r_33 k1 g1) (.cons (.cls 40 33 a0 e0) (.cons (.cls 16 k1 a1 e1) (.nil _)))
  · exact go _ (isTs_at r_34 k1 g1) (.cons (.cls 40 34 a0 e0) (.cons (.cls 16 k1 a1 e1) (.nil _)))
  · exact go _ (isTs_at r_35 k1 g1) (.cons (.cls 40 35 a0 e0) (.cons (.cls 16 k1 a1 e1) (.nil _)))
  · exact go _ (isTs_at r_36 k1 g1) (.cons (.cls 40 36 a0 e0) (.cons (.cls 16 k1 a1 e1) (.nil _)))
  · exact go _ (isTs_at r_37 k1 g1) (.cons (.cls 40 37 a0 e0) (.cons (.cls 16 k1 a1 e1) (.nil _)))
  · exact go _ (isTs_at r_38 k1 g1) (.cons (.cls 40 38 a0 e0) (.cons (.cls 16 k1 a1 e1) (.nil _)))
  · exact go _ (isTs_at r_39 k1 g1) (.cons (.cls 40 39 a0 e0) (.cons (.cls 16 k1 a1 e1) (.nil _)))

set_option maxRecDepth 100000 in
theorem lifted (os : Os) (started : os.Started) (H : Type) (enc : TypeId × Value → H) :
    ReturnsInHanded {} Tryz.checked os 4 .any (fun w args => (Rows.vmWritesSpec.pre enc Tryz.prog Tryz.f4 [] false w args ∧ laidMetH Tryz.prog Rows.vmWritesRow.laid w) ∧ sizedMet enc Tryz.prog Tryz.f4 (OpenSpec.ofChange Rows.vmWritesSpec) false w args)
      (Rows.vmWritesSpec.post enc Tryz.prog Tryz.f4 false true false false) := by
  refine handed_of (C := Tryz.checked) (X := fun w _ => laidMetH Tryz.prog Rows.vmWritesRow.laid w) (fun _ _ _ hh h => h.of_heap hh) own started (by kernel_rfl) Tryz.func4
    (ChangeSpec.witness_shaped (enc := enc) (C := Tryz.checked) (os := os) (X := fun w _ => laidMetH Tryz.prog Rows.vmWritesRow.laid w) false (World.laidAll Tryz.prog os Rows.vmWritesRow.laid) #[.int .i64 0, .int .i64 0] 8 (World.laidAll_os _ _ _)
      (World.shaped_of_ZipB (by kernel_rfl) (by kernel_rfl)) (by kernel_rfl) (by kernel_rfl) (by kernel_rfl)
      (by rw [MakeChecks.laidMetH_plain _ _ _ (by kernel_rfl)]; exact laidMet_laidAll _ (by kernel_rfl) (by kernel_rfl))) ?_
  intro W base args ds gs before hval0 hW hL hsh
  have hval : ∀ (j : Nat) t v, Tryz.f4.params[j]? = some t → args[j]? = some v → Value.okWide Tryz.prog W .any base t v := hval0
  have hW' := hW
  obtain ⟨p, q, hA0, hV, rfl, _, _⟩ := hW
  have hA : DataW.TrodAll enc Tryz.prog W 0 (fun _ => true) true Tryz.f4.params.toList args.toList ds p := hA0
  rw [Tryz.params4] at hA hval
  obtain ⟨v0, vs0, d0, ds0, p0, q0, hargs, rfl, rfl, h0, r0⟩ := trodAll_cons hA
  obtain ⟨v1, vs1, d1, ds1, p1, q1, rfl, rfl, rfl, h1, r1⟩ := trodAll_cons r0
  obtain ⟨rfl, rfl, rfl⟩ := trodAll_nil r1
  obtain rfl : args = #[v0, v1] := by cases args; simp_all
  obtain ⟨rfl, rfl⟩ := trodVars_none hV
  obtain ⟨a0, rfl, rfl, rfl, w0⟩ := open_int Tryz.underlying3 (hval 0 3 v0 rfl rfl) h0
  obtain ⟨a1, rfl, rfl, rfl, w1⟩ := open_int Tryz.underlying3 (hval 1 3 v1 rfl rfl) h1
  clear hA0 hval0
  simp only [List.append_nil] at hW'
  obtain ⟨m, hm⟩ := maxLen_cell hsh
  refine (walk a0 a1 W hm (pow_laid hL (by kernel_rfl))).mono fun e W' ⟨he, hb⟩ => ?_
  subst he
  exact ⟨_, rfl, _, _, _, [], [], [], hW', trodAll_mk1 (shut_bool Tryz.underlying4 _), trodAll_cons_mk (shut_int Tryz.underlying3 w0) (trodAll_mk1 (shut_int Tryz.underlying3 w1)), rfl, hb.frame _, fun h => by cases h⟩

theorem closed : joinedFacts Tryz.pinned.checked.prog 4 Tryz.f4 Rows.vmWritesSpec Rows.vmWritesRow = true := by
  show joinedFacts Tryz.prog 4 Tryz.f4 Rows.vmWritesSpec Rows.vmWritesRow = true
  unfold joinedFacts
  rw [fact1, fact2, fact3, fact4, fact_laidOut, fact_mapsRowed, fact_mayEnter, fact_stopsHeard, fact_lifts, fact_make]
  kernel_rfl

theorem said : Rows.VmWritesSaid :=
  OpenClaim.holds_of_wide 4 Tryz.f4 rfl rfl rfl rfl rfl rfl rfl ⟨rfl, rfl, rfl, rfl, rfl⟩ rfl rfl rfl rfl rfl (by kernel_rfl) Tryz.func4 closed
    (of_decide_eq_true (by kernel_rfl)) (by unfold Func.isWrapper; first | (rw [if_pos (by decide +kernel)]; kernel_rfl) | (rw [if_neg (by decide +kernel)]; exact ⟨rfl, rfl⟩))
    (fun os started H enc _ => lifted os started H enc)

theorem plain (f : FuncId) (fn : Func) (hf : Tryz.pinned.checked.prog.funcNamed "sprue/spruelaw20.VmWrites" = some f) (hfn : Tryz.pinned.checked.prog.funcs[f]? = some fn) :
    false = Tryz.pinned.checked.prog.looks [] ∧ ∀ (j : Nat) t, fn.params[j]? = some t → Tryz.pinned.checked.prog.wantsStandIn t = false := by
  obtain rfl : f = 4 := Option.some.inj ((show Tryz.prog.funcNamed "sprue/spruelaw20.VmWrites" = some 4 by kernel_rfl).symm.trans hf) |>.symm
  obtain rfl : fn = Tryz.f4 := (Option.some.inj (Tryz.func4.symm.trans hfn)).symm
  refine ⟨by kernel_rfl, fun j t ht => ?_⟩
  rw [Tryz.params4] at ht
  have hm : t ∈ [3, 3] := by simpa using Array.mem_of_getElem? ht
  have hall : ([3, 3].all fun u => !Tryz.prog.wantsStandIn u) = true := by kernel_rfl
  exact (show Tryz.prog.wantsStandIn t = false by simpa using List.all_eq_true.1 hall t hm)

/-- THE CARD. -/
theorem card : Rows.VmWritesCardSaid :=
  Claim7.holds_tied_plain_at .later [] _ _ _ _ said (fun _ h => by cases h) (by kernel_rfl) (fun _ h => by cases h) ti_vmWrites rfl ⟨rfl, rfl⟩ (by kernel_rfl) rfl plain (goesBy_no rfl)
end Go.Proofs.YtnjonnilpfenfaaGreatDoor.VmWrites

namespace Go.Proofs.YtnjonnilpfenfaaGreatDoor
/-- THE STATEMENT. -/
theorem vmWrites_card : Rows.VmWritesCardSaid := VmWrites.card
end Go.Proofs.YtnjonnilpfenfaaGreatDoor
