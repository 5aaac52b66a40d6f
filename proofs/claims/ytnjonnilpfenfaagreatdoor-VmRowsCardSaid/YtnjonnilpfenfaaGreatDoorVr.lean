/- 'spruelaw20.VmRows': for all arguments the law's call returns true: the tied card. Conditions: the row's own (the listed package-level variables, tied to the program's text). -/
import Derived.Test.YtnjonnilpfenfaaGreatDoorLw
import Derived.Test.YtnjonnilpfenfaaGreatDoorTi
import Derived.Test.YtnjonnilpfenfaaGreatDoorVrS
import Derived.Test.YtnjonnilpfenfaaGreatDoorVrR0
import Derived.Test.YtnjonnilpfenfaaGreatDoorVrR1
import Derived.Test.YtnjonnilpfenfaaGreatDoorVrR2
import Derived.Test.YtnjonnilpfenfaaGreatDoorVrR3
import Derived.Test.YtnjonnilpfenfaaGreatDoorFact
import Derived.Test.YtnjonnilpfenfaaGreatDoorVrFact
open Go.Ab
namespace Go.Proofs.YtnjonnilpfenfaaGreatDoor.VmRows
open Go.ChangeShapes Go.WideShapes Go.ChangeAt Go.RowKit

theorem hname : Tryz.f3.name ≠ "runtime.NumGoroutine" := by
  intro h
  have : (Tryz.f3.name == "runtime.NumGoroutine") = false := by kernel_rfl
  rw [h] at this
  exact absurd this (by decide)
theorem hbody : ∃ c, Tryz.f3.body = some c := Option.isSome_iff_exists.1 (by kernel_rfl)

theorem walk (a0 : Int) (a1 : Int) (a2 : Bool) (W : World) {m : Int} (hm : W.cell? ⟨0, 0, none⟩ = some (.int .i64 m)) (ht : Pow W) :
    Calls Tryz.prog 3 #[.int .i64 a0, .int .i64 a1, .bool a2] W fun e w' => e = .returned (.bool true) ∧ Below W.heap.size W w' := by
  obtain ⟨c, hb⟩ := hbody
  have go : ∀ args, isT (run tab1 300 3 args H0) = true → VRs mu0 args [.int .i64 a0, .int .i64 a1, .bool a2] → Calls Tryz.prog 3 #[.int .i64 a0, .int .i64 a1, .bool a2] W fun e w' => e = .returned (.bool true) ∧ Below W.heap.size W w' :=
    fun args hr ha => calls_of_run Tryz.func3 hname hb tab1_ok hr hm ht (sp1_ok hm ht) (args' := #[.int .i64 a0, .int .i64 a1, .bool a2]) ha
  obtain ⟨k0, g0, e0⟩ : ∃ k : Nat, k < 18 ∧ a0 % (18 : Nat) = (k : Int) := ⟨(a0 % 18).toNat, by omega, by omega⟩
  replace g0 : k0 = 0 ∨ k0 = 1 ∨ k0 = 2 ∨ k0 = 3 ∨ k0 = 4 ∨ k0 = 5 ∨ k0 = 6 ∨ k0 = 7 ∨ k0 = 8 ∨ k0 = 9 ∨ k0 = 10 ∨ k0 = 11 ∨ k0 = 12 ∨ k0 = 13 ∨ k0 = 14 ∨ k0 = 15 ∨ k0 = 16 ∨ k0 = 17 := by omega
  obtain ⟨k1, g1, e1⟩ : ∃ k : Nat, k < 16 ∧ a1 % (16 : Nat) = (k : Int) := ⟨(a1 % 16).toNat, by omega, by omega⟩
  rcases g0 with rfl | rfl | rfl | rfl | rfl | rfl | rfl | rfl | rfl | rfl | rfl | rfl | rfl | rfl | rfl | rfl | rfl | rfl
  · rcases a2 with _ | _
    · exact go _ (isTs_at r_0_f k1 g1) (.cons (.cls 18 0 a0 e0) (.cons (.cls 16 k1 a1 e1) (.cons (.bool false) (.nil _))))
    · exact go _ (isTs_at r_0_t k1 g1) (.cons (.cls 18 0 a0 e0) (.cons (.cls 16 k1 a1 e1) (.cons (.bool true) (.nil _))))
  · rcases a2 with _ | _
    · exact go _ (isTs_at r_1_f k1 g1) (.cons (.cls 18 1 a0 e0) (.cons (.cls 16 k1 a1 e1) (.cons (.bool false) (.nil _))))
    · exact go _ (isTs_at r_1_t k1 g1) (.cons (.cls 18 1 a0 e0) (.cons (.cls 16 k1 a1 e1) (.cons (.bool true) (.nil _))))
  · rcases a2 with _ | _
    · exact go _ (isTs_at r_2_f k1 g1) (.cons (.cls 18 2 a0 e0) (.cons (.cls 16 k1 a1 e1) (.cons (.bool false) (.nil _))))
    · exact go _ (isTs_at r_2_t k1 g1) (.cons (.cls 18 2 a0 e0) (.cons (.cls 16 k1 a1 e1) (.cons (.bool true) (.nil _))))
  · rcases a2 with _ | _
    · exact go _ (isTs_at r_3_f k1 g1) (.cons (.cls 18 3 a0 e0) (.cons (.cls 16 k1 a1 e1) (.cons (.bool false) (.nil _))))
    · exact go _ (isTs_at r_3_t k1 g1) (.cons (.cls 18 3 a0 e0) (.cons (.cls 16 k1 a1 e1) (.cons (.bool true) (.nil _))))
  · rcases a2 with _ | _
    · exact go _ (isTs_at r_4_f k1 g1) (.cons (.cls 18 4 a0 e0) (.cons (.cls 16 k1 a1 e1) (.cons (.bool false) (.nil _))))
    · exact go _ (isTs_at r_4_t k1 g1) (.cons (.cls 18 4 a0 e0) (.cons (.cls 16 k1 a1 e1) (.cons (.bool true) (.nil _))))
  · rcases a2 with _ | _
    · exact go _ (isTs_at r_5_f k1 g1) (.cons (.cls 18 5 a0 e0) (.cons (.cls 16 k1 a1 e1) (.cons (.bool false) (.nil _))))
    · exact go _ (isTs_at r_5_t k1 g1) (.cons (.cls 18 5 a0 e0) (.cons (.cls 16 k1 a1 e1) (.cons (.bool true) (.nil _))))
  · rcases a2 with _ | _
    · exact go _ (isTs_at r_6_f k1 g1) (.cons (.cls 18 6 a0 e0) (.cons (.cls 16 k1 a1 e1) (.cons (.bool false) (.nil _))))
    · exact go _ (isTs_at r_6_t k1 g1) (.cons (.cls 18 6 a0 e0) (.cons (.cls 16 k1 a1 e1) (.cons (.bool true) (.nil _))))
  · rcases a2 with _ | _
    · exact go _ (isTs_at r_7_f k1 g1) (.cons (.cls 18 7 a0 e0) (.cons (.cls 16 k1 a1 e1) (.cons (.bool false) (.nil _))))
    · exact go _ (isTs_at r_7_t k1 g1) (.cons (.cls 18 7 a0 e0) (.cons (.cls 16 k1 a1 e1) (.cons (.bool true) (.nil _))))
  · rcases a2 with _ | _
    · exact go _ (isTs_at r_8_f k1 g1) (.cons (.cls 18 8 a0 e0) (.cons (.cls 16 k1 a1 e1) (.cons (.bool false) (.nil _))))
    · exact go _ (isTs_at r_8_t k1 g1) (.cons (.cls 18 8 a0 e0) (.cons (.cls 16 k1 a1 e1) (.cons (.bool true) (.nil _))))
  · rcases a2 with _ | _
    · exact go _ (isTs_at r_9_f k1 g1) (.cons (.cls 18 9 a0 e0) (.cons (.cls 16 k1 a1 e1) (.cons (.bool false) (.nil _))))
    · exact go _ (isTs_at r_9_t k1 g1) (.cons (.cls 18 9 a0 e0) (.cons (.cls 16 k1 a1 e1) (.cons (.bool true) (.nil _))))
  · rcases a2 with _ | _
    · exact go _ (isTs_at r_10_f k1 g1) (.cons (.cls 18 10 a0 e0) (.cons (.cls 16 k1 a1 e1) (.cons (.bool false) (.nil _))))
    · exact go _ (isTs_at r_10_t k1 g1) (.cons (.cls 18 10 a0 e0) (.cons (.cls 16 k1 a1 e1) (.cons (.bool true) (.nil _))))
  · rcases a2 with _ | _
    · exact go _ (isTs_at r_11_f k1 g1) (.cons (.cls 18 11 a0 e0) (.cons (.cls 16 k1 a1 e1) (.cons (.bool false) (.nil _))))
    · exact go _ (isTs_at r_11_t k1 g1) (.cons (.cls 18 11 a0 e0) (.cons (.cls 16 k1 a1 e1) (.cons (.bool true) (.nil _))))
  · rcases a2 with _ | _
    · exact go _ (isTs_at r_12_f k1 g1) (.cons (.cls 18 12 a0 e0) (.cons (.cls 16 k1 a1 e1) (.cons (.bool false) (.nil _))))
    · exact go _ (isTs_at r_12_t k1 g1) (.cons (.cls 18 12 a0 e0) (.cons (.cls 16 k1 a1 e1) (.cons (.bool true) (.nil _))))
  · rcases a2 with _ | _
    · exact go _ (isTs_at r_13_f k1 g1) (.cons (.cls 18 13 a0 e0) (.cons (.cls 16 k1 a1 e1) (.cons (.bool false) (.nil _))))
    · exact go _ (isTs_at r_13_t k1 g1) (.cons (.cls 18 13 a0 e0) (.cons (.cls 16 k1 a1 e1) (.cons (.bool true) (.nil _))))
  · rcases a2 with _ | _
    · exact go _ (isTs_at r_14_f k1 g1) (.cons (.cls 18 14 a0 e0) (.cons (.cls 16 k1 a1 e1) (.cons (.bool false) (.nil _))))
    · exact go _ (isTs_at r_14_t k1 g1) (.cons (.cls 18 14 a0 e0) (.cons (.cls 16 k1 a1 e1) (.cons (.bool true) (.nil _))))
  · rcases a2 with _ | _
    · exact go _ (isTs_at r_15_f k1 g1) (.cons (.cls 18 15 a0 e0) (.cons (.cls 16 k1 a1 e1) (.cons (.bool false) (.nil _))))
    · exact go _ (isTs_at r_15_t k1 g1) (.cons (.cls 18 15 a0 e0) (.cons (.cls 16 k1 a1 e1) (.cons (.bool true) (.nil _))))
  · rcases a2 with _ | _
    · exact go _ (isTs_at r_16_f k1 g1) (.cons (.cls 18 16 a0 e0) (.cons (.cls 16 k1 a1 e1) (.cons (.bool false) (.nil _))))
    · exact go _ (isTs_at r_16_t k1 g1) (.cons (.cls 18 16 a0 e0) (.cons (.cls 16 k1 a1 e1) (.cons (.bool true) (.nil _))))
  · rcases a2 with _ | _
    · exact go _ (isTs_at r_17_f k1 g1) (.cons (.cls 18 17 a0 e0) (.cons (.cls 16 k1 a1 e1) (.cons (.bool false) (.nil _))))
    · exact go _ (isTs_at r_17_t k1 g1) (.cons (.cls 18 17 a0 e0) (.cons (.cls 16 k1 a1 e1) (.cons (.bool true) (.nil _))))

set_option maxRecDepth 100000 in
theorem lifted (os : Os) (started : os.Started) (H : Type) (enc : TypeId × Value → H) :
    ReturnsInHanded {} Tryz.checked os 3 .any (fun w args => (Rows.vmRowsSpec.pre enc Tryz.prog Tryz.f3 [] false w args ∧ laidMetH Tryz.prog Rows.vmRowsRow.laid w) ∧ sizedMet enc Tryz.prog Tryz.f3 (OpenSpec.ofChange Rows.vmRowsSpec) false w args)
      (Rows.vmRowsSpec.post enc Tryz.prog Tryz.f3 false true false false) := by
  refine handed_of (C := Tryz.checked) (X := fun w _ => laidMetH Tryz.prog Rows.vmRowsRow.laid w) (fun _ _ _ hh h => h.of_heap hh) own started (by kernel_rfl) Tryz.func3
    (ChangeSpec.witness_shaped (enc := enc) (C := Tryz.checked) (os := os) (X := fun w _ => laidMetH Tryz.prog Rows.vmRowsRow.laid w) false (World.laidAll Tryz.prog os Rows.vmRowsRow.laid) #[.int .i64 0, .int .i64 0, .bool false] 8 (World.laidAll_os _ _ _)
      (World.shaped_of_ZipB (by kernel_rfl) (by kernel_rfl)) (by kernel_rfl) (by kernel_rfl) (by kernel_rfl)
      (by rw [MakeChecks.laidMetH_plain _ _ _ (by kernel_rfl)]; exact laidMet_laidAll _ (by kernel_rfl) (by kernel_rfl))) ?_
  intro W base args ds gs before hval0 hW hL hsh
  have hval : ∀ (j : Nat) t v, Tryz.f3.params[j]? = some t → args[j]? = some v → Value.okWide Tryz.prog W .any base t v := hval0
  have hW' := hW
  obtain ⟨p, q, hA0, hV, rfl, _, _⟩ := hW
  have hA : DataW.TrodAll enc Tryz.prog W 0 (fun _ => true) true Tryz.f3.params.toList args.toList ds p := hA0
  rw [Tryz.params3] at hA hval
  obtain ⟨v0, vs0, d0, ds0, p0, q0, hargs, rfl, rfl, h0, r0⟩ := trodAll_cons hA
  obtain ⟨v1, vs1, d1, ds1, p1, q1, rfl, rfl, rfl, h1, r1⟩ := trodAll_cons r0
  obtain ⟨v2, vs2, d2, ds2, p2, q2, rfl, rfl, rfl, h2, r2⟩ := trodAll_cons r1
  obtain ⟨rfl, rfl, rfl⟩ := trodAll_nil r2
  obtain rfl : args = #[v0, v1, v2] := by cases args; simp_all
  obtain ⟨rfl, rfl⟩ := trodVars_none hV
  obtain ⟨a0, rfl, rfl, rfl, w0⟩ := open_int Tryz.underlying3 (hval 0 3 v0 rfl rfl) h0
  obtain ⟨a1, rfl, rfl, rfl, w1⟩ := open_int Tryz.underlying3 (hval 1 3 v1 rfl rfl) h1
  obtain ⟨a2, rfl, rfl, rfl⟩ := open_bool Tryz.underlying4 (hval 2 4 v2 rfl rfl) h2
  clear hA0 hval0
  simp only [List.append_nil] at hW'
  obtain ⟨m, hm⟩ := maxLen_cell hsh
  refine (walk a0 a1 a2 W hm (pow_laid hL (by kernel_rfl))).mono fun e W' ⟨he, hb⟩ => ?_
  subst he
  exact ⟨_, rfl, _, _, _, [], [], [], hW', trodAll_mk1 (shut_bool Tryz.underlying4 _), trodAll_cons_mk (shut_int Tryz.underlying3 w0) (trodAll_cons_mk (shut_int Tryz.underlying3 w1) (trodAll_mk1 (shut_bool Tryz.underlying4 _))), rfl, hb.frame _, fun h => by cases h⟩

theorem closed : joinedFacts Tryz.pinned.checked.prog 3 Tryz.f3 Rows.vmRowsSpec Rows.vmRowsRow = true := by
  show joinedFacts Tryz.prog 3 Tryz.f3 Rows.vmRowsSpec Rows.vmRowsRow = true
  unfold joinedFacts
  rw [fact1, fact2, fact3, fact4, fact_laidOut, fact_mapsRowed, fact_mayEnter, fact_stopsHeard, fact_lifts, fact_make]
  kernel_rfl

theorem said : Rows.VmRowsSaid :=
  OpenClaim.holds_of_wide 3 Tryz.f3 rfl rfl rfl rfl rfl rfl rfl ⟨rfl, rfl, rfl, rfl, rfl⟩ rfl rfl rfl rfl rfl (by kernel_rfl) Tryz.func3 closed
    (of_decide_eq_true (by kernel_rfl)) (by unfold Func.isWrapper; first | (rw [if_pos (by decide +kernel)]; kernel_rfl) | (rw [if_neg (by decide +kernel)]; exact ⟨rfl, rfl⟩))
    (fun os started H enc _ => lifted os started H enc)

theorem plain (f : FuncId) (fn : Func) (hf : Tryz.pinned.checked.prog.funcNamed "sprue/spruelaw20.VmRows" = some f) (hfn : Tryz.pinned.checked.prog.funcs[f]? = some fn) :
    false = Tryz.pinned.checked.prog.looks [] ∧ ∀ (j : Nat) t, fn.params[j]? = some t → Tryz.pinned.checked.prog.wantsStandIn t = false := by
  obtain rfl : f = 3 := Option.some.inj ((show Tryz.prog.funcNamed "sprue/spruelaw20.VmRows" = some 3 by kernel_rfl).symm.trans hf) |>.symm
  obtain rfl : fn = Tryz.f3 := (Option.some.inj (Tryz.func3.symm.trans hfn)).symm
  refine ⟨by kernel_rfl, fun j t ht => ?_⟩
  rw [Tryz.params3] at ht
  have hm : t ∈ [3, 3, 4] := by simpa using Array.mem_of_getElem? ht
  have hall : ([3, 3, 4].all fun u => !Tryz.prog.wantsStandIn u) = true := by kernel_rfl
  exact (show Tryz.prog.wantsStandIn t = false by simpa using List.all_eq_true.1 hall t hm)

/-- THE CARD. -/
theorem card : Rows.VmRowsCardSaid :=
  Claim7.holds_tied_plain_at .later [] _ _ _ _ said (fun _ h => by cases h) (by kernel_rfl) (fun _ h => by cases h) ti_vmRows rfl ⟨rfl, rfl⟩ (by kernel_rfl) rfl plain (goesBy_no rfl)
end Go.Proofs.YtnjonnilpfenfaaGreatDoor.VmRows

namespace Go.Proofs.YtnjonnilpfenfaaGreatDoor
/-- THE STATEMENT. -/
theorem vmRows_card : Rows.VmRowsCardSaid := VmRows.card
end Go.Proofs.YtnjonnilpfenfaaGreatDoor
