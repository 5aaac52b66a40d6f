/- 'spruelaw21.MoldGiven': for every two numbers the law's call returns true: the tied card. Conditions: the row's own (the listed package-level variables, tied to the program's text). -/
import Derived.Test.YtmihjeiilgnidaaGreatDoorLaw
import Derived.Test.YtmihjeiilgnidaaGreatDoorMgR0
import Derived.Test.YtmihjeiilgnidaaGreatDoorMgR1
import Derived.Test.YtmihjeiilgnidaaGreatDoorMgR2
import Derived.Test.YtmihjeiilgnidaaGreatDoorMgR3
import Derived.Test.YtmihjeiilgnidaaGreatDoorMgR4
import Derived.Test.YtmihjeiilgnidaaGreatDoorMgR5
import Derived.Test.YtmihjeiilgnidaaGreatDoorMgR6
import Derived.Test.YtmihjeiilgnidaaGreatDoorMgR7
import Derived.Test.YtmihjeiilgnidaaGreatDoorMgR8
import Derived.Test.YtmihjeiilgnidaaGreatDoorMgR9
import Derived.Test.YtmihjeiilgnidaaGreatDoorMgR10
import Derived.Test.YtmihjeiilgnidaaGreatDoorMgR11
import Derived.Test.YtmihjeiilgnidaaGreatDoorFact
import Derived.Test.YtmihjeiilgnidaaGreatDoorMgFact
open Go.Ab
namespace Go.Proofs.YtmihjeiilgnidaaGreatDoor.MoldGiven
open Go.ChangeShapes Go.WideShapes Go.ChangeAt Go.RowKit

theorem vrs_cls {a0 a1 : Int} {k p : Nat} (h : a0 % (9 : Nat) = (k : Int)) (h' : a1 % (16 : Nat) = (p : Int)) : VRs mu0 [.cls 9 k, .cls 16 p] [.int .i64 a0, .int .i64 a1] :=
  .cons (.cls 9 k a0 h) (.cons (.cls 16 p a1 h') (.nil _))

theorem hname : Tryz.f7.name ≠ "runtime.NumGoroutine" := by
  intro h
  have : (Tryz.f7.name == "runtime.NumGoroutine") = false := by kernel_rfl
  rw [h] at this
  exact absurd this (by decide)
theorem hbody : ∃ c, Tryz.f7.body = some c := Option.isSome_iff_exists.1 (by kernel_rfl)

theorem walk (a0 a1 : Int) (W : World) {m : Int} (hm : W.cell? ⟨0, 0, none⟩ = some (.int .i64 m)) (ht : ∀ c : Nat, c < 256 → W.cell? ⟨2, c, none⟩ = some (.int .u8 (if Lib.isSp (UInt8.ofNat c) then 1 else 0))) :
    Calls Tryz.prog 7 #[.int .i64 a0, .int .i64 a1] W fun e w' => e = .returned (.bool true) ∧ Below W.heap.size W w' := by
  obtain ⟨c, hb⟩ := hbody
  have go : ∀ args, isT (run tab 300 7 args H0) = true → VRs mu0 args [.int .i64 a0, .int .i64 a1] → Calls Tryz.prog 7 #[.int .i64 a0, .int .i64 a1] W fun e w' => e = .returned (.bool true) ∧ Below W.heap.size W w' :=
    fun args hr ha => calls_of_run Tryz.func7 hname hb tab_ok hr hm ht (args' := #[.int .i64 a0, .int .i64 a1]) ha
  have h0 : ∃ k : Nat, k < 9 ∧ a0 % (9 : Nat) = (k : Int) := ⟨(a0 % 9).toNat, by omega, by omega⟩
  have h1 : ∃ p : Nat, p < 16 ∧ a1 % (16 : Nat) = (p : Int) := ⟨(a1 % 16).toNat, by omega, by omega⟩
  obtain ⟨k, hk, e0⟩ := h0
  obtain ⟨p, hp, e1⟩ := h1
  have hk : k = 0 ∨ k = 1 ∨ k = 2 ∨ k = 3 ∨ k = 4 ∨ k = 5 ∨ k = 6 ∨ k = 7 ∨ k = 8 := by omega
  have hp : p = 0 ∨ p = 1 ∨ p = 2 ∨ p = 3 ∨ p = 4 ∨ p = 5 ∨ p = 6 ∨ p = 7 ∨ p = 8 ∨ p = 9 ∨ p = 10 ∨ p = 11 ∨ p = 12 ∨ p = 13 ∨ p = 14 ∨ p = 15 := by omega
  rcases hk with rfl | rfl | rfl | rfl | rfl | rfl | rfl | rfl | rfl
  · rcases hp with rfl | rfl | rfl | rfl | rfl | rfl | rfl | rfl | rfl | rfl | rfl | rfl | rfl | rfl | rfl | rfl
    · exact go _ run_0_0 (vrs_cls e0 e1)
    · exact go _ run_0_1 (vrs_cls e0 e1)
    · exact go _ run_0_2 (vrs_cls e0 e1)
    · exact go _ run_0_3 (vrs_cls e0 e1)
    · exact go _ run_0_4 (vrs_cls e0 e1)
    · exact go _ run_0_5 (vrs_cls e0 e1)
    · exact go _ run_0_6 (vrs_cls e0 e1)
    · exact go _ run_0_7 (vrs_cls e0 e1)
    · exact go _ run_0_8 (vrs_cls e0 e1)
    · exact go _ run_0_9 (vrs_cls e0 e1)
    · exact go _ run_0_10 (vrs_cls e0 e1)
    · exact go _ run_0_11 (vrs_cls e0 e1)
    · exact go _ run_0_12 (vrs_cls e0 e1)
    · exact go _ run_0_13 (vrs_cls e0 e1)
    · exact go _ run_0_14 (vrs_cls e0 e1)
    · exact go _ run_0_15 (vrs_cls e0 e1)
  · rcases hp with rfl | rfl | rfl | rfl | rfl | rfl | rfl | rfl | rfl | rfl | rfl | rfl | rfl | rfl | rfl | rfl
    · exact go _ run_1_0 (vrs_cls e0 e1)
    · exact go _ run_1_1 (vrs_cls e0 e1)
    · exact go _ run_1_2 (vrs_cls e0 e1)
    · exact go _ run_1_3 (vrs_cls e0 e1)
    · exact go _ run_1_4 (vrs_cls e0 e1)
    · exact go _ run_1_5 (vrs_cls e0 e1)
    · exact go _ run_1_6 (vrs_cls e0 e1)
    · exact go _ run_1_7 (vrs_cls e0 e1)
    · exact go _ run_1_8 (vrs_cls e0 e1)
    · exact go _ run_1_9 (vrs_cls e0 e1)
    · exact go _ run_1_10 (vrs_cls e0 e1)
    · exact go _ run_1_11 (vrs_cls e0 e1)
    · exact go _ run_1_12 (vrs_cls e0 e1)
    · exact go _ run_1_13 (vrs_cls e0 e1)
    · exact go _ run_1_14 (vrs_cls e0 e1)
    · exact go _ run_1_15 (vrs_cls e0 e1)
  · rcases hp with rfl | rfl | rfl | rfl | rfl | rfl | rfl | rfl | rfl | rfl | rfl | rfl | rfl | rfl | rfl | rfl
    · exact go _ run_2_0 (vrs_cls e0 e1)
    · exact go _ run_2_1 (vrs_cls e0 e1)
    · exact go _ run_2_2 (vrs_cls e0 e1)
    · exact go _ run_2_3 (vrs_cls e0 e1)
    · exact go _ run_2_4 (vrs_cls e0 e1)
    · exact go _ run_2_5 (vrs_cls e0 e1)
    · exact go _ run_2_6 (vrs_cls e0 e1)
    · exact go _ run_2_7 (vrs_cls e0 e1)
    · exact go _ run_2_8 (vrs_cls e0 e1)
    · exact go _ run_2_9 (vrs_cls e0 e1)
    · exact go _ run_2_10 (vrs_cls e0 e1)
    · exact go _ run_2_11 (vrs_cls e0 e1)
    · exact go _ run_2_12 (vrs_cls e0 e1)
    · exact go _ run_2_13 (vrs_cls e0 e1)
    · exact go _ run_2_14 (vrs_cls e0 e1)
    · exact go _ run_2_15 (vrs_cls e0 e1)
  · rcases hp with rfl | rfl | rfl | rfl | rfl | rfl | rfl | rfl | rfl | rfl | rfl | rfl | rfl | rfl | rfl | rfl
    · exact go _ run_3_0 (vrs_cls e0 e1)
    · exact go _ run_3_1 (vrs_cls e0 e1)
    · exact go _ run_3_2 (vrs_cls e0 e1)
    · exact go _ run_3_3 (vrs_cls e0 e1)
    · exact go _ run_3_4 (vrs_cls e0 e1)
    · exact go _ run_3_5 (vrs_cls e0 e1)
    · exact go _ run_3_6 (vrs_cls e0 e1)
    · exact go _ run_3_7 (vrs_cls e0 e1)
    · exact go _ run_3_8 (vrs_cls e0 e1)
    · exact go _ run_3_9 (vrs_cls e0 e1)
    · exact go _ run_3_10 (vrs_cls e0 e1)
    · exact go _ run_3_11 (vrs_cls e0 e1)
    · exact go _ run_3_12 (vrs_cls e0 e1)
    · exact go _ run_3_13 (vrs_cls e0 e1)
    · exact go _ run_3_14 (vrs_cls e0 e1)
    · exact go _ run_3_15 (vrs_cls e0 e1)
  · rcases hp with rfl | rfl | rfl | rfl | rfl | rfl | rfl | rfl | rfl | rfl | rfl | rfl | rfl | rfl | rfl | rfl
    · exact go _ run_4_0 (vrs_cls e0 e1)
    · exact go _ run_4_1 (vrs_cls e0 e1)
    · exact go _ run_4_2 (vrs_cls e0 e1)
    · exact go _ run_4_3 (vrs_cls e0 e1)
    · exact go _ run_4_4 (vrs_cls e0 e1)
    · exact go _ run_4_5 (vrs_cls e0 e1)
    · exact go _ run_4_6 (vrs_cls e0 e1)
    · exact go _ run_4_7 (vrs_cls e0 e1)
    · exact go _ run_4_8 (vrs_cls e0 e1)
    · exact go _ run_4_9 (vrs_cls e0 e1)
    · exact go _ run_4_10 (vrs_cls e0 e1)
    · exact go _ run_4_11 (vrs_cls e0 e1)
    · exact go _ run_4_12 (vrs_cls e0 e1)
    · exact go _ run_4_13 (vrs_cls e0 e1)
    · exact go _ run_4_14 (vrs_cls e0 e1)
    · exact go _ run_4_15 (vrs_cls e0 e1)
  · rcases hp with rfl | rfl | rfl | rfl | rfl | rfl | rfl | rfl | rfl | rfl | rfl | rfl | rfl | rfl | rfl | rfl
    · exact go _ run_5_0 (vrs_cls e0 e1)
    · exact go _ run_5_1 (vrs_cls e0 e1)
    · exact go _ run_5_2 (vrs_cls e0 e1)
    · exact go _ run_5_3 (vrs_cls e0 e1)
    · exact go _ run_5_4 (vrs_cls e0 e1)
    · exact go _ run_5_5 (vrs_cls e0 e1)
    · exact go _ run_5_6 (vrs_cls e0 e1)
    · exact go _ run_5_7 (vrs_cls e0 e1)
    · exact go _ run_5_8 (vrs_cls e0 e1)
    · exact go _ run_5_9 (vrs_cls e0 e1)
    · exact go _ run_5_10 (vrs_cls e0 e1)
    · exact go _ run_5_11 (vrs_cls e0 e1)
    · exact go _ run_5_12 (vrs_cls e0 e1)
    · exact go _ run_5_13 (vrs_cls e0 e1)
    · exact go _ run_5_14 (vrs_cls e0 e1)
    · exact go _ run_5_15 (vrs_cls e0 e1)
  · rcases hp with rfl | rfl | rfl | rfl | rfl | rfl | rfl | rfl | rfl | rfl | rfl | rfl | rfl | rfl | rfl | rfl
    · exact go _ run_6_0 (vrs_cls e0 e1)
    · exact go _ run_6_1 (vrs_cls e0 e1)
    · exact go _ run_6_2 (vrs_cls e0 e1)
    · exact go _ run_6_3 (vrs_cls e0 e1)
    · exact go _ run_6_4 (vrs_cls e0 e1)
    · exact go _ run_6_5 (vrs_cls e0 e1)
    · exact go _ run_6_6 (vrs_cls e0 e1)
    · exact go _ run_6_7 (vrs_cls e0 e1)
    · exact go _ run_6_8 (vrs_cls e0 e1)
    · exact go _ run_6_9 (vrs_cls e0 e1)
    · exact go _ run_6_10 (vrs_cls e0 e1)
    · exact go _ run_6_11 (vrs_cls e0 e1)
    · exact go _ run_6_12 (vrs_cls e0 e1)
    · exact go _ run_6_13 (vrs_cls e0 e1)
    · exact go _ run_6_14 (vrs_cls e0 e1)
    · exact go _ run_6_15 (vrs_cls e0 e1)
  · rcases hp with rfl | rfl | rfl | rfl | rfl | rfl | rfl | rfl | rfl | rfl | rfl | rfl | rfl | rfl | rfl | rfl
    · exact go _ run_7_0 (vrs_cls e0 e1)
    · exact go _ run_7_1 (vrs_cls e0 e1)
    · exact go _ run_7_2 (vrs_cls e0 e1)
    · exact go _ run_7_3 (vrs_cls e0 e1)
    · exact go _ run_7_4 (vrs_cls e0 e1)
    · exact go _ run_7_5 (vrs_cls e0 e1)
    · exact go _ run_7_6 (vrs_cls e0 e1)
    · exact go _ run_7_7 (vrs_cls e0 e1)
    · exact go _ run_7_8 (vrs_cls e0 e1)
    · exact go _ run_7_9 (vrs_cls e0 e1)
    · exact go _ run_7_10 (vrs_cls e0 e1)
    · exact go _ run_7_11 (vrs_cls e0 e1)
    · exact go _ run_7_12 (vrs_cls e0 e1)
    · exact go _ run_7_13 (vrs_cls e0 e1)
    · exact go _ run_7_14 (vrs_cls e0 e1)
    · exact go _ run_7_15 (vrs_cls e0 e1)
  · rcases hp with rfl | rfl | rfl | rfl | rfl | rfl | rfl | rfl | rfl | rfl | rfl | rfl | rfl | rfl | rfl | rfl
    · exact go _ run_8_0 (vrs_cls e0 e1)
    · exact go _ run_8_1 (vrs_cls e0 e1)
    · exact go _ run_8_2 (vrs_cls e0 e1)
    · exact go _ run_8_3 (vrs_cls e0 e1)
    · exact go _ run_8_4 (vrs_cls e0 e1)
    · exact go _ run_8_5 (vrs_cls e0 e1)
    · exact go _ run_8_6 (vrs_cls e0 e1)
    · exact go _ run_8_7 (vrs_cls e0 e1)
    · exact go _ run_8_8 (vrs_cls e0 e1)
    · exact go _ run_8_9 (vrs_cls e0 e1)
    · exact go _ run_8_10 (vrs_cls e0 e1)
    · exact go _ run_8_11 (vrs_cls e0 e1)
    · exact go _ run_8_12 (vrs_cls e0 e1)
    · exact go _ run_8_13 (vrs_cls e0 e1)
    · exact go _ run_8_14 (vrs_cls e0 e1)
    · exact go _ run_8_15 (vrs_cls e0 e1)

set_option maxRecDepth 100000 in
theorem lifted (os : Os) (started : os.Started) (H : Type) (enc : TypeId × Value → H) :
    ReturnsInHanded {} Tryz.checked os 7 .any (fun w args => (Rows.moldGivenSpec.pre enc Tryz.prog Tryz.f7 [] false w args ∧ laidMetH Tryz.prog Rows.moldGivenRow.laid w) ∧ sizedMet enc Tryz.prog Tryz.f7 (OpenSpec.ofChange Rows.moldGivenSpec) false w args)
      (Rows.moldGivenSpec.post enc Tryz.prog Tryz.f7 false true false false) := by
  refine handed_of (C := Tryz.checked) (X := fun w _ => laidMetH Tryz.prog Rows.moldGivenRow.laid w) (fun _ _ _ hh h => h.of_heap hh) own started (by kernel_rfl) Tryz.func7
    (ChangeSpec.witness_shaped (enc := enc) (C := Tryz.checked) (os := os) (X := fun w _ => laidMetH Tryz.prog Rows.moldGivenRow.laid w) false (World.laidAll Tryz.prog os Rows.moldGivenRow.laid) #[.int .i64 0, .int .i64 0] 8 (World.laidAll_os _ _ _)
      (World.shaped_of_ZipB (by kernel_rfl) (by kernel_rfl)) (by kernel_rfl) (by kernel_rfl) (by kernel_rfl)
      (by rw [MakeChecks.laidMetH_plain _ _ _ (by kernel_rfl)]; exact laidMet_laidAll _ (by kernel_rfl) (by kernel_rfl))) ?_
  intro W base args ds gs before hval0 hW hL hsh
  have hval : ∀ (j : Nat) t v, Tryz.f7.params[j]? = some t → args[j]? = some v → Value.okWide Tryz.prog W .any base t v := hval0
  have hW' := hW
  obtain ⟨p, q, hA0, hV, rfl, _, _⟩ := hW
  have hA : DataW.TrodAll enc Tryz.prog W 0 (fun _ => true) true Tryz.f7.params.toList args.toList ds p := hA0
  rw [Tryz.params7] at hA hval
  obtain ⟨v0, vs0, d0, ds0, p0, q0, hargs, rfl, rfl, h0, r0⟩ := trodAll_cons hA
  obtain ⟨v1, vs1, d1, ds1, p1, q1, rfl, rfl, rfl, h1, r1⟩ := trodAll_cons r0
  obtain ⟨rfl, rfl, rfl⟩ := trodAll_nil r1
  obtain rfl : args = #[v0, v1] := by cases args; simp_all
  obtain ⟨rfl, rfl⟩ := trodVars_none hV
  obtain ⟨a0, rfl, rfl, rfl, w0⟩ := open_int Tryz.underlying3 (hval 0 3 v0 rfl rfl) h0
  obtain ⟨a1, rfl, rfl, rfl, w1⟩ := open_int Tryz.underlying3 (hval 1 3 v1 rfl rfl) h1
  clear hA0 hval0
  simp only [List.append_nil] at hW'
  obtain ⟨m, hm⟩ := maxLen_cell hsh
  refine (walk a0 a1 W hm (space_cells (show laidMetH Tryz.prog Rows.moldRefusesRow.laid W from hL))).mono fun e W' ⟨he, hb⟩ => ?_
  subst he
  exact ⟨_, rfl, _, _, _, [], [], [], hW', trodAll_mk1 (shut_bool Tryz.underlying4 _), trodAll_cons_mk (shut_int Tryz.underlying3 w0) (trodAll_mk1 (shut_int Tryz.underlying3 w1)), rfl, hb.frame _, fun h => by cases h⟩

theorem closed : joinedFacts Tryz.pinned.checked.prog 7 Tryz.f7 Rows.moldGivenSpec Rows.moldGivenRow = true := by
  show joinedFacts Tryz.prog 7 Tryz.f7 Rows.moldGivenSpec Rows.moldGivenRow = true
  unfold joinedFacts
  rw [fact1, fact2, fact3, fact4, fact_laidOut, fact_mapsRowed, fact_mayEnter, fact_stopsHeard, fact_lifts, fact_make]
  kernel_rfl

theorem said : Rows.MoldGivenSaid :=
  OpenClaim.holds_of_wide 7 Tryz.f7 rfl rfl rfl rfl rfl rfl rfl ⟨rfl, rfl, rfl, rfl, rfl⟩ rfl rfl rfl rfl rfl (by kernel_rfl) Tryz.func7 closed
    (of_decide_eq_true (by kernel_rfl)) (by unfold Func.isWrapper; first | (rw [if_pos (by decide +kernel)]; kernel_rfl) | (rw [if_neg (by decide +kernel)]; exact ⟨rfl, rfl⟩))
    (fun os started H enc _ => lifted os started H enc)

theorem plain (f : FuncId) (fn : Func) (hf : Tryz.pinned.checked.prog.funcNamed "sprue/spruelaw21.MoldGiven" = some f) (hfn : Tryz.pinned.checked.prog.funcs[f]? = some fn) :
    false = Tryz.pinned.checked.prog.looks [] ∧ ∀ (j : Nat) t, fn.params[j]? = some t → Tryz.pinned.checked.prog.wantsStandIn t = false := by
  obtain rfl : f = 7 := Option.some.inj ((show Tryz.prog.funcNamed "sprue/spruelaw21.MoldGiven" = some 7 by kernel_rfl).symm.trans hf) |>.symm
  obtain rfl : fn = Tryz.f7 := (Option.some.inj (Tryz.func7.symm.trans hfn)).symm
  refine ⟨by kernel_rfl, fun j t ht => ?_⟩
  rw [Tryz.params7] at ht
  have hm : t ∈ [3, 3] := by simpa using Array.mem_of_getElem? ht
  have hall : ([3, 3].all fun u => !Tryz.prog.wantsStandIn u) = true := by kernel_rfl
  exact (show Tryz.prog.wantsStandIn t = false by simpa using List.all_eq_true.1 hall t hm)

/-- THE CARD. -/
theorem card : Rows.MoldGivenCardSaid :=
  Claim7.holds_tied_plain_at .later [] _ _ _ _ said (fun _ h => by cases h) (by kernel_rfl) (fun _ h => by cases h) moldGiven_row_tie rfl ⟨rfl, rfl⟩ (by kernel_rfl) rfl plain (goesBy_no rfl)
end Go.Proofs.YtmihjeiilgnidaaGreatDoor.MoldGiven

namespace Go.Proofs.YtmihjeiilgnidaaGreatDoor
/-- THE STATEMENT. -/
theorem moldGiven_card : Rows.MoldGivenCardSaid := MoldGiven.card
end Go.Proofs.YtmihjeiilgnidaaGreatDoor
