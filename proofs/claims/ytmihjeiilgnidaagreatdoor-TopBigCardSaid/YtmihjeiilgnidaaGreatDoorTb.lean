/- 'spruetop.TopBig': for all arguments the law's call returns true: the tied card. Conditions: the row's own (the listed package-level variables, tied to the program's text). -/
import Derived.Test.YtmihjeiilgnidaaGreatDoorLw
import Derived.Test.YtmihjeiilgnidaaGreatDoorTbS
import Derived.Test.YtmihjeiilgnidaaGreatDoorTbR0
import Derived.Test.YtmihjeiilgnidaaGreatDoorTbR1
import Derived.Test.YtmihjeiilgnidaaGreatDoorFact
import Derived.Test.YtmihjeiilgnidaaGreatDoorTbFact
open Go.Ab
namespace Go.Proofs.YtmihjeiilgnidaaGreatDoor.TopBig
open Go.ChangeShapes Go.WideShapes Go.ChangeAt Go.RowKit

theorem vrs_cls {a0 : Int} {a1 : Bool} {k0 : Nat} (h0 : a0 % (6 : Nat) = (k0 : Int)) : VRs mu0 [.cls 6 k0, .bool a1] [.int .i64 a0, .bool a1] :=
  .cons (.cls 6 k0 a0 h0) (.cons (.bool a1) (.nil _))

theorem hname : Tryz.f3.name ≠ "runtime.NumGoroutine" := by
  intro h
  have : (Tryz.f3.name == "runtime.NumGoroutine") = false := by kernel_rfl
  rw [h] at this
  exact absurd this (by decide)
theorem hbody : ∃ c, Tryz.f3.body = some c := Option.isSome_iff_exists.1 (by kernel_rfl)

theorem walk (a0 : Int) (a1 : Bool) (W : World) {m : Int} (hm : W.cell? ⟨0, 0, none⟩ = some (.int .i64 m)) (ht : ∀ c : Nat, c < 256 → W.cell? ⟨2, c, none⟩ = some (.int .u8 (if Lib.isSp (UInt8.ofNat c) then 1 else 0))) :
    Calls Tryz.prog 3 #[.int .i64 a0, .bool a1] W fun e w' => e = .returned (.bool true) ∧ Below W.heap.size W w' := by
  obtain ⟨c, hb⟩ := hbody
  have go : ∀ args, isT (run tab1 300 3 args H0) = true → VRs mu0 args [.int .i64 a0, .bool a1] → Calls Tryz.prog 3 #[.int .i64 a0, .bool a1] W fun e w' => e = .returned (.bool true) ∧ Below W.heap.size W w' :=
    fun args hr ha => calls_of_run Tryz.func3 hname hb tab1_ok hr hm ht (sp1_ok hm ht) (args' := #[.int .i64 a0, .bool a1]) ha
  obtain ⟨k0, g0, e0⟩ : ∃ k : Nat, k < 6 ∧ a0 % (6 : Nat) = (k : Int) := ⟨(a0 % 6).toNat, by omega, by omega⟩
  replace g0 : k0 = 0 ∨ k0 = 1 ∨ k0 = 2 ∨ k0 = 3 ∨ k0 = 4 ∨ k0 = 5 := by omega
  rcases g0 with rfl | rfl | rfl | rfl | rfl | rfl
  · rcases a1 with _ | _
    · exact go _ run_0_f (vrs_cls e0)
    · exact go _ run_0_t (vrs_cls e0)
  · rcases a1 with _ | _
    · exact go _ run_1_f (vrs_cls e0)
    · exact go _ run_1_t (vrs_cls e0)
  · rcases a1 with _ | _
    · exact go _ run_2_f (vrs_cls e0)
    · exact go _ run_2_t (vrs_cls e0)
  · rcases a1 with _ | _
    · exact go _ run_3_f (vrs_cls e0)
    · exact go _ run_3_t (vrs_cls e0)
  · rcases a1 with _ | _
    · exact go _ run_4_f (vrs_cls e0)
    · exact go _ run_4_t (vrs_cls e0)
  · rcases a1 with _ | _
    · exact go _ run_5_f (vrs_cls e0)
    · exact go _ run_5_t (vrs_cls e0)

set_option maxRecDepth 100000 in
theorem lifted (os : Os) (started : os.Started) (H : Type) (enc : TypeId × Value → H) :
    ReturnsInHanded {} Tryz.checked os 3 .any (fun w args => (Rows.topBigSpec.pre enc Tryz.prog Tryz.f3 [] false w args ∧ laidMetH Tryz.prog Rows.topBigRow.laid w) ∧ sizedMet enc Tryz.prog Tryz.f3 (OpenSpec.ofChange Rows.topBigSpec) false w args)
      (Rows.topBigSpec.post enc Tryz.prog Tryz.f3 false true false false) := by
  refine handed_of (C := Tryz.checked) (X := fun w _ => laidMetH Tryz.prog Rows.topBigRow.laid w) (fun _ _ _ hh h => h.of_heap hh) own started (by kernel_rfl) Tryz.func3
    (ChangeSpec.witness_shaped (enc := enc) (C := Tryz.checked) (os := os) (X := fun w _ => laidMetH Tryz.prog Rows.topBigRow.laid w) false (World.laidAll Tryz.prog os Rows.topBigRow.laid) #[.int .i64 0, .bool false] 8 (World.laidAll_os _ _ _)
      (World.shaped_of_ZipB (by kernel_rfl) (by kernel_rfl)) (by kernel_rfl) (by kernel_rfl) (by kernel_rfl)
      (by rw [MakeChecks.laidMetH_plain _ _ _ (by kernel_rfl)]; exact laidMet_laidAll _ (by kernel_rfl) (by kernel_rfl))) ?_
  intro W base args ds gs before hval0 hW hL hsh
  have hval : ∀ (j : Nat) t v, Tryz.f3.params[j]? = some t → args[j]? = some v → Value.okWide Tryz.prog W .any base t v := hval0
  have hW' := hW
  obtain ⟨p, q, hA0, hV, rfl, _, _⟩ := hW
  have hA : DataW.TrodAll enc Tryz.prog W 0 (fun _ => true) true Tryz.f3.params.toList args.toList ds p := hA0
  rw [Tryz.params3] at hA hval
  obtain ⟨v0, vs0, d0, ds0, p0, q0, hargs, rfl, rfl, h0, r0⟩ := trodAll_cons hA
  obtain ⟨v1, vs1, d1, ds1, p1, q1, rfl, rfl, rfl, h1, r1⟩ := trodAll_cons r0
  obtain ⟨rfl, rfl, rfl⟩ := trodAll_nil r1
  obtain rfl : args = #[v0, v1] := by cases args; simp_all
  obtain ⟨rfl, rfl⟩ := trodVars_none hV
  obtain ⟨a0, rfl, rfl, rfl, w0⟩ := open_int Tryz.underlying3 (hval 0 3 v0 rfl rfl) h0
  obtain ⟨a1, rfl, rfl, rfl⟩ := open_bool Tryz.underlying4 (hval 1 4 v1 rfl rfl) h1
  clear hA0 hval0
  simp only [List.append_nil] at hW'
  obtain ⟨m, hm⟩ := maxLen_cell hsh
  refine (walk a0 a1 W hm (space_cells (show laidMetH Tryz.prog Rows.moldRefusesRow.laid W from hL))).mono fun e W' ⟨he, hb⟩ => ?_
  subst he
  exact ⟨_, rfl, _, _, _, [], [], [], hW', trodAll_mk1 (shut_bool Tryz.underlying4 _), trodAll_cons_mk (shut_int Tryz.underlying3 w0) (trodAll_mk1 (shut_bool Tryz.underlying4 _)), rfl, hb.frame _, fun h => by cases h⟩

theorem closed : joinedFacts Tryz.pinned.checked.prog 3 Tryz.f3 Rows.topBigSpec Rows.topBigRow = true := by
  show joinedFacts Tryz.prog 3 Tryz.f3 Rows.topBigSpec Rows.topBigRow = true
  unfold joinedFacts
  rw [fact1, fact2, fact3, fact4, fact_laidOut, fact_mapsRowed, fact_mayEnter, fact_stopsHeard, fact_lifts, fact_make]
  kernel_rfl

theorem said : Rows.TopBigSaid :=
  OpenClaim.holds_of_wide 3 Tryz.f3 rfl rfl rfl rfl rfl rfl rfl ⟨rfl, rfl, rfl, rfl, rfl⟩ rfl rfl rfl rfl rfl (by kernel_rfl) Tryz.func3 closed
    (of_decide_eq_true (by kernel_rfl)) (by unfold Func.isWrapper; first | (rw [if_pos (by decide +kernel)]; kernel_rfl) | (rw [if_neg (by decide +kernel)]; exact ⟨rfl, rfl⟩))
    (fun os started H enc _ => lifted os started H enc)

theorem plain (f : FuncId) (fn : Func) (hf : Tryz.pinned.checked.prog.funcNamed "sprue/spruetop.TopBig" = some f) (hfn : Tryz.pinned.checked.prog.funcs[f]? = some fn) :
    false = Tryz.pinned.checked.prog.looks [] ∧ ∀ (j : Nat) t, fn.params[j]? = some t → Tryz.pinned.checked.prog.wantsStandIn t = false := by
  obtain rfl : f = 3 := Option.some.inj ((show Tryz.prog.funcNamed "sprue/spruetop.TopBig" = some 3 by kernel_rfl).symm.trans hf) |>.symm
  obtain rfl : fn = Tryz.f3 := (Option.some.inj (Tryz.func3.symm.trans hfn)).symm
  refine ⟨by kernel_rfl, fun j t ht => ?_⟩
  rw [Tryz.params3] at ht
  have hm : t ∈ [3, 4] := by simpa using Array.mem_of_getElem? ht
  have hall : ([3, 4].all fun u => !Tryz.prog.wantsStandIn u) = true := by kernel_rfl
  exact (show Tryz.prog.wantsStandIn t = false by simpa using List.all_eq_true.1 hall t hm)

/-- THE CARD. -/
theorem card : Rows.TopBigCardSaid :=
  Claim7.holds_tied_plain_at .later [] _ _ _ _ said (fun _ h => by cases h) (by kernel_rfl) (fun _ h => by cases h) topBig_row_tie rfl ⟨rfl, rfl⟩ (by kernel_rfl) rfl plain (goesBy_no rfl)
end Go.Proofs.YtmihjeiilgnidaaGreatDoor.TopBig

namespace Go.Proofs.YtmihjeiilgnidaaGreatDoor
/-- THE STATEMENT. -/
theorem topBig_card : Rows.TopBigCardSaid := TopBig.card
end Go.Proofs.YtmihjeiilgnidaaGreatDoor
