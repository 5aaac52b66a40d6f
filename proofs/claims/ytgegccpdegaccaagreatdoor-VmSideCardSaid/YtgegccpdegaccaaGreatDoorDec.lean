/- The document's own 'decimal' prints a number's numeral: at this program's numbers. -/
import Derived.Test.YtgegccpdegaccaaGreatDoorProg
import Derived.WalkKit
import Derived.Lib.ItoaNum
import Derived.Sort.Grow
import Derived.Deep.Draws
import Derived.Laws.Bits64
import Derived.Laws.BytesString
import Derived.Laws.Cells
namespace Go.Proofs.YtgegccpdegaccaaGreatDoor
open Go.Sort

theorem nDigits_le' : ∀ (k u : Nat), u < 10 ^ (k + 1) → Lib.nDigits u ≤ k + 1
  | 0, u, h => by rw [Lib.nDigits_small (by simpa using h)]; omega
  | k + 1, u, h => by
    by_cases hu : u < 10
    · rw [Lib.nDigits_small hu]; omega
    · rw [Lib.nDigits_big hu]
      have := nDigits_le' k (u / 10) (by rw [Nat.pow_succ] at h; omega)
      omega

theorem grow2 (w : World) (k k' : Nat) (os os' : Array Obj) : grow ((grow (w.drewN k) os).drewN k') os' = grow (w.drewN (k + k')) (os ++ os') := by
  rw [← World.drewN_drewN]
  simp [grow, World.drewN, Array.append_assoc]

theorem conv_one (n : Int) (w : World) (h0 : 0 ≤ n) (h1 : n < 10) :
    (convert 66 9 (Value.slice (some ⟨w.heap.size, 0, none⟩) 1 1)).run Tryz.prog (w.alloc (Obj.cells #[Value.int .u8 (48 + n)] 5)) = .ok (.string ⟨(Lib.decDigits n.toNat).toArray⟩) (w.alloc (Obj.cells #[Value.int .u8 (48 + n)] 5)) := by
  rw [run_convert_bytes_string _ 66 9 5 _ _ _ Tryz.underlying66 Tryz.underlying5 Tryz.underlying9]
  have hl := run_loadCells_list (P := Tryz.prog) (w := w.alloc (Obj.cells #[Value.int .u8 (48 + n)] 5)) ⟨w.heap.size, 0, none⟩ [Value.int .u8 (48 + n)] (fun j v hv => by
    cases j with
    | zero =>
      simp at hv; subst hv
      rw [show (⟨w.heap.size, 0, none⟩ : Addr).add 0 = ⟨w.heap.size, 0, none⟩ from rfl, World.cell?_alloc_new]
      rfl
    | succ j => simp at hv)
  rw [run_bytesToString _ _ 1 1 [48 + n] hl]
  have : n.toNat < 10 := by omega
  rw [Lib.decDigits_one this]
  simp only [List.foldl_cons, List.foldl_nil]
  rw [show (48 + n).toNat = 48 + n.toNat by omega]
  rfl

set_option maxHeartbeats 4000000 in
set_option maxRecDepth 100000 in
theorem decimal_small (n : Int) (w : World) (h0 : 0 ≤ n) (h1 : n < 10) : Calls Tryz.prog 245 #[.int .i64 n] w fun e w' => e = .returned (.string ⟨(Lib.decDigits n.toNat).toArray⟩) ∧ ∃ k os, w' = grow (w.drewN k) os := by
  go_enter Tryz.func245, Tryz.ntmps245
  go_wp2
  rw [conv_one n w h0 h1]
  go_wp2
  go_ret
  exact ⟨rfl, 0, #[Obj.cells #[Value.int .u8 (48 + n)] 5], rfl⟩

set_option maxHeartbeats 4000000 in
set_option maxRecDepth 100000 in
theorem decimal_nn : ∀ (b : Nat) (n : Int) (w : World), 0 ≤ n → n < b → n ≤ 9223372036854775807 →
    Calls Tryz.prog 245 #[.int .i64 n] w fun e w' => e = .returned (.string ⟨(Lib.decDigits n.toNat).toArray⟩) ∧ ∃ k os, w' = grow (w.drewN k) os
  | 0, n, w, h0, h1, h2 => by omega
  | b + 1, n, w, h0, h1, h2 => by
    by_cases hn : n < 10
    · exact decimal_small n w h0 hn
    · have ih := decimal_nn b
      have hs := decimal_small
      go_enter Tryz.func245, Tryz.ntmps245
      go_wp2_with fail
      refine (ih (n / 10) w (by omega) (by omega) (by omega)).mono ?_
      rintro e w' ⟨rfl, k, os, rfl⟩
      go_wp2_with fail
      refine (hs (n % 10) _ (by omega) (by omega)).mono ?_
      rintro e w' ⟨rfl, k', os', rfl⟩
      go_wp2
      · exfalso
        rename_i hl
        have e1 := nDigits_le' 18 (n / 10).toNat (by omega)
        have e2 := nDigits_le' 18 (n % 10).toNat (by omega)
        rw [Lib.decDigits_length, Lib.decDigits_length] at hl
        omega
      · go_ret
        rw [grow2]
        refine ⟨?_, k + k', os ++ os', rfl⟩
        have e1 : (n / 10).toNat = n.toNat / 10 := by omega
        have e2 : (n % 10).toNat = n.toNat % 10 := by omega
        have e3 : Lib.decDigits n.toNat = Lib.decDigits (n.toNat / 10) ++ [UInt8.ofNat (48 + n.toNat % 10)] := by
          rw [Lib.decDigits, dif_neg (by omega)]
        rw [e1, e2, Lib.decDigits_one (Nat.mod_lt _ (by omega)), e3]
        rfl

theorem itoa_min : Lib.itoa (-9223372036854775808) = [45, 57, 50, 50, 51, 51, 55, 50, 48, 51, 54, 56, 53, 52, 55, 55, 53, 56, 48, 56] := by
  simp [Lib.itoa, Lib.decDigits]

set_option maxHeartbeats 4000000 in
set_option maxRecDepth 100000 in
/-- A number's digits, as the document's own packages print them. -/
theorem decimal_any (n : Int) (w : World) (h0 : -9223372036854775808 ≤ n) (h1 : n ≤ 9223372036854775807) :
    Calls Tryz.prog 245 #[.int .i64 n] w fun e w' => e = .returned (.string ⟨(Lib.itoa n).toArray⟩) ∧ ∃ k os, w' = grow (w.drewN k) os := by
  by_cases hn : n < 0
  · have nn := decimal_nn (n.natAbs + 1)
    by_cases hm : n = -9223372036854775808
    · subst hm
      go_enter Tryz.func245, Tryz.ntmps245
      go_wp2_with fail
      go_ret
      refine ⟨?_, 0, #[], by simp [grow, World.drewN_zero]⟩
      rw [itoa_min]
      rfl
    · have hne : (n == -9223372036854775808) = false := by simp [hm]
      go_enter Tryz.func245, Tryz.ntmps245
      go_wp2_with fail
      refine (nn (-n) w (by omega) (by omega) (by omega)).mono ?_
      rintro e w' ⟨rfl, k, os, rfl⟩
      go_wp2
      · exfalso
        rename_i hl
        have e1 := nDigits_le' 18 (-n).toNat (by omega)
        rw [Lib.decDigits_length] at hl
        omega
      · go_ret
        refine ⟨?_, k, os, rfl⟩
        have e : Lib.itoa n = 45 :: Lib.decDigits n.natAbs := by unfold Lib.itoa; rw [if_pos hn]
        rw [e, show (-n).toNat = n.natAbs by omega]
        rfl
  · have h := decimal_nn (n.toNat + 1) n w (by omega) (by omega) h1
    have e : Lib.itoa n = Lib.decDigits n.toNat := by unfold Lib.itoa; rw [if_neg hn]
    rw [e]
    exact h
end Go.Proofs.YtgegccpdegaccaaGreatDoor
