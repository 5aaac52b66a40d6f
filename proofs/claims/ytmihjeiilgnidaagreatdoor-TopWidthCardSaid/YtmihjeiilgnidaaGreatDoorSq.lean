/- What the program takes by contract: the library's searches and fields, a number's residue; and that this is right. -/
import Derived.Test.YtmihjeiilgnidaaGreatDoorFc
import Derived.Test.YtmihjeiilgnidaaGreatDoorShelf
import Derived.WalkKit
namespace Go.Proofs.YtmihjeiilgnidaaGreatDoor
open Go.Ab

theorem tmod_cases (x m : Int) (h0 : 0 < m) : (x.tmod m < 0 → x % m = x.tmod m + m) ∧ (0 ≤ x.tmod m → x % m = x.tmod m) := by
  have e0 := Int.emod_nonneg x (show m ≠ 0 by omega)
  have e1 := Int.emod_lt_of_pos x h0
  have h : x.tmod m = x % m - ↑(if 0 ≤ x ∨ m ∣ x then 0 else m.natAbs) := Int.tmod_eq_emod
  split at h <;> constructor <;> intro g <;> omega
theorem ret_int {a b : Int} (h : a = b) : Ending.returned (.int .i64 a) = .returned (.int .i64 b) := by rw [h]
theorem within_neg {x m : Int} (h0 : 0 < m) (h1 : m < 1000000) (g : x.tmod m < 0) : RowKit.wrap64 (x.tmod m + m) = x % m := by
  have e0 := Int.emod_nonneg x (show m ≠ 0 by omega)
  have e1 := Int.emod_lt_of_pos x h0
  have := (tmod_cases x m h0).1 g
  rw [this] at e0 e1 ⊢
  unfold RowKit.wrap64
  omega
theorem within16 (x m : Int) (w : World) (h0 : 0 < m) (h1 : m < 1000000) : Calls Tryz.prog 16 #[.int .i64 x, .int .i64 m] w fun e w' => e = .returned (.int .i64 (x % m)) ∧ w' = w := by
  go_enter Tryz.func16, Tryz.ntmps16
  go_wp2
  all_goals go_ret
  · exact ⟨ret_int (within_neg h0 h1 ‹_›), rfl⟩
  · exact ⟨ret_int ((tmod_cases x m h0).2 ‹_›).symm, rfl⟩
theorem within10 (x m : Int) (w : World) (h0 : 0 < m) (h1 : m < 1000000) : Calls Tryz.prog 10 #[.int .i64 x, .int .i64 m] w fun e w' => e = .returned (.int .i64 (x % m)) ∧ w' = w := by
  go_enter Tryz.func10, Tryz.ntmps10
  go_wp2
  all_goals go_ret
  · exact ⟨ret_int (within_neg h0 h1 ‹_›), rfl⟩
  · exact ⟨ret_int ((tmod_cases x m h0).2 ‹_›).symm, rfl⟩

def sp0 : Special := fun f => if f = 241 then some indexStrA else if f = 395 then some indexByteA else if f = 390 then some fieldsA else if f = 16 then some withinA else if f = 10 then some withinA else none

/-- The package's variables as a world has them. -/
def gam (w : World) : Gam := ⟨[], [0, 2], w⟩

theorem sp0_ok {w0 : World} {m : Int} (hm : w0.cell? ⟨0, 0, none⟩ = some (.int .i64 m)) (ht : ∀ c : Nat, c < 256 → w0.cell? ⟨2, c, none⟩ = some (.int .u8 (if Lib.isSp (UInt8.ofNat c) then 1 else 0))) : SpecOK Tryz.prog (gam w0) sp0 := by
  intro f g hf args H v H' h μ w args' ha hH hG
  unfold sp0 at hf
  by_cases e1 : f = 241
  · subst e1
    rw [if_pos rfl] at hf
    cases hf
    exact indexStr_goes (g := 0) (fun s sub m w hs hm => Tryz.stringslite_Index s sub m w hs hm) Tryz.call241 (by simp [gam]) hm h ha hH hG
  · rw [if_neg e1] at hf
    by_cases e2 : f = 395
    · subst e2
      rw [if_pos rfl] at hf
      cases hf
      exact indexByte_goes Tryz.func395 (by kernel_rfl) (by kernel_rfl) (by kernel_rfl) (by kernel_rfl) h ha hH
    · rw [if_neg e2] at hf
      by_cases e3 : f = 390
      · subst e3
        rw [if_pos rfl] at hf
        cases hf
        exact fields_goes (g := 2) (fun s w hs hasc hT => Any.strings_Fields_core Tryz.lays157 (by kernel_rfl) s w hs hasc hT) Tryz.call390 (by simp [gam]) ht h ha hH hG
      · rw [if_neg e3] at hf
        by_cases e4 : f = 16
        · subst e4
          rw [if_pos rfl] at hf
          cases hf
          exact within_goes within16 Tryz.call16 h ha hH
        · rw [if_neg e4] at hf
          by_cases e5 : f = 10
          · subst e5
            rw [if_pos rfl] at hf
            cases hf
            exact within_goes within10 Tryz.call10 h ha hH
          · rw [if_neg e5] at hf
            cases hf
end Go.Proofs.YtmihjeiilgnidaaGreatDoor
