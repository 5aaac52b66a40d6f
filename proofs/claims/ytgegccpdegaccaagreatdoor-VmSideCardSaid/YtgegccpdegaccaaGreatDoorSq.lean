/- What the program takes by contract: the library's searches, a number's text, a number's residue; and that this is right. -/
import Derived.Test.YtgegccpdegaccaaGreatDoorFc
import Derived.Test.YtgegccpdegaccaaGreatDoorShelf
import Derived.Test.YtgegccpdegaccaaGreatDoorDec
import Derived.WalkKit
namespace Go.Proofs.YtgegccpdegaccaaGreatDoor
open Go.Ab

theorem tmod_cases (x m : Int) (h0 : 0 < m) : (x.tmod m < 0 → x % m = x.tmod m + m) ∧ (0 ≤ x.tmod m → x % m = x.tmod m) := by
  have e0 := Int.emod_nonneg x (show m ≠ 0 by omega)
  have e1 := Int.emod_lt_of_pos x h0
  have h : x.tmod m = x % m - ↑(if 0 ≤ x ∨ m ∣ x then 0 else m.natAbs) := Int.tmod_eq_emod
  split at h <;> constructor <;> intro g <;> omega
theorem ret_int {a b : Int} (h : a = b) : Ending.returned (.int .i64 a) = .returned (.int .i64 b) := by rw [h]
theorem within_neg {x m : Int} (h0 : 0 < m) (h1 : m < 1000000) (g : x.tmod m < 0) : RowKit.wrap64 (x.tmod m + m) = x % m := by
  have e0 := Int.emod_nonneg x (show m ≠ 0 by omega)
  have e1 := Int.emod_lt_of_pos x h0
  have := (tmod_cases x m h0).1 g
  rw [this] at e0 e1 ⊢
  unfold RowKit.wrap64
  omega
theorem within7 (x m : Int) (w : World) (h0 : 0 < m) (h1 : m < 1000000) : Calls Tryz.prog 7 #[.int .i64 x, .int .i64 m] w fun e w' => e = .returned (.int .i64 (x % m)) ∧ w' = w := by
  go_enter Tryz.func7, Tryz.ntmps7
  go_wp2
  all_goals go_ret
  · exact ⟨ret_int (within_neg h0 h1 ‹_›), rfl⟩
  · exact ⟨ret_int ((tmod_cases x m h0).2 ‹_›).symm, rfl⟩
def sp0 : Special := fun f => if f = 296 then some indexStrA else if f = 337 then some indexByteA else if f = 238 then some fmtIntA else if f = 245 then some decA else if f = 7 then some withinA else none

/-- The package's variables as a world has them. -/
def gam (w : World) : Gam := ⟨[], [0, 1], w⟩

/-- The table of the powers of ten. -/
def Pow (w : World) : Prop := Lib.TabIs Tryz.prog w "internal/strconv.uint64pow10" .u64 Lib.pow10Tab
theorem gPow : Tryz.prog.globalNamed "internal/strconv.uint64pow10" = some 0 := by kernel_rfl
theorem pow_heap {w w0 : World} (h0 : Pow w0) (h : w.heap[0]? = w0.heap[0]?) : Pow w := by
  unfold Pow Lib.TabIs World.var? at *
  rw [gPow] at h0 ⊢
  simp only [Option.bind_some] at h0 ⊢
  rw [h]
  exact h0

theorem sp0_ok [Val] {w0 : World} {m : Int} (hm : w0.cell? ⟨1, 0, none⟩ = some (.int .i64 m)) (ht : Pow w0) : SpecOK Tryz.prog (gam w0) sp0 := by
  intro f g hf args H v H' h μ w args' ha hH hG
  unfold sp0 at hf
  by_cases e1 : f = 296
  · subst e1
    rw [if_pos rfl] at hf
    cases hf
    exact indexStr_goes (g := 1) (fun s sub m w hs hm => Tryz.stringslite_Index s sub m w hs hm) Tryz.call296 (by simp [gam]) hm h ha hH hG
  · rw [if_neg e1] at hf
    by_cases e2 : f = 337
    · subst e2
      rw [if_pos rfl] at hf
      cases hf
      exact indexByte_goes Tryz.func337 (by kernel_rfl) (by kernel_rfl) (by kernel_rfl) (by kernel_rfl) h ha hH
    · rw [if_neg e2] at hf
      by_cases e3 : f = 238
      · subst e3
        rw [if_pos rfl] at hf
        cases hf
        exact fmtInt_goes (g := 0) (fun n w h0 h1 htab => Tryz.internal_strconv_FormatInt_10 n h0 h1 w htab) Tryz.call238 (by simp [gam]) (fun w hw => pow_heap ht hw) h ha hH hG
      · rw [if_neg e3] at hf
        by_cases e4 : f = 245
        · subst e4
          rw [if_pos rfl] at hf
          cases hf
          exact dec_goes (fun n w h0 h1 => decimal_any n w h0 h1) Tryz.call245 h ha hH
        · rw [if_neg e4] at hf
          by_cases e5 : f = 7
          · subst e5
            rw [if_pos rfl] at hf
            cases hf
            exact within_goes within7 Tryz.call7 h ha hH
          · rw [if_neg e5] at hf
            cases hf
end Go.Proofs.YtgegccpdegaccaaGreatDoor
