/- Boxes: arguments known by bounds, parted by a tree of cuts; a check of a whole tree tells that each point lies in a box whose run is true. -/
namespace Go.Ab

/-- A tree of cuts: leaf; or the d-th argument is cut at t (below t, from t on). -/
inductive Bx
  | l
  | c (d : Nat) (t : Int) (a b : Bx)

/-- The check of a tree over a box. -/
def Bx.ok (run : List (Int × Int) → Bool) : Bx → List (Int × Int) → Bool
  | .l, b => run b
  | .c d t x y, b => match b[d]? with
    | some (lo, hi) => x.ok run (b.set d (lo, t - 1)) && y.ok run (b.set d (t, hi))
    | none => false

/-- A point lies in a box. -/
inductive InB : List Int → List (Int × Int) → Prop
  | nil : InB [] []
  | cons {x lo hi xs b} (h0 : lo ≤ x) (h1 : x ≤ hi) (h : InB xs b) : InB (x :: xs) ((lo, hi) :: b)

theorem InB.set {xs : List Int} {b : List (Int × Int)} (h : InB xs b) : ∀ {d : Nat} {lo hi : Int} (t : Int), b[d]? = some (lo, hi) →
    InB xs (b.set d (lo, t - 1)) ∨ InB xs (b.set d (t, hi)) := by
  induction h with
  | nil => intro d lo hi t hd; simp at hd
  | @cons x lo' hi' xs b h0 h1 h ih =>
    intro d lo hi t hd
    cases d with
    | zero =>
      obtain ⟨rfl, rfl⟩ : lo' = lo ∧ hi' = hi := by simpa using hd
      rcases (show x < t ∨ t ≤ x by omega) with hx | hx
      · exact .inl (.cons h0 (Int.le_sub_one_of_lt hx) h)
      · exact .inr (.cons hx h1 h)
    | succ d =>
      rcases ih t (by simpa using hd) with g | g
      · exact .inl (.cons h0 h1 g)
      · exact .inr (.cons h0 h1 g)

theorem Bx.at (run : List (Int × Int) → Bool) {xs : List Int} : ∀ (T : Bx) {b : List (Int × Int)}, T.ok run b = true → InB xs b → ∃ b', run b' = true ∧ InB xs b' := by
  intro T
  induction T with
  | l => intro b h hb; exact ⟨b, h, hb⟩
  | c d t x y ihx ihy =>
    intro b h hb
    rw [Bx.ok] at h
    split at h
    next lo hi he =>
      rw [Bool.and_eq_true] at h
      rcases hb.set t he with g | g
      · exact ihx h.1 g
      · exact ihy h.2 g
    next => exact absurd h (by decide)

end Go.Ab
