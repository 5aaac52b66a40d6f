/- Frames of 256 values. -/
import Derived.Test.YtgegccpdegaccaaGreatDoorEc
namespace Go.Ab
structure F0 where
  (x0 x1 x2 x3 x4 x5 x6 x7 : AV)
def F0.sel (t : F0) (d : Nat) : AV :=
  match d with
  | 0 => t.x0
  | 1 => t.x1
  | 2 => t.x2
  | 3 => t.x3
  | 4 => t.x4
  | 5 => t.x5
  | 6 => t.x6
  | _ => t.x7
def F0.upd (t : F0) (d : Nat) (v : AV) : F0 :=
  match d with
  | 0 => ⟨v, t.x1, t.x2, t.x3, t.x4, t.x5, t.x6, t.x7⟩
  | 1 => ⟨t.x0, v, t.x2, t.x3, t.x4, t.x5, t.x6, t.x7⟩
  | 2 => ⟨t.x0, t.x1, v, t.x3, t.x4, t.x5, t.x6, t.x7⟩
  | 3 => ⟨t.x0, t.x1, t.x2, v, t.x4, t.x5, t.x6, t.x7⟩
  | 4 => ⟨t.x0, t.x1, t.x2, t.x3, v, t.x5, t.x6, t.x7⟩
  | 5 => ⟨t.x0, t.x1, t.x2, t.x3, t.x4, v, t.x6, t.x7⟩
  | 6 => ⟨t.x0, t.x1, t.x2, t.x3, t.x4, t.x5, v, t.x7⟩
  | _ => ⟨t.x0, t.x1, t.x2, t.x3, t.x4, t.x5, t.x6, v⟩
structure F1 where
  (x0 x1 x2 x3 x4 x5 x6 x7 : F0)
def F1.sel (t : F1) (d : Nat) : F0 :=
  match d with
  | 0 => t.x0
  | 1 => t.x1
  | 2 => t.x2
  | 3 => t.x3
  | 4 => t.x4
  | 5 => t.x5
  | 6 => t.x6
  | _ => t.x7
def F1.upd (t : F1) (d : Nat) (v : F0) : F1 :=
  match d with
  | 0 => ⟨v, t.x1, t.x2, t.x3, t.x4, t.x5, t.x6, t.x7⟩
  | 1 => ⟨t.x0, v, t.x2, t.x3, t.x4, t.x5, t.x6, t.x7⟩
  | 2 => ⟨t.x0, t.x1, v, t.x3, t.x4, t.x5, t.x6, t.x7⟩
  | 3 => ⟨t.x0, t.x1, t.x2, v, t.x4, t.x5, t.x6, t.x7⟩
  | 4 => ⟨t.x0, t.x1, t.x2, t.x3, v, t.x5, t.x6, t.x7⟩
  | 5 => ⟨t.x0, t.x1, t.x2, t.x3, t.x4, v, t.x6, t.x7⟩
  | 6 => ⟨t.x0, t.x1, t.x2, t.x3, t.x4, t.x5, v, t.x7⟩
  | _ => ⟨t.x0, t.x1, t.x2, t.x3, t.x4, t.x5, t.x6, v⟩
structure F2 where
  (x0 x1 x2 x3 : F1)
def F2.sel (t : F2) (d : Nat) : F1 :=
  match d with
  | 0 => t.x0
  | 1 => t.x1
  | 2 => t.x2
  | _ => t.x3
def F2.upd (t : F2) (d : Nat) (v : F1) : F2 :=
  match d with
  | 0 => ⟨v, t.x1, t.x2, t.x3⟩
  | 1 => ⟨t.x0, v, t.x2, t.x3⟩
  | 2 => ⟨t.x0, t.x1, v, t.x3⟩
  | _ => ⟨t.x0, t.x1, t.x2, v⟩
abbrev Fr := F2
def u0 : F0 := ⟨aundef, aundef, aundef, aundef, aundef, aundef, aundef, aundef⟩
def u1 : F1 := ⟨u0, u0, u0, u0, u0, u0, u0, u0⟩
def u2 : Fr := ⟨u1, u1, u1, u1⟩
def Fr.get (t : Fr) (i : Nat) : AV := if i < 256 then ((t.sel (i / 64)).sel (i / 8 % 8)).sel (i % 8) else aundef
def Fr.set (t : Fr) (i : Nat) (v : AV) : Fr := t.upd (i / 64) ((t.sel (i / 64)).upd (i / 8 % 8) (((t.sel (i / 64)).sel (i / 8 % 8)).upd (i % 8) v))
inductive RO where
  | ok (v : AV) (h : Hp)
  | err
inductive Out where
  | nrm (t : Fr) (h : Hp)
  | ext (i : Nat) (t : Fr) (h : Hp)
  | got (l : Nat) (t : Fr) (h : Hp)
  | ret (t : Fr) (h : Hp)
  | err
abbrev CF := Nat → List AV → Hp → RO
abbrev M := CF → Fr → Hp → Out
abbrev S := AV → M → M
abbrev G := Fr → AV
theorem F0.sel_upd (t : F0) (x : AV) (d e : Nat) (hd : d < 8) (he : e < 8) : (t.upd d x).sel e = if d = e then x else t.sel e := by
  obtain ⟨c0, c1, c2, c3, c4, c5, c6, c7⟩ := t
  have h1 : d = 0 ∨ d = 1 ∨ d = 2 ∨ d = 3 ∨ d = 4 ∨ d = 5 ∨ d = 6 ∨ d = 7 := by omega
  have h2 : e = 0 ∨ e = 1 ∨ e = 2 ∨ e = 3 ∨ e = 4 ∨ e = 5 ∨ e = 6 ∨ e = 7 := by omega
  rcases h1 with rfl | rfl | rfl | rfl | rfl | rfl | rfl | rfl <;> rcases h2 with rfl | rfl | rfl | rfl | rfl | rfl | rfl | rfl <;> rfl
theorem F1.sel_upd (t : F1) (x : F0) (d e : Nat) (hd : d < 8) (he : e < 8) : (t.upd d x).sel e = if d = e then x else t.sel e := by
  obtain ⟨c0, c1, c2, c3, c4, c5, c6, c7⟩ := t
  have h1 : d = 0 ∨ d = 1 ∨ d = 2 ∨ d = 3 ∨ d = 4 ∨ d = 5 ∨ d = 6 ∨ d = 7 := by omega
  have h2 : e = 0 ∨ e = 1 ∨ e = 2 ∨ e = 3 ∨ e = 4 ∨ e = 5 ∨ e = 6 ∨ e = 7 := by omega
  rcases h1 with rfl | rfl | rfl | rfl | rfl | rfl | rfl | rfl <;> rcases h2 with rfl | rfl | rfl | rfl | rfl | rfl | rfl | rfl <;> rfl
theorem F2.sel_upd (t : F2) (x : F1) (d e : Nat) (hd : d < 4) (he : e < 4) : (t.upd d x).sel e = if d = e then x else t.sel e := by
  obtain ⟨c0, c1, c2, c3⟩ := t
  have h1 : d = 0 ∨ d = 1 ∨ d = 2 ∨ d = 3 := by omega
  have h2 : e = 0 ∨ e = 1 ∨ e = 2 ∨ e = 3 := by omega
  rcases h1 with rfl | rfl | rfl | rfl <;> rcases h2 with rfl | rfl | rfl | rfl <;> rfl
theorem Fr.get_set (t : Fr) (i j : Nat) (v : AV) (hi : i < 256) : (t.set i v).get j = if i = j then v else t.get j := by
  unfold Fr.get Fr.set
  by_cases hj : j < 256
  · rw [if_pos hj, if_pos hj, F2.sel_upd _ _ _ _ (by omega) (by omega)]
    by_cases h1 : i / 64 = j / 64
    · rw [if_pos h1, h1, F1.sel_upd _ _ _ _ (by omega) (by omega)]
      by_cases h2 : i / 8 % 8 = j / 8 % 8
      · rw [if_pos h2, h2, F0.sel_upd _ _ _ _ (by omega) (by omega)]
        by_cases h3 : i % 8 = j % 8
        · rw [if_pos h3, if_pos (by omega)]
        · rw [if_neg h3, if_neg (by omega)]
      · rw [if_neg h2, if_neg (by omega)]
    · rw [if_neg h1, if_neg (by omega)]
  · rw [if_neg hj, if_neg hj, if_neg (by omega)]
theorem u2_get (i : Nat) : u2.get i = aundef := by
  unfold Fr.get
  split
  · rename_i h
    have e2 : ∀ d, u2.sel d = u1 := fun d => by unfold F2.sel; split <;> rfl
    have e1 : ∀ d, u1.sel d = u0 := fun d => by unfold F1.sel; split <;> rfl
    have e0 : ∀ d, u0.sel d = aundef := fun d => by unfold F0.sel; split <;> rfl
    rw [e2, e1, e0]
  · rfl
noncomputable def g0 : G := fun t => t.x0.x0.x0
noncomputable def g1 : G := fun t => t.x0.x0.x1
noncomputable def g2 : G := fun t => t.x0.x0.x2
noncomputable def g3 : G := fun t => t.x0.x0.x3
noncomputable def g4 : G := fun t => t.x0.x0.x4
noncomputable def g5 : G := fun t => t.x0.x0.x5
noncomputable def g6 : G := fun t => t.x0.x0.x6
noncomputable def g7 : G := fun t => t.x0.x0.x7
noncomputable def g8 : G := fun t => t.x0.x1.x0
noncomputable def g9 : G := fun t => t.x0.x1.x1
noncomputable def g10 : G := fun t => t.x0.x1.x2
noncomputable def g11 : G := fun t => t.x0.x1.x3
noncomputable def g12 : G := fun t => t.x0.x1.x4
noncomputable def g13 : G := fun t => t.x0.x1.x5
noncomputable def g14 : G := fun t => t.x0.x1.x6
noncomputable def g15 : G := fun t => t.x0.x1.x7
noncomputable def g16 : G := fun t => t.x0.x2.x0
noncomputable def g17 : G := fun t => t.x0.x2.x1
noncomputable def g18 : G := fun t => t.x0.x2.x2
noncomputable def g19 : G := fun t => t.x0.x2.x3
noncomputable def g20 : G := fun t => t.x0.x2.x4
noncomputable def g21 : G := fun t => t.x0.x2.x5
noncomputable def g22 : G := fun t => t.x0.x2.x6
noncomputable def g23 : G := fun t => t.x0.x2.x7
noncomputable def g24 : G := fun t => t.x0.x3.x0
noncomputable def g25 : G := fun t => t.x0.x3.x1
noncomputable def g26 : G := fun t => t.x0.x3.x2
noncomputable def g27 : G := fun t => t.x0.x3.x3
noncomputable def g28 : G := fun t => t.x0.x3.x4
noncomputable def g29 : G := fun t => t.x0.x3.x5
noncomputable def g30 : G := fun t => t.x0.x3.x6
noncomputable def g31 : G := fun t => t.x0.x3.x7
noncomputable def g32 : G := fun t => t.x0.x4.x0
noncomputable def g33 : G := fun t => t.x0.x4.x1
noncomputable def g34 : G := fun t => t.x0.x4.x2
noncomputable def g35 : G := fun t => t.x0.x4.x3
noncomputable def g36 : G := fun t => t.x0.x4.x4
noncomputable def g37 : G := fun t => t.x0.x4.x5
noncomputable def g38 : G := fun t => t.x0.x4.x6
noncomputable def g39 : G := fun t => t.x0.x4.x7
noncomputable def g40 : G := fun t => t.x0.x5.x0
noncomputable def g41 : G := fun t => t.x0.x5.x1
noncomputable def g42 : G := fun t => t.x0.x5.x2
noncomputable def g43 : G := fun t => t.x0.x5.x3
noncomputable def g44 : G := fun t => t.x0.x5.x4
noncomputable def g45 : G := fun t => t.x0.x5.x5
noncomputable def g46 : G := fun t => t.x0.x5.x6
noncomputable def g47 : G := fun t => t.x0.x5.x7
noncomputable def g48 : G := fun t => t.x0.x6.x0
noncomputable def g49 : G := fun t => t.x0.x6.x1
noncomputable def g50 : G := fun t => t.x0.x6.x2
noncomputable def g51 : G := fun t => t.x0.x6.x3
noncomputable def g52 : G := fun t => t.x0.x6.x4
noncomputable def g53 : G := fun t => t.x0.x6.x5
noncomputable def g54 : G := fun t => t.x0.x6.x6
noncomputable def g55 : G := fun t => t.x0.x6.x7
noncomputable def g56 : G := fun t => t.x0.x7.x0
noncomputable def g57 : G := fun t => t.x0.x7.x1
noncomputable def g58 : G := fun t => t.x0.x7.x2
noncomputable def g59 : G := fun t => t.x0.x7.x3
noncomputable def g60 : G := fun t => t.x0.x7.x4
noncomputable def g61 : G := fun t => t.x0.x7.x5
noncomputable def g62 : G := fun t => t.x0.x7.x6
noncomputable def g63 : G := fun t => t.x0.x7.x7
noncomputable def g64 : G := fun t => t.x1.x0.x0
noncomputable def g65 : G := fun t => t.x1.x0.x1
noncomputable def g66 : G := fun t => t.x1.x0.x2
noncomputable def g67 : G := fun t => t.x1.x0.x3
noncomputable def g68 : G := fun t => t.x1.x0.x4
noncomputable def g69 : G := fun t => t.x1.x0.x5
noncomputable def g70 : G := fun t => t.x1.x0.x6
noncomputable def g71 : G := fun t => t.x1.x0.x7
noncomputable def g72 : G := fun t => t.x1.x1.x0
noncomputable def g73 : G := fun t => t.x1.x1.x1
noncomputable def g74 : G := fun t => t.x1.x1.x2
noncomputable def g75 : G := fun t => t.x1.x1.x3
noncomputable def g76 : G := fun t => t.x1.x1.x4
noncomputable def g77 : G := fun t => t.x1.x1.x5
noncomputable def g78 : G := fun t => t.x1.x1.x6
noncomputable def g79 : G := fun t => t.x1.x1.x7
noncomputable def g80 : G := fun t => t.x1.x2.x0
noncomputable def g81 : G := fun t => t.x1.x2.x1
noncomputable def g82 : G := fun t => t.x1.x2.x2
noncomputable def g83 : G := fun t => t.x1.x2.x3
noncomputable def g84 : G := fun t => t.x1.x2.x4
noncomputable def g85 : G := fun t => t.x1.x2.x5
noncomputable def g86 : G := fun t => t.x1.x2.x6
noncomputable def g87 : G := fun t => t.x1.x2.x7
noncomputable def g88 : G := fun t => t.x1.x3.x0
noncomputable def g89 : G := fun t => t.x1.x3.x1
noncomputable def g90 : G := fun t => t.x1.x3.x2
noncomputable def g91 : G := fun t => t.x1.x3.x3
noncomputable def g92 : G := fun t => t.x1.x3.x4
noncomputable def g93 : G := fun t => t.x1.x3.x5
noncomputable def g94 : G := fun t => t.x1.x3.x6
noncomputable def g95 : G := fun t => t.x1.x3.x7
noncomputable def g96 : G := fun t => t.x1.x4.x0
noncomputable def g97 : G := fun t => t.x1.x4.x1
noncomputable def g98 : G := fun t => t.x1.x4.x2
noncomputable def g99 : G := fun t => t.x1.x4.x3
noncomputable def g100 : G := fun t => t.x1.x4.x4
noncomputable def g101 : G := fun t => t.x1.x4.x5
noncomputable def g102 : G := fun t => t.x1.x4.x6
noncomputable def g103 : G := fun t => t.x1.x4.x7
noncomputable def g104 : G := fun t => t.x1.x5.x0
noncomputable def g105 : G := fun t => t.x1.x5.x1
noncomputable def g106 : G := fun t => t.x1.x5.x2
noncomputable def g107 : G := fun t => t.x1.x5.x3
noncomputable def g108 : G := fun t => t.x1.x5.x4
noncomputable def g109 : G := fun t => t.x1.x5.x5
noncomputable def g110 : G := fun t => t.x1.x5.x6
noncomputable def g111 : G := fun t => t.x1.x5.x7
noncomputable def g112 : G := fun t => t.x1.x6.x0
noncomputable def g113 : G := fun t => t.x1.x6.x1
noncomputable def g114 : G := fun t => t.x1.x6.x2
noncomputable def g115 : G := fun t => t.x1.x6.x3
noncomputable def g116 : G := fun t => t.x1.x6.x4
noncomputable def g117 : G := fun t => t.x1.x6.x5
noncomputable def g118 : G := fun t => t.x1.x6.x6
noncomputable def g119 : G := fun t => t.x1.x6.x7
noncomputable def g120 : G := fun t => t.x1.x7.x0
noncomputable def g121 : G := fun t => t.x1.x7.x1
noncomputable def g122 : G := fun t => t.x1.x7.x2
noncomputable def g123 : G := fun t => t.x1.x7.x3
noncomputable def g124 : G := fun t => t.x1.x7.x4
noncomputable def g125 : G := fun t => t.x1.x7.x5
noncomputable def g126 : G := fun t => t.x1.x7.x6
noncomputable def g127 : G := fun t => t.x1.x7.x7
noncomputable def g128 : G := fun t => t.x2.x0.x0
noncomputable def g129 : G := fun t => t.x2.x0.x1
noncomputable def g130 : G := fun t => t.x2.x0.x2
noncomputable def g131 : G := fun t => t.x2.x0.x3
noncomputable def g132 : G := fun t => t.x2.x0.x4
noncomputable def g133 : G := fun t => t.x2.x0.x5
noncomputable def g134 : G := fun t => t.x2.x0.x6
noncomputable def g135 : G := fun t => t.x2.x0.x7
noncomputable def g136 : G := fun t => t.x2.x1.x0
noncomputable def g137 : G := fun t => t.x2.x1.x1
noncomputable def g138 : G := fun t => t.x2.x1.x2
noncomputable def g139 : G := fun t => t.x2.x1.x3
noncomputable def g140 : G := fun t => t.x2.x1.x4
noncomputable def g141 : G := fun t => t.x2.x1.x5
noncomputable def g142 : G := fun t => t.x2.x1.x6
noncomputable def g143 : G := fun t => t.x2.x1.x7
noncomputable def g144 : G := fun t => t.x2.x2.x0
noncomputable def g145 : G := fun t => t.x2.x2.x1
noncomputable def g146 : G := fun t => t.x2.x2.x2
noncomputable def g147 : G := fun t => t.x2.x2.x3
noncomputable def g148 : G := fun t => t.x2.x2.x4
noncomputable def g149 : G := fun t => t.x2.x2.x5
noncomputable def g150 : G := fun t => t.x2.x2.x6
noncomputable def g151 : G := fun t => t.x2.x2.x7
noncomputable def g152 : G := fun t => t.x2.x3.x0
noncomputable def g153 : G := fun t => t.x2.x3.x1
noncomputable def g154 : G := fun t => t.x2.x3.x2
noncomputable def g155 : G := fun t => t.x2.x3.x3
noncomputable def g156 : G := fun t => t.x2.x3.x4
noncomputable def g157 : G := fun t => t.x2.x3.x5
noncomputable def g158 : G := fun t => t.x2.x3.x6
noncomputable def g159 : G := fun t => t.x2.x3.x7
noncomputable def g160 : G := fun t => t.x2.x4.x0
noncomputable def g161 : G := fun t => t.x2.x4.x1
noncomputable def g162 : G := fun t => t.x2.x4.x2
noncomputable def g163 : G := fun t => t.x2.x4.x3
noncomputable def g164 : G := fun t => t.x2.x4.x4
noncomputable def g165 : G := fun t => t.x2.x4.x5
noncomputable def g166 : G := fun t => t.x2.x4.x6
noncomputable def g167 : G := fun t => t.x2.x4.x7
noncomputable def g168 : G := fun t => t.x2.x5.x0
noncomputable def g169 : G := fun t => t.x2.x5.x1
noncomputable def g170 : G := fun t => t.x2.x5.x2
noncomputable def g171 : G := fun t => t.x2.x5.x3
noncomputable def g172 : G := fun t => t.x2.x5.x4
noncomputable def g173 : G := fun t => t.x2.x5.x5
noncomputable def g174 : G := fun t => t.x2.x5.x6
noncomputable def g175 : G := fun t => t.x2.x5.x7
noncomputable def g176 : G := fun t => t.x2.x6.x0
noncomputable def g177 : G := fun t => t.x2.x6.x1
noncomputable def g178 : G := fun t => t.x2.x6.x2
noncomputable def g179 : G := fun t => t.x2.x6.x3
noncomputable def g180 : G := fun t => t.x2.x6.x4
noncomputable def g181 : G := fun t => t.x2.x6.x5
noncomputable def g182 : G := fun t => t.x2.x6.x6
noncomputable def g183 : G := fun t => t.x2.x6.x7
noncomputable def g184 : G := fun t => t.x2.x7.x0
noncomputable def g185 : G := fun t => t.x2.x7.x1
noncomputable def g186 : G := fun t => t.x2.x7.x2
noncomputable def g187 : G := fun t => t.x2.x7.x3
noncomputable def g188 : G := fun t => t.x2.x7.x4
noncomputable def g189 : G := fun t => t.x2.x7.x5
noncomputable def g190 : G := fun t => t.x2.x7.x6
noncomputable def g191 : G := fun t => t.x2.x7.x7
noncomputable def g192 : G := fun t => t.x3.x0.x0
noncomputable def g193 : G := fun t => t.x3.x0.x1
noncomputable def g194 : G := fun t => t.x3.x0.x2
noncomputable def g195 : G := fun t => t.x3.x0.x3
noncomputable def g196 : G := fun t => t.x3.x0.x4
noncomputable def g197 : G := fun t => t.x3.x0.x5
noncomputable def g198 : G := fun t => t.x3.x0.x6
noncomputable def g199 : G := fun t => t.x3.x0.x7
noncomputable def g200 : G := fun t => t.x3.x1.x0
noncomputable def g201 : G := fun t => t.x3.x1.x1
noncomputable def g202 : G := fun t => t.x3.x1.x2
noncomputable def g203 : G := fun t => t.x3.x1.x3
noncomputable def g204 : G := fun t => t.x3.x1.x4
noncomputable def g205 : G := fun t => t.x3.x1.x5
noncomputable def g206 : G := fun t => t.x3.x1.x6
noncomputable def g207 : G := fun t => t.x3.x1.x7
noncomputable def g208 : G := fun t => t.x3.x2.x0
noncomputable def g209 : G := fun t => t.x3.x2.x1
noncomputable def g210 : G := fun t => t.x3.x2.x2
noncomputable def g211 : G := fun t => t.x3.x2.x3
noncomputable def g212 : G := fun t => t.x3.x2.x4
noncomputable def g213 : G := fun t => t.x3.x2.x5
noncomputable def g214 : G := fun t => t.x3.x2.x6
noncomputable def g215 : G := fun t => t.x3.x2.x7
noncomputable def g216 : G := fun t => t.x3.x3.x0
noncomputable def g217 : G := fun t => t.x3.x3.x1
noncomputable def g218 : G := fun t => t.x3.x3.x2
noncomputable def g219 : G := fun t => t.x3.x3.x3
noncomputable def g220 : G := fun t => t.x3.x3.x4
noncomputable def g221 : G := fun t => t.x3.x3.x5
noncomputable def g222 : G := fun t => t.x3.x3.x6
noncomputable def g223 : G := fun t => t.x3.x3.x7
noncomputable def g224 : G := fun t => t.x3.x4.x0
noncomputable def g225 : G := fun t => t.x3.x4.x1
noncomputable def g226 : G := fun t => t.x3.x4.x2
noncomputable def g227 : G := fun t => t.x3.x4.x3
noncomputable def g228 : G := fun t => t.x3.x4.x4
noncomputable def g229 : G := fun t => t.x3.x4.x5
noncomputable def g230 : G := fun t => t.x3.x4.x6
noncomputable def g231 : G := fun t => t.x3.x4.x7
noncomputable def g232 : G := fun t => t.x3.x5.x0
noncomputable def g233 : G := fun t => t.x3.x5.x1
noncomputable def g234 : G := fun t => t.x3.x5.x2
noncomputable def g235 : G := fun t => t.x3.x5.x3
noncomputable def g236 : G := fun t => t.x3.x5.x4
noncomputable def g237 : G := fun t => t.x3.x5.x5
noncomputable def g238 : G := fun t => t.x3.x5.x6
noncomputable def g239 : G := fun t => t.x3.x5.x7
noncomputable def g240 : G := fun t => t.x3.x6.x0
noncomputable def g241 : G := fun t => t.x3.x6.x1
noncomputable def g242 : G := fun t => t.x3.x6.x2
noncomputable def g243 : G := fun t => t.x3.x6.x3
noncomputable def g244 : G := fun t => t.x3.x6.x4
noncomputable def g245 : G := fun t => t.x3.x6.x5
noncomputable def g246 : G := fun t => t.x3.x6.x6
noncomputable def g247 : G := fun t => t.x3.x6.x7
noncomputable def g248 : G := fun t => t.x3.x7.x0
noncomputable def g249 : G := fun t => t.x3.x7.x1
noncomputable def g250 : G := fun t => t.x3.x7.x2
noncomputable def g251 : G := fun t => t.x3.x7.x3
noncomputable def g252 : G := fun t => t.x3.x7.x4
noncomputable def g253 : G := fun t => t.x3.x7.x5
noncomputable def g254 : G := fun t => t.x3.x7.x6
noncomputable def g255 : G := fun t => t.x3.x7.x7
abbrev KO {α : Type} : α → Type := fun _ => Out
noncomputable def s0 : S := fun u k x t h => F2.rec (motive := KO) (fun p q r s => F1.rec (motive := KO) (fun i j l m n o y z => F0.rec (motive := KO) (fun _ b c d e f g w => k x ⟨⟨⟨u, b, c, d, e, f, g, w⟩, j, l, m, n, o, y, z⟩, q, r, s⟩ h) i) p) t
noncomputable def s1 : S := fun u k x t h => F2.rec (motive := KO) (fun p q r s => F1.rec (motive := KO) (fun i j l m n o y z => F0.rec (motive := KO) (fun a _ c d e f g w => k x ⟨⟨⟨a, u, c, d, e, f, g, w⟩, j, l, m, n, o, y, z⟩, q, r, s⟩ h) i) p) t
noncomputable def s2 : S := fun u k x t h => F2.rec (motive := KO) (fun p q r s => F1.rec (motive := KO) (fun i j l m n o y z => F0.rec (motive := KO) (fun a b _ d e f g w => k x ⟨⟨⟨a, b, u, d, e, f, g, w⟩, j, l, m, n, o, y, z⟩, q, r, s⟩ h) i) p) t
noncomputable def s3 : S := fun u k x t h => F2.rec (motive := KO) (fun p q r s => F1.rec (motive := KO) (fun i j l m n o y z => F0.rec (motive := KO) (fun a b c _ e f g w => k x ⟨⟨⟨a, b, c, u, e, f, g, w⟩, j, l, m, n, o, y, z⟩, q, r, s⟩ h) i) p) t
noncomputable def s4 : S := fun u k x t h => F2.rec (motive := KO) (fun p q r s => F1.rec (motive := KO) (fun i j l m n o y z => F0.rec (motive := KO) (fun a b c d _ f g w => k x ⟨⟨⟨a, b, c, d, u, f, g, w⟩, j, l, m, n, o, y, z⟩, q, r, s⟩ h) i) p) t
noncomputable def s5 : S := fun u k x t h => F2.rec (motive := KO) (fun p q r s => F1.rec (motive := KO) (fun i j l m n o y z => F0.rec (motive := KO) (fun a b c d e _ g w => k x ⟨⟨⟨a, b, c, d, e, u, g, w⟩, j, l, m, n, o, y, z⟩, q, r, s⟩ h) i) p) t
noncomputable def s6 : S := fun u k x t h => F2.rec (motive := KO) (fun p q r s => F1.rec (motive := KO) (fun i j l m n o y z => F0.rec (motive := KO) (fun a b c d e f _ w => k x ⟨⟨⟨a, b, c, d, e, f, u, w⟩, j, l, m, n, o, y, z⟩, q, r, s⟩ h) i) p) t
noncomputable def s7 : S := fun u k x t h => F2.rec (motive := KO) (fun p q r s => F1.rec (motive := KO) (fun i j l m n o y z => F0.rec (motive := KO) (fun a b c d e f g _ => k x ⟨⟨⟨a, b, c, d, e, f, g, u⟩, j, l, m, n, o, y, z⟩, q, r, s⟩ h) i) p) t
noncomputable def s8 : S := fun u k x t h => F2.rec (motive := KO) (fun p q r s => F1.rec (motive := KO) (fun i j l m n o y z => F0.rec (motive := KO) (fun _ b c d e f g w => k x ⟨⟨i, ⟨u, b, c, d, e, f, g, w⟩, l, m, n, o, y, z⟩, q, r, s⟩ h) j) p) t
noncomputable def s9 : S := fun u k x t h => F2.rec (motive := KO) (fun p q r s => F1.rec (motive := KO) (fun i j l m n o y z => F0.rec (motive := KO) (fun a _ c d e f g w => k x ⟨⟨i, ⟨a, u, c, d, e, f, g, w⟩, l, m, n, o, y, z⟩, q, r, s⟩ h) j) p) t
noncomputable def s10 : S := fun u k x t h => F2.rec (motive := KO) (fun p q r s => F1.rec (motive := KO) (fun i j l m n o y z => F0.rec (motive := KO) (fun a b _ d e f g w => k x ⟨⟨i, ⟨a, b, u, d, e, f, g, w⟩, l, m, n, o, y, z⟩, q, r, s⟩ h) j) p) t
noncomputable def s11 : S := fun u k x t h => F2.rec (motive := KO) (fun p q r s => F1.rec (motive := KO) (fun i j l m n o y z => F0.rec (motive := KO) (fun a b c _ e f g w => k x ⟨⟨i, ⟨a, b, c, u, e, f, g, w⟩, l, m, n, o, y, z⟩, q, r, s⟩ h) j) p) t
noncomputable def s12 : S := fun u k x t h => F2.rec (motive := KO) (fun p q r s => F1.rec (motive := KO) (fun i j l m n o y z => F0.rec (motive := KO) (fun a b c d _ f g w => k x ⟨⟨i, ⟨a, b, c, d, u, f, g, w⟩, l, m, n, o, y, z⟩, q, r, s⟩ h) j) p) t
noncomputable def s13 : S := fun u k x t h => F2.rec (motive := KO) (fun p q r s => F1.rec (motive := KO) (fun i j l m n o y z => F0.rec (motive := KO) (fun a b c d e _ g w => k x ⟨⟨i, ⟨a, b, c, d, e, u, g, w⟩, l, m, n, o, y, z⟩, q, r, s⟩ h) j) p) t
noncomputable def s14 : S := fun u k x t h => F2.rec (motive := KO) (fun p q r s => F1.rec (motive := KO) (fun i j l m n o y z => F0.rec (motive := KO) (fun a b c d e f _ w => k x ⟨⟨i, ⟨a, b, c, d, e, f, u, w⟩, l, m, n, o, y, z⟩, q, r, s⟩ h) j) p) t
noncomputable def s15 : S := fun u k x t h => F2.rec (motive := KO) (fun p q r s => F1.rec (motive := KO) (fun i j l m n o y z => F0.rec (motive := KO) (fun a b c d e f g _ => k x ⟨⟨i, ⟨a, b, c, d, e, f, g, u⟩, l, m, n, o, y, z⟩, q, r, s⟩ h) j) p) t
noncomputable def s16 : S := fun u k x t h => F2.rec (motive := KO) (fun p q r s => F1.rec (motive := KO) (fun i j l m n o y z => F0.rec (motive := KO) (fun _ b c d e f g w => k x ⟨⟨i, j, ⟨u, b, c, d, e, f, g, w⟩, m, n, o, y, z⟩, q, r, s⟩ h) l) p) t
noncomputable def s17 : S := fun u k x t h => F2.rec (motive := KO) (fun p q r s => F1.rec (motive := KO) (fun i j l m n o y z => F0.rec (motive := KO) (fun a _ c d e f g w => k x ⟨⟨i, j, ⟨a, u, c, d, e, f, g, w⟩, m, n, o, y, z⟩, q, r, s⟩ h) l) p) t
noncomputable def s18 : S := fun u k x t h => F2.rec (motive := KO) (fun p q r s => F1.rec (motive := KO) (fun i j l m n o y z => F0.rec (motive := KO) (fun a b _ d e f g w => k x ⟨⟨i, j, ⟨a, b, u, d, e, f, g, w⟩, m, n, o, y, z⟩, q, r, s⟩ h) l) p) t
noncomputable def s19 : S := fun u k x t h => F2.rec (motive := KO) (fun p q r s => F1.rec (motive := KO) (fun i j l m n o y z => F0.rec (motive := KO) (fun a b c _ e f g w => k x ⟨⟨i, j, ⟨a, b, c, u, e, f, g, w⟩, m, n, o, y, z⟩, q, r, s⟩ h) l) p) t
noncomputable def s20 : S := fun u k x t h => F2.rec (motive := KO) (fun p q r s => F1.rec (motive := KO) (fun i j l m n o y z => F0.rec (motive := KO) (fun a b c d _ f g w => k x ⟨⟨i, j, ⟨a, b, c, d, u, f, g, w⟩, m, n, o, y, z⟩, q, r, s⟩ h) l) p) t
noncomputable def s21 : S := fun u k x t h => F2.rec (motive := KO) (fun p q r s => F1.rec (motive := KO) (fun i j l m n o y z => F0.rec (motive := KO) (fun a b c d e _ g w => k x ⟨⟨i, j, ⟨a, b, c, d, e, u, g, w⟩, m, n, o, y, z⟩, q, r, s⟩ h) l) p) t
noncomputable def s22 : S := fun u k x t h => F2.rec (motive := KO) (fun p q r s => F1.rec (motive := KO) (fun i j l m n o y z => F0.rec (motive := KO) (fun a b c d e f _ w => k x ⟨⟨i, j, ⟨a, b, c, d, e, f, u, w⟩, m, n, o, y, z⟩, q, r, s⟩ h) l) p) t
noncomputable def s23 : S := fun u k x t h => F2.rec (motive := KO) (fun p q r s => F1.rec (motive := KO) (fun i j l m n o y z => F0.rec (motive := KO) (fun a b c d e f g _ => k x ⟨⟨i, j, ⟨a, b, c, d, e, f, g, u⟩, m, n, o, y, z⟩, q, r, s⟩ h) l) p) t
noncomputable def s24 : S := fun u k x t h => F2.rec (motive := KO) (fun p q r s => F1.rec (motive := KO) (fun i j l m n o y z => F0.rec (motive := KO) (fun _ b c d e f g w => k x ⟨⟨i, j, l, ⟨u, b, c, d, e, f, g, w⟩, n, o, y, z⟩, q, r, s⟩ h) m) p) t
noncomputable def s25 : S := fun u k x t h => F2.rec (motive := KO) (fun p q r s => F1.rec (motive := KO) (fun i j l m n o y z => F0.rec (motive := KO) (fun a _ c d e f g w => k x ⟨⟨i, j, l, ⟨a, u, c, d, e, f, g, w⟩, n, o, y, z⟩, q, r, s⟩ h) m) p) t
noncomputable def s26 : S := fun u k x t h => F2.rec (motive := KO) (fun p q r s => F1.rec (motive := KO) (fun i j l m n o y z => F0.rec (motive := KO) (fun a b _ d e f g w => k x ⟨⟨i, j, l, ⟨a, b, u, d, e, f, g, w⟩, n, o, y, z⟩, q, r, s⟩ h) m) p) t
noncomputable def s27 : S := fun u k x t h => F2.rec (motive := KO) (fun p q r s => F1.rec (motive := KO) (fun i j l m n o y z => F0.rec (motive := KO) (fun a b c _ e f g w => k x ⟨⟨i, j, l, ⟨a, b, c, u, e, f, g, w⟩, n, o, y, z⟩, q, r, s⟩ h) m) p) t
noncomputable def s28 : S := fun u k x t h => F2.rec (motive := KO) (fun p q r s => F1.rec (motive := KO) (fun i j l m n o y z => F0.rec (motive := KO) (fun a b c d _ f g w => k x ⟨⟨i, j, l, ⟨a, b, c, d, u, f, g, w⟩, n, o, y, z⟩, q, r, s⟩ h) m) p) t
noncomputable def s29 : S := fun u k x t h => F2.rec (motive := KO) (fun p q r s => F1.rec (motive := KO) (fun i j l m n o y z => F0.rec (motive := KO) (fun a b c d e _ g w => k x ⟨⟨i, j, l, ⟨a, b, c, d, e, u, g, w⟩, n, o, y, z⟩, q, r, s⟩ h) m) p) t
noncomputable def s30 : S := fun u k x t h => F2.rec (motive := KO) (fun p q r s => F1.rec (motive := KO) (fun i j l m n o y z => F0.rec (motive := KO) (fun a b c d e f _ w => k x ⟨⟨i, j, l, ⟨a, b, c, d, e, f, u, w⟩, n, o, y, z⟩, q, r, s⟩ h) m) p) t
noncomputable def s31 : S := fun u k x t h => F2.rec (motive := KO) (fun p q r s => F1.rec (motive := KO) (fun i j l m n o y z => F0.rec (motive := KO) (fun a b c d e f g _ => k x ⟨⟨i, j, l, ⟨a, b, c, d, e, f, g, u⟩, n, o, y, z⟩, q, r, s⟩ h) m) p) t
noncomputable def s32 : S := fun u k x t h => F2.rec (motive := KO) (fun p q r s => F1.rec (motive := KO) (fun i j l m n o y z => F0.rec (motive := KO) (fun _ b c d e f g w => k x ⟨⟨i, j, l, m, ⟨u, b, c, d, e, f, g, w⟩, o, y, z⟩, q, r, s⟩ h) n) p) t
noncomputable def s33 : S := fun u k x t h => F2.rec (motive := KO) (fun p q r s => F1.rec (motive := KO) (fun i j l m n o y z => F0.rec (motive := KO) (fun a _ c d e f g w => k x ⟨⟨i, j, l, m, ⟨a, u, c, d, e, f, g, w⟩, o, y, z⟩, q, r, s⟩ h) n) p) t
noncomputable def s34 : S := fun u k x t h => F2.rec (motive := KO) (fun p q r s => F1.rec (motive := KO) (fun i j l m n o y z => F0.rec (motive := KO) (fun a b _ d e f g w => k x ⟨⟨i, j, l, m, ⟨a, b, u, d, e, f, g, w⟩, o, y, z⟩, q, r, s⟩ h) n) p) t
noncomputable def s35 : S := fun u k x t h => F2.rec (motive := KO) (fun p q r s => F1.rec (motive := KO) (fun i j l m n o y z => F0.rec (motive := KO) (fun a b c _ e f g w => k x ⟨⟨i, j, l, m, ⟨a, b, c, u, e, f, g, w⟩, o, y, z⟩, q, r, s⟩ h) n) p) t
noncomputable def s36 : S := fun u k x t h => F2.rec (motive := KO) (fun p q r s => F1.rec (motive := KO) (fun i j l m n o y z => F0.rec (motive := KO) (fun a b c d _ f g w => k x ⟨⟨i, j, l, m, ⟨a, b, c, d, u, f, g, w⟩, o, y, z⟩, q, r, s⟩ h) n) p) t
noncomputable def s37 : S := fun u k x t h => F2.rec (motive := KO) (fun p q r s => F1.rec (motive := KO) (fun i j l m n o y z => F0.rec (motive := KO) (fun a b c d e _ g w => k x ⟨⟨i, j, l, m, ⟨a, b, c, d, e, u, g, w⟩, o, y, z⟩, q, r, s⟩ h) n) p) t
noncomputable def s38 : S := fun u k x t h => F2.rec (motive := KO) (fun p q r s => F1.rec (motive := KO) (fun i j l m n o y z => F0.rec (motive := KO) (fun a b c d e f _ w => k x ⟨⟨i, j, l, m, ⟨a, b, c, d, e, f, u, w⟩, o, y, z⟩, q, r, s⟩ h) n) p) t
noncomputable def s39 : S := fun u k x t h => F2.rec (motive := KO) (fun p q r s => F1.rec (motive := KO) (fun i j l m n o y z => F0.rec (motive := KO) (fun a b c d e f g _ => k x ⟨⟨i, j, l, m, ⟨a, b, c, d, e, f, g, u⟩, o, y, z⟩, q, r, s⟩ h) n) p) t
noncomputable def s40 : S := fun u k x t h => F2.rec (motive := KO) (fun p q r s => F1.rec (motive := KO) (fun i j l m n o y z => F0.rec (motive := KO) (fun _ b c d e f g w => k x ⟨⟨i, j, l, m, n, ⟨u, b, c, d, e, f, g, w⟩, y, z⟩, q, r, s⟩ h) o) p) t
noncomputable def s41 : S := fun u k x t h => F2.rec (motive := KO) (fun p q r s => F1.rec (motive := KO) (fun i j l m n o y z => F0.rec (motive := KO) (fun a _ c d e f g w => k x ⟨⟨i, j, l, m, n, ⟨a, u, c, d, e, f, g, w⟩, y, z⟩, q, r, s⟩ h) o) p) t
noncomputable def s42 : S := fun u k x t h => F2.rec (motive := KO) (fun p q r s => F1.rec (motive := KO) (fun i j l m n o y z => F0.rec (motive := KO) (fun a b _ d e f g w => k x ⟨⟨i, j, l, m, n, ⟨a, b, u, d, e, f, g, w⟩, y, z⟩, q, r, s⟩ h) o) p) t
noncomputable def s43 : S := fun u k x t h => F2.rec (motive := KO) (fun p q r s => F1.rec (motive := KO) (fun i j l m n o y z => F0.rec (motive := KO) (fun a b c _ e f g w => k x ⟨⟨i, j, l, m, n, ⟨a, b, c, u, e, f, g, w⟩, y, z⟩, q, r, s⟩ h) o) p) t
noncomputable def s44 : S := fun u k x t h => F2.rec (motive := KO) (fun p q r s => F1.rec (motive := KO) (fun i j l m n o y z => F0.rec (motive := KO) (fun a b c d _ f g w => k x ⟨⟨i, j, l, m, n, ⟨a, b, c, d, u, f, g, w⟩, y, z⟩, q, r, s⟩ h) o) p) t
noncomputable def s45 : S := fun u k x t h => F2.rec (motive := KO) (fun p q r s => F1.rec (motive := KO) (fun i j l m n o y z => F0.rec (motive := KO) (fun a b c d e _ g w => k x ⟨⟨i, j, l, m, n, ⟨a, b, c, d, e, u, g, w⟩, y, z⟩, q, r, s⟩ h) o) p) t
noncomputable def s46 : S := fun u k x t h => F2.rec (motive := KO) (fun p q r s => F1.rec (motive := KO) (fun i j l m n o y z => F0.rec (motive := KO) (fun a b c d e f _ w => k x ⟨⟨i, j, l, m, n, ⟨a, b, c, d, e, f, u, w⟩, y, z⟩, q, r, s⟩ h) o) p) t
noncomputable def s47 : S := fun u k x t h => F2.rec (motive := KO) (fun p q r s => F1.rec (motive := KO) (fun i j l m n o y z => F0.rec (motive := KO) (fun a b c d e f g _ => k x ⟨⟨i, j, l, m, n, ⟨a, b, c, d, e, f, g, u⟩, y, z⟩, q, r, s⟩ h) o) p) t
noncomputable def s48 : S := fun u k x t h => F2.rec (motive := KO) (fun p q r s => F1.rec (motive := KO) (fun i j l m n o y z => F0.rec (motive := KO) (fun _ b c d e f g w => k x ⟨⟨i, j, l, m, n, o, ⟨u, b, c, d, e, f, g, w⟩, z⟩, q, r, s⟩ h) y) p) t
noncomputable def s49 : S := fun u k x t h => F2.rec (motive := KO) (fun p q r s => F1.rec (motive := KO) (fun i j l m n o y z => F0.rec (motive := KO) (fun a _ c d e f g w => k x ⟨⟨i, j, l, m, n, o, ⟨a, u, c, d, e, f, g, w⟩, z⟩, q, r, s⟩ h) y) p) t
noncomputable def s50 : S := fun u k x t h => F2.rec (motive := KO) (fun p q r s => F1.rec (motive := KO) (fun i j l m n o y z => F0.rec (motive := KO) (fun a b _ d e f g w => k x ⟨⟨i, j, l, m, n, o, ⟨a, b, u, d, e, f, g, w⟩, z⟩, q, r, s⟩ h) y) p) t
noncomputable def s51 : S := fun u k x t h => F2.rec (motive := KO) (fun p q r s => F1.rec (motive := KO) (fun i j l m n o y z => F0.rec (motive := KO) (fun a b c _ e f g w => k x ⟨⟨i, j, l, m, n, o, ⟨a, b, c, u, e, f, g, w⟩, z⟩, q, r, s⟩ h) y) p) t
noncomputable def s52 : S := fun u k x t h => F2.rec (motive := KO) (fun p q r s => F1.rec (motive := KO) (fun i j l m n o y z => F0.rec (motive := KO) (fun a b c d _ f g w => k x ⟨⟨i, j, l, m, n, o, ⟨a, b, c, d, u, f, g, w⟩, z⟩, q, r, s⟩ h) y) p) t
noncomputable def s53 : S := fun u k x t h => F2.rec (motive := KO) (fun p q r s => F1.rec (motive := KO) (fun i j l m n o y z => F0.rec (motive := KO) (fun a b c d e _ g w => k x ⟨⟨i, j, l, m, n, o, ⟨a, b, c, d, e, u, g, w⟩, z⟩, q, r, s⟩ h) y) p) t
noncomputable def s54 : S := fun u k x t h => F2.rec (motive := KO) (fun p q r s => F1.rec (motive := KO) (fun i j l m n o y z => F0.rec (motive := KO) (fun a b c d e f _ w => k x ⟨⟨i, j, l, m, n, o, ⟨a, b, c, d, e, f, u, w⟩, z⟩, q, r, s⟩ h) y) p) t
noncomputable def s55 : S := fun u k x t h => F2.rec (motive := KO) (fun p q r s => F1.rec (motive := KO) (fun i j l m n o y z => F0.rec (motive := KO) (fun a b c d e f g _ => k x ⟨⟨i, j, l, m, n, o, ⟨a, b, c, d, e, f, g, u⟩, z⟩, q, r, s⟩ h) y) p) t
noncomputable def s56 : S := fun u k x t h => F2.rec (motive := KO) (fun p q r s => F1.rec (motive := KO) (fun i j l m n o y z => F0.rec (motive := KO) (fun _ b c d e f g w => k x ⟨⟨i, j, l, m, n, o, y, ⟨u, b, c, d, e, f, g, w⟩⟩, q, r, s⟩ h) z) p) t
noncomputable def s57 : S := fun u k x t h => F2.rec (motive := KO) (fun p q r s => F1.rec (motive := KO) (fun i j l m n o y z => F0.rec (motive := KO) (fun a _ c d e f g w => k x ⟨⟨i, j, l, m, n, o, y, ⟨a, u, c, d, e, f, g, w⟩⟩, q, r, s⟩ h) z) p) t
noncomputable def s58 : S := fun u k x t h => F2.rec (motive := KO) (fun p q r s => F1.rec (motive := KO) (fun i j l m n o y z => F0.rec (motive := KO) (fun a b _ d e f g w => k x ⟨⟨i, j, l, m, n, o, y, ⟨a, b, u, d, e, f, g, w⟩⟩, q, r, s⟩ h) z) p) t
noncomputable def s59 : S := fun u k x t h => F2.rec (motive := KO) (fun p q r s => F1.rec (motive := KO) (fun i j l m n o y z => F0.rec (motive := KO) (fun a b c _ e f g w => k x ⟨⟨i, j, l, m, n, o, y, ⟨a, b, c, u, e, f, g, w⟩⟩, q, r, s⟩ h) z) p) t
noncomputable def s60 : S := fun u k x t h => F2.rec (motive := KO) (fun p q r s => F1.rec (motive := KO) (fun i j l m n o y z => F0.rec (motive := KO) (fun a b c d _ f g w => k x ⟨⟨i, j, l, m, n, o, y, ⟨a, b, c, d, u, f, g, w⟩⟩, q, r, s⟩ h) z) p) t
noncomputable def s61 : S := fun u k x t h => F2.rec (motive := KO) (fun p q r s => F1.rec (motive := KO) (fun i j l m n o y z => F0.rec (motive := KO) (fun a b c d e _ g w => k x ⟨⟨i, j, l, m, n, o, y, ⟨a, b, c, d, e, u, g, w⟩⟩, q, r, s⟩ h) z) p) t
noncomputable def s62 : S := fun u k x t h => F2.rec (motive := KO) (fun p q r s => F1.rec (motive := KO) (fun i j l m n o y z => F0.rec (motive := KO) (fun a b c d e f _ w => k x ⟨⟨i, j, l, m, n, o, y, ⟨a, b, c, d, e, f, u, w⟩⟩, q, r, s⟩ h) z) p) t
noncomputable def s63 : S := fun u k x t h => F2.rec (motive := KO) (fun p q r s => F1.rec (motive := KO) (fun i j l m n o y z => F0.rec (motive := KO) (fun a b c d e f g _ => k x ⟨⟨i, j, l, m, n, o, y, ⟨a, b, c, d, e, f, g, u⟩⟩, q, r, s⟩ h) z) p) t
noncomputable def s64 : S := fun u k x t h => F2.rec (motive := KO) (fun p q r s => F1.rec (motive := KO) (fun i j l m n o y z => F0.rec (motive := KO) (fun _ b c d e f g w => k x ⟨p, ⟨⟨u, b, c, d, e, f, g, w⟩, j, l, m, n, o, y, z⟩, r, s⟩ h) i) q) t
noncomputable def s65 : S := fun u k x t h => F2.rec (motive := KO) (fun p q r s => F1.rec (motive := KO) (fun i j l m n o y z => F0.rec (motive := KO) (fun a _ c d e f g w => k x ⟨p, ⟨⟨a, u, c, d, e, f, g, w⟩, j, l, m, n, o, y, z⟩, r, s⟩ h) i) q) t
noncomputable def s66 : S := fun u k x t h => F2.rec (motive := KO) (fun p q r s => F1.rec (motive := KO) (fun i j l m n o y z => F0.rec (motive := KO) (fun a b _ d e f g w => k x ⟨p, ⟨⟨a, b, u, d, e, f, g, w⟩, j, l, m, n, o, y, z⟩, r, s⟩ h) i) q) t
noncomputable def s67 : S := fun u k x t h => F2.rec (motive := KO) (fun p q r s => F1.rec (motive := KO) (fun i j l m n o y z => F0.rec (motive := KO) (fun a b c _ e f g w => k x ⟨p, ⟨⟨a, b, c, u, e, f, g, w⟩, j, l, m, n, o, y, z⟩, r, s⟩ h) i) q) t
noncomputable def s68 : S := fun u k x t h => F2.rec (motive := KO) (fun p q r s => F1.rec (motive := KO) (fun i j l m n o y z => F0.rec (motive := KO) (fun a b c d _ f g w => k x ⟨p, ⟨⟨a, b, c, d, u, f, g, w⟩, j, l, m, n, o, y, z⟩, r, s⟩ h) i) q) t
noncomputable def s69 : S := fun u k x t h => F2.rec (motive := KO) (fun p q r s => F1.rec (motive := KO) (fun i j l m n o y z => F0.rec (motive := KO) (fun a b c d e _ g w => k x ⟨p, ⟨⟨a, b, c, d, e, u, g, w⟩, j, l, m, n, o, y, z⟩, r, s⟩ h) i) q) t
noncomputable def s70 : S := fun u k x t h => F2.rec (motive := KO) (fun p q r s => F1.rec (motive := KO) (fun i j l m n o y z => F0.rec (motive := KO) (fun a b c d e f _ w => k x ⟨p, ⟨⟨a, b, c, d, e, f, u, w⟩, j, l, m, n, o, y, z⟩, r, s⟩ h) i) q) t
noncomputable def s71 : S := fun u k x t h => F2.rec (motive := KO) (fun p q r s => F1.rec (motive := KO) (fun i j l m n o y z => F0.rec (motive := KO) (fun a b c d e f g _ => k x ⟨p, ⟨⟨a, b, c, d, e, f, g, u⟩, j, l, m, n, o, y, z⟩, r, s⟩ h) i) q) t
noncomputable def s72 : S := fun u k x t h => F2.rec (motive := KO) (fun p q r s => F1.rec (motive := KO) (fun i j l m n o y z => F0.rec (motive := KO) (fun _ b c d e f g w => k x ⟨p, ⟨i, ⟨u, b, c, d, e, f, g, w⟩, l, m, n, o, y, z⟩, r, s⟩ h) j) q) t
noncomputable def s73 : S := fun u k x t h => F2.rec (motive := KO) (fun p q r s => F1.rec (motive := KO) (fun i j l m n o y z => F0.rec (motive := KO) (fun a _ c d e f g w => k x ⟨p, ⟨i, ⟨a, u, c, d, e, f, g, w⟩, l, m, n, o, y, z⟩, r, s⟩ h) j) q) t
noncomputable def s74 : S := fun u k x t h => F2.rec (motive := KO) (fun p q r s => F1.rec (motive := KO) (fun i j l m n o y z => F0.rec (motive := KO) (fun a b _ d e f g w => k x ⟨p, ⟨i, ⟨a, b, u, d, e, f, g, w⟩, l, m, n, o, y, z⟩, r, s⟩ h) j) q) t
noncomputable def s75 : S := fun u k x t h => F2.rec (motive := KO) (fun p q r s => F1.rec (motive := KO) (fun i j l m n o y z => F0.rec (motive := KO) (fun a b c _ e f g w => k x ⟨p, ⟨i, ⟨a, b, c, u, e, f, g, w⟩, l, m, n, o, y, z⟩, r, s⟩ h) j) q) t
noncomputable def s76 : S := fun u k x t h => F2.rec (motive := KO) (fun p q r s => F1.rec (motive := KO) (fun i j l m n o y z => F0.rec (motive := KO) (fun a b c d _ f g w => k x ⟨p, ⟨i, ⟨a, b, c, d, u, f, g, w⟩, l, m, n, o, y, z⟩, r, s⟩ h) j) q) t
noncomputable def s77 : S := fun u k x t h => F2.rec (motive := KO) (fun p q r s => F1.rec (motive := KO) (fun i j l m n o y z => F0.rec (motive := KO) (fun a b c d e _ g w => k x ⟨p, ⟨i, ⟨a, b, c, d, e, u, g, w⟩, l, m, n, o, y, z⟩, r, s⟩ h) j) q) t
noncomputable def s78 : S := fun u k x t h => F2.rec (motive := KO) (fun p q r s => F1.rec (motive := KO) (fun i j l m n o y z => F0.rec (motive := KO) (fun a b c d e f _ w => k x ⟨p, ⟨i, ⟨a, b, c, d, e, f, u, w⟩, l, m, n, o, y, z⟩, r, s⟩ h) j) q) t
noncomputable def s79 : S := fun u k x t h => F2.rec (motive := KO) (fun p q r s => F1.rec (motive := KO) (fun i j l m n o y z => F0.rec (motive := KO) (fun a b c d e f g _ => k x ⟨p, ⟨i, ⟨a, b, c, d, e, f, g, u⟩, l, m, n, o, y, z⟩, r, s⟩ h) j) q) t
noncomputable def s80 : S := fun u k x t h => F2.rec (motive := KO) (fun p q r s => F1.rec (motive := KO) (fun i j l m n o y z => F0.rec (motive := KO) (fun _ b c d e f g w => k x ⟨p, ⟨i, j, ⟨u, b, c, d, e, f, g, w⟩, m, n, o, y, z⟩, r, s⟩ h) l) q) t
noncomputable def s81 : S := fun u k x t h => F2.rec (motive := KO) (fun p q r s => F1.rec (motive := KO) (fun i j l m n o y z => F0.rec (motive := KO) (fun a _ c d e f g w => k x ⟨p, ⟨i, j, ⟨a, u, c, d, e, f, g, w⟩, m, n, o, y, z⟩, r, s⟩ h) l) q) t
noncomputable def s82 : S := fun u k x t h => F2.rec (motive := KO) (fun p q r s => F1.rec (motive := KO) (fun i j l m n o y z => F0.rec (motive := KO) (fun a b _ d e f g w => k x ⟨p, ⟨i, j, ⟨a, b, u, d, e, f, g, w⟩, m, n, o, y, z⟩, r, s⟩ h) l) q) t
noncomputable def s83 : S := fun u k x t h => F2.rec (motive := KO) (fun p q r s => F1.rec (motive := KO) (fun i j l m n o y z => F0.rec (motive := KO) (fun a b c _ e f g w => k x ⟨p, ⟨i, j, ⟨a, b, c, u, e, f, g, w⟩, m, n, o, y, z⟩, r, s⟩ h) l) q) t
noncomputable def s84 : S := fun u k x t h => F2.rec (motive := KO) (fun p q r s => F1.rec (motive := KO) (fun i j l m n o y z => F0.rec (motive := KO) (fun a b c d _ f g w => k x ⟨p, ⟨i, j, ⟨a, b, c, d, u, f, g, w⟩, m, n, o, y, z⟩, r, s⟩ h) l) q) t
noncomputable def s85 : S := fun u k x t h => F2.rec (motive := KO) (fun p q r s => F1.rec (motive := KO) (fun i j l m n o y z => F0.rec (motive := KO) (fun a b c d e _ g w => k x ⟨p, ⟨i, j, ⟨a, b, c, d, e, u, g, w⟩, m, n, o, y, z⟩, r, s⟩ h) l) q) t
noncomputable def s86 : S := fun u k x t h => F2.rec (motive := KO) (fun p q r s => F1.rec (motive := KO) (fun i j l m n o y z => F0.rec (motive := KO) (fun a b c d e f _ w => k x ⟨p, ⟨i, j, ⟨a, b, c, d, e, f, u, w⟩, m, n, o, y, z⟩, r, s⟩ h) l) q) t
noncomputable def s87 : S := fun u k x t h => F2.rec (motive := KO) (fun p q r s => F1.rec (motive := KO) (fun i j l m n o y z => F0.rec (motive := KO) (fun a b c d e f g _ => k x ⟨p, ⟨i, j, ⟨a, b, c, d, e, f, g, u⟩, m, n, o, y, z⟩, r, s⟩ h) l) q) t
noncomputable def s88 : S := fun u k x t h => F2.rec (motive := KO) (fun p q r s => F1.rec (motive := KO) (fun i j l m n o y z => F0.rec (motive := KO) (fun _ b c d e f g w => k x ⟨p, ⟨i, j, l, ⟨u, b, c, d, e, f, g, w⟩, n, o, y, z⟩, r, s⟩ h) m) q) t
noncomputable def s89 : S := fun u k x t h => F2.rec (motive := KO) (fun p q r s => F1.rec (motive := KO) (fun i j l m n o y z => F0.rec (motive := KO) (fun a _ c d e f g w => k x ⟨p, ⟨i, j, l, ⟨a, u, c, d, e, f, g, w⟩, n, o, y, z⟩, r, s⟩ h) m) q) t
noncomputable def s90 : S := fun u k x t h => F2.rec (motive := KO) (fun p q r s => F1.rec (motive := KO) (fun i j l m n o y z => F0.rec (motive := KO) (fun a b _ d e f g w => k x ⟨p, ⟨i, j, l, ⟨a, b, u, d, e, f, g, w⟩, n, o, y, z⟩, r, s⟩ h) m) q) t
noncomputable def s91 : S := fun u k x t h => F2.rec (motive := KO) (fun p q r s => F1.rec (motive := KO) (fun i j l m n o y z => F0.rec (motive := KO) (fun a b c _ e f g w => k x ⟨p, ⟨i, j, l, ⟨a, b, c, u, e, f, g, w⟩, n, o, y, z⟩, r, s⟩ h) m) q) t
noncomputable def s92 : S := fun u k x t h => F2.rec (motive := KO) (fun p q r s => F1.rec (motive := KO) (fun i j l m n o y z => F0.rec (motive := KO) (fun a b c d _ f g w => k x ⟨p, ⟨i, j, l, ⟨a, b, c, d, u, f, g, w⟩, n, o, y, z⟩, r, s⟩ h) m) q) t
noncomputable def s93 : S := fun u k x t h => F2.rec (motive := KO) (fun p q r s => F1.rec (motive := KO) (fun i j l m n o y z => F0.rec (motive := KO) (fun a b c d e _ g w => k x ⟨p, ⟨i, j, l, ⟨a, b, c, d, e, u, g, w⟩, n, o, y, z⟩, r, s⟩ h) m) q) t
noncomputable def s94 : S := fun u k x t h => F2.rec (motive := KO) (fun p q r s => F1.rec (motive := KO) (fun i j l m n o y z => F0.rec (motive := KO) (fun a b c d e f _ w => k x ⟨p, ⟨i, j, l, ⟨a, b, c, d, e, f, u, w⟩, n, o, y, z⟩, r, s⟩ h) m) q) t
noncomputable def s95 : S := fun u k x t h => F2.rec (motive := KO) (fun p q r s => F1.rec (motive := KO) (fun i j l m n o y z => F0.rec (motive := KO) (fun a b c d e f g _ => k x ⟨p, ⟨i, j, l, ⟨a, b, c, d, e, f, g, u⟩, n, o, y, z⟩, r, s⟩ h) m) q) t
noncomputable def s96 : S := fun u k x t h => F2.rec (motive := KO) (fun p q r s => F1.rec (motive := KO) (fun i j l m n o y z => F0.rec (motive := KO) (fun _ b c d e f g w => k x ⟨p, ⟨i, j, l, m, ⟨u, b, c, d, e, f, g, w⟩, o, y, z⟩, r, s⟩ h) n) q) t
noncomputable def s97 : S := fun u k x t h => F2.rec (motive := KO) (fun p q r s => F1.rec (motive := KO) (fun i j l m n o y z => F0.rec (motive := KO) (fun a _ c d e f g w => k x ⟨p, ⟨i, j, l, m, ⟨a, u, c, d, e, f, g, w⟩, o, y, z⟩, r, s⟩ h) n) q) t
noncomputable def s98 : S := fun u k x t h => F2.rec (motive := KO) (fun p q r s => F1.rec (motive := KO) (fun i j l m n o y z => F0.rec (motive := KO) (fun a b _ d e f g w => k x ⟨p, ⟨i, j, l, m, ⟨a, b, u, d, e, f, g, w⟩, o, y, z⟩, r, s⟩ h) n) q) t
noncomputable def s99 : S := fun u k x t h => F2.rec (motive := KO) (fun p q r s => F1.rec (motive := KO) (fun i j l m n o y z => F0.rec (motive := KO) (fun a b c _ e f g w => k x ⟨p, ⟨i, j, l, m, ⟨a, b, c, u, e, f, g, w⟩, o, y, z⟩, r, s⟩ h) n) q) t
noncomputable def s100 : S := fun u k x t h => F2.rec (motive := KO) (fun p q r s => F1.rec (motive := KO) (fun i j l m n o y z => F0.rec (motive := KO) (fun a b c d _ f g w => k x ⟨p, ⟨i, j, l, m, ⟨a, b, c, d, u, f, g, w⟩, o, y, z⟩, r, s⟩ h) n) q) t
noncomputable def s101 : S := fun u k x t h => F2.rec (motive := KO) (fun p q r s => F1.rec (motive := KO) (fun i j l m n o y z => F0.rec (motive := KO) (fun a b c d e _ g w => k x ⟨p, ⟨i, j, l, m, ⟨a, b, c, d, e, u, g, w⟩, o, y, z⟩, r, s⟩ h) n) q) t
noncomputable def s102 : S := fun u k x t h => F2.rec (motive := KO) (fun p q r s => F1.rec (motive := KO) (fun i j l m n o y z => F0.rec (motive := KO) (fun a b c d e f _ w => k x ⟨p, ⟨i, j, l, m, ⟨a, b, c, d, e, f, u, w⟩, o, y, z⟩, r, s⟩ h) n) q) t
noncomputable def s103 : S := fun u k x t h => F2.rec (motive := KO) (fun p q r s => F1.rec (motive := KO) (fun i j l m n o y z => F0.rec (motive := KO) (fun a b c d e f g _ => k x ⟨p, ⟨i, j, l, m, ⟨a, b, c, d, e, f, g, u⟩, o, y, z⟩, r, s⟩ h) n) q) t
noncomputable def s104 : S := fun u k x t h => F2.rec (motive := KO) (fun p q r s => F1.rec (motive := KO) (fun i j l m n o y z => F0.rec (motive := KO) (fun _ b c d e f g w => k x ⟨p, ⟨i, j, l, m, n, ⟨u, b, c, d, e, f, g, w⟩, y, z⟩, r, s⟩ h) o) q) t
noncomputable def s105 : S := fun u k x t h => F2.rec (motive := KO) (fun p q r s => F1.rec (motive := KO) (fun i j l m n o y z => F0.rec (motive := KO) (fun a _ c d e f g w => k x ⟨p, ⟨i, j, l, m, n, ⟨a, u, c, d, e, f, g, w⟩, y, z⟩, r, s⟩ h) o) q) t
noncomputable def s106 : S := fun u k x t h => F2.rec (motive := KO) (fun p q r s => F1.rec (motive := KO) (fun i j l m n o y z => F0.rec (motive := KO) (fun a b _ d e f g w => k x ⟨p, ⟨i, j, l, m, n, ⟨a, b, u, d, e, f, g, w⟩, y, z⟩, r, s⟩ h) o) q) t
noncomputable def s107 : S := fun u k x t h => F2.rec (motive := KO) (fun p q r s => F1.rec (motive := KO) (fun i j l m n o y z => F0.rec (motive := KO) (fun a b c _ e f g w => k x ⟨p, ⟨i, j, l, m, n, ⟨a, b, c, u, e, f, g, w⟩, y, z⟩, r, s⟩ h) o) q) t
noncomputable def s108 : S := fun u k x t h => F2.rec (motive := KO) (fun p q r s => F1.rec (motive := KO) (fun i j l m n o y z => F0.rec (motive := KO) (fun a b c d _ f g w => k x ⟨p, ⟨i, j, l, m, n, ⟨a, b, c, d, u, f, g, w⟩, y, z⟩, r, s⟩ h) o) q) t
noncomputable def s109 : S := fun u k x t h => F2.rec (motive := KO) (fun p q r s => F1.rec (motive := KO) (fun i j l m n o y z => F0.rec (motive := KO) (fun a b c d e _ g w => k x ⟨p, ⟨i, j, l, m, n, ⟨a, b, c, d, e, u, g, w⟩, y, z⟩, r, s⟩ h) o) q) t
noncomputable def s110 : S := fun u k x t h => F2.rec (motive := KO) (fun p q r s => F1.rec (motive := KO) (fun i j l m n o y z => F0.rec (motive := KO) (fun a b c d e f _ w => k x ⟨p, ⟨i, j, l, m, n, ⟨a, b, c, d, e, f, u, w⟩, y, z⟩, r, s⟩ h) o) q) t
noncomputable def s111 : S := fun u k x t h => F2.rec (motive := KO) (fun p q r s => F1.rec (motive := KO) (fun i j l m n o y z => F0.rec (motive := KO) (fun a b c d e f g _ => k x ⟨p, ⟨i, j, l, m, n, ⟨a, b, c, d, e, f, g, u⟩, y, z⟩, r, s⟩ h) o) q) t
noncomputable def s112 : S := fun u k x t h => F2.rec (motive := KO) (fun p q r s => F1.rec (motive := KO) (fun i j l m n o y z => F0.rec (motive := KO) (fun _ b c d e f g w => k x ⟨p, ⟨i, j, l, m, n, o, ⟨u, b, c, d, e, f, g, w⟩, z⟩, r, s⟩ h) y) q) t
noncomputable def s113 : S := fun u k x t h => F2.rec (motive := KO) (fun p q r s => F1.rec (motive := KO) (fun i j l m n o y z => F0.rec (motive := KO) (fun a _ c d e f g w => k x ⟨p, ⟨i, j, l, m, n, o, ⟨a, u, c, d, e, f, g, w⟩, z⟩, r, s⟩ h) y) q) t
noncomputable def s114 : S := fun u k x t h => F2.rec (motive := KO) (fun p q r s => F1.rec (motive := KO) (fun i j l m n o y z => F0.rec (motive := KO) (fun a b _ d e f g w => k x ⟨p, ⟨i, j, l, m, n, o, ⟨a, b, u, d, e, f, g, w⟩, z⟩, r, s⟩ h) y) q) t
noncomputable def s115 : S := fun u k x t h => F2.rec (motive := KO) (fun p q r s => F1.rec (motive := KO) (fun i j l m n o y z => F0.rec (motive := KO) (fun a b c _ e f g w => k x ⟨p, ⟨i, j, l, m, n, o, ⟨a, b, c, u, e, f, g, w⟩, z⟩, r, s⟩ h) y) q) t
noncomputable def s116 : S := fun u k x t h => F2.rec (motive := KO) (fun p q r s => F1.rec (motive := KO) (fun i j l m n o y z => F0.rec (motive := KO) (fun a b c d _ f g w => k x ⟨p, ⟨i, j, l, m, n, o, ⟨a, b, c, d, u, f, g, w⟩, z⟩, r, s⟩ h) y) q) t
noncomputable def s117 : S := fun u k x t h => F2.rec (motive := KO) (fun p q r s => F1.rec (motive := KO) (fun i j l m n o y z => F0.rec (motive := KO) (fun a b c d e _ g w => k x ⟨p, ⟨i, j, l, m, n, o, ⟨a, b, c, d, e, u, g, w⟩, z⟩, r, s⟩ h) y) q) t
noncomputable def s118 : S := fun u k x t h => F2.rec (motive := KO) (fun p q r s => F1.rec (motive := KO) (fun i j l m n o y z => F0.rec (motive := KO) (fun a b c d e f _ w => k x ⟨p, ⟨i, j, l, m, n, o, ⟨a, b, c, d, e, f, u, w⟩, z⟩, r, s⟩ h) y) q) t
noncomputable def s119 : S := fun u k x t h => F2.rec (motive := KO) (fun p q r s => F1.rec (motive := KO) (fun i j l m n o y z => F0.rec (motive := KO) (fun a b c d e f g _ => k x ⟨p, ⟨i, j, l, m, n, o, ⟨a, b, c, d, e, f, g, u⟩, z⟩, r, s⟩ h) y) q) t
noncomputable def s120 : S := fun u k x t h => F2.rec (motive := KO) (fun p q r s => F1.rec (motive := KO) (fun i j l m n o y z => F0.rec (motive := KO) (fun _ b c d e f g w => k x ⟨p, ⟨i, j, l, m, n, o, y, ⟨u, b, c, d, e, f, g, w⟩⟩, r, s⟩ h) z) q) t
noncomputable def s121 : S := fun u k x t h => F2.rec (motive := KO) (fun p q r s => F1.rec (motive := KO) (fun i j l m n o y z => F0.rec (motive := KO) (fun a _ c d e f g w => k x ⟨p, ⟨i, j, l, m, n, o, y, ⟨a, u, c, d, e, f, g, w⟩⟩, r, s⟩ h) z) q) t
noncomputable def s122 : S := fun u k x t h => F2.rec (motive := KO) (fun p q r s => F1.rec (motive := KO) (fun i j l m n o y z => F0.rec (motive := KO) (fun a b _ d e f g w => k x ⟨p, ⟨i, j, l, m, n, o, y, ⟨a, b, u, d, e, f, g, w⟩⟩, r, s⟩ h) z) q) t
noncomputable def s123 : S := fun u k x t h => F2.rec (motive := KO) (fun p q r s => F1.rec (motive := KO) (fun i j l m n o y z => F0.rec (motive := KO) (fun a b c _ e f g w => k x ⟨p, ⟨i, j, l, m, n, o, y, ⟨a, b, c, u, e, f, g, w⟩⟩, r, s⟩ h) z) q) t
noncomputable def s124 : S := fun u k x t h => F2.rec (motive := KO) (fun p q r s => F1.rec (motive := KO) (fun i j l m n o y z => F0.rec (motive := KO) (fun a b c d _ f g w => k x ⟨p, ⟨i, j, l, m, n, o, y, ⟨a, b, c, d, u, f, g, w⟩⟩, r, s⟩ h) z) q) t
noncomputable def s125 : S := fun u k x t h => F2.rec (motive := KO) (fun p q r s => F1.rec (motive := KO) (fun i j l m n o y z => F0.rec (motive := KO) (fun a b c d e _ g w => k x ⟨p, ⟨i, j, l, m, n, o, y, ⟨a, b, c, d, e, u, g, w⟩⟩, r, s⟩ h) z) q) t
noncomputable def s126 : S := fun u k x t h => F2.rec (motive := KO) (fun p q r s => F1.rec (motive := KO) (fun i j l m n o y z => F0.rec (motive := KO) (fun a b c d e f _ w => k x ⟨p, ⟨i, j, l, m, n, o, y, ⟨a, b, c, d, e, f, u, w⟩⟩, r, s⟩ h) z) q) t
noncomputable def s127 : S := fun u k x t h => F2.rec (motive := KO) (fun p q r s => F1.rec (motive := KO) (fun i j l m n o y z => F0.rec (motive := KO) (fun a b c d e f g _ => k x ⟨p, ⟨i, j, l, m, n, o, y, ⟨a, b, c, d, e, f, g, u⟩⟩, r, s⟩ h) z) q) t
noncomputable def s128 : S := fun u k x t h => F2.rec (motive := KO) (fun p q r s => F1.rec (motive := KO) (fun i j l m n o y z => F0.rec (motive := KO) (fun _ b c d e f g w => k x ⟨p, q, ⟨⟨u, b, c, d, e, f, g, w⟩, j, l, m, n, o, y, z⟩, s⟩ h) i) r) t
noncomputable def s129 : S := fun u k x t h => F2.rec (motive := KO) (fun p q r s => F1.rec (motive := KO) (fun i j l m n o y z => F0.rec (motive := KO) (fun a _ c d e f g w => k x ⟨p, q, ⟨⟨a, u, c, d, e, f, g, w⟩, j, l, m, n, o, y, z⟩, s⟩ h) i) r) t
noncomputable def s130 : S := fun u k x t h => F2.rec (motive := KO) (fun p q r s => F1.rec (motive := KO) (fun i j l m n o y z => F0.rec (motive := KO) (fun a b _ d e f g w => k x ⟨p, q, ⟨⟨a, b, u, d, e, f, g, w⟩, j, l, m, n, o, y, z⟩, s⟩ h) i) r) t
noncomputable def s131 : S := fun u k x t h => F2.rec (motive := KO) (fun p q r s => F1.rec (motive := KO) (fun i j l m n o y z => F0.rec (motive := KO) (fun a b c _ e f g w => k x ⟨p, q, ⟨⟨a, b, c, u, e, f, g, w⟩, j, l, m, n, o, y, z⟩, s⟩ h) i) r) t
noncomputable def s132 : S := fun u k x t h => F2.rec (motive := KO) (fun p q r s => F1.rec (motive := KO) (fun i j l m n o y z => F0.rec (motive := KO) (fun a b c d _ f g w => k x ⟨p, q, ⟨⟨a, b, c, d, u, f, g, w⟩, j, l, m, n, o, y, z⟩, s⟩ h) i) r) t
noncomputable def s133 : S := fun u k x t h => F2.rec (motive := KO) (fun p q r s => F1.rec (motive := KO) (fun i j l m n o y z => F0.rec (motive := KO) (fun a b c d e _ g w => k x ⟨p, q, ⟨⟨a, b, c, d, e, u, g, w⟩, j, l, m, n, o, y, z⟩, s⟩ h) i) r) t
noncomputable def s134 : S := fun u k x t h => F2.rec (motive := KO) (fun p q r s => F1.rec (motive := KO) (fun i j l m n o y z => F0.rec (motive := KO) (fun a b c d e f _ w => k x ⟨p, q, ⟨⟨a, b, c, d, e, f, u, w⟩, j, l, m, n, o, y, z⟩, s⟩ h) i) r) t
noncomputable def s135 : S := fun u k x t h => F2.rec (motive := KO) (fun p q r s => F1.rec (motive := KO) (fun i j l m n o y z => F0.rec (motive := KO) (fun a b c d e f g _ => k x ⟨p, q, ⟨⟨a, b, c, d, e, f, g, u⟩, j, l, m, n, o, y, z⟩, s⟩ h) i) r) t
noncomputable def s136 : S := fun u k x t h => F2.rec (motive := KO) (fun p q r s => F1.rec (motive := KO) (fun i j l m n o y z => F0.rec (motive := KO) (fun _ b c d e f g w => k x ⟨p, q, ⟨i, ⟨u, b, c, d, e, f, g, w⟩, l, m, n, o, y, z⟩, s⟩ h) j) r) t
noncomputable def s137 : S := fun u k x t h => F2.rec (motive := KO) (fun p q r s => F1.rec (motive := KO) (fun i j l m n o y z => F0.rec (motive := KO) (fun a _ c d e f g w => k x ⟨p, q, ⟨i, ⟨a, u, c, d, e, f, g, w⟩, l, m, n, o, y, z⟩, s⟩ h) j) r) t
noncomputable def s138 : S := fun u k x t h => F2.rec (motive := KO) (fun p q r s => F1.rec (motive := KO) (fun i j l m n o y z => F0.rec (motive := KO) (fun a b _ d e f g w => k x ⟨p, q, ⟨i, ⟨a, b, u, d, e, f, g, w⟩, l, m, n, o, y, z⟩, s⟩ h) j) r) t
noncomputable def s139 : S := fun u k x t h => F2.rec (motive := KO) (fun p q r s => F1.rec (motive := KO) (fun i j l m n o y z => F0.rec (motive := KO) (fun a b c _ e f g w => k x ⟨p, q, ⟨i, ⟨a, b, c, u, e, f, g, w⟩, l, m, n, o, y, z⟩, s⟩ h) j) r) t
noncomputable def s140 : S := fun u k x t h => F2.rec (motive := KO) (fun p q r s => F1.rec (motive := KO) (fun i j l m n o y z => F0.rec (motive := KO) (fun a b c d _ f g w => k x ⟨p, q, ⟨i, ⟨a, b, c, d, u, f, g, w⟩, l, m, n, o, y, z⟩, s⟩ h) j) r) t
noncomputable def s141 : S := fun u k x t h => F2.rec (motive := KO) (fun p q r s => F1.rec (motive := KO) (fun i j l m n o y z => F0.rec (motive := KO) (fun a b c d e _ g w => k x ⟨p, q, ⟨i, ⟨a, b, c, d, e, u, g, w⟩, l, m, n, o, y, z⟩, s⟩ h) j) r) t
noncomputable def s142 : S := fun u k x t h => F2.rec (motive := KO) (fun p q r s => F1.rec (motive := KO) (fun i j l m n o y z => F0.rec (motive := KO) (fun a b c d e f _ w => k x ⟨p, q, ⟨i, ⟨a, b, c, d, e, f, u, w⟩, l, m, n, o, y, z⟩, s⟩ h) j) r) t
noncomputable def s143 : S := fun u k x t h => F2.rec (motive := KO) (fun p q r s => F1.rec (motive := KO) (fun i j l m n o y z => F0.rec (motive := KO) (fun a b c d e f g _ => k x ⟨p, q, ⟨i, ⟨a, b, c, d, e, f, g, u⟩, l, m, n, o, y, z⟩, s⟩ h) j) r) t
noncomputable def s144 : S := fun u k x t h => F2.rec (motive := KO) (fun p q r s => F1.rec (motive := KO) (fun i j l m n o y z => F0.rec (motive := KO) (fun _ b c d e f g w => k x ⟨p, q, ⟨i, j, ⟨u, b, c, d, e, f, g, w⟩, m, n, o, y, z⟩, s⟩ h) l) r) t
noncomputable def s145 : S := fun u k x t h => F2.rec (motive := KO) (fun p q r s => F1.rec (motive := KO) (fun i j l m n o y z => F0.rec (motive := KO) (fun a _ c d e f g w => k x ⟨p, q, ⟨i, j, ⟨a, u, c, d, e, f, g, w⟩, m, n, o, y, z⟩, s⟩ h) l) r) t
noncomputable def s146 : S := fun u k x t h => F2.rec (motive := KO) (fun p q r s => F1.rec (motive := KO) (fun i j l m n o y z => F0.rec (motive := KO) (fun a b _ d e f g w => k x ⟨p, q, ⟨i, j, ⟨a, b, u, d, e, f, g, w⟩, m, n, o, y, z⟩, s⟩ h) l) r) t
noncomputable def s147 : S := fun u k x t h => F2.rec (motive := KO) (fun p q r s => F1.rec (motive := KO) (fun i j l m n o y z => F0.rec (motive := KO) (fun a b c _ e f g w => k x ⟨p, q, ⟨i, j, ⟨a, b, c, u, e, f, g, w⟩, m, n, o, y, z⟩, s⟩ h) l) r) t
noncomputable def s148 : S := fun u k x t h => F2.rec (motive := KO) (fun p q r s => F1.rec (motive := KO) (fun i j l m n o y z => F0.rec (motive := KO) (fun a b c d _ f g w => k x ⟨p, q, ⟨i, j, ⟨a, b, c, d, u, f, g, w⟩, m, n, o, y, z⟩, s⟩ h) l) r) t
noncomputable def s149 : S := fun u k x t h => F2.rec (motive := KO) (fun p q r s => F1.rec (motive := KO) (fun i j l m n o y z => F0.rec (motive := KO) (fun a b c d e _ g w => k x ⟨p, q, ⟨i, j, ⟨a, b, c, d, e, u, g, w⟩, m, n, o, y, z⟩, s⟩ h) l) r) t
noncomputable def s150 : S := fun u k x t h => F2.rec (motive := KO) (fun p q r s => F1.rec (motive := KO) (fun i j l m n o y z => F0.rec (motive := KO) (fun a b c d e f _ w => k x ⟨p, q, ⟨i, j, ⟨a, b, c, d, e, f, u, w⟩, m, n, o, y, z⟩, s⟩ h) l) r) t
noncomputable def s151 : S := fun u k x t h => F2.rec (motive := KO) (fun p q r s => F1.rec (motive := KO) (fun i j l m n o y z => F0.rec (motive := KO) (fun a b c d e f g _ => k x ⟨p, q, ⟨i, j, ⟨a, b, c, d, e, f, g, u⟩, m, n, o, y, z⟩, s⟩ h) l) r) t
noncomputable def s152 : S := fun u k x t h => F2.rec (motive := KO) (fun p q r s => F1.rec (motive := KO) (fun i j l m n o y z => F0.rec (motive := KO) (fun _ b c d e f g w => k x ⟨p, q, ⟨i, j, l, ⟨u, b, c, d, e, f, g, w⟩, n, o, y, z⟩, s⟩ h) m) r) t
noncomputable def s153 : S := fun u k x t h => F2.rec (motive := KO) (fun p q r s => F1.rec (motive := KO) (fun i j l m n o y z => F0.rec (motive := KO) (fun a _ c d e f g w => k x ⟨p, q, ⟨i, j, l, ⟨a, u, c, d, e, f, g, w⟩, n, o, y, z⟩, s⟩ h) m) r) t
noncomputable def s154 : S := fun u k x t h => F2.rec (motive := KO) (fun p q r s => F1.rec (motive := KO) (fun i j l m n o y z => F0.rec (motive := KO) (fun a b _ d e f g w => k x ⟨p, q, ⟨i, j, l, ⟨a, b, u, d, e, f, g, w⟩, n, o, y, z⟩, s⟩ h) m) r) t
noncomputable def s155 : S := fun u k x t h => F2.rec (motive := KO) (fun p q r s => F1.rec (motive := KO) (fun i j l m n o y z => F0.rec (motive := KO) (fun a b c _ e f g w => k x ⟨p, q, ⟨i, j, l, ⟨a, b, c, u, e, f, g, w⟩, n, o, y, z⟩, s⟩ h) m) r) t
noncomputable def s156 : S := fun u k x t h => F2.rec (motive := KO) (fun p q r s => F1.rec (motive := KO) (fun i j l m n o y z => F0.rec (motive := KO) (fun a b c d _ f g w => k x ⟨p, q, ⟨i, j, l, ⟨a, b, c, d, u, f, g, w⟩, n, o, y, z⟩, s⟩ h) m) r) t
noncomputable def s157 : S := fun u k x t h => F2.rec (motive := KO) (fun p q r s => F1.rec (motive := KO) (fun i j l m n o y z => F0.rec (motive := KO) (fun a b c d e _ g w => k x ⟨p, q, ⟨i, j, l, ⟨a, b, c, d, e, u, g, w⟩, n, o, y, z⟩, s⟩ h) m) r) t
noncomputable def s158 : S := fun u k x t h => F2.rec (motive := KO) (fun p q r s => F1.rec (motive := KO) (fun i j l m n o y z => F0.rec (motive := KO) (fun a b c d e f _ w => k x ⟨p, q, ⟨i, j, l, ⟨a, b, c, d, e, f, u, w⟩, n, o, y, z⟩, s⟩ h) m) r) t
noncomputable def s159 : S := fun u k x t h => F2.rec (motive := KO) (fun p q r s => F1.rec (motive := KO) (fun i j l m n o y z => F0.rec (motive := KO) (fun a b c d e f g _ => k x ⟨p, q, ⟨i, j, l, ⟨a, b, c, d, e, f, g, u⟩, n, o, y, z⟩, s⟩ h) m) r) t
noncomputable def s160 : S := fun u k x t h => F2.rec (motive := KO) (fun p q r s => F1.rec (motive := KO) (fun i j l m n o y z => F0.rec (motive := KO) (fun _ b c d e f g w => k x ⟨p, q, ⟨i, j, l, m, ⟨u, b, c, d, e, f, g, w⟩, o, y, z⟩, s⟩ h) n) r) t
noncomputable def s161 : S := fun u k x t h => F2.rec (motive := KO) (fun p q r s => F1.rec (motive := KO) (fun i j l m n o y z => F0.rec (motive := KO) (fun a _ c d e f g w => k x ⟨p, q, ⟨i, j, l, m, ⟨a, u, c, d, e, f, g, w⟩, o, y, z⟩, s⟩ h) n) r) t
noncomputable def s162 : S := fun u k x t h => F2.rec (motive := KO) (fun p q r s => F1.rec (motive := KO) (fun i j l m n o y z => F0.rec (motive := KO) (fun a b _ d e f g w => k x ⟨p, q, ⟨i, j, l, m, ⟨a, b, u, d, e, f, g, w⟩, o, y, z⟩, s⟩ h) n) r) t
noncomputable def s163 : S := fun u k x t h => F2.rec (motive := KO) (fun p q r s => F1.rec (motive := KO) (fun i j l m n o y z => F0.rec (motive := KO) (fun a b c _ e f g w => k x ⟨p, q, ⟨i, j, l, m, ⟨a, b, c, u, e, f, g, w⟩, o, y, z⟩, s⟩ h) n) r) t
noncomputable def s164 : S := fun u k x t h => F2.rec (motive := KO) (fun p q r s => F1.rec (motive := KO) (fun i j l m n o y z => F0.rec (motive := KO) (fun a b c d _ f g w => k x ⟨p, q, ⟨i, j, l, m, ⟨a, b, c, d, u, f, g, w⟩, o, y, z⟩, s⟩ h) n) r) t
noncomputable def s165 : S := fun u k x t h => F2.rec (motive := KO) (fun p q r s => F1.rec (motive := KO) (fun i j l m n o y z => F0.rec (motive := KO) (fun a b c d e _ g w => k x ⟨p, q, ⟨i, j, l, m, ⟨a, b, c, d, e, u, g, w⟩, o, y, z⟩, s⟩ h) n) r) t
noncomputable def s166 : S := fun u k x t h => F2.rec (motive := KO) (fun p q r s => F1.rec (motive := KO) (fun i j l m n o y z => F0.rec (motive := KO) (fun a b c d e f _ w => k x ⟨p, q, ⟨i, j, l, m, ⟨a, b, c, d, e, f, u, w⟩, o, y, z⟩, s⟩ h) n) r) t
noncomputable def s167 : S := fun u k x t h => F2.rec (motive := KO) (fun p q r s => F1.rec (motive := KO) (fun i j l m n o y z => F0.rec (motive := KO) (fun a b c d e f g _ => k x ⟨p, q, ⟨i, j, l, m, ⟨a, b, c, d, e, f, g, u⟩, o, y, z⟩, s⟩ h) n) r) t
noncomputable def s168 : S := fun u k x t h => F2.rec (motive := KO) (fun p q r s => F1.rec (motive := KO) (fun i j l m n o y z => F0.rec (motive := KO) (fun _ b c d e f g w => k x ⟨p, q, ⟨i, j, l, m, n, ⟨u, b, c, d, e, f, g, w⟩, y, z⟩, s⟩ h) o) r) t
noncomputable def s169 : S := fun u k x t h => F2.rec (motive := KO) (fun p q r s => F1.rec (motive := KO) (fun i j l m n o y z => F0.rec (motive := KO) (fun a _ c d e f g w => k x ⟨p, q, ⟨i, j, l, m, n, ⟨a, u, c, d, e, f, g, w⟩, y, z⟩, s⟩ h) o) r) t
noncomputable def s170 : S := fun u k x t h => F2.rec (motive := KO) (fun p q r s => F1.rec (motive := KO) (fun i j l m n o y z => F0.rec (motive := KO) (fun a b _ d e f g w => k x ⟨p, q, ⟨i, j, l, m, n, ⟨a, b, u, d, e, f, g, w⟩, y, z⟩, s⟩ h) o) r) t
noncomputable def s171 : S := fun u k x t h => F2.rec (motive := KO) (fun p q r s => F1.rec (motive := KO) (fun i j l m n o y z => F0.rec (motive := KO) (fun a b c _ e f g w => k x ⟨p, q, ⟨i, j, l, m, n, ⟨a, b, c, u, e, f, g, w⟩, y, z⟩, s⟩ h) o) r) t
noncomputable def s172 : S := fun u k x t h => F2.rec (motive := KO) (fun p q r s => F1.rec (motive := KO) (fun i j l m n o y z => F0.rec (motive := KO) (fun a b c d _ f g w => k x ⟨p, q, ⟨i, j, l, m, n, ⟨a, b, c, d, u, f, g, w⟩, y, z⟩, s⟩ h) o) r) t
noncomputable def s173 : S := fun u k x t h => F2.rec (motive := KO) (fun p q r s => F1.rec (motive := KO) (fun i j l m n o y z => F0.rec (motive := KO) (fun a b c d e _ g w => k x ⟨p, q, ⟨i, j, l, m, n, ⟨a, b, c, d, e, u, g, w⟩, y, z⟩, s⟩ h) o) r) t
noncomputable def s174 : S := fun u k x t h => F2.rec (motive := KO) (fun p q r s => F1.rec (motive := KO) (fun i j l m n o y z => F0.rec (motive := KO) (fun a b c d e f _ w => k x ⟨p, q, ⟨i, j, l, m, n, ⟨a, b, c, d, e, f, u, w⟩, y, z⟩, s⟩ h) o) r) t
noncomputable def s175 : S := fun u k x t h => F2.rec (motive := KO) (fun p q r s => F1.rec (motive := KO) (fun i j l m n o y z => F0.rec (motive := KO) (fun a b c d e f g _ => k x ⟨p, q, ⟨i, j, l, m, n, ⟨a, b, c, d, e, f, g, u⟩, y, z⟩, s⟩ h) o) r) t
noncomputable def s176 : S := fun u k x t h => F2.rec (motive := KO) (fun p q r s => F1.rec (motive := KO) (fun i j l m n o y z => F0.rec (motive := KO) (fun _ b c d e f g w => k x ⟨p, q, ⟨i, j, l, m, n, o, ⟨u, b, c, d, e, f, g, w⟩, z⟩, s⟩ h) y) r) t
noncomputable def s177 : S := fun u k x t h => F2.rec (motive := KO) (fun p q r s => F1.rec (motive := KO) (fun i j l m n o y z => F0.rec (motive := KO) (fun a _ c d e f g w => k x ⟨p, q, ⟨i, j, l, m, n, o, ⟨a, u, c, d, e, f, g, w⟩, z⟩, s⟩ h) y) r) t
noncomputable def s178 : S := fun u k x t h => F2.rec (motive := KO) (fun p q r s => F1.rec (motive := KO) (fun i j l m n o y z => F0.rec (motive := KO) (fun a b _ d e f g w => k x ⟨p, q, ⟨i, j, l, m, n, o, ⟨a, b, u, d, e, f, g, w⟩, z⟩, s⟩ h) y) r) t
noncomputable def s179 : S := fun u k x t h => F2.rec (motive := KO) (fun p q r s => F1.rec (motive := KO) (fun i j l m n o y z => F0.rec (motive := KO) (fun a b c _ e f g w => k x ⟨p, q, ⟨i, j, l, m, n, o, ⟨a, b, c, u, e, f, g, w⟩, z⟩, s⟩ h) y) r) t
noncomputable def s180 : S := fun u k x t h => F2.rec (motive := KO) (fun p q r s => F1.rec (motive := KO) (fun i j l m n o y z => F0.rec (motive := KO) (fun a b c d _ f g w => k x ⟨p, q, ⟨i, j, l, m, n, o, ⟨a, b, c, d, u, f, g, w⟩, z⟩, s⟩ h) y) r) t
noncomputable def s181 : S := fun u k x t h => F2.rec (motive := KO) (fun p q r s => F1.rec (motive := KO) (fun i j l m n o y z => F0.rec (motive := KO) (fun a b c d e _ g w => k x ⟨p, q, ⟨i, j, l, m, n, o, ⟨a, b, c, d, e, u, g, w⟩, z⟩, s⟩ h) y) r) t
noncomputable def s182 : S := fun u k x t h => F2.rec (motive := KO) (fun p q r s => F1.rec (motive := KO) (fun i j l m n o y z => F0.rec (motive := KO) (fun a b c d e f _ w => k x ⟨p, q, ⟨i, j, l, m, n, o, ⟨a, b, c, d, e, f, u, w⟩, z⟩, s⟩ h) y) r) t
noncomputable def s183 : S := fun u k x t h => F2.rec (motive := KO) (fun p q r s => F1.rec (motive := KO) (fun i j l m n o y z => F0.rec (motive := KO) (fun a b c d e f g _ => k x ⟨p, q, ⟨i, j, l, m, n, o, ⟨a, b, c, d, e, f, g, u⟩, z⟩, s⟩ h) y) r) t
noncomputable def s184 : S := fun u k x t h => F2.rec (motive := KO) (fun p q r s => F1.rec (motive := KO) (fun i j l m n o y z => F0.rec (motive := KO) (fun _ b c d e f g w => k x ⟨p, q, ⟨i, j, l, m, n, o, y, ⟨u, b, c, d, e, f, g, w⟩⟩, s⟩ h) z) r) t
noncomputable def s185 : S := fun u k x t h => F2.rec (motive := KO) (fun p q r s => F1.rec (motive := KO) (fun i j l m n o y z => F0.rec (motive := KO) (fun a _ c d e f g w => k x ⟨p, q, ⟨i, j, l, m, n, o, y, ⟨a, u, c, d, e, f, g, w⟩⟩, s⟩ h) z) r) t
noncomputable def s186 : S := fun u k x t h => F2.rec (motive := KO) (fun p q r s => F1.rec (motive := KO) (fun i j l m n o y z => F0.rec (motive := KO) (fun a b _ d e f g w => k x ⟨p, q, ⟨i, j, l, m, n, o, y, ⟨a, b, u, d, e, f, g, w⟩⟩, s⟩ h) z) r) t
noncomputable def s187 : S := fun u k x t h => F2.rec (motive := KO) (fun p q r s => F1.rec (motive := KO) (fun i j l m n o y z => F0.rec (motive := KO) (fun a b c _ e f g w => k x ⟨p, q, ⟨i, j, l, m, n, o, y, ⟨a, b, c, u, e, f, g, w⟩⟩, s⟩ h) z) r) t
noncomputable def s188 : S := fun u k x t h => F2.rec (motive := KO) (fun p q r s => F1.rec (motive := KO) (fun i j l m n o y z => F0.rec (motive := KO) (fun a b c d _ f g w => k x ⟨p, q, ⟨i, j, l, m, n, o, y, ⟨a, b, c, d, u, f, g, w⟩⟩, s⟩ h) z) r) t
noncomputable def s189 : S := fun u k x t h => F2.rec (motive := KO) (fun p q r s => F1.rec (motive := KO) (fun i j l m n o y z => F0.rec (motive := KO) (fun a b c d e _ g w => k x ⟨p, q, ⟨i, j, l, m, n, o, y, ⟨a, b, c, d, e, u, g, w⟩⟩, s⟩ h) z) r) t
noncomputable def s190 : S := fun u k x t h => F2.rec (motive := KO) (fun p q r s => F1.rec (motive := KO) (fun i j l m n o y z => F0.rec (motive := KO) (fun a b c d e f _ w => k x ⟨p, q, ⟨i, j, l, m, n, o, y, ⟨a, b, c, d, e, f, u, w⟩⟩, s⟩ h) z) r) t
noncomputable def s191 : S := fun u k x t h => F2.rec (motive := KO) (fun p q r s => F1.rec (motive := KO) (fun i j l m n o y z => F0.rec (motive := KO) (fun a b c d e f g _ => k x ⟨p, q, ⟨i, j, l, m, n, o, y, ⟨a, b, c, d, e, f, g, u⟩⟩, s⟩ h) z) r) t
noncomputable def s192 : S := fun u k x t h => F2.rec (motive := KO) (fun p q r s => F1.rec (motive := KO) (fun i j l m n o y z => F0.rec (motive := KO) (fun _ b c d e f g w => k x ⟨p, q, r, ⟨⟨u, b, c, d, e, f, g, w⟩, j, l, m, n, o, y, z⟩⟩ h) i) s) t
noncomputable def s193 : S := fun u k x t h => F2.rec (motive := KO) (fun p q r s => F1.rec (motive := KO) (fun i j l m n o y z => F0.rec (motive := KO) (fun a _ c d e f g w => k x ⟨p, q, r, ⟨⟨a, u, c, d, e, f, g, w⟩, j, l, m, n, o, y, z⟩⟩ h) i) s) t
noncomputable def s194 : S := fun u k x t h => F2.rec (motive := KO) (fun p q r s => F1.rec (motive := KO) (fun i j l m n o y z => F0.rec (motive := KO) (fun a b _ d e f g w => k x ⟨p, q, r, ⟨⟨a, b, u, d, e, f, g, w⟩, j, l, m, n, o, y, z⟩⟩ h) i) s) t
noncomputable def s195 : S := fun u k x t h => F2.rec (motive := KO) (fun p q r s => F1.rec (motive := KO) (fun i j l m n o y z => F0.rec (motive := KO) (fun a b c _ e f g w => k x ⟨p, q, r, ⟨⟨a, b, c, u, e, f, g, w⟩, j, l, m, n, o, y, z⟩⟩ h) i) s) t
noncomputable def s196 : S := fun u k x t h => F2.rec (motive := KO) (fun p q r s => F1.rec (motive := KO) (fun i j l m n o y z => F0.rec (motive := KO) (fun a b c d _ f g w => k x ⟨p, q, r, ⟨⟨a, b, c, d, u, f, g, w⟩, j, l, m, n, o, y, z⟩⟩ h) i) s) t
noncomputable def s197 : S := fun u k x t h => F2.rec (motive := KO) (fun p q r s => F1.rec (motive := KO) (fun i j l m n o y z => F0.rec (motive := KO) (fun a b c d e _ g w => k x ⟨p, q, r, ⟨⟨a, b, c, d, e, u, g, w⟩, j, l, m, n, o, y, z⟩⟩ h) i) s) t
noncomputable def s198 : S := fun u k x t h => F2.rec (motive := KO) (fun p q r s => F1.rec (motive := KO) (fun i j l m n o y z => F0.rec (motive := KO) (fun a b c d e f _ w => k x ⟨p, q, r, ⟨⟨a, b, c, d, e, f, u, w⟩, j, l, m, n, o, y, z⟩⟩ h) i) s) t
noncomputable def s199 : S := fun u k x t h => F2.rec (motive := KO) (fun p q r s => F1.rec (motive := KO) (fun i j l m n o y z => F0.rec (motive := KO) (fun a b c d e f g _ => k x ⟨p, q, r, ⟨⟨a, b, c, d, e, f, g, u⟩, j, l, m, n, o, y, z⟩⟩ h) i) s) t
noncomputable def s200 : S := fun u k x t h => F2.rec (motive := KO) (fun p q r s => F1.rec (motive := KO) (fun i j l m n o y z => F0.rec (motive := KO) (fun _ b c d e f g w => k x ⟨p, q, r, ⟨i, ⟨u, b, c, d, e, f, g, w⟩, l, m, n, o, y, z⟩⟩ h) j) s) t
noncomputable def s201 : S := fun u k x t h => F2.rec (motive := KO) (fun p q r s => F1.rec (motive := KO) (fun i j l m n o y z => F0.rec (motive := KO) (fun a _ c d e f g w => k x ⟨p, q, r, ⟨i, ⟨a, u, c, d, e, f, g, w⟩, l, m, n, o, y, z⟩⟩ h) j) s) t
noncomputable def s202 : S := fun u k x t h => F2.rec (motive := KO) (fun p q r s => F1.rec (motive := KO) (fun i j l m n o y z => F0.rec (motive := KO) (fun a b _ d e f g w => k x ⟨p, q, r, ⟨i, ⟨a, b, u, d, e, f, g, w⟩, l, m, n, o, y, z⟩⟩ h) j) s) t
noncomputable def s203 : S := fun u k x t h => F2.rec (motive := KO) (fun p q r s => F1.rec (motive := KO) (fun i j l m n o y z => F0.rec (motive := KO) (fun a b c _ e f g w => k x ⟨p, q, r, ⟨i, ⟨a, b, c, u, e, f, g, w⟩, l, m, n, o, y, z⟩⟩ h) j) s) t
noncomputable def s204 : S := fun u k x t h => F2.rec (motive := KO) (fun p q r s => F1.rec (motive := KO) (fun i j l m n o y z => F0.rec (motive := KO) (fun a b c d _ f g w => k x ⟨p, q, r, ⟨i, ⟨a, b, c, d, u, f, g, w⟩, l, m, n, o, y, z⟩⟩ h) j) s) t
noncomputable def s205 : S := fun u k x t h => F2.rec (motive := KO) (fun p q r s => F1.rec (motive := KO) (fun i j l m n o y z => F0.rec (motive := KO) (fun a b c d e _ g w => k x ⟨p, q, r, ⟨i, ⟨a, b, c, d, e, u, g, w⟩, l, m, n, o, y, z⟩⟩ h) j) s) t
noncomputable def s206 : S := fun u k x t h => F2.rec (motive := KO) (fun p q r s => F1.rec (motive := KO) (fun i j l m n o y z => F0.rec (motive := KO) (fun a b c d e f _ w => k x ⟨p, q, r, ⟨i, ⟨a, b, c, d, e, f, u, w⟩, l, m, n, o, y, z⟩⟩ h) j) s) t
noncomputable def s207 : S := fun u k x t h => F2.rec (motive := KO) (fun p q r s => F1.rec (motive := KO) (fun i j l m n o y z => F0.rec (motive := KO) (fun a b c d e f g _ => k x ⟨p, q, r, ⟨i, ⟨a, b, c, d, e, f, g, u⟩, l, m, n, o, y, z⟩⟩ h) j) s) t
noncomputable def s208 : S := fun u k x t h => F2.rec (motive := KO) (fun p q r s => F1.rec (motive := KO) (fun i j l m n o y z => F0.rec (motive := KO) (fun _ b c d e f g w => k x ⟨p, q, r, ⟨i, j, ⟨u, b, c, d, e, f, g, w⟩, m, n, o, y, z⟩⟩ h) l) s) t
noncomputable def s209 : S := fun u k x t h => F2.rec (motive := KO) (fun p q r s => F1.rec (motive := KO) (fun i j l m n o y z => F0.rec (motive := KO) (fun a _ c d e f g w => k x ⟨p, q, r, ⟨i, j, ⟨a, u, c, d, e, f, g, w⟩, m, n, o, y, z⟩⟩ h) l) s) t
noncomputable def s210 : S := fun u k x t h => F2.rec (motive := KO) (fun p q r s => F1.rec (motive := KO) (fun i j l m n o y z => F0.rec (motive := KO) (fun a b _ d e f g w => k x ⟨p, q, r, ⟨i, j, ⟨a, b, u, d, e, f, g, w⟩, m, n, o, y, z⟩⟩ h) l) s) t
noncomputable def s211 : S := fun u k x t h => F2.rec (motive := KO) (fun p q r s => F1.rec (motive := KO) (fun i j l m n o y z => F0.rec (motive := KO) (fun a b c _ e f g w => k x ⟨p, q, r, ⟨i, j, ⟨a, b, c, u, e, f, g, w⟩, m, n, o, y, z⟩⟩ h) l) s) t
noncomputable def s212 : S := fun u k x t h => F2.rec (motive := KO) (fun p q r s => F1.rec (motive := KO) (fun i j l m n o y z => F0.rec (motive := KO) (fun a b c d _ f g w => k x ⟨p, q, r, ⟨i, j, ⟨a, b, c, d, u, f, g, w⟩, m, n, o, y, z⟩⟩ h) l) s) t
noncomputable def s213 : S := fun u k x t h => F2.rec (motive := KO) (fun p q r s => F1.rec (motive := KO) (fun i j l m n o y z => F0.rec (motive := KO) (fun a b c d e _ g w => k x ⟨p, q, r, ⟨i, j, ⟨a, b, c, d, e, u, g, w⟩, m, n, o, y, z⟩⟩ h) l) s) t
noncomputable def s214 : S := fun u k x t h => F2.rec (motive := KO) (fun p q r s => F1.rec (motive := KO) (fun i j l m n o y z => F0.rec (motive := KO) (fun a b c d e f _ w => k x ⟨p, q, r, ⟨i, j, ⟨a, b, c, d, e, f, u, w⟩, m, n, o, y, z⟩⟩ h) l) s) t
noncomputable def s215 : S := fun u k x t h => F2.rec (motive := KO) (fun p q r s => F1.rec (motive := KO) (fun i j l m n o y z => F0.rec (motive := KO) (fun a b c d e f g _ => k x ⟨p, q, r, ⟨i, j, ⟨a, b, c, d, e, f, g, u⟩, m, n, o, y, z⟩⟩ h) l) s) t
noncomputable def s216 : S := fun u k x t h => F2.rec (motive := KO) (fun p q r s => F1.rec (motive := KO) (fun i j l m n o y z => F0.rec (motive := KO) (fun _ b c d e f g w => k x ⟨p, q, r, ⟨i, j, l, ⟨u, b, c, d, e, f, g, w⟩, n, o, y, z⟩⟩ h) m) s) t
noncomputable def s217 : S := fun u k x t h => F2.rec (motive := KO) (fun p q r s => F1.rec (motive := KO) (fun i j l m n o y z => F0.rec (motive := KO) (fun a _ c d e f g w => k x ⟨p, q, r, ⟨i, j, l, ⟨a, u, c, d, e, f, g, w⟩, n, o, y, z⟩⟩ h) m) s) t
noncomputable def s218 : S := fun u k x t h => F2.rec (motive := KO) (fun p q r s => F1.rec (motive := KO) (fun i j l m n o y z => F0.rec (motive := KO) (fun a b _ d e f g w => k x ⟨p, q, r, ⟨i, j, l, ⟨a, b, u, d, e, f, g, w⟩, n, o, y, z⟩⟩ h) m) s) t
noncomputable def s219 : S := fun u k x t h => F2.rec (motive := KO) (fun p q r s => F1.rec (motive := KO) (fun i j l m n o y z => F0.rec (motive := KO) (fun a b c _ e f g w => k x ⟨p, q, r, ⟨i, j, l, ⟨a, b, c, u, e, f, g, w⟩, n, o, y, z⟩⟩ h) m) s) t
noncomputable def s220 : S := fun u k x t h => F2.rec (motive := KO) (fun p q r s => F1.rec (motive := KO) (fun i j l m n o y z => F0.rec (motive := KO) (fun a b c d _ f g w => k x ⟨p, q, r, ⟨i, j, l, ⟨a, b, c, d, u, f, g, w⟩, n, o, y, z⟩⟩ h) m) s) t
noncomputable def s221 : S := fun u k x t h => F2.rec (motive := KO) (fun p q r s => F1.rec (motive := KO) (fun i j l m n o y z => F0.rec (motive := KO) (fun a b c d e _ g w => k x ⟨p, q, r, ⟨i, j, l, ⟨a, b, c, d, e, u, g, w⟩, n, o, y, z⟩⟩ h) m) s) t
noncomputable def s222 : S := fun u k x t h => F2.rec (motive := KO) (fun p q r s => F1.rec (motive := KO) (fun i j l m n o y z => F0.rec (motive := KO) (fun a b c d e f _ w => k x ⟨p, q, r, ⟨i, j, l, ⟨a, b, c, d, e, f, u, w⟩, n, o, y, z⟩⟩ h) m) s) t
noncomputable def s223 : S := fun u k x t h => F2.rec (motive := KO) (fun p q r s => F1.rec (motive := KO) (fun i j l m n o y z => F0.rec (motive := KO) (fun a b c d e f g _ => k x ⟨p, q, r, ⟨i, j, l, ⟨a, b, c, d, e, f, g, u⟩, n, o, y, z⟩⟩ h) m) s) t
noncomputable def s224 : S := fun u k x t h => F2.rec (motive := KO) (fun p q r s => F1.rec (motive := KO) (fun i j l m n o y z => F0.rec (motive := KO) (fun _ b c d e f g w => k x ⟨p, q, r, ⟨i, j, l, m, ⟨u, b, c, d, e, f, g, w⟩, o, y, z⟩⟩ h) n) s) t
noncomputable def s225 : S := fun u k x t h => F2.rec (motive := KO) (fun p q r s => F1.rec (motive := KO) (fun i j l m n o y z => F0.rec (motive := KO) (fun a _ c d e f g w => k x ⟨p, q, r, ⟨i, j, l, m, ⟨a, u, c, d, e, f, g, w⟩, o, y, z⟩⟩ h) n) s) t
noncomputable def s226 : S := fun u k x t h => F2.rec (motive := KO) (fun p q r s => F1.rec (motive := KO) (fun i j l m n o y z => F0.rec (motive := KO) (fun a b _ d e f g w => k x ⟨p, q, r, ⟨i, j, l, m, ⟨a, b, u, d, e, f, g, w⟩, o, y, z⟩⟩ h) n) s) t
noncomputable def s227 : S := fun u k x t h => F2.rec (motive := KO) (fun p q r s => F1.rec (motive := KO) (fun i j l m n o y z => F0.rec (motive := KO) (fun a b c _ e f g w => k x ⟨p, q, r, ⟨i, j, l, m, ⟨a, b, c, u, e, f, g, w⟩, o, y, z⟩⟩ h) n) s) t
noncomputable def s228 : S := fun u k x t h => F2.rec (motive := KO) (fun p q r s => F1.rec (motive := KO) (fun i j l m n o y z => F0.rec (motive := KO) (fun a b c d _ f g w => k x ⟨p, q, r, ⟨i, j, l, m, ⟨a, b, c, d, u, f, g, w⟩, o, y, z⟩⟩ h) n) s) t
noncomputable def s229 : S := fun u k x t h => F2.rec (motive := KO) (fun p q r s => F1.rec (motive := KO) (fun i j l m n o y z => F0.rec (motive := KO) (fun a b c d e _ g w => k x ⟨p, q, r, ⟨i, j, l, m, ⟨a, b, c, d, e, u, g, w⟩, o, y, z⟩⟩ h) n) s) t
noncomputable def s230 : S := fun u k x t h => F2.rec (motive := KO) (fun p q r s => F1.rec (motive := KO) (fun i j l m n o y z => F0.rec (motive := KO) (fun a b c d e f _ w => k x ⟨p, q, r, ⟨i, j, l, m, ⟨a, b, c, d, e, f, u, w⟩, o, y, z⟩⟩ h) n) s) t
noncomputable def s231 : S := fun u k x t h => F2.rec (motive := KO) (fun p q r s => F1.rec (motive := KO) (fun i j l m n o y z => F0.rec (motive := KO) (fun a b c d e f g _ => k x ⟨p, q, r, ⟨i, j, l, m, ⟨a, b, c, d, e, f, g, u⟩, o, y, z⟩⟩ h) n) s) t
noncomputable def s232 : S := fun u k x t h => F2.rec (motive := KO) (fun p q r s => F1.rec (motive := KO) (fun i j l m n o y z => F0.rec (motive := KO) (fun _ b c d e f g w => k x ⟨p, q, r, ⟨i, j, l, m, n, ⟨u, b, c, d, e, f, g, w⟩, y, z⟩⟩ h) o) s) t
noncomputable def s233 : S := fun u k x t h => F2.rec (motive := KO) (fun p q r s => F1.rec (motive := KO) (fun i j l m n o y z => F0.rec (motive := KO) (fun a _ c d e f g w => k x ⟨p, q, r, ⟨i, j, l, m, n, ⟨a, u, c, d, e, f, g, w⟩, y, z⟩⟩ h) o) s) t
noncomputable def s234 : S := fun u k x t h => F2.rec (motive := KO) (fun p q r s => F1.rec (motive := KO) (fun i j l m n o y z => F0.rec (motive := KO) (fun a b _ d e f g w => k x ⟨p, q, r, ⟨i, j, l, m, n, ⟨a, b, u, d, e, f, g, w⟩, y, z⟩⟩ h) o) s) t
noncomputable def s235 : S := fun u k x t h => F2.rec (motive := KO) (fun p q r s => F1.rec (motive := KO) (fun i j l m n o y z => F0.rec (motive := KO) (fun a b c _ e f g w => k x ⟨p, q, r, ⟨i, j, l, m, n, ⟨a, b, c, u, e, f, g, w⟩, y, z⟩⟩ h) o) s) t
noncomputable def s236 : S := fun u k x t h => F2.rec (motive := KO) (fun p q r s => F1.rec (motive := KO) (fun i j l m n o y z => F0.rec (motive := KO) (fun a b c d _ f g w => k x ⟨p, q, r, ⟨i, j, l, m, n, ⟨a, b, c, d, u, f, g, w⟩, y, z⟩⟩ h) o) s) t
noncomputable def s237 : S := fun u k x t h => F2.rec (motive := KO) (fun p q r s => F1.rec (motive := KO) (fun i j l m n o y z => F0.rec (motive := KO) (fun a b c d e _ g w => k x ⟨p, q, r, ⟨i, j, l, m, n, ⟨a, b, c, d, e, u, g, w⟩, y, z⟩⟩ h) o) s) t
noncomputable def s238 : S := fun u k x t h => F2.rec (motive := KO) (fun p q r s => F1.rec (motive := KO) (fun i j l m n o y z => F0.rec (motive := KO) (fun a b c d e f _ w => k x ⟨p, q, r, ⟨i, j, l, m, n, ⟨a, b, c, d, e, f, u, w⟩, y, z⟩⟩ h) o) s) t
noncomputable def s239 : S := fun u k x t h => F2.rec (motive := KO) (fun p q r s => F1.rec (motive := KO) (fun i j l m n o y z => F0.rec (motive := KO) (fun a b c d e f g _ => k x ⟨p, q, r, ⟨i, j, l, m, n, ⟨a, b, c, d, e, f, g, u⟩, y, z⟩⟩ h) o) s) t
noncomputable def s240 : S := fun u k x t h => F2.rec (motive := KO) (fun p q r s => F1.rec (motive := KO) (fun i j l m n o y z => F0.rec (motive := KO) (fun _ b c d e f g w => k x ⟨p, q, r, ⟨i, j, l, m, n, o, ⟨u, b, c, d, e, f, g, w⟩, z⟩⟩ h) y) s) t
noncomputable def s241 : S := fun u k x t h => F2.rec (motive := KO) (fun p q r s => F1.rec (motive := KO) (fun i j l m n o y z => F0.rec (motive := KO) (fun a _ c d e f g w => k x ⟨p, q, r, ⟨i, j, l, m, n, o, ⟨a, u, c, d, e, f, g, w⟩, z⟩⟩ h) y) s) t
noncomputable def s242 : S := fun u k x t h => F2.rec (motive := KO) (fun p q r s => F1.rec (motive := KO) (fun i j l m n o y z => F0.rec (motive := KO) (fun a b _ d e f g w => k x ⟨p, q, r, ⟨i, j, l, m, n, o, ⟨a, b, u, d, e, f, g, w⟩, z⟩⟩ h) y) s) t
noncomputable def s243 : S := fun u k x t h => F2.rec (motive := KO) (fun p q r s => F1.rec (motive := KO) (fun i j l m n o y z => F0.rec (motive := KO) (fun a b c _ e f g w => k x ⟨p, q, r, ⟨i, j, l, m, n, o, ⟨a, b, c, u, e, f, g, w⟩, z⟩⟩ h) y) s) t
noncomputable def s244 : S := fun u k x t h => F2.rec (motive := KO) (fun p q r s => F1.rec (motive := KO) (fun i j l m n o y z => F0.rec (motive := KO) (fun a b c d _ f g w => k x ⟨p, q, r, ⟨i, j, l, m, n, o, ⟨a, b, c, d, u, f, g, w⟩, z⟩⟩ h) y) s) t
noncomputable def s245 : S := fun u k x t h => F2.rec (motive := KO) (fun p q r s => F1.rec (motive := KO) (fun i j l m n o y z => F0.rec (motive := KO) (fun a b c d e _ g w => k x ⟨p, q, r, ⟨i, j, l, m, n, o, ⟨a, b, c, d, e, u, g, w⟩, z⟩⟩ h) y) s) t
noncomputable def s246 : S := fun u k x t h => F2.rec (motive := KO) (fun p q r s => F1.rec (motive := KO) (fun i j l m n o y z => F0.rec (motive := KO) (fun a b c d e f _ w => k x ⟨p, q, r, ⟨i, j, l, m, n, o, ⟨a, b, c, d, e, f, u, w⟩, z⟩⟩ h) y) s) t
noncomputable def s247 : S := fun u k x t h => F2.rec (motive := KO) (fun p q r s => F1.rec (motive := KO) (fun i j l m n o y z => F0.rec (motive := KO) (fun a b c d e f g _ => k x ⟨p, q, r, ⟨i, j, l, m, n, o, ⟨a, b, c, d, e, f, g, u⟩, z⟩⟩ h) y) s) t
noncomputable def s248 : S := fun u k x t h => F2.rec (motive := KO) (fun p q r s => F1.rec (motive := KO) (fun i j l m n o y z => F0.rec (motive := KO) (fun _ b c d e f g w => k x ⟨p, q, r, ⟨i, j, l, m, n, o, y, ⟨u, b, c, d, e, f, g, w⟩⟩⟩ h) z) s) t
noncomputable def s249 : S := fun u k x t h => F2.rec (motive := KO) (fun p q r s => F1.rec (motive := KO) (fun i j l m n o y z => F0.rec (motive := KO) (fun a _ c d e f g w => k x ⟨p, q, r, ⟨i, j, l, m, n, o, y, ⟨a, u, c, d, e, f, g, w⟩⟩⟩ h) z) s) t
noncomputable def s250 : S := fun u k x t h => F2.rec (motive := KO) (fun p q r s => F1.rec (motive := KO) (fun i j l m n o y z => F0.rec (motive := KO) (fun a b _ d e f g w => k x ⟨p, q, r, ⟨i, j, l, m, n, o, y, ⟨a, b, u, d, e, f, g, w⟩⟩⟩ h) z) s) t
noncomputable def s251 : S := fun u k x t h => F2.rec (motive := KO) (fun p q r s => F1.rec (motive := KO) (fun i j l m n o y z => F0.rec (motive := KO) (fun a b c _ e f g w => k x ⟨p, q, r, ⟨i, j, l, m, n, o, y, ⟨a, b, c, u, e, f, g, w⟩⟩⟩ h) z) s) t
noncomputable def s252 : S := fun u k x t h => F2.rec (motive := KO) (fun p q r s => F1.rec (motive := KO) (fun i j l m n o y z => F0.rec (motive := KO) (fun a b c d _ f g w => k x ⟨p, q, r, ⟨i, j, l, m, n, o, y, ⟨a, b, c, d, u, f, g, w⟩⟩⟩ h) z) s) t
noncomputable def s253 : S := fun u k x t h => F2.rec (motive := KO) (fun p q r s => F1.rec (motive := KO) (fun i j l m n o y z => F0.rec (motive := KO) (fun a b c d e _ g w => k x ⟨p, q, r, ⟨i, j, l, m, n, o, y, ⟨a, b, c, d, e, u, g, w⟩⟩⟩ h) z) s) t
noncomputable def s254 : S := fun u k x t h => F2.rec (motive := KO) (fun p q r s => F1.rec (motive := KO) (fun i j l m n o y z => F0.rec (motive := KO) (fun a b c d e f _ w => k x ⟨p, q, r, ⟨i, j, l, m, n, o, y, ⟨a, b, c, d, e, f, u, w⟩⟩⟩ h) z) s) t
noncomputable def s255 : S := fun u k x t h => F2.rec (motive := KO) (fun p q r s => F1.rec (motive := KO) (fun i j l m n o y z => F0.rec (motive := KO) (fun a b c d e f g _ => k x ⟨p, q, r, ⟨i, j, l, m, n, o, y, ⟨a, b, c, d, e, f, g, u⟩⟩⟩ h) z) s) t
noncomputable def gList : List G := [g0, g1, g2, g3, g4, g5, g6, g7, g8, g9, g10, g11, g12, g13, g14, g15, g16, g17, g18, g19, g20, g21, g22, g23, g24, g25, g26, g27, g28, g29, g30, g31, g32, g33, g34, g35, g36, g37, g38, g39, g40, g41, g42, g43, g44, g45, g46, g47, g48, g49, g50, g51, g52, g53, g54, g55, g56, g57, g58, g59, g60, g61, g62, g63, g64, g65, g66, g67, g68, g69, g70, g71, g72, g73, g74, g75, g76, g77, g78, g79, g80, g81, g82, g83, g84, g85, g86, g87, g88, g89, g90, g91, g92, g93, g94, g95, g96, g97, g98, g99, g100, g101, g102, g103, g104, g105, g106, g107, g108, g109, g110, g111, g112, g113, g114, g115, g116, g117, g118, g119, g120, g121, g122, g123, g124, g125, g126, g127, g128, g129, g130, g131, g132, g133, g134, g135, g136, g137, g138, g139, g140, g141, g142, g143, g144, g145, g146, g147, g148, g149, g150, g151, g152, g153, g154, g155, g156, g157, g158, g159, g160, g161, g162, g163, g164, g165, g166, g167, g168, g169, g170, g171, g172, g173, g174, g175, g176, g177, g178, g179, g180, g181, g182, g183, g184, g185, g186, g187, g188, g189, g190, g191, g192, g193, g194, g195, g196, g197, g198, g199, g200, g201, g202, g203, g204, g205, g206, g207, g208, g209, g210, g211, g212, g213, g214, g215, g216, g217, g218, g219, g220, g221, g222, g223, g224, g225, g226, g227, g228, g229, g230, g231, g232, g233, g234, g235, g236, g237, g238, g239, g240, g241, g242, g243, g244, g245, g246, g247, g248, g249, g250, g251, g252, g253, g254, g255]
noncomputable def sList : List S := [s0, s1, s2, s3, s4, s5, s6, s7, s8, s9, s10, s11, s12, s13, s14, s15, s16, s17, s18, s19, s20, s21, s22, s23, s24, s25, s26, s27, s28, s29, s30, s31, s32, s33, s34, s35, s36, s37, s38, s39, s40, s41, s42, s43, s44, s45, s46, s47, s48, s49, s50, s51, s52, s53, s54, s55, s56, s57, s58, s59, s60, s61, s62, s63, s64, s65, s66, s67, s68, s69, s70, s71, s72, s73, s74, s75, s76, s77, s78, s79, s80, s81, s82, s83, s84, s85, s86, s87, s88, s89, s90, s91, s92, s93, s94, s95, s96, s97, s98, s99, s100, s101, s102, s103, s104, s105, s106, s107, s108, s109, s110, s111, s112, s113, s114, s115, s116, s117, s118, s119, s120, s121, s122, s123, s124, s125, s126, s127, s128, s129, s130, s131, s132, s133, s134, s135, s136, s137, s138, s139, s140, s141, s142, s143, s144, s145, s146, s147, s148, s149, s150, s151, s152, s153, s154, s155, s156, s157, s158, s159, s160, s161, s162, s163, s164, s165, s166, s167, s168, s169, s170, s171, s172, s173, s174, s175, s176, s177, s178, s179, s180, s181, s182, s183, s184, s185, s186, s187, s188, s189, s190, s191, s192, s193, s194, s195, s196, s197, s198, s199, s200, s201, s202, s203, s204, s205, s206, s207, s208, s209, s210, s211, s212, s213, s214, s215, s216, s217, s218, s219, s220, s221, s222, s223, s224, s225, s226, s227, s228, s229, s230, s231, s232, s233, s234, s235, s236, s237, s238, s239, s240, s241, s242, s243, s244, s245, s246, s247, s248, s249, s250, s251, s252, s253, s254, s255]
def AllG : List G → Nat → Prop
  | [], _ => True
  | g :: l, i => (∀ t, g t = t.get i) ∧ AllG l (i + 1)
def AllS : List S → Nat → Prop
  | [], _ => True
  | s :: l, i => (∀ v k cf t h, s v k cf t h = k cf (t.set i v) h) ∧ AllS l (i + 1)
theorem AllG.get : ∀ (l : List G) (i j : Nat) (g : G), AllG l i → l[j]? = some g → ∀ t, g t = t.get (i + j)
  | [], _, _, _, _, h => by simp at h
  | x :: l, i, 0, g, ha, h => by simp at h; subst h; exact ha.1
  | x :: l, i, j + 1, g, ha, h => by
    have := AllG.get l (i + 1) j g ha.2 (by simpa using h)
    intro t; rw [this t]; congr 1; omega
theorem AllS.get : ∀ (l : List S) (i j : Nat) (s : S), AllS l i → l[j]? = some s → ∀ v k cf t h, s v k cf t h = k cf (t.set (i + j) v) h
  | [], _, _, _, _, h => by simp at h
  | x :: l, i, 0, s, ha, h => by simp at h; subst h; exact ha.1
  | x :: l, i, j + 1, s, ha, h => by
    have := AllS.get l (i + 1) j s ha.2 (by simpa using h)
    intro v k cf t h; rw [this v k cf t h, show i + 1 + j = i + (j + 1) by omega]
theorem gList_all : AllG gList 0 := by
  unfold gList
  repeat (refine ⟨fun t => rfl, ?_⟩)
  trivial
theorem sList_all : AllS sList 0 := by
  unfold sList
  repeat (refine ⟨fun v k cf t h => rfl, ?_⟩)
  trivial
end Go.Ab
