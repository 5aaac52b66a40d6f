/- The evaluator's regions, its code, its calls: what it answers is what a call returns; certificates. -/
import Derived.Test.YtgegccpdegaccaaGreatDoorEb
import Derived.RangeFuncLeaves
import Derived.RangeFuncRecord
import Derived.Laws.StandIn
import Derived.Lib.Index
import Derived.Lib.Fields
import Derived.Lib.Space
import Derived.Lib.ItoaNum
import Derived.Lib.LaidTab
import Derived.Sort.Grow
import Derived.Deep.Draws
namespace Go.Ab
section
variable {P : Program} {ops : Array Oper}
def inS (L : Array Bool) (i : Nat) : Bool := L.getD i false
def Deps (L : Array Bool) (o : Oper) : Prop := ∀ e ∈ o.after, Region.binds .any e = true → inS L e.on = true
def Down (ops : Array Oper) (L : Array Bool) : Prop := ∀ (i : Nat) o, inS L i = true → ops[i]? = some o → Deps L o
structure MaskOK (P : Program) (ops : Array Oper) (s : PStep) : Prop where
  op : ops[s.i]? = some s.o
  mask : ∀ L, Down ops L → Deps L s.o → ∀ j, Nat.testBit s.m j = true → inS L j = true
  kind : s.k = kindOf P s.o
theorem MaskOK.bef {s : PStep} (h : MaskOK P ops s) {L : Array Bool} (hd : Down ops L) (hs : inS L s.i = true) {j : Nat} (hj : Nat.testBit s.m j = true) : inS L j = true :=
  h.mask L hd (hd _ _ hs h.op) j hj
theorem edgeMask_ok {ms : List Nat} {L : Array Bool} (hms : ∀ (j m : Nat), ms[j]? = some m → inS L j = true → ∀ b, Nat.testBit m b = true → inS L b = true) :
    ∀ (es : List Edge) (acc m : Nat), edgeMask ms es acc = some m → (∀ b, Nat.testBit acc b = true → inS L b = true) → (∀ e ∈ es, Region.binds .any e = true → inS L e.on = true) → ∀ b, Nat.testBit m b = true → inS L b = true
  | [], acc, m, h, h1, _ => by simp [edgeMask] at h; subst h; exact h1
  | e :: es, acc, m, h, h1, h2 => by
    unfold edgeMask at h
    split at h
    · rename_i hb
      split at h
      · rename_i x hx
        refine edgeMask_ok hms es _ m h ?_ (fun e he => h2 e (by simp [he]))
        intro b hb'
        have hon := h2 e (by simp) hb
        rw [Nat.testBit_or, Nat.testBit_or, Bool.or_eq_true, Bool.or_eq_true] at hb'
        rcases hb' with (hb' | hb') | hb'
        · exact h1 b hb'
        · exact hms _ _ hx hon b hb'
        · rw [Nat.testBit_shiftLeft] at hb'
          simp only [Bool.and_eq_true, decide_eq_true_eq] at hb'
          have : b - e.on = 0 := by
            have := hb'.2
            rcases Nat.eq_zero_or_pos (b - e.on) with h0 | h0
            · exact h0
            · rw [Nat.testBit_one_eq_true_iff_self_eq_zero] at this; omega
          have : b = e.on := by omega
          rw [this]; exact hon
      · cases h
    · exact edgeMask_ok hms es acc m h h1 (fun e he => h2 e (by simp [he]))
theorem edgeMask_lt {ms : List Nat} : ∀ (es : List Edge) (acc m : Nat), edgeMask ms es acc = some m → ∀ e ∈ es, Region.binds .any e = true → e.on < ms.length
  | [], _, _, _, e, he, _ => by cases he
  | x :: es, acc, m, h, e, he, hb => by
    unfold edgeMask at h
    split at h
    · split at h
      · rename_i y hy
        rcases List.mem_cons.1 he with rfl | he
        · exact (List.getElem?_eq_some_iff.1 hy).1
        · exact edgeMask_lt es _ m h e he hb
      · cases h
    · rename_i hnb
      rcases List.mem_cons.1 he with rfl | he
      · exact absurd hb hnb
      · exact edgeMask_lt es _ m h e he hb
theorem stepsGo_ok : ∀ (os : List Oper) (i : Nat) (ms : List Nat) (l : List PStep), stepsGo P os i ms = some l → ops.toList.drop i = os → ms.length = i →
    (∀ L, Down ops L → ∀ (j m : Nat), ms[j]? = some m → inS L j = true → ∀ b, Nat.testBit m b = true → inS L b = true) →
    (∀ s ∈ l, MaskOK P ops s) ∧ ∀ (j : Nat) o, i ≤ j → ops[j]? = some o → ∀ e ∈ o.after, Region.binds .any e = true → e.on < j
  | [], i, ms, l, h, hd, hl, hms => by
    simp [stepsGo] at h; subst h
    refine ⟨fun s hs => (by cases hs), fun j o hj ho => ?_⟩
    have : ops.size ≤ i := by simpa using hd
    have := (Array.getElem?_eq_some_iff.1 ho).1
    omega
  | o :: os, i, ms, l, h, hd, hl, hms => by
    unfold stepsGo at h
    split at h
    · rename_i m hm
      split at h
      · rename_i l' hl'
        simp at h; subst h
        have ho : ops[i]? = some o := by
          have := congrArg (·[0]?) hd
          simpa using this
        have hmask : ∀ L, Down ops L → Deps L o → ∀ j, Nat.testBit m j = true → inS L j = true := fun L hL hdep =>
          edgeMask_ok (hms L hL) o.after.toList 0 m hm (fun b hb => by simp at hb) (fun e he hb => hdep e (by simpa using he) hb)
        obtain ⟨g1, g2⟩ := stepsGo_ok os (i + 1) (ms ++ [m]) l' hl' (by rw [← List.drop_drop, hd]; rfl) (by simp [hl]) (fun L hL j m' hj hin => by
          rw [List.getElem?_append] at hj
          split at hj
          · exact hms L hL j m' hj hin
          · rename_i hge
            have : j = i := by
              rcases Nat.lt_or_ge (j - ms.length) 1 with h3 | h3
              · omega
              · rw [List.getElem?_eq_none (by simpa using h3)] at hj; cases hj
            subst this
            have : m' = m := by
              rw [← hl] at hj
              simp at hj
              exact hj.symm
            subst this
            exact hmask L hL (hL _ _ hin ho))
        refine ⟨fun s hs => ?_, fun j o' hj ho' e he hb => ?_⟩
        · rcases List.mem_cons.1 hs with rfl | hs
          · exact ⟨ho, hmask, rfl⟩
          · exact g1 s hs
        · by_cases hji : j = i
          · subst hji
            rw [ho] at ho'; cases ho'
            have := edgeMask_lt o.after.toList 0 m hm e (by simpa using he) hb
            omega
          · exact g2 j o' (by omega) ho' e he hb
      · cases h
    · cases h
theorem pickS_mem {f : PStep → Bool} : ∀ (l : List PStep) (x : PStep) (r : List PStep), pickS f l = some (x, r) → x ∈ l ∧ ∀ y ∈ r, y ∈ l
  | [], x, r, h => by simp [pickS] at h
  | s :: l, x, r, h => by
    unfold pickS at h
    split at h
    · simp at h; obtain ⟨rfl, rfl⟩ := h; exact ⟨by simp, fun y hy => by simp [hy]⟩
    · split at h
      · rename_i a b hab
        simp at h; obtain ⟨rfl, rfl⟩ := h
        obtain ⟨g1, g2⟩ := pickS_mem l _ _ hab
        refine ⟨by simp [g1], fun y hy => ?_⟩
        rcases List.mem_cons.1 hy with rfl | hy
        · simp
        · simp [g2 y hy]
      · cases h
theorem ordGo_mem : ∀ (n done : Nat) (l : List PStep), ∀ s ∈ ordGo n done l, s ∈ l
  | 0, _, _, s, hs => by simp [ordGo] at hs
  | n + 1, done, l, s, hs => by
    unfold ordGo at hs
    split at hs
    · rename_i x r hx
      obtain ⟨g1, g2⟩ := pickS_mem l x r hx
      rcases List.mem_cons.1 hs with rfl | hs
      · exact g1
      · exact g2 s (ordGo_mem n _ r s hs)
    · split at hs
      · rename_i x r hx
        obtain ⟨g1, g2⟩ := pickS_mem l x r hx
        rcases List.mem_cons.1 hs with rfl | hs
        · exact g1
        · exact g2 s (ordGo_mem n _ r s hs)
      · cases hs
theorem cutTwo_all : ∀ (l : List PStep), (cutTwo ops l).all = l
  | [] => rfl
  | [x] => rfl
  | [x, y] => by
    unfold cutTwo
    split <;> rfl
  | x :: y :: z :: l => by
    have ih := cutTwo_all (y :: z :: l)
    show (Plan.all ⟨x :: (cutTwo ops (y :: z :: l)).pre, (cutTwo ops (y :: z :: l)).two⟩) = _
    unfold Plan.all at ih ⊢
    simp only
    split at ih
    · rename_i h; rw [ih]
    · exact congrArg (x :: ·) ih
theorem planOf_ok {p : Plan} (h : planOf P ops = some p) : (∀ s ∈ p.all, MaskOK P ops s) ∧ planOk ops p = true ∧ ∀ (j : Nat) o, ops[j]? = some o → ∀ e ∈ o.after, Region.binds .any e = true → e.on < j := by
  unfold planOf at h
  split at h
  · rename_i l hl
    simp only at h
    split at h
    · rename_i hok
      simp at h; subst h
      obtain ⟨g1, g2⟩ := stepsGo_ok ops.toList 0 [] l hl rfl rfl (fun L _ j m hj => by simp at hj)
      refine ⟨fun s hs => ?_, hok, fun j o => g2 j o (Nat.zero_le _)⟩
      rw [cutTwo_all] at hs
      exact g1 s (ordGo_mem _ _ _ s hs)
    · cases h
  · cases h
theorem allPairs_ok {α : Type} {f : α → α → Bool} : ∀ {l : List α}, allPairs f l = true → l.Pairwise fun x y => f x y = true
  | [], _ => .nil
  | x :: l, h => by
    simp only [allPairs, Bool.and_eq_true, List.all_eq_true] at h
    exact .cons h.1 (allPairs_ok h.2)
end
end Go.Ab

namespace Go.Ab
structure Rc where
  s : PStep
  st : St
  w : Bool
  v : AV
  h' : Hp
def tv (f : Nat → Bool) (d : Tmp) : List Rc → AV → AV
  | [], x => x
  | r :: rs, x => tv f d rs (if f r.s.i && r.s.o.dst == some d then r.v else x)
section
variable {f g : Nat → Bool} {d : Tmp}
theorem tv_append : ∀ (a b : List Rc) (x : AV), tv f d (a ++ b) x = tv f d b (tv f d a x)
  | [], _, _ => rfl
  | _ :: a, b, _ => tv_append a b _
theorem tv_none : ∀ (a : List Rc) (x : AV), (∀ r ∈ a, r.s.o.dst = some d → f r.s.i = false) → tv f d a x = x
  | [], _, _ => rfl
  | r :: a, x, h => by
    have : (f r.s.i && r.s.o.dst == some d) = false := by
      by_cases hd : r.s.o.dst = some d
      · simp [h r (by simp) hd]
      · simp [hd]
    simp only [tv, this, Bool.false_eq_true, if_false]
    exact tv_none a x fun r' hr => h r' (by simp [hr])
theorem tv_congr : ∀ (a : List Rc) (x : AV), (∀ r ∈ a, r.s.o.dst = some d → f r.s.i = g r.s.i) → tv f d a x = tv g d a x
  | [], _, _ => rfl
  | r :: a, x, h => by
    have : (f r.s.i && r.s.o.dst == some d) = (g r.s.i && r.s.o.dst == some d) := by
      by_cases hd : r.s.o.dst = some d
      · rw [h r (by simp) hd]
      · have h0 : (r.s.o.dst == some d) = false := by
          cases hb : r.s.o.dst == some d with
          | false => rfl
          | true => exact absurd (eq_of_beq hb) hd
        rw [h0, Bool.and_false, Bool.and_false]
    show tv f d a (if f r.s.i && r.s.o.dst == some d then r.v else x) = tv g d a (if g r.s.i && r.s.o.dst == some d then r.v else x)
    rw [this]
    exact tv_congr a _ fun r' hr => h r' (by simp [hr])
end
def allI : Nat → Bool := fun _ => true
section
variable {P : Program} {ops : Array Oper}
theorem pairOk_ne {x y : PStep} (h : pairOk ops x y = true) : x.i ≠ y.i ∧ Nat.testBit x.m y.i = false ∧ (Nat.testBit y.m x.i = true ∨ (isEffK x.k = false ∧ x.o.apart ops y.o = true)) := by
  unfold pairOk at h
  simp only [Bool.and_eq_true, Bool.not_eq_true', Bool.or_eq_true] at h
  refine ⟨fun e => ?_, h.1.2, h.2⟩
  have := h.1.1
  rw [e] at this
  simp at this
variable {L : Array Bool}
theorem tv_before (hd : Down ops L) {s : PStep} (hs : MaskOK P ops s) (hdep : Deps L s.o) (hnot : inS L s.i = false) {A1 A2 : List Rc} (h1 : ∀ r ∈ A1, pairOk ops r.s s = true)
    (h2 : ∀ r ∈ A2, MaskOK P ops r.s ∧ pairOk ops s r.s = true) {r : Rc} (hr : r.s = s) {d : Tmp} (hdl : d ∈ s.o.looksAt ops) (x : AV) : tv (inS L) d (A1 ++ r :: A2) x = tv allI d A1 x := by
  rw [tv_append]
  have e1 : tv (inS L) d A1 x = tv allI d A1 x := tv_congr A1 x fun y hy hyd => by
    obtain ⟨_, _, g⟩ := pairOk_ne (h1 y hy)
    rcases g with g | ⟨_, g⟩
    · exact hs.mask L hd hdep _ g
    · exact absurd hdl ((Oper.apart_spec g).1 d hyd)
  rw [e1]
  have e2 : (inS L r.s.i && r.s.o.dst == some d) = false := by rw [hr, hnot]; rfl
  simp only [tv, e2, Bool.false_eq_true, if_false]
  refine tv_none A2 _ fun y hy hyd => ?_
  obtain ⟨hm, hp⟩ := h2 y hy
  obtain ⟨_, _, g⟩ := pairOk_ne hp
  rcases g with g | ⟨_, g⟩
  · cases hin : inS L y.s.i with
    | false => rfl
    | true => have := hm.bef hd hin g; rw [hnot] at this; cases this
  · exact absurd hdl ((Oper.apart_spec g).2.2 d hyd)
theorem inS_set {L : Array Bool} {i : Nat} (hi : i < L.size) (j : Nat) : inS (L.setIfInBounds i true) j = (j == i || inS L j) := by
  unfold inS
  simp only [Array.getD_eq_getD_getElem?, Array.getElem?_setIfInBounds]
  by_cases e : i = j
  · subst e; simp [hi]
  · simp [e, Ne.symm e]
theorem tv_after (hd : Down ops L) {s : PStep} (hnot : inS L s.i = false) (hi : s.i < L.size) {A1 A2 : List Rc} (h1 : ∀ r ∈ A1, r.s.i ≠ s.i)
    (h2 : ∀ r ∈ A2, MaskOK P ops r.s ∧ pairOk ops s r.s = true) {r : Rc} (hr : r.s = s) (d : Tmp) (x : AV) :
    tv (inS (L.setIfInBounds s.i true)) d (A1 ++ r :: A2) x = if s.o.dst = some d then r.v else tv (inS L) d (A1 ++ r :: A2) x := by
  rw [tv_append, tv_append]
  have e1 : tv (inS (L.setIfInBounds s.i true)) d A1 x = tv (inS L) d A1 x := tv_congr A1 x fun y hy _ => by
    rw [inS_set hi]; simp [h1 y hy]
  rw [e1]
  have e3 : ∀ z, tv (inS (L.setIfInBounds s.i true)) d A2 z = tv (inS L) d A2 z := fun z => tv_congr A2 z fun y hy _ => by
    rw [inS_set hi]
    have := (pairOk_ne (h2 y hy).2).1
    simp [Ne.symm this]
  have e4 : inS (L.setIfInBounds s.i true) s.i = true := by rw [inS_set hi]; simp
  simp only [tv, hr, e4, Bool.true_and, e3]
  by_cases hsd : s.o.dst = some d
  · simp only [hsd, beq_self_eq_true, if_true]
    refine tv_none A2 _ fun y hy hyd => ?_
    obtain ⟨hm, hp⟩ := h2 y hy
    obtain ⟨_, _, g⟩ := pairOk_ne hp
    rcases g with g | ⟨_, g⟩
    · cases hin : inS L y.s.i with
      | false => rfl
      | true => have := hm.bef hd hin g; rw [hnot] at this; cases this
    · exact absurd hyd ((Oper.apart_spec g).2.1 d hsd)
  · have : (s.o.dst == some d) = false := by simp [hsd]
    simp [hsd, hnot]
theorem down_set {L : Array Bool} (hd : Down ops L) {i : Nat} {o : Oper} (ho : ops[i]? = some o) (hi : i < L.size) (hdep : Deps L o) : Down ops (L.setIfInBounds i true) := by
  intro j o' hj ho' e he hb
  rw [inS_set hi] at hj ⊢
  simp only [Bool.or_eq_true, beq_iff_eq] at hj ⊢
  rcases hj with rfl | hj
  · rw [ho] at ho'; cases ho'
    exact .inr (hdep e he hb)
  · exact .inr (hd j o' hj ho' e he hb)
end
end Go.Ab

namespace Go.Ab
section
variable (P : Program) (gl : Gam) (cf : CallF) (ops : Array Oper) (st0 : St) (μ0 : Mp) (w0 : World) (fin : St)
structure RcOK (r : Rc) : Prop where
  mo : MaskOK P ops r.s
  want : wantedA ops r.st.t r.s.o = .ok r.w
  run : r.w = true → opA P cf (evalO gl r.st.t) r.s.o r.st.h = .ok (r.v, r.h')
  idle : r.w = false → r.v = aundef ∧ r.h' = r.st.h
  dst : ∀ d, r.s.o.dst = some d → d < st0.sz
structure Hist (A : List Rc) (stA : St) : Prop where
  ok : ∀ r ∈ A, RcOK P gl cf ops st0 r
  t : ∀ A1 r A2, A = A1 ++ r :: A2 → ∀ d, St.get r.st.t d = tv allI d A1 (St.get st0.t d)
  tA : ∀ d, St.get stA.t d = tv allI d A (St.get st0.t d)
  sz : stA.sz = st0.sz
  md : stA.md = st0.md
def Late (μ : Mp) (pend : List Pend) (stA : St) (r : Rc) : Prop :=
  (r.s.k = .look → (⟨r.s.i, r.s.o, r.st.t, r.v⟩ : Pend) ∈ pend ∧ opA P cf (evalO gl r.st.t) r.s.o stA.h = .ok (r.v, stA.h)) ∧
  (r.s.k = .new → μ r.st.h.n = none ∧ st0.h.n ≤ r.st.h.n ∧ r.st.h.n < stA.h.n ∧ (stA.h.b.get r.st.h.n = r.h'.b.get r.st.h.n ∨ stA.h.b.get r.st.h.n = some .dead))
structure J [Val] (pre : List PStep) (L : Array Bool) (a : Act) (w : World) (A : List Rc) (sb : List PStep) (pend : List Pend) (stA : St) (μ : Mp) : Prop where
  pre : pre = A.map (·.s) ++ sb
  hist : Hist P gl cf ops st0 A stA
  rest : drawA P gl cf ops sb pend stA = .ok fin
  effs : ∀ r ∈ A, isEffK r.s.k = true → inS L r.s.i = true
  non : ∀ s ∈ sb, inS L s.i = false
  down : Down ops L
  size : L.size = ops.size
  ext : Ext μ0 st0.h w0 μ stA.h w
  hr : HR μ stA.h w
  tmps : ∀ d, VR μ (tv (inS L) d A (St.get st0.t d)) (a.tmps.getD d undef)
  tsz : st0.sz ≤ a.tmps.size
  defers : DR μ0 st0.md a.defers
  late : ∀ r ∈ A, inS L r.s.i = false → r.w = true → Late P gl cf st0 μ pend stA r
  ids : A.Pairwise fun r r' => r.s.k = .new → r'.s.k = .new → r.w = true → r'.w = true → r.st.h.n ≠ r'.st.h.n
  idn : ∀ r ∈ A, r.s.k = .new → r.w = true → r.st.h.n < stA.h.n
end
section
variable {P : Program} {gl : Gam} {cf : CallF} {ops : Array Oper} {st0 : St} {μ0 : Mp} {w0 : World} {fin : St}
theorem Hist.add {A : List Rc} {stA st' : St} (h : Hist P gl cf ops st0 A stA) {s : PStep} (hm : MaskOK P ops s) {wt : Bool} {v : AV} {h' : Hp} (h1 : oneA P gl cf ops s.o stA = .ok (wt, v, h')) (h2 : putA stA h' s.o.dst v = .ok st') :
    Hist P gl cf ops st0 (A ++ [⟨s, stA, wt, v, h'⟩]) st' := by
  obtain ⟨g1, g2⟩ := oneA_ok h1
  have hdst : ∀ d, s.o.dst = some d → d < st0.sz ∧ st'.t = stA.t.set d v := fun d hd => by
    rw [hd] at h2
    simp only [putA] at h2
    split at h2
    · rename_i hlt
      simp only [Res.ok.injEq] at h2; subst h2
      rw [h.sz] at hlt
      exact ⟨by simpa [Nat.blt_eq] using hlt, rfl⟩
    · cases h2
  refine ⟨fun r hr => ?_, fun A1 r A2 e d => ?_, fun d => ?_, by rw [(putA_h h2).2.1]; exact h.sz, by rw [(putA_h h2).2.2]; exact h.md⟩
  · rcases List.mem_append.1 hr with hr | hr
    · exact h.ok r hr
    · simp at hr; subst hr
      refine ⟨hm, g1, fun hw => ?_, fun hw => ?_, fun d hd => (hdst d hd).1⟩
      · rcases g2 with ⟨_, g⟩ | ⟨g, _⟩
        · exact g
        · simp only at hw; rw [g] at hw; cases hw
      · rcases g2 with ⟨g, _⟩ | ⟨_, g⟩
        · simp only at hw; rw [g] at hw; cases hw
        · exact g
  · rcases List.eq_nil_or_concat A2 with rfl | ⟨A2', x, rfl⟩
    · have := List.append_inj' e rfl
      obtain ⟨rfl, e2⟩ := this
      simp at e2; subst e2
      exact h.tA d
    · have e' : A ++ [⟨s, stA, wt, v, h'⟩] = (A1 ++ r :: A2') ++ [x] := by simpa using e
      have := List.append_inj' e' rfl
      exact h.t A1 r A2' this.1 d
  · rw [tv_append]
    simp only [tv, allI, Bool.true_and]
    by_cases hd : s.o.dst = some d
    · simp only [hd, beq_self_eq_true, if_true]
      rw [(hdst d hd).2, get_setSt, if_pos rfl]
    · have h0 : (s.o.dst == some d) = false := by
        cases hb : s.o.dst == some d with
        | false => rfl
        | true => exact absurd (eq_of_beq hb) hd
      rw [h0]
      simp only [Bool.false_eq_true, if_false]
      rw [← h.tA d]
      cases hs : s.o.dst with
      | none => rw [hs] at h2; simp only [putA, Res.ok.injEq] at h2; subst h2; rfl
      | some e =>
        rw [(hdst e hs).2, get_setSt, if_neg]
        intro hed; subst hed; exact hd hs
theorem drawA_cons {s : PStep} {sb : List PStep} {pend : List Pend} {stA : St} (h : drawA P gl cf ops (s :: sb) pend stA = .ok fin) :
    ∃ wt v h' st' pend', oneA P gl cf ops s.o stA = .ok (wt, v, h') ∧ putA stA h' s.o.dst v = .ok st' ∧ nextPend P gl cf s wt stA.t v h' pend = .ok pend' ∧ drawA P gl cf ops sb pend' st' = .ok fin := by
  obtain ⟨⟨wt, v, h'⟩, h1, h2⟩ := Res.bind_ok h
  obtain ⟨st', h3, h4⟩ := Res.bind_ok h2
  obtain ⟨pend', h5, h6⟩ := Res.bind_ok h4
  exact ⟨wt, v, h', st', pend', h1, h3, h5, h6⟩
theorem HLe.new [Val] {μ : Mp} {H : Hp} {w : World} (hH : HR μ H w) (blk : Blk) : HLe H ⟨H.n + 1, H.b.set H.n blk⟩ := fun i b e => by
  have := hH.low i b e
  rw [HT.get_set_ne _ _ (by omega)]
  exact e
theorem Ext.grow {μ μ' : Mp} {H H' : Hp} {w w' : World} (h : Ext μ H w μ' H' w') (b : Blk) : Ext μ H w μ' ⟨H'.n + 1, H'.b.set H'.n b⟩ w' where
  sub := h.sub
  fresh := h.fresh
  n := by have := h.n; simp; omega
  old := fun i hi hn => by
    have := h.n
    rw [HT.get_set_ne _ _ (by omega)]
    exact h.old i hi hn
  alive := fun i hi ⟨y, e1, e2⟩ => by
    have := h.n
    rw [HT.get_set_ne _ _ (by omega)] at e1
    exact h.alive i hi ⟨y, e1, e2⟩
  size := h.size
  newc := h.newc
  frame := h.frame
  os := h.os
  tape := h.tape
  output := h.output
theorem J.absorb [Val] {pre : List PStep} {L : Array Bool} {a : Act} {w : World} (hmo : ∀ s ∈ pre, MaskOK P ops s) : ∀ (sb : List PStep) (A : List Rc) (pend : List Pend) (stA : St) (μ : Mp), J P gl cf ops st0 μ0 w0 fin pre L a w A sb pend stA μ →
    ∃ A sb pend stA μ, J P gl cf ops st0 μ0 w0 fin pre L a w A sb pend stA μ ∧ ∀ s tl, sb = s :: tl → isEffK s.k = true
  | [], A, pend, stA, μ, h => ⟨A, [], pend, stA, μ, h, fun s tl e => by cases e⟩
  | s :: sb, A, pend, stA, μ, h => by
    cases hk : isEffK s.k with
    | true => exact ⟨A, s :: sb, pend, stA, μ, h, fun s' tl e => by cases e; exact hk⟩
    | false =>
      obtain ⟨wt, v, h', st', pend', h1, h2, h3, h4⟩ := drawA_cons h.rest
      have hms : MaskOK P ops s := hmo s (by rw [h.pre]; simp)
      obtain ⟨g1, g2⟩ := oneA_ok h1
      obtain ⟨e1, e2, _⟩ := putA_h h2
      have hns : inS L s.i = false := h.non s (by simp)
      -- the heap: as it was, or with one block more
      have hheap : (h' = stA.h ∧ (wt = true → s.k = .look → opA P cf (evalO gl stA.t) s.o stA.h = .ok (v, stA.h)) ∧ (wt = true → s.k ≠ .new)) ∨ (s.k = .new ∧ wt = true ∧ ∃ blk, blk ≠ .dead ∧ h' = ⟨stA.h.n + 1, stA.h.b.set stA.h.n blk⟩) := by
        rcases g2 with ⟨rfl, g⟩ | ⟨rfl, _, g⟩
        · have hkk := hms.kind
          cases hkd : s.k with
          | plain =>
            have := plain_any (by rw [← hkk]; exact hkd) g
            exact .inl ⟨this.1, fun _ hc => (by cases hc), fun _ => (by simp)⟩
          | look =>
            have := look_any (by rw [← hkk]; exact hkd) g
            exact .inl ⟨this.1, fun _ _ => (by rw [this.1] at g; exact g), fun _ => (by simp)⟩
          | new =>
            obtain ⟨blk, b1, b2, _⟩ := new_late (by rw [← hkk]; exact hkd) g
            exact .inr ⟨rfl, rfl, blk, b1, b2⟩
          | eff => rw [hkd] at hk; cases hk
        · exact .inl ⟨g, fun hc => (by cases hc), fun hc => (by cases hc)⟩
      have hpend : (∀ x ∈ pend, x ∈ pend') ∧ (wt = true → s.k = .look → (⟨s.i, s.o, stA.t, v⟩ : Pend) ∈ pend') := by
        unfold nextPend at h3
        split at h3
        · rename_i hke; rw [hke] at hk; cases hk
        · simp only [Res.ok.injEq] at h3; subst h3
          exact ⟨fun x hx => by simp [hx], fun _ _ => by simp⟩
        · rename_i hno1 hno2
          simp only [Res.ok.injEq] at h3; subst h3
          exact ⟨fun x hx => hx, fun hw hl => absurd hl (hno2 hw)⟩
      have hle : HLe stA.h st'.h := by
        rw [e1]
        rcases hheap with ⟨e, _⟩ | ⟨_, _, blk, _, e⟩
        · rw [e]; exact .refl _
        · rw [e]; exact HLe.new h.hr blk
      have hn : stA.h.n ≤ st'.h.n := by
        rw [e1]
        rcases hheap with ⟨e, _⟩ | ⟨_, _, blk, _, e⟩
        · rw [e]; exact Nat.le_refl _
        · rw [e]; simp
      refine J.absorb hmo sb (A ++ [⟨s, stA, wt, v, h'⟩]) pend' st' μ ?_
      exact {
        pre := by rw [h.pre]; simp
        hist := h.hist.add hms h1 h2
        rest := h4
        effs := fun r hr he => by
          rcases List.mem_append.1 hr with hr | hr
          · exact h.effs r hr he
          · simp at hr; subst hr; simp only at he; rw [hk] at he; cases he
        non := fun s' hs' => h.non s' (by simp [hs'])
        down := h.down
        size := h.size
        ext := by
          rw [e1]
          rcases hheap with ⟨e, _⟩ | ⟨_, _, blk, _, e⟩
          · rw [e]; exact h.ext
          · rw [e]; exact h.ext.grow blk
        hr := by
          rw [e1]
          rcases hheap with ⟨e, _⟩ | ⟨_, _, blk, _, e⟩
          · rw [e]; exact h.hr
          · rw [e]; exact h.hr.grow blk
        tmps := fun d => by
          rw [tv_append]
          have : tv (inS L) d [(⟨s, stA, wt, v, h'⟩ : Rc)] (tv (inS L) d A (St.get st0.t d)) = tv (inS L) d A (St.get st0.t d) := tv_none _ _ fun r hr _ => by simp at hr; subst hr; exact hns
          rw [this]
          exact h.tmps d
        tsz := h.tsz
        defers := h.defers
        late := fun r hr hnr hw => by
          rcases List.mem_append.1 hr with hr | hr
          · obtain ⟨l1, l2⟩ := h.late r hr hnr hw
            refine ⟨fun hl => ?_, fun hl => ?_⟩
            · obtain ⟨q1, q2⟩ := l1 hl
              have hkr := (h.hist.ok r hr).mo.kind
              exact ⟨hpend.1 _ q1, (look_any (by rw [← hkr]; exact hl) q2).2 _ hle⟩
            · obtain ⟨q1, q2, q3, q4⟩ := l2 hl
              refine ⟨q1, q2, by omega, ?_⟩
              have : st'.h.b.get r.st.h.n = stA.h.b.get r.st.h.n := by
                rw [e1]
                rcases hheap with ⟨e, _⟩ | ⟨_, _, blk, _, e⟩
                · rw [e]
                · rw [e]; exact HT.get_set_ne _ _ (by omega)
              rw [this]; exact q4
          · simp at hr; subst hr
            refine ⟨fun hl => ?_, fun hl => ?_⟩
            · simp only at hw hl ⊢
              rcases hheap with ⟨e, g, _⟩ | ⟨hnew, _⟩
              · refine ⟨hpend.2 hw hl, ?_⟩
                rw [e1, e]
                exact g hw hl
              · rw [hnew] at hl; cases hl
            · simp only at hw hl ⊢
              rcases hheap with ⟨_, _, g⟩ | ⟨_, _, blk, b1, e⟩
              · exact absurd hl (g hw)
              · refine ⟨h.hr.none_n (Nat.le_refl _), h.ext.n, by rw [e1, e]; simp, .inl ?_⟩
                rw [e1]
        ids := by
          rw [List.pairwise_append]
          refine ⟨h.ids, by simp, fun r hr r' hr' k1 k2 w1 w2 => ?_⟩
          simp at hr'; subst hr'
          have := h.idn r hr k1 w1
          simp only
          omega
        idn := fun r hr k1 w1 => by
          rcases List.mem_append.1 hr with hr | hr
          · have := h.idn r hr k1 w1; omega
          · simp at hr; subst hr
            simp only at k1 w1 ⊢
            rcases hheap with ⟨_, _, g⟩ | ⟨_, _, blk, b1, e⟩
            · exact absurd k1 (g w1)
            · rw [e1, e]; simp }
end
end Go.Ab

namespace Go.Ab
section
variable {P : Program} {gl : Gam} {cf : CallF} {ops : Array Oper}
theorem mapA_congr {α β : Type} {f g : α → Res β} : ∀ (l : List α), (∀ x ∈ l, f x = g x) → mapA f l = mapA g l
  | [], _ => rfl
  | a :: l, h => by simp only [mapA, h a (by simp), mapA_congr l fun x hx => h x (by simp [hx])]
theorem optOp_congr {f g : Operand → Res AV} (o : Option Operand) (h : ∀ x ∈ o.toArray, f x = g x) : optOp f o = optOp g o := by
  cases o with
  | none => rfl
  | some x => simp only [optOp, h x (by simp)]
theorem callA_congr {ρA ρB : Operand → Res AV} (c : Call) (h : ∀ x ∈ c.operands, ρA x = ρB x) (H : Hp) : callA P cf ρA c H = callA P cf ρB c H := by
  unfold callA
  rw [mapA_congr c.args.toList fun x hx => h x (by simp [Call.operands]; exact .inr (by simpa using hx))]
  congr 1
  funext args
  cases hc : c.callee with
  | builtin b => rfl
  | value f => simp only [h f (by simp [Call.operands, hc])]
  | invoke r m => rfl
theorem opA_congr {ρA ρB : Operand → Res AV} (o : Oper) (h : ∀ x ∈ o.op.operands, ρA x = ρB x) (H : Hp) : opA P cf ρA o H = opA P cf ρB o H := by
  obtain ⟨dst, op, ty, pos, after, guard⟩ := o
  have parts : ∀ ps : Array (Nat × Operand), (∀ x ∈ ps.toList.map (·.2), ρA x = ρB x) →
      mapA (fun p : Nat × Operand => (ρA p.2).bind fun x => .ok (p.1, x)) ps.toList = mapA (fun p : Nat × Operand => (ρB p.2).bind fun x => .ok (p.1, x)) ps.toList := fun ps hp =>
    mapA_congr _ fun p hm => by rw [hp p.2 (List.mem_map.2 ⟨p, hm, rfl⟩)]
  cases op <;> simp only [Op.operands] at h <;> simp only [opA]
  case build t ps => rw [parts ps fun x hx => h x (by simpa using hx)]
  case buildSlice t n ps => rw [parts ps fun x hx => h x (by simpa using hx)]
  case makeFunc fn first captured =>
    rw [mapA_congr first.toList fun x hx => h x (by simp at hx; simp [hx]), mapA_congr captured.toList fun x hx => h x (by simp at hx; simp [hx])]
  case call c => exact callA_congr c h H
  case makeMap t r =>
    cases r with
    | none => rfl
    | some x => simp only [h x (by simp)]
  case slice t x lo hi mx =>
    rw [h x (by simp), optOp_congr lo fun y hy => h y (by simp at hy; simp [hy]), optOp_congr hi fun y hy => h y (by simp at hy; simp [hy]), optOp_congr mx fun y hy => h y (by simp at hy; simp [hy])]
  all_goals (first | rfl | (simp only [h _ (by simp)]; done) | (simp_all; done))
theorem op_wp' [Val] {ro : Option Nat} (hcf : CallOK P gl cf) {μ : Mp} {H H' : Hp} {w : World} (hG : GR gl μ H w) {t : PT AV} {a : Act} {o : Oper} (hd : ∀ d ∈ o.looksAt ops, VR μ (St.get t d) (a.tmps.getD d undef)) {v : AV}
    (h : opA P cf (evalO gl t) o H = .ok (v, H')) (hH : HR μ H w) {K : Act → World → Prop} {Q : Exit → Act → World → Prop}
    (hK : ∀ μ' w' v', Ext μ H w μ' H' w' → HR μ' H' w' → VR μ' v v' → K (a.put o.dst v') w') : wpI ro P o a w K Q := by
  classical
  have hρ : OpdR μ (fun x => if x ∈ o.op.operands then evalO gl t x else .err 0) a.eval := fun x v hv => by
    simp only at hv
    split at hv
    · rename_i hx
      refine evalO_R hG x (fun i hi => hd i ?_) hv
      subst hi
      exact List.mem_append_left _ (List.mem_filterMap.2 ⟨.tmp i, by simpa using hx, rfl⟩)
    · cases hv
  have h' : opA P cf (fun x => if x ∈ o.op.operands then evalO gl t x else .err 0) o H = .ok (v, H') := by
    rw [← h]
    exact opA_congr o (fun x hx => by simp only [hx, if_true]) H
  exact op_wp hcf hG hρ h' hH hK
theorem new_late' [Val] {μ : Mp} {H0 : Hp} {w0 : World} (hG : GR gl μ H0 w0) {t : PT AV} {a : Act} {o : Oper} (hd : ∀ d ∈ o.looksAt ops, VR μ (St.get t d) (a.tmps.getD d undef)) (hk : kindOf P o = .new) {h h1 : Hp} {v : AV} (he : opA P cf (evalO gl t) o h = .ok (v, h1))
    {G : Hp} {w : World} (hGr : HR μ G w) (hn : h.n < G.n) (hm : μ h.n = none) (hb : G.b.get h.n = h1.b.get h.n ∨ G.b.get h.n = some .dead) : LateN P (execOp a.eval o) μ G w h.n v := by
  classical
  have hρ : OpdR μ (fun x => if x ∈ o.op.operands then evalO gl t x else .err 0) a.eval := fun x v hv => by
    simp only at hv
    split at hv
    · rename_i hx
      refine evalO_R hG x (fun i hi => hd i ?_) hv
      subst hi
      exact List.mem_append_left _ (List.mem_filterMap.2 ⟨.tmp i, by simpa using hx, rfl⟩)
    · cases hv
  have h' : opA P cf (fun x => if x ∈ o.op.operands then evalO gl t x else .err 0) o h = .ok (v, h1) := by
    rw [← he]
    exact opA_congr o (fun x hx => by simp only [hx, if_true]) h
  obtain ⟨blk, _, e, g⟩ := new_late hk h'
  refine g μ a.eval G w hρ hGr hn hm ?_
  rw [e] at hb
  simpa [HT.get_set_self] using hb
theorem wanted_of [Val] {μ : Mp} {s : Oper} {t : PT AV} {a : Act} (h : ∀ d ∈ s.looksAt ops, VR μ (St.get t d) (a.tmps.getD d undef)) {b : Bool} (hw : wantedA ops t s = .ok b) : Region.wanted s (yielded ops a.tmps) = b := by
  refine wanted_R (fun j wt d hg hd => h d ?_) hw
  refine List.mem_append_right _ ?_
  simp only [hg]
  rw [hd]
  simp
end
end Go.Ab

namespace Go.Ab
section
variable {P : Program} {gl : Gam} {cf : CallF} {ops : Array Oper} {st0 : St} {μ0 : Mp} {w0 : World} {fin : St}
theorem pw_split {α : Type} {R : α → α → Prop} {A1 A2 : List α} {x : α} (h : (A1 ++ x :: A2).Pairwise R) : (∀ y ∈ A1, R y x) ∧ ∀ y ∈ A2, R x y := by
  rw [List.pairwise_append] at h
  exact ⟨fun y hy => h.2.2 y hy x (by simp), fun y hy => List.rel_of_pairwise_cons h.2.1 hy⟩
theorem put_getD (a : Act) (dst : Option Tmp) (v : Value) (hb : ∀ d, dst = some d → d < a.tmps.size) (d : Tmp) : (a.put dst v).tmps.getD d undef = if dst = some d then v else a.tmps.getD d undef := by
  cases dst with
  | none => simp [Act.put]
  | some e =>
    rw [getD_put (hb e rfl)]
    by_cases h : e = d <;> simp [h]
theorem put_size (a : Act) (dst : Option Tmp) (v : Value) : (a.put dst v).tmps.size = a.tmps.size := by cases dst <;> simp [Act.put]
theorem put_defers (a : Act) (dst : Option Tmp) (v : Value) : (a.put dst v).defers = a.defers := by cases dst <;> rfl
variable {pre : List PStep} {L : Array Bool} {a : Act} {w : World} {A : List Rc} {sb : List PStep} {pend : List Pend} {stA : St} {μ : Mp}
theorem Ext.late {μ μ' : Mp} {H H' : Hp} {w w' : World} (h : Ext μ H w μ' H' w') {n : Nat} (hm : μ' n = none) (hn : H.n ≤ n) (o : Obj) (N : Nat) : Ext μ H w (μ'.put n (w'.heap.size, 0, N)) H' (w'.alloc o) where
  sub := h.sub.trans (Mp.sub_put _ hm)
  fresh := fun i x h1 h2 => by
    by_cases e : i = n
    · rw [e]; exact hn
    · rw [Mp.put_ne μ' _ e] at h1; exact h.fresh i x h1 h2
  n := h.n
  old := h.old
  alive := h.alive
  size := by have := h.size; simp; omega
  newc := fun i c s M h1 h2 => by
    by_cases e : i = n
    · rw [e, Mp.put_self] at h1; cases h1; exact .inl h.size
    · rw [Mp.put_ne μ' _ e] at h1; exact h.newc i c s M h1 h2
  frame := fun k hk hno => by
    rw [heap_alloc_old w' o (Nat.lt_of_lt_of_le hk h.size)]
    exact h.frame k hk hno
  os := h.os
  tape := h.tape
  output := h.output
theorem J.facts [Val] (h : J P gl cf ops st0 μ0 w0 fin pre L a w A sb pend stA μ) (hpw : pre.Pairwise fun x y => pairOk ops x y = true) {A1 A2 : List Rc} {r : Rc} (hA : A = A1 ++ r :: A2) :
    RcOK P gl cf ops st0 r ∧ (∀ y ∈ A1, MaskOK P ops y.s ∧ pairOk ops y.s r.s = true) ∧ ∀ y ∈ A2, MaskOK P ops y.s ∧ pairOk ops r.s y.s = true := by
  have hpwA : A.Pairwise fun x y => pairOk ops x.s y.s = true := by
    rw [h.pre, List.pairwise_append] at hpw
    exact List.pairwise_map.1 hpw.1
  rw [hA] at hpwA
  obtain ⟨p1, p2⟩ := pw_split hpwA
  have hok : ∀ y ∈ A, RcOK P gl cf ops st0 y := h.hist.ok
  exact ⟨hok r (by rw [hA]; simp), fun y hy => ⟨(hok y (by rw [hA]; simp [hy])).mo, p1 y hy⟩, fun y hy => ⟨(hok y (by rw [hA]; simp [hy])).mo, p2 y hy⟩⟩
theorem J.found [Val] (h : J P gl cf ops st0 μ0 w0 fin pre L a w A sb pend stA μ) (hpw : pre.Pairwise fun x y => pairOk ops x y = true) {A1 A2 : List Rc} {r : Rc} (hA : A = A1 ++ r :: A2) (hdep : Deps L r.s.o) (hnot : inS L r.s.i = false) :
    ∀ d ∈ r.s.o.looksAt ops, VR μ (St.get r.st.t d) (a.tmps.getD d undef) := by
  obtain ⟨f1, f2, f3⟩ := h.facts hpw hA
  intro d hd
  rw [h.hist.t A1 r A2 hA d]
  have := tv_before (P := P) h.down f1.mo hdep hnot (fun y hy => (f2 y hy).2) f3 rfl hd (St.get st0.t d)
  rw [← this, ← hA]
  exact h.tmps d
theorem J.after [Val] (h : J P gl cf ops st0 μ0 w0 fin pre L a w A sb pend stA μ) (hpw : pre.Pairwise fun x y => pairOk ops x y = true) {A1 A2 : List Rc} {r : Rc} (hA : A = A1 ++ r :: A2) (hdep : Deps L r.s.o) (hnot : inS L r.s.i = false)
    {v' : Value} {w' : World} {μ' : Mp} (hv : VR μ' r.v v') (hsub : Sub μ μ') (hext : Ext μ0 st0.h w0 μ' stA.h w') (hhr : HR μ' stA.h w')
    (hids : ∀ y ∈ A, y ≠ r → inS L y.s.i = false → y.s.k = .new → y.w = true → μ' y.st.h.n = none) :
    J P gl cf ops st0 μ0 w0 fin pre (L.setIfInBounds r.s.i true) (a.put r.s.o.dst v') w' A sb pend stA μ' := by
  obtain ⟨f1, f2, f3⟩ := h.facts hpw hA
  have hi : r.s.i < L.size := by rw [h.size]; exact (Array.getElem?_eq_some_iff.1 f1.mo.op).1
  have hnin : ∀ j, inS (L.setIfInBounds r.s.i true) j = false → inS L j = false ∧ j ≠ r.s.i := fun j hj => by
    rw [inS_set hi] at hj
    simp only [Bool.or_eq_false_iff, beq_eq_false_iff_ne] at hj
    exact ⟨hj.2, hj.1⟩
  have hpre := hpw
  rw [h.pre, List.pairwise_append] at hpre
  exact {
    pre := h.pre
    hist := h.hist
    rest := h.rest
    effs := fun y hy he => by rw [inS_set hi, h.effs y hy he]; simp
    non := fun s hs => by
      rw [inS_set hi, h.non s hs]
      have := hpre.2.2 r.s (List.mem_map.2 ⟨r, by rw [hA]; simp, rfl⟩) s hs
      simp [Ne.symm (pairOk_ne this).1]
    down := down_set h.down f1.mo.op hi hdep
    size := by rw [Array.size_setIfInBounds]; exact h.size
    ext := hext
    hr := hhr
    tmps := fun d => by
      rw [hA, tv_after (P := P) h.down hnot hi (fun y hy => (pairOk_ne (f2 y hy).2).1) f3 rfl d, put_getD a _ _ (fun d hd => Nat.lt_of_lt_of_le (f1.dst d hd) h.tsz)]
      split
      · exact hv
      · rw [← hA]; exact (h.tmps d).mono hsub
    tsz := by rw [put_size]; exact h.tsz
    defers := by rw [put_defers]; exact h.defers
    late := fun y hy hny hw => by
      obtain ⟨g1, g2⟩ := hnin _ hny
      obtain ⟨l1, l2⟩ := h.late y hy g1 hw
      refine ⟨l1, fun hk => ?_⟩
      obtain ⟨q1, q2, q3, q4⟩ := l2 hk
      exact ⟨hids y hy (fun e => g2 (by rw [e])) g1 hk hw, q2, q3, q4⟩
    ids := h.ids
    idn := h.idn }
theorem J.step_in [Val] {ro : Option Nat} (hcf : CallOK P gl cf) (hG0 : GR gl μ0 st0.h w0) (hH0 : HR μ0 st0.h w0) (h : J P gl cf ops st0 μ0 w0 fin pre L a w A sb pend stA μ) (hpw : pre.Pairwise fun x y => pairOk ops x y = true) {r : Rc} (hr : r ∈ A) (hdep : Deps L r.s.o) (hnot : inS L r.s.i = false)
    {K : Act → World → Prop} {Q : Exit → Act → World → Prop} (hK : ∀ a' w' μ', J P gl cf ops st0 μ0 w0 fin pre (L.setIfInBounds r.s.i true) a' w' A sb pend stA μ' → K a' w') : wpO ro P ops Q r.s.i K a w := by
  obtain ⟨A1, A2, hA⟩ := List.append_of_mem hr
  obtain ⟨f1, f2, f3⟩ := h.facts hpw hA
  have hG := hG0.mono hH0 h.ext
  have hf := h.found hpw hA hdep hnot
  have hw := wanted_of hf f1.want
  have hneff : isEffK r.s.k = false := by
    cases he : isEffK r.s.k with
    | false => rfl
    | true => have := h.effs r hr he; rw [hnot] at this; cases this
  cases hrw : r.w with
  | false =>
    rw [hrw] at hw
    refine wpO_idle f1.mo.op hw (hK _ _ μ (h.after hpw hA hdep hnot ?_ (.refl μ) h.ext h.hr fun y hy _ hny hk hw => ((h.late y hy hny hw).2 hk).1))
    rw [(f1.idle hrw).1]
    exact undef_VR μ
  | true =>
    rw [hrw] at hw
    refine wpO_run f1.mo.op hw ?_
    have hold : ∀ {μ' : Mp} {w' : World}, Ext μ stA.h w μ' stA.h w' → ∀ y ∈ A, y ≠ r → inS L y.s.i = false → y.s.k = .new → y.w = true → μ' y.st.h.n = none := fun {μ'} {w'} he y hy _ hny hk hw => by
      obtain ⟨q1, _, q3, _⟩ := (h.late y hy hny hw).2 hk
      cases hm : μ' y.st.h.n with
      | none => rfl
      | some x => have := he.fresh _ x hm q1; omega
    cases hk : r.s.k with
    | eff => rw [hk] at hneff; cases hneff
    | plain =>
      have hany := (plain_any (by rw [← f1.mo.kind]; exact hk) (f1.run hrw)).2 stA.h
      exact op_wp' hcf hG hf hany h.hr fun μ' w' v' e1 e2 e3 => hK _ _ μ' (h.after hpw hA hdep hnot e3 e1.sub (hH0.dom' |> fun hd => Ext.trans hd h.ext e1) e2 (hold e1))
    | look =>
      have hany := ((h.late r hr hnot hrw).1 hk).2
      exact op_wp' hcf hG hf hany h.hr fun μ' w' v' e1 e2 e3 => hK _ _ μ' (h.after hpw hA hdep hnot e3 e1.sub (hH0.dom' |> fun hd => Ext.trans hd h.ext e1) e2 (hold e1))
    | new =>
      obtain ⟨q1, q2, q3, q4⟩ := (h.late r hr hnot hrw).2 hk
      obtain ⟨v', o, N, g1, g2, g3⟩ := new_late' hG hf (by rw [← f1.mo.kind]; exact hk) (f1.run hrw) h.hr q3 q1 q4
      refine wpI_value (opA_noDefer (f1.run hrw)) g1 (hK _ _ _ (h.after hpw hA hdep hnot g3 (Mp.sub_put _ q1) ?_ g2 fun y hy hne hny hk' hw' => ?_))
      · exact h.ext.late q1 q2 o N
      · rw [Mp.put_ne μ _ ?_]
        · exact ((h.late y hy hny hw').2 hk').1
        · have hids := h.ids
          rw [hA] at hids hy
          obtain ⟨p1, p2⟩ := pw_split hids
          rcases List.mem_append.1 hy with hy | hy
          · exact p1 y hy hk' hk hw' hrw
          · rcases List.mem_cons.1 hy with hy | hy
            · exact absurd hy hne
            · exact Ne.symm (p2 y hy hk hk' hrw hw')
end
end Go.Ab

namespace Go.Ab
section
variable {P : Program} {gl : Gam} {cf : CallF} {ops : Array Oper} {st0 : St} {μ0 : Mp} {w0 : World} {fin : St}
variable {pre : List PStep} {L : Array Bool} {a : Act} {w : World} {A : List Rc} {sb : List PStep} {pend : List Pend} {stA : St} {μ : Mp}
theorem recheck_ok {h : Hp} {m : Nat} : ∀ (l l' : List Pend), recheck P gl cf h m l = .ok l' → ∀ x ∈ l, Nat.testBit m x.i = false → x ∈ l' ∧ ∃ hh, opA P cf (evalO gl x.t) x.o h = .ok (x.v, hh)
  | [], _, _, x, hx, _ => by cases hx
  | y :: l, l', e, x, hx, hm => by
    unfold recheck at e
    split at e
    · rename_i hy
      rcases List.mem_cons.1 hx with rfl | hx
      · rw [hm] at hy; cases hy
      · exact recheck_ok l l' e x hx hm
    · split at e
      · rename_i v hh hv
        split at e
        · rename_i hq
          obtain ⟨l1, e1, e2⟩ := Res.bind_ok e
          simp only [Res.ok.injEq] at e2; subst e2
          rcases List.mem_cons.1 hx with rfl | hx
          · have := eqAV_ok 8 _ _ hq
            subst this
            exact ⟨by simp, hh, hv⟩
          · obtain ⟨q1, q2⟩ := recheck_ok l l1 e1 x hx hm
            exact ⟨by simp [q1], q2⟩
        · cases e
      · cases e
theorem J.step_head [Val] {ro : Option Nat} {s : PStep} (hcf : CallOK P gl cf) (hG0 : GR gl μ0 st0.h w0) (hH0 : HR μ0 st0.h w0) (h : J P gl cf ops st0 μ0 w0 fin pre L a w A (s :: sb) pend stA μ) (hmo : ∀ s ∈ pre, MaskOK P ops s) (hpw : pre.Pairwise fun x y => pairOk ops x y = true)
    (heff : isEffK s.k = true) (hdep : Deps L s.o) {K : Act → World → Prop} {Q : Exit → Act → World → Prop}
    (hK : ∀ a' w' A' sb' pend' stA' μ', J P gl cf ops st0 μ0 w0 fin pre (L.setIfInBounds s.i true) a' w' A' sb' pend' stA' μ' → (∀ s tl, sb' = s :: tl → isEffK s.k = true) → K a' w') : wpO ro P ops Q s.i K a w := by
  obtain ⟨wt, v, h', st', pend', h1, h2, h3, h4⟩ := drawA_cons h.rest
  obtain ⟨g1, g2⟩ := oneA_ok h1
  obtain ⟨e1, e2, _⟩ := putA_h h2
  have hms : MaskOK P ops s := hmo s (by rw [h.pre]; simp)
  have hns : inS L s.i = false := h.non s (by simp)
  have hG := hG0.mono hH0 h.ext
  have hk : s.k = .eff := by cases hk : s.k <;> rw [hk] at heff <;> first | rfl | cases heff
  have hpw' := hpw
  rw [h.pre, List.pairwise_append] at hpw'
  obtain ⟨_, pw2, pw3⟩ := hpw'
  have hA1 : ∀ y ∈ A, pairOk ops y.s s = true := fun y hy => pw3 y.s (List.mem_map.2 ⟨y, hy, rfl⟩) s (by simp)
  have hi : s.i < L.size := by rw [h.size]; exact (Array.getElem?_eq_some_iff.1 hms.op).1
  have hf : ∀ d ∈ s.o.looksAt ops, VR μ (St.get stA.t d) (a.tmps.getD d undef) := fun d hd => by
    rw [h.hist.tA d]
    have := tv_before (P := P) (L := L) (A2 := []) (r := ⟨s, stA, wt, v, h'⟩) h.down hms hdep hns hA1 (fun r hr => by cases hr) rfl hd (St.get st0.t d)
    rw [← this, tv_append, tv_none [_] _ (fun r hr _ => by simp at hr; subst hr; exact hns)]
    exact h.tmps d
  have hw := wanted_of hf g1
  have hdst : ∀ d, s.o.dst = some d → d < a.tmps.size := fun d hd => by
    rw [hd] at h2
    simp only [putA] at h2
    split at h2
    · rename_i hlt
      rw [h.hist.sz] at hlt
      exact Nat.lt_of_lt_of_le (by simpa [Nat.blt_eq] using hlt) h.tsz
    · cases h2
  have hnin : ∀ j, inS (L.setIfInBounds s.i true) j = false → inS L j = false ∧ j ≠ s.i := fun j hj => by
    rw [inS_set hi] at hj
    simp only [Bool.or_eq_false_iff, beq_eq_false_iff_ne] at hj
    exact ⟨hj.2, hj.1⟩
  have main : ∀ (μ' : Mp) (w' : World) (v' : Value), Ext μ stA.h w μ' h' w' → HR μ' h' w' → VR μ' v v' → K (a.put s.o.dst v') w' := by
    intro μ' w' v' x1 x2 x3
    have hJ : J P gl cf ops st0 μ0 w0 fin pre (L.setIfInBounds s.i true) (a.put s.o.dst v') w' (A ++ [⟨s, stA, wt, v, h'⟩]) sb pend' st' μ' := {
      pre := by rw [h.pre]; simp
      hist := h.hist.add hms h1 h2
      rest := h4
      effs := fun y hy he => by
        rw [inS_set hi]
        rcases List.mem_append.1 hy with hy | hy
        · rw [h.effs y hy he]; simp
        · simp at hy; subst hy; simp
      non := fun s' hs' => by
        rw [inS_set hi, h.non s' (by simp [hs'])]
        have := List.rel_of_pairwise_cons pw2 hs'
        simp [Ne.symm (pairOk_ne this).1]
      down := down_set h.down hms.op hi hdep
      size := by rw [Array.size_setIfInBounds]; exact h.size
      ext := by rw [e1]; exact Ext.trans hH0.dom' h.ext x1
      hr := by rw [e1]; exact x2
      tmps := fun d => by
        rw [tv_after (P := P) h.down hns hi (fun y hy => (pairOk_ne (hA1 y hy)).1) (fun r hr => by cases hr) rfl d, put_getD a _ _ hdst]
        split
        · exact x3
        · rw [tv_append, tv_none [_] _ (fun r hr _ => by simp at hr; subst hr; exact hns)]
          exact (h.tmps d).mono x1.sub
      tsz := by rw [put_size]; exact h.tsz
      defers := by rw [put_defers]; exact h.defers
      late := fun y hy hny hyw => by
        obtain ⟨q1, q2⟩ := hnin _ hny
        rcases List.mem_append.1 hy with hy | hy
        · obtain ⟨l1, l2⟩ := h.late y hy q1 hyw
          have hoky := h.hist.ok y hy
          refine ⟨fun hl => ?_, fun hl => ?_⟩
          · obtain ⟨m1, m2⟩ := l1 hl
            have hmy : Nat.testBit s.m y.s.i = false := by
              cases hb : Nat.testBit s.m y.s.i with
              | false => rfl
              | true => have := hms.mask L h.down hdep _ hb; rw [q1] at this; cases this
            rcases g2 with ⟨rfl, g⟩ | ⟨rfl, _, g⟩
            · have hre : recheck P gl cf h' s.m pend = .ok pend' := by
                unfold nextPend at h3
                rw [hk] at h3
                exact h3
              obtain ⟨r1, hh, r2⟩ := recheck_ok pend pend' hre _ m1 hmy
              refine ⟨r1, ?_⟩
              have hky : kindOf P y.s.o = .look := by rw [← hoky.mo.kind]; exact hl
              have := (look_any hky r2).1
              subst this
              rw [e1]; exact r2
            · have : pend' = pend := by
                unfold nextPend at h3
                rw [hk] at h3
                simp only [Res.ok.injEq] at h3
                exact h3.symm
              subst this
              rw [e1, g]
              exact ⟨m1, m2⟩
          · obtain ⟨m1, m2, m3, m4⟩ := l2 hl
            refine ⟨?_, m2, ?_, ?_⟩
            · cases hm : μ' y.st.h.n with
              | none => rfl
              | some x => have := x1.fresh _ x hm m1; omega
            · rw [e1]; have := x1.n; omega
            · rw [e1]
              rcases x1.old _ m3 m1 with o1 | o1
              · rw [o1]; exact m4
              · exact .inr o1
        · simp at hy; subst hy; exact absurd rfl q2
      ids := by
        rw [List.pairwise_append]
        refine ⟨h.ids, by simp, fun y _ r hr _ k2 _ _ => ?_⟩
        simp at hr; subst hr
        simp only at k2
        rw [hk] at k2; cases k2
      idn := fun y hy k1 w1 => by
        rcases List.mem_append.1 hy with hy | hy
        · have := h.idn y hy k1 w1
          rw [e1]; have := x1.n; omega
        · simp at hy; subst hy
          simp only at k1
          rw [hk] at k1; cases k1 }
    obtain ⟨A', sb', pend', stA', μ'', hJ', hh⟩ := J.absorb hmo _ _ _ _ _ hJ
    exact hK _ _ A' sb' pend' stA' μ'' hJ' hh
  rcases g2 with ⟨rfl, g⟩ | ⟨rfl, rfl, g⟩
  · exact wpO_run hms.op hw (op_wp' hcf hG hf g h.hr main)
  · refine wpO_idle hms.op hw ?_
    exact main μ w undef (by rw [g]; exact .refl μ stA.h w) (by rw [g]; exact h.hr) (undef_VR μ)
end
end Go.Ab

namespace Go.Ab
def HpEq (H H' : Hp) : Prop := H.n = H'.n ∧ ∀ i, H.b.get i = H'.b.get i
theorem HR.congr [Val] {μ : Mp} {H H' : Hp} {w : World} (h : HR μ H w) (e : HpEq H H') : HR μ H' w := by
  have hl : ∀ i, Live H' i → Live H i := fun i ⟨b, h1, h2⟩ => ⟨b, by rw [e.2]; exact h1, h2⟩
  exact ⟨fun i c s N hm => by rw [← e.1]; exact h.dom i c s N hm, fun i b hb => by rw [← e.1]; exact h.low i b (by rw [e.2]; exact hb), fun i b c s N hb => h.blk i b c s N (by rw [e.2]; exact hb),
    fun i j c s N s' N' hi hj => h.inj i j c s N s' N' (hl i hi) (hl j hj)⟩
theorem Ext.congr {μ μ' : Mp} {H H' H2 : Hp} {w w' : World} (h : Ext μ H w μ' H' w') (e : HpEq H' H2) : Ext μ H w μ' H2 w' where
  sub := h.sub
  fresh := h.fresh
  n := by rw [← e.1]; exact h.n
  old := fun i hi hn => by rw [← e.2]; exact h.old i hi hn
  alive := fun i hi ⟨b, h1, h2⟩ => h.alive i hi ⟨b, by rw [e.2]; exact h1, h2⟩
  size := h.size
  newc := h.newc
  frame := h.frame
  os := h.os
  tape := h.tape
  output := h.output
section
variable {P : Program} {gl : Gam} {cf : CallF} {ops : Array Oper}
theorem writeCells_at {H H' : Hp} {b off : Nat} {vs : List AV} (h : writeCells H b off vs = .ok H') : ∃ blk blk', H.b.get b = some blk ∧ H' = ⟨H.n, H.b.set b blk'⟩ ∧ ∀ H2 : Hp, H2.b.get b = some blk → writeCells H2 b off vs = .ok ⟨H2.n, H2.b.set b blk'⟩ := by
  unfold writeCells at h
  obtain ⟨x, h1, h2⟩ := Res.bind_ok h
  have hb := Res.ofOpt_ok h1
  split at h2
  · rename_i c n p
    split at h2
    · rename_i hle
      simp only [Res.ok.injEq] at h2; subst h2
      refine ⟨_, _, hb, rfl, fun H2 hb2 => ?_⟩
      simp only [writeCells, getBlk, hb2, Res.ofOpt, Res.bind, hle, if_true]
    · cases h2
  · cases h2
theorem store_at {o : Oper} (hs : isStore o = true) {t : PT AV} {b : Nat} (ha : storeAt gl t o = .ok b) {H H' : Hp} {v : AV} (h : opA P cf (evalO gl t) o H = .ok (v, H')) :
    v = aundef ∧ ∃ blk blk', H.b.get b = some blk ∧ H' = ⟨H.n, H.b.set b blk'⟩ ∧ ∀ H2 : Hp, H2.b.get b = some blk → opA P cf (evalO gl t) o H2 = .ok (aundef, ⟨H2.n, H2.b.set b blk'⟩) := by
  obtain ⟨dst, op, ty, pos, after, guard⟩ := o
  unfold isStore at hs
  simp only at hs
  split at hs
  · simp only [storeAt] at ha
    simp only [opA] at h
    obtain ⟨p, h1, h2⟩ := Res.bind_ok h
    obtain ⟨q, h3, h4⟩ := Res.bind_ok h2
    obtain ⟨H1, h5, h6⟩ := Res.bind_ok h4
    simp only [Res.ok.injEq, Prod.mk.injEq] at h6
    obtain ⟨rfl, rfl⟩ := h6
    rw [bind_ok_of h1] at ha
    split at ha
    · simp only [Res.ok.injEq] at ha; subst ha
      simp only [storeVarA] at h5
      obtain ⟨cs, h7, h8⟩ := Res.bind_ok h5
      obtain ⟨n, h9, h10⟩ := Res.bind_ok h8
      split at h10
      · rename_i hc
        obtain ⟨blk, blk', g1, g2, g3⟩ := writeCells_at h10
        refine ⟨rfl, blk, blk', g1, g2, fun H2 hb2 => ?_⟩
        simp only [opA, bind_ok_of h1, bind_ok_of h3, storeVarA, bind_ok_of h7, bind_ok_of h9, hc, and_self, if_true]
        rw [bind_ok_of (g3 H2 hb2)]
      · cases h10
    · cases ha
  · cases hs
theorem set_set_eq {H : Hp} {b c : Nat} {x y : Blk} (h : b ≠ c) : HpEq ⟨H.n, (H.b.set b x).set c y⟩ ⟨H.n, (H.b.set c y).set b x⟩ := by
  refine ⟨rfl, fun i => ?_⟩
  simp only [HT.get_set]
  by_cases h1 : c = i <;> by_cases h2 : b = i <;> simp [h1, h2]
  exact absurd (h2.trans h1.symm) h
theorem two_swap {ox oy : Oper} (hsx : isStore ox = true) (hsy : isStore oy = true) {t : PT AV} {b b' : Nat} (hx : storeAt gl t ox = .ok b) (hy : storeAt gl t oy = .ok b') (hne : b ≠ b') {H hx' hxy : Hp} {vx vy : AV}
    (h1 : opA P cf (evalO gl t) ox H = .ok (vx, hx')) (h2 : opA P cf (evalO gl t) oy hx' = .ok (vy, hxy)) :
    vx = aundef ∧ vy = aundef ∧ ∃ hy' hyx, opA P cf (evalO gl t) oy H = .ok (aundef, hy') ∧ opA P cf (evalO gl t) ox hy' = .ok (aundef, hyx) ∧ HpEq hyx hxy := by
  obtain ⟨rfl, B, B', a1, a2, a3⟩ := store_at hsx hx h1
  obtain ⟨rfl, C, C', c1, c2, c3⟩ := store_at hsy hy h2
  subst a2
  simp only at c1 c2
  rw [HT.get_set_ne _ _ hne] at c1
  subst c2
  refine ⟨rfl, rfl, _, _, c3 H c1, a3 _ ?_, set_set_eq (H := H) (Ne.symm hne)⟩
  simp only
  rw [HT.get_set_ne _ _ (Ne.symm hne)]
  exact a1
end
section
variable (P : Program) (gl : Gam) (cf : CallF) (ops : Array Oper) (st0 : St) (μ0 : Mp) (w0 : World)
structure J2 [Val] (x y : PStep) (A : List Rc) (hx hy hxy : Hp) (L : Array Bool) (a : Act) (w : World) (G : Hp) (μ : Mp) : Prop where
  down : Down ops L
  size : L.size = ops.size
  ext : Ext μ0 st0.h w0 μ G w
  hr : HR μ G w
  tmps : ∀ d, VR μ (tv (inS L) d A (St.get st0.t d)) (a.tmps.getD d undef)
  tsz : st0.sz ≤ a.tmps.size
  defers : DR μ0 st0.md a.defers
  plain : ∀ r ∈ A, inS L r.s.i = false → r.s.k = .plain
  st : (inS L x.i = true ∧ inS L y.i = false ∧ G = hx) ∨ (inS L x.i = false ∧ inS L y.i = true ∧ G = hy) ∨ (inS L x.i = true ∧ inS L y.i = true ∧ HpEq G hxy)
structure Two (pre : List PStep) (x y : PStep) (A : List Rc) (stA : St) (hx hy hyx hxy : Hp) : Prop where
  preE : pre = A.map (·.s)
  hist : Hist P gl cf ops st0 A stA
  pw : pre.Pairwise fun x y => pairOk ops x y = true
  mx : MaskOK P ops x
  my : MaskOK P ops y
  ne : x.i ≠ y.i
  px : ∀ z ∈ pre, pairOk ops z x = true ∧ pairOk ops z y = true ∧ ((Nat.testBit x.m z.i = true ∧ Nat.testBit y.m z.i = true) ∨ z.k = .plain)
  sx : isStore x.o = true
  sy : isStore y.o = true
  rx : opA P cf (evalO gl stA.t) x.o stA.h = .ok (aundef, hx)
  ry : opA P cf (evalO gl stA.t) y.o stA.h = .ok (aundef, hy)
  rxy : opA P cf (evalO gl stA.t) y.o hx = .ok (aundef, hxy)
  ryx : opA P cf (evalO gl stA.t) x.o hy = .ok (aundef, hyx)
  eq : HpEq hyx hxy
end
section
variable {P : Program} {gl : Gam} {cf : CallF} {ops : Array Oper} {st0 : St} {μ0 : Mp} {w0 : World}
variable {pre : List PStep} {x y : PStep} {A : List Rc} {stA : St} {hx hy hyx hxy : Hp} {L : Array Bool} {a : Act} {w : World} {G : Hp} {μ : Mp}
theorem Two.facts (t : Two P gl cf ops st0 pre x y A stA hx hy hyx hxy) {A1 A2 : List Rc} {r : Rc} (hA : A = A1 ++ r :: A2) :
    RcOK P gl cf ops st0 r ∧ (∀ y ∈ A1, MaskOK P ops y.s ∧ pairOk ops y.s r.s = true) ∧ ∀ y ∈ A2, MaskOK P ops y.s ∧ pairOk ops r.s y.s = true := by
  have hpwA : A.Pairwise fun x y => pairOk ops x.s y.s = true := by
    have := t.pw
    rw [t.preE] at this
    exact List.pairwise_map.1 this
  rw [hA] at hpwA
  obtain ⟨p1, p2⟩ := pw_split hpwA
  have hok : ∀ y ∈ A, RcOK P gl cf ops st0 y := t.hist.ok
  exact ⟨hok r (by rw [hA]; simp), fun y hy => ⟨(hok y (by rw [hA]; simp [hy])).mo, p1 y hy⟩, fun y hy => ⟨(hok y (by rw [hA]; simp [hy])).mo, p2 y hy⟩⟩
theorem isStore_dst {o : Oper} (h : isStore o = true) : o.dst = none ∧ o.guard = none := by
  unfold isStore at h
  split at h
  · rename_i h1 h2 _; exact ⟨h1, h2⟩
  · cases h
theorem tail_found [Val] (hist : Hist P gl cf ops st0 A stA) (down : Down ops L) (tmps : ∀ d, VR μ (tv (inS L) d A (St.get st0.t d)) (a.tmps.getD d undef)) {s : PStep} (hs : MaskOK P ops s) (hdep : Deps L s.o) (hnot : inS L s.i = false)
    (hp : ∀ r ∈ A, pairOk ops r.s s = true) : ∀ d ∈ s.o.looksAt ops, VR μ (St.get stA.t d) (a.tmps.getD d undef) := fun d hd => by
  rw [hist.tA d]
  have := tv_before (P := P) (L := L) (A2 := []) (r := ⟨s, stA, true, aundef, stA.h⟩) down hs hdep hnot hp (fun r hr => by cases hr) rfl hd (St.get st0.t d)
  rw [← this, tv_append, tv_none [_] _ (fun r hr _ => by simp at hr; subst hr; exact hnot)]
  exact tmps d
theorem tv_other {L : Array Bool} {i : Nat} (hi : i < L.size) {A : List Rc} (h : ∀ r ∈ A, r.s.i ≠ i) (d : Tmp) (z : AV) : tv (inS (L.setIfInBounds i true)) d A z = tv (inS L) d A z :=
  tv_congr A z fun r hr _ => by rw [inS_set hi]; simp [h r hr]
variable (P gl cf ops st0 μ0 w0)
theorem tail_step [Val] {ro : Option Nat} (hcf : CallOK P gl cf) (hG0 : GR gl μ0 st0.h w0) (hH0 : HR μ0 st0.h w0) (hist : Hist P gl cf ops st0 A stA) (down : Down ops L) (size : L.size = ops.size) (ext : Ext μ0 st0.h w0 μ G w) (hr : HR μ G w)
    (tmps : ∀ d, VR μ (tv (inS L) d A (St.get st0.t d)) (a.tmps.getD d undef)) (tsz : st0.sz ≤ a.tmps.size) (defers : DR μ0 st0.md a.defers)
    {s : PStep} (hs : MaskOK P ops s) (hdep : Deps L s.o) (hnot : inS L s.i = false) (hp : ∀ r ∈ A, pairOk ops r.s s = true) (hst : isStore s.o = true) {G' : Hp} (hrun : opA P cf (evalO gl stA.t) s.o G = .ok (aundef, G'))
    {K : Act → World → Prop} {Q : Exit → Act → World → Prop}
    (hK : ∀ a' w' μ', Down ops (L.setIfInBounds s.i true) → (L.setIfInBounds s.i true).size = ops.size → Ext μ0 st0.h w0 μ' G' w' → HR μ' G' w' → (∀ d, VR μ' (tv (inS (L.setIfInBounds s.i true)) d A (St.get st0.t d)) (a'.tmps.getD d undef)) → st0.sz ≤ a'.tmps.size → DR μ0 st0.md a'.defers → K a' w') :
    wpO ro P ops Q s.i K a w := by
  have hf := tail_found hist down tmps hs hdep hnot hp
  have hi : s.i < L.size := by rw [size]; exact (Array.getElem?_eq_some_iff.1 hs.op).1
  obtain ⟨hdst, hg⟩ := isStore_dst hst
  have hw : Region.wanted s.o (yielded ops a.tmps) = true := by unfold Region.wanted; simp [hg]
  refine wpO_run hs.op hw (op_wp' hcf (hG0.mono hH0 ext) hf hrun hr fun μ' w' v' e1 e2 _ => ?_)
  refine hK _ _ μ' (down_set down hs.op hi hdep) (by rw [Array.size_setIfInBounds]; exact size) (Ext.trans hH0.dom' ext e1) e2 (fun d => ?_) (by rw [put_size]; exact tsz) (by rw [put_defers]; exact defers)
  rw [tv_other hi (fun r hr => (pairOk_ne (hp r hr)).1) d, hdst]
  exact (tmps d).mono e1.sub
variable {P gl cf ops st0 μ0 w0}
theorem J2.step [Val] {ro : Option Nat} (hcf : CallOK P gl cf) (hG0 : GR gl μ0 st0.h w0) (hH0 : HR μ0 st0.h w0) (t : Two P gl cf ops st0 pre x y A stA hx hy hyx hxy) (h : J2 ops st0 μ0 w0 x y A hx hy hxy L a w G μ) {s : PStep} (hs : s ∈ pre ∨ s = x ∨ s = y) (hdep : Deps L s.o) (hnot : inS L s.i = false)
    {K : Act → World → Prop} {Q : Exit → Act → World → Prop} (hK : ∀ a' w' G' μ', J2 ops st0 μ0 w0 x y A hx hy hxy (L.setIfInBounds s.i true) a' w' G' μ' → K a' w') : wpO ro P ops Q s.i K a w := by
  have hpA : ∀ r ∈ A, pairOk ops r.s x = true ∧ pairOk ops r.s y = true := fun r hr => by
    have := t.px r.s (by rw [t.preE]; exact List.mem_map.2 ⟨r, hr, rfl⟩)
    exact ⟨this.1, this.2.1⟩
  have hmono : ∀ (i : Nat), i < L.size → ∀ j, inS L j = true → inS (L.setIfInBounds i true) j = true := fun i hi j hj => by rw [inS_set hi, hj]; simp
  rcases hs with hs | rfl | rfl
  · rw [t.preE] at hs
    obtain ⟨r, hr, rfl⟩ := List.mem_map.1 hs
    obtain ⟨A1, A2, hA⟩ := List.append_of_mem hr
    obtain ⟨f1, f2, f3⟩ := t.facts hA
    have hi : r.s.i < L.size := by rw [h.size]; exact (Array.getElem?_eq_some_iff.1 f1.mo.op).1
    have hf : ∀ d ∈ r.s.o.looksAt ops, VR μ (St.get r.st.t d) (a.tmps.getD d undef) := fun d hd => by
      rw [t.hist.t A1 r A2 hA d]
      have := tv_before (P := P) h.down f1.mo hdep hnot (fun y hy => (f2 y hy).2) f3 rfl hd (St.get st0.t d)
      rw [← this, ← hA]
      exact h.tmps d
    have hw := wanted_of hf f1.want
    have hkp := h.plain r hr hnot
    have main : ∀ (μ' : Mp) (w' : World) (v' : Value), Ext μ G w μ' G w' → HR μ' G w' → VR μ' r.v v' → K (a.put r.s.o.dst v') w' := fun μ' w' v' e1 e2 e3 => by
      refine hK _ _ G μ' ⟨down_set h.down f1.mo.op hi hdep, by rw [Array.size_setIfInBounds]; exact h.size, Ext.trans hH0.dom' h.ext e1, e2, fun d => ?_, by rw [put_size]; exact h.tsz, by rw [put_defers]; exact h.defers, fun q hq hnq => ?_, ?_⟩
      · rw [hA, tv_after (P := P) h.down hnot hi (fun y hy => (pairOk_ne (f2 y hy).2).1) f3 rfl d, put_getD a _ _ (fun d hd => Nat.lt_of_lt_of_le (f1.dst d hd) h.tsz)]
        split
        · exact e3
        · rw [← hA]; exact (h.tmps d).mono e1.sub
      · refine h.plain q hq ?_
        rw [inS_set hi] at hnq
        simp only [Bool.or_eq_false_iff] at hnq
        exact hnq.2
      · have hx' := (pairOk_ne (hpA r hr).1).1
        have hy' := (pairOk_ne (hpA r hr).2).1
        have sx : inS (L.setIfInBounds r.s.i true) x.i = inS L x.i := by rw [inS_set hi]; simp [Ne.symm hx']
        have sy : inS (L.setIfInBounds r.s.i true) y.i = inS L y.i := by rw [inS_set hi]; simp [Ne.symm hy']
        rw [sx, sy]
        exact h.st
    cases hrw : r.w with
    | false =>
      rw [hrw] at hw
      refine wpO_idle f1.mo.op hw ?_
      refine main μ w undef (.refl μ G w) h.hr ?_
      rw [(f1.idle hrw).1]
      exact undef_VR μ
    | true =>
      rw [hrw] at hw
      have hany := (plain_any (by rw [← f1.mo.kind]; exact hkp) (f1.run hrw)).2 G
      exact wpO_run f1.mo.op hw (op_wp' hcf (hG0.mono hH0 h.ext) hf hany h.hr main)
  · have hi : s.i < L.size := by rw [h.size]; exact (Array.getElem?_eq_some_iff.1 t.mx.op).1
    rcases h.st with ⟨c, _⟩ | ⟨_, c2, c3⟩ | ⟨c, _⟩
    · rw [hnot] at c; cases c
    · subst c3
      refine tail_step P gl cf ops st0 μ0 w0 hcf hG0 hH0 t.hist h.down h.size h.ext h.hr h.tmps h.tsz h.defers t.mx hdep hnot (fun r hr => (hpA r hr).1) t.sx t.ryx fun a' w' μ' k1 k2 k3 k4 k5 k6 k7 => ?_
      refine hK a' w' hyx μ' ⟨k1, k2, k3, k4, k5, k6, k7, fun q hq hnq => h.plain q hq ?_, .inr (.inr ⟨by rw [inS_set hi]; simp, hmono _ hi _ c2, t.eq⟩)⟩
      rw [inS_set hi] at hnq
      simp only [Bool.or_eq_false_iff] at hnq
      exact hnq.2
    · rw [hnot] at c; cases c
  · have hi : s.i < L.size := by rw [h.size]; exact (Array.getElem?_eq_some_iff.1 t.my.op).1
    rcases h.st with ⟨c1, _, c3⟩ | ⟨_, c, _⟩ | ⟨_, c, _⟩
    · subst c3
      refine tail_step P gl cf ops st0 μ0 w0 hcf hG0 hH0 t.hist h.down h.size h.ext h.hr h.tmps h.tsz h.defers t.my hdep hnot (fun r hr => (hpA r hr).2) t.sy t.rxy fun a' w' μ' k1 k2 k3 k4 k5 k6 k7 => ?_
      refine hK a' w' hxy μ' ⟨k1, k2, k3, k4, k5, k6, k7, fun q hq hnq => h.plain q hq ?_, .inr (.inr ⟨hmono _ hi _ c1, by rw [inS_set hi]; simp, rfl, fun _ => rfl⟩)⟩
      rw [inS_set hi] at hnq
      simp only [Bool.or_eq_false_iff] at hnq
      exact hnq.2
    · rw [hnot] at c; cases c
    · rw [hnot] at c; cases c
end
end Go.Ab

namespace Go.Ab
section
variable {P : Program} {ro : Option Nat} {ops : Array Oper} {Q : Exit → Act → World → Prop}
def cnt (ops : Array Oper) (L : Array Bool) : Nat := ((List.range ops.size).filter fun i => !inS L i).length
theorem cnt_set {L : Array Bool} {i : Nat} (hi : i < ops.size) (hs : L.size = ops.size) (hn : inS L i = false) : cnt ops (L.setIfInBounds i true) < cnt ops L := by
  unfold cnt
  refine filter_lt (fun j => !inS L j) (fun j => !inS (L.setIfInBounds i true) j) (fun j hj => ?_) i (by simp [hn]) ?_ _ (by simpa using hi)
  · rw [inS_set (by omega)] at hj
    simp at hj ⊢
    exact hj.2
  · rw [inS_set (by omega)]
    simp
theorem least_unlisted {L : Array Bool} : ∀ n, (∃ i, i < n ∧ inS L i = false) → ∃ i, i < n ∧ inS L i = false ∧ ∀ j, j < i → inS L j = true
  | 0, ⟨i, h, _⟩ => by omega
  | n + 1, h => by
    by_cases h' : ∃ i, i < n ∧ inS L i = false
    · obtain ⟨i, h1, h2⟩ := least_unlisted n h'
      exact ⟨i, by omega, h2⟩
    · obtain ⟨i, h1, h2⟩ := h
      have hi : i = n := by
        rcases Nat.lt_or_ge i n with h3 | h3
        · exact absurd ⟨i, h3, h2⟩ h'
        · omega
      subst hi
      refine ⟨i, by omega, h2, fun j hj => ?_⟩
      cases hb : inS L j with
      | true => rfl
      | false => exact absurd ⟨j, hj, hb⟩ h'
theorem getD_inS {L : Array Bool} {i : Nat} (h : i < L.size) (d : Bool) : L.getD i d = inS L i := by simp [inS, h]
theorem wpAny_inv {Inv : Array Bool → Act → World → Prop} (hlt : ∀ (j : Nat) o, ops[j]? = some o → ∀ e ∈ o.after, Region.binds .any e = true → e.on < j) (hsize : ∀ L a w, Inv L a w → L.size = ops.size)
    (hfin : ∀ L a w, Inv L a w → (∀ i, i < ops.size → inS L i = true) → Q .normal a w)
    (hstep : ∀ L a w (i : Nat) o, Inv L a w → ops[i]? = some o → inS L i = false → Deps L o → ∀ K : Act → World → Prop, (∀ a' w', Inv (L.setIfInBounds i true) a' w' → K a' w') → wpO ro P ops Q i K a w) :
    ∀ (fuel : Nat) (L : Array Bool) (a : Act) (w : World), cnt ops L ≤ fuel → Inv L a w → wpAnyIn (FR ro) 0 P .any ops Q fuel L a w := by
  have hready : ∀ L a w, Inv L a w → Region.ready .any ops L = [] → ∀ i, i < ops.size → inS L i = true := fun L a w hI hr i hi => by
    cases hb : inS L i with
    | true => rfl
    | false =>
      exfalso
      obtain ⟨j, h1, h2, h3⟩ := least_unlisted ops.size ⟨i, hi, hb⟩
      have hm : j ∈ Region.ready .any ops L := by
        rw [mem_ready]
        refine ⟨by rw [getD_inS (by rw [hsize L a w hI]; exact h1)]; exact h2, ops[j], by simp [h1], fun e he hbd => ?_⟩
        exact h3 _ (hlt j ops[j] (by simp [h1]) e he hbd)
      rw [hr] at hm
      cases hm
  intro fuel
  induction fuel with
  | zero =>
    intro L a w hc hI
    have hall : ∀ i, i < ops.size → inS L i = true := fun i hi => by
      cases hb : inS L i with
      | true => rfl
      | false =>
        exfalso
        have : i ∈ (List.range ops.size).filter fun i => !inS L i := by simp [hi, hb]
        unfold cnt at hc
        have := List.length_pos_of_mem this
        omega
    refine ⟨?_, hfin L a w hI hall⟩
    cases hr : Region.ready .any ops L with
    | nil => rfl
    | cons i l =>
      exfalso
      have hm : i ∈ Region.ready .any ops L := by rw [hr]; simp
      obtain ⟨h1, o, h2, _⟩ := mem_ready.1 hm
      have hi := (Array.getElem?_eq_some_iff.1 h2).1
      rw [getD_inS (by rw [hsize L a w hI]; exact hi), hall i hi] at h1
      cases h1
  | succ fuel ih =>
    intro L a w hc hI
    refine ⟨fun hr => hfin L a w hI (hready L a w hI hr), fun i hi => ?_⟩
    obtain ⟨h1, o, h2, h3⟩ := mem_ready.1 hi
    have hlt' := (Array.getElem?_eq_some_iff.1 h2).1
    rw [getD_inS (by rw [hsize L a w hI]; exact hlt')] at h1
    refine hstep L a w i o hI h2 h1 (fun e he hb => h3 e he hb) _ fun a' w' hI' => ih _ a' w' ?_ hI'
    have := cnt_set hlt' (hsize L a w hI) h1
    omega
theorem inS_replicate (n i : Nat) : inS (Array.replicate n false) i = false := by
  simp only [inS, Array.getD_eq_getD_getElem?, Array.getElem?_replicate]
  split <;> rfl
theorem any_wp {Inv : Array Bool → Act → World → Prop} {id : Nat} {a : Act} {w : World} (hm : P.follows .mixedOrders = true) (hlt : ∀ (j : Nat) o, ops[j]? = some o → ∀ e ∈ o.after, Region.binds .any e = true → e.on < j) (hsize : ∀ L a w, Inv L a w → L.size = ops.size)
    (hfin : ∀ L a w, Inv L a w → (∀ i, i < ops.size → inS L i = true) → Q .normal a w)
    (hstep : ∀ L a w (i : Nat) o, Inv L a w → ops[i]? = some o → inS L i = false → Deps L o → ∀ K : Act → World → Prop, (∀ a' w', Inv (L.setIfInBounds i true) a' w' → K a' w') → wpO ro P ops Q i K a w)
    (h0 : Inv (Array.replicate ops.size false) a w.drew) : wpC ro P (Code.region id ops true) Q a w := by
  refine wpIn_region_any hm ?_
  refine wpAny_inv hlt hsize hfin hstep ops.size _ a _ ?_ h0
  unfold cnt
  exact Nat.le_trans (List.length_filter_le _ _) (by simp)
end
section
variable {P : Program} {ro : Option Nat} {gl : Gam} {cf : CallF} {ops : Array Oper} {Q : Exit → Act → World → Prop}
def Inv [Val] (P : Program) (gl : Gam) (cf : CallF) (ops : Array Oper) (p : Plan) (st0 mid st' : St) (μ0 : Mp) (w0 : World) (L : Array Bool) (a : Act) (w : World) : Prop :=
  (∃ A sb pend stA μ, J P gl cf ops st0 μ0 w0 mid p.pre L a w A sb pend stA μ ∧ (∀ s tl, sb = s :: tl → isEffK s.k = true) ∧ ∀ x y, p.two = some (x, y) → inS L x.i = false ∧ inS L y.i = false) ∨
  (∃ x y A hx hy hyx hxy G μ, p.two = some (x, y) ∧ Two P gl cf ops st0 p.pre x y A mid hx hy hyx hxy ∧ J2 ops st0 μ0 w0 x y A hx hy hxy L a w G μ ∧ st'.h = hxy ∧ st'.t = mid.t ∧ st'.sz = mid.sz ∧ st'.md = mid.md)
theorem twoOk_ok {pre : List PStep} {x y : PStep} (h : twoOk ops pre x y = true) : isStore x.o = true ∧ isStore y.o = true ∧ x.i ≠ y.i ∧
    ∀ z ∈ pre, pairOk ops z x = true ∧ pairOk ops z y = true ∧ ((Nat.testBit x.m z.i = true ∧ Nat.testBit y.m z.i = true) ∨ z.k = .plain) := by
  unfold twoOk at h
  simp only [Bool.and_eq_true, Bool.not_eq_true', List.all_eq_true, Bool.or_eq_true] at h
  obtain ⟨⟨⟨⟨⟨⟨⟨h1, h2⟩, h3⟩, _⟩, _⟩, _⟩, _⟩, h8⟩ := h
  refine ⟨h1, h2, fun e => ?_, fun z hz => ?_⟩
  · rw [e] at h3; simp at h3
  · obtain ⟨⟨g1, g2⟩, g3⟩ := h8 z hz
    refine ⟨g1, g2, g3.imp id fun g => ?_⟩
    cases hk : z.k <;> rw [hk] at g <;> first | rfl | cases g
theorem plan_wp [Val] (hm : P.follows .mixedOrders = true) (hcf : CallOK P gl cf) {p : Plan} (hp : planOf P ops = some p) {st0 st' : St} {μ0 : Mp} {a : Act} {w : World} {id : Nat} (hG0 : GR gl μ0 st0.h w) (hT : TR μ0 st0 a) (hH : HR μ0 st0.h w)
    (hrun : ((drawA P gl cf ops p.pre [] st0).bind fun st => match p.two with
      | none => .ok st
      | some (x, y) => twoA P gl cf ops x y st) = .ok st') (hQ : Post μ0 st0.h w st' (Q .normal)) : wpC ro P (Code.region id ops true) Q a w := by
  obtain ⟨hmo, hok, hlt⟩ := planOf_ok hp
  obtain ⟨mid, h1, h2⟩ := Res.bind_ok hrun
  unfold planOk at hok
  simp only [Bool.and_eq_true] at hok
  obtain ⟨⟨hpw, htwo⟩, hcov⟩ := hok
  have hpw := allPairs_ok hpw
  have hmop : ∀ s ∈ p.pre, MaskOK P ops s := fun s hs => hmo s (by
    unfold Plan.all; split
    · exact hs
    · simp [hs])
  have hcover : ∀ i, i < ops.size → ∃ s ∈ p.all, s.i = i := fun i hi => by
    have := List.all_eq_true.1 hcov i (by simpa using hi)
    obtain ⟨s, hs, he⟩ := List.any_eq_true.1 this
    exact ⟨s, hs, Nat.eq_of_beq_eq_true he⟩
  have hH0 : HR μ0 st0.h w.drew := hH.drew
  have hQ0 : Post μ0 st0.h w.drew st' (Q .normal) := hQ.trans hH (Ext.drew μ0 st0.h w)
  -- the last two, where there are two
  have hlast : ∀ x y, p.two = some (x, y) → ∀ A, p.pre = A.map (·.s) → Hist P gl cf ops st0 A mid → ∃ hx hy hyx hxy, Two P gl cf ops st0 p.pre x y A mid hx hy hyx hxy ∧ st'.h = hxy ∧ st'.t = mid.t ∧ st'.sz = mid.sz ∧ st'.md = mid.md := by
    intro x y e A hA hist
    rw [e] at h2 htwo
    simp only at h2 htwo
    obtain ⟨sx, sy, hne, hz⟩ := twoOk_ok htwo
    obtain ⟨dx, gx⟩ := isStore_dst sx
    obtain ⟨dy, gy⟩ := isStore_dst sy
    unfold twoA at h2
    obtain ⟨b, b1, h3⟩ := Res.bind_ok h2
    obtain ⟨b', b2, h4⟩ := Res.bind_ok h3
    split at h4
    · cases h4
    · rename_i hbb
      have hbne : b ≠ b' := fun e => hbb (by rw [e]; simp)
      obtain ⟨⟨wx, vx, hx⟩, h5, h6⟩ := Res.bind_ok h4
      obtain ⟨st1, h7, h8⟩ := Res.bind_ok h6
      obtain ⟨⟨wy, vy, hxy⟩, h9, h10⟩ := Res.bind_ok h8
      have wantx : wantedA ops mid.t x.o = .ok true := by simp [wantedA, gx]
      have o1 := (oneA_ok h5)
      have hrx : opA P cf (evalO gl mid.t) x.o mid.h = .ok (vx, hx) := by
        rcases o1 with ⟨q1, ⟨_, q2⟩ | ⟨q2, _⟩⟩
        · exact q2
        · rw [wantx] at q1; rw [q2] at q1; cases q1
      simp only [dx, putA, Res.ok.injEq] at h7
      subst h7
      have o2 := (oneA_ok h9)
      have hry : opA P cf (evalO gl mid.t) y.o hx = .ok (vy, hxy) := by
        rcases o2 with ⟨q1, ⟨_, q2⟩ | ⟨q2, _⟩⟩
        · exact q2
        · rw [show wantedA ops mid.t y.o = .ok true by simp [wantedA, gy]] at q1; rw [q2] at q1; cases q1
      simp only [dy, putA, Res.ok.injEq] at h10
      subst h10
      obtain ⟨rfl, rfl, hy', hyx, r1, r2, r3⟩ := two_swap sx sy b1 b2 hbne hrx hry
      have hmx : MaskOK P ops x := hmo x (by unfold Plan.all; rw [e]; simp)
      have hmy : MaskOK P ops y := hmo y (by unfold Plan.all; rw [e]; simp)
      exact ⟨hx, hy', hyx, hxy, ⟨hA, hist, hpw, hmx, hmy, hne, hz, sx, sy, hrx, r1, hry, r2, r3⟩, rfl, rfl, rfl, rfl⟩
  refine any_wp (Inv := Inv P gl cf ops p st0 mid st' μ0 w.drew) hm hlt ?_ ?_ ?_ ?_
  · rintro L a w (⟨A, sb, pend, stA, μ, hJ, _⟩ | ⟨x, y, A, hx, hy, hyx, hxy, G, μ, _, _, hJ, _⟩)
    · exact hJ.size
    · exact hJ.size
  · -- the end
    rintro L a w (⟨A, sb, pend, stA, μ, hJ, hhead, hno⟩ | ⟨x, y, A, hx, hy, hyx, hxy, G, μ, e, t, hJ, e1, e2, e3, e4⟩) hall
    · have hsb : sb = [] := by
        cases sb with
        | nil => rfl
        | cons s tl =>
          have h1 := hJ.non s (by simp)
          have h2 := (Array.getElem?_eq_some_iff.1 (hmop s (by rw [hJ.pre]; simp)).op).1
          rw [hall _ h2] at h1; cases h1
      subst hsb
      have hfin : mid = stA := by have := hJ.rest; simp only [drawA, Res.ok.injEq] at this; exact this.symm
      subst hfin
      cases e : p.two with
      | some xy =>
        obtain ⟨x, y⟩ := xy
        have h1 := (hno x y e).1
        have h2 := (Array.getElem?_eq_some_iff.1 (hmo x (by unfold Plan.all; rw [e]; simp)).op).1
        rw [hall _ h2] at h1; cases h1
      | none =>
        rw [e] at h2
        simp only [Res.ok.injEq] at h2
        subst h2
        refine hQ0 μ w a hJ.ext hJ.hr ⟨by rw [hJ.hist.sz]; exact hJ.tsz, by rw [hJ.hist.md]; exact hJ.defers.mono hJ.ext.sub, fun d => ?_⟩
        rw [hJ.hist.tA d, ← tv_congr (f := inS L) A _ fun r hr _ => hall _ (Array.getElem?_eq_some_iff.1 (hJ.hist.ok r hr).mo.op).1]
        exact hJ.tmps d
    · rcases hJ.st with ⟨_, c, _⟩ | ⟨c, _, _⟩ | ⟨_, _, hG⟩
      · have h2 := (Array.getElem?_eq_some_iff.1 t.my.op).1
        rw [hall _ h2] at c; cases c
      · have h2 := (Array.getElem?_eq_some_iff.1 t.mx.op).1
        rw [hall _ h2] at c; cases c
      · refine hQ0 μ w a (by rw [e1]; exact hJ.ext.congr hG) (by rw [e1]; exact hJ.hr.congr hG) ⟨by rw [e3, t.hist.sz]; exact hJ.tsz, by rw [e4, t.hist.md]; exact hJ.defers.mono hJ.ext.sub, fun d => ?_⟩
        rw [e2, t.hist.tA d, ← tv_congr (f := inS L) A _ fun r hr _ => hall _ (Array.getElem?_eq_some_iff.1 (t.hist.ok r hr).mo.op).1]
        exact hJ.tmps d
  · -- a step
    rintro L b u i o (⟨A, sb, pend, stA, μ, hJ, hhead, hno⟩ | ⟨x, y, A, hx, hy, hyx, hxy, G, μ, e, t, hJ, e1, e2, e3, e4⟩) ho hn hdep K hK
    · obtain ⟨s, hs, rfl⟩ := hcover i (Array.getElem?_eq_some_iff.1 ho).1
      have hms := hmo s hs
      have hso : s.o = o := by have := hms.op; rw [ho] at this; exact (Option.some.inj this).symm
      subst hso
      have hi : s.i < L.size := by rw [hJ.size]; exact (Array.getElem?_eq_some_iff.1 ho).1
      by_cases hsp : s ∈ p.pre
      · have hno' : ∀ x y, p.two = some (x, y) → inS (L.setIfInBounds s.i true) x.i = false ∧ inS (L.setIfInBounds s.i true) y.i = false := fun x y e => by
          rw [e] at htwo
          simp only at htwo
          obtain ⟨_, _, _, hz⟩ := twoOk_ok htwo
          obtain ⟨z1, z2, _⟩ := hz s hsp
          obtain ⟨n1, n2⟩ := hno x y e
          rw [inS_set hi, inS_set hi, n1, n2]
          simp [Ne.symm (pairOk_ne z1).1, Ne.symm (pairOk_ne z2).1]
        have hsp' := hsp
        rw [hJ.pre] at hsp'
        rcases List.mem_append.1 hsp' with hA | hB
        · obtain ⟨r, hr, rfl⟩ := List.mem_map.1 hA
          exact hJ.step_in hcf hG0.drew hH0 hpw hr hdep hn fun a' w' μ' hJ' => hK a' w' (.inl ⟨A, sb, pend, stA, μ', hJ', hhead, hno'⟩)
        · cases sb with
          | nil => cases hB
          | cons h tl =>
            rcases List.mem_cons.1 hB with rfl | hB
            · exact hJ.step_head hcf hG0.drew hH0 hmop hpw (hhead s tl rfl) hdep fun a' w' A' sb' pend' stA' μ' hJ' hh => hK a' w' (.inl ⟨A', sb', pend', stA', μ', hJ', hh, hno'⟩)
            · exfalso
              have hpw' := hpw
              rw [hJ.pre, List.pairwise_append] at hpw'
              have hp := List.rel_of_pairwise_cons hpw'.2.1 hB
              obtain ⟨_, _, g⟩ := pairOk_ne hp
              rcases g with g | ⟨g, _⟩
              · have := hms.mask L hJ.down hdep _ g
                rw [hJ.non h (by simp)] at this; cases this
              · rw [hhead h tl rfl] at g; cases g
      · -- one of the last two
        cases e : p.two with
        | none => unfold Plan.all at hs; rw [e] at hs; exact absurd hs hsp
        | some xy =>
          obtain ⟨x, y⟩ := xy
          have hsxy : s = x ∨ s = y := by
            unfold Plan.all at hs
            rw [e] at hs
            simp only [List.mem_append, List.mem_cons, List.not_mem_nil, or_false] at hs
            rcases hs with hs | hs
            · exact absurd hs hsp
            · exact hs
          have htwo' := htwo
          rw [e] at htwo'
          simp only at htwo'
          obtain ⟨_, _, _, hz⟩ := twoOk_ok htwo'
          have hps : ∀ z ∈ p.pre, pairOk ops z s = true := fun z hzp => by
            rcases hsxy with rfl | rfl
            · exact (hz z hzp).1
            · exact (hz z hzp).2.1
          have hsb : sb = [] := by
            cases sb with
            | nil => rfl
            | cons h tl =>
              exfalso
              have hhp : h ∈ p.pre := by rw [hJ.pre]; simp
              obtain ⟨_, _, g⟩ := pairOk_ne (hps h hhp)
              rcases g with g | ⟨g, _⟩
              · have := hms.mask L hJ.down hdep _ g
                rw [hJ.non h (by simp)] at this; cases this
              · rw [hhead h tl rfl] at g; cases g
          subst hsb
          have hfin : mid = stA := by have := hJ.rest; simp only [drawA, Res.ok.injEq] at this; exact this.symm
          subst hfin
          have hpreE : p.pre = A.map (·.s) := by rw [hJ.pre, List.append_nil]
          obtain ⟨hx, hy, hyx, hxy, t, e1, e2, e3, e4⟩ := hlast x y e A hpreE hJ.hist
          have hpA : ∀ r ∈ A, pairOk ops r.s s = true := fun r hr => hps r.s (by rw [hpreE]; exact List.mem_map.2 ⟨r, hr, rfl⟩)
          obtain ⟨nx, ny⟩ := hno x y e
          have hplain : ∀ r ∈ A, inS (L.setIfInBounds s.i true) r.s.i = false → r.s.k = .plain := fun r hr hnr => by
            rw [inS_set hi] at hnr
            simp only [Bool.or_eq_false_iff] at hnr
            rcases (hz r.s (by rw [hpreE]; exact List.mem_map.2 ⟨r, hr, rfl⟩)).2.2 with ⟨g1, g2⟩ | g
            · have : Nat.testBit s.m r.s.i = true := by rcases hsxy with rfl | rfl <;> assumption
              have := hms.mask L hJ.down hdep _ this
              rw [hnr.2] at this; cases this
            · exact g
          rcases hsxy with rfl | rfl
          · refine tail_step P gl cf ops st0 μ0 w.drew hcf hG0.drew hH0 hJ.hist hJ.down hJ.size hJ.ext hJ.hr hJ.tmps hJ.tsz hJ.defers hms hdep hn hpA t.sx t.rx fun a' w' μ' k1 k2 k3 k4 k5 k6 k7 => ?_
            refine hK a' w' (.inr ⟨s, y, A, hx, hy, hyx, hxy, hx, μ', e, t, ⟨k1, k2, k3, k4, k5, k6, k7, hplain, .inl ⟨by rw [inS_set hi]; simp, ?_, rfl⟩⟩, e1, e2, e3, e4⟩)
            rw [inS_set hi, ny]
            simp [Ne.symm t.ne]
          · refine tail_step P gl cf ops st0 μ0 w.drew hcf hG0.drew hH0 hJ.hist hJ.down hJ.size hJ.ext hJ.hr hJ.tmps hJ.tsz hJ.defers hms hdep hn hpA t.sy t.ry fun a' w' μ' k1 k2 k3 k4 k5 k6 k7 => ?_
            refine hK a' w' (.inr ⟨x, s, A, hx, hy, hyx, hxy, hy, μ', e, t, ⟨k1, k2, k3, k4, k5, k6, k7, hplain, .inr (.inl ⟨?_, by rw [inS_set hi]; simp, rfl⟩)⟩, e1, e2, e3, e4⟩)
            rw [inS_set hi, nx]
            simp [t.ne]
    · obtain ⟨s, hs, rfl⟩ := hcover i (Array.getElem?_eq_some_iff.1 ho).1
      have hms := hmo s hs
      have hso : s.o = o := by have := hms.op; rw [ho] at this; exact (Option.some.inj this).symm
      subst hso
      have hs' : s ∈ p.pre ∨ s = x ∨ s = y := by
        unfold Plan.all at hs
        rw [e] at hs
        simpa using hs
      exact hJ.step hcf hG0.drew hH0 t hs' hdep hn fun a' w' G' μ' hJ' => hK a' w' (.inr ⟨x, y, A, hx, hy, hyx, hxy, G', μ', e, t, hJ', e1, e2, e3, e4⟩)
  · -- the start
    have hJ0 : J P gl cf ops st0 μ0 w.drew mid p.pre (Array.replicate ops.size false) a w.drew [] p.pre [] st0 μ0 := {
      pre := rfl
      hist := ⟨fun r hr => (by cases hr), fun A1 r A2 e => (by simp at e), fun d => rfl, rfl, rfl⟩
      rest := h1
      effs := fun r hr => (by cases hr)
      non := fun s _ => inS_replicate _ _
      down := fun i o hi => by rw [inS_replicate] at hi; cases hi
      size := by simp
      ext := .refl _ _ _
      hr := hH0
      tmps := fun d => hT.tmps d
      tsz := hT.sz
      defers := hT.defers
      late := fun r hr => (by cases hr)
      ids := .nil
      idn := fun r hr => (by cases hr) }
    obtain ⟨A, sb, pend, stA, μ, hJ, hh⟩ := J.absorb hmop _ _ _ _ _ hJ0
    exact .inl ⟨A, sb, pend, stA, μ, hJ, hh, fun x y _ => ⟨inS_replicate _ _, inS_replicate _ _⟩⟩
end
end Go.Ab

namespace Go.Ab
section
variable {P : Program} {ro : Option Nat} {gl : Gam} {ops : Array Oper} {Q : Exit → Act → World → Prop}
structure ForkOK (ops : Array Oper) (t : TypeId) (d r : Tmp) (o0 o1 o2 o3 : Oper) (c1 c2 : Bool) : Prop where
  ops : ops.toList = [o0, o1, o2, o3]
  d0 : o0.dst = some d
  p0 : o0.op = .alloc t
  d1 : o1.dst = none
  p1 : o1.op = .store t (.tmp d) (.const (.bool c1))
  d2 : o2.dst = none
  p2 : o2.op = .store t (.tmp d) (.const (.bool c2))
  d3 : o3.dst = some r
  p3 : o3.op = .load t (.tmp d)
  ne : d ≠ r
  g0 : o0.guard = none
  g1 : o1.guard = none
  g2 : o2.guard = none
  g3 : o3.guard = none
  w0 : bindsWithin o0 [] = true
  b1 : bindsOn o1 0 = true
  w1 : bindsWithin o1 [0] = true
  b2 : bindsOn o2 0 = true
  w2 : bindsWithin o2 [0, 1] = true
  b3 : bindsOn o3 1 = true
  b3' : bindsOn o3 2 = true
  w3 : bindsWithin o3 [0, 1, 2] = true
theorem forkOf_ok {t : TypeId} {d r : Tmp} (h : forkOf ops = some (t, d, r)) : ∃ o0 o1 o2 o3 c1 c2, ForkOK ops t d r o0 o1 o2 o3 c1 c2 := by
  unfold forkOf at h
  split at h
  · rename_i o0 o1 o2 o3 hops
    split at h
    · split at h
      · rename_i hc
        obtain ⟨rfl, rfl, rfl, rfl, rfl, rfl, hne, g0, g1, g2, g3, w0, b1, w1, b2, w2, b3, b3', w3⟩ := hc
        simp only [Option.some.injEq, Prod.mk.injEq] at h
        obtain ⟨rfl, rfl, rfl⟩ := h
        exact ⟨o0, o1, o2, o3, _, _, hops, by assumption, by assumption, by assumption, by assumption, by assumption, by assumption, by assumption, by assumption, hne, by simpa using g0, by simpa using g1, by simpa using g2, by simpa using g3, w0, b1, w1, b2, w2, b3, b3', w3⟩
      · cases h
    · cases h
  · cases h
theorem bindsOn_ok {o : Oper} {j : Nat} (h : bindsOn o j = true) {L : Array Bool} (hd : Deps L o) : inS L j = true := by
  unfold bindsOn at h
  obtain ⟨e, he, hb⟩ := List.any_eq_true.1 h
  simp only [Bool.and_eq_true] at hb
  have := hd e (by simpa using he) hb.1
  rwa [Nat.eq_of_beq_eq_true hb.2] at this
theorem bindsWithin_ok {o : Oper} {l : List Nat} (h : bindsWithin o l = true) {e : Edge} (he : e ∈ o.after) (hb : Region.binds .any e = true) : e.on ∈ l := by
  unfold bindsWithin at h
  have := List.all_eq_true.1 h e (by simpa using he)
  rw [hb] at this
  simpa using this
structure InvF [Val] (ops : Array Oper) (st0 : St) (d r : Tmp) (μ0 : Mp) (w0 : World) (L : Array Bool) (a : Act) (w : World) : Prop where
  size : L.size = ops.size
  tsz : st0.sz ≤ a.tmps.size
  defers : DR μ0 st0.md a.defers
  st : (inS L 0 = false ∧ inS L 1 = false ∧ inS L 2 = false ∧ inS L 3 = false ∧ w = w0 ∧ TV μ0 st0.t a) ∨
    (inS L 0 = true ∧ inS L 3 = false ∧ ∃ μ, Ext μ0 st0.h w0 μ (newCells st0.h [.anyb]).2 w ∧ HR μ (newCells st0.h [.anyb]).2 w ∧ TV μ (st0.t.set d (.ptr st0.h.n 0)) a) ∨
    (inS L 0 = true ∧ inS L 1 = true ∧ inS L 2 = true ∧ inS L 3 = true ∧ ∃ μ, Ext μ0 st0.h w0 μ (newCells st0.h [.anyb]).2 w ∧ HR μ (newCells st0.h [.anyb]).2 w ∧ TV μ ((st0.t.set d (.ptr st0.h.n 0)).set r .anyb) a)
theorem TV.put [Val] {μ : Mp} {t : PT AV} {a : Act} (h : TV μ t a) {d : Tmp} (hd : d < a.tmps.size) {v : AV} {v' : Value} (hv : VR μ v v') : TV μ (t.set d v) (a.put (some d) v') := fun i => by
  rw [getD_put hd, get_setSt]
  split
  · exact hv
  · exact h i
theorem fork_wp [Val] (hm : P.follows .mixedOrders = true) {t : TypeId} {d r : Tmp} (hf : forkOf ops = some (t, d, r)) {st0 st' : St} {μ0 : Mp} {a : Act} {w : World} {id : Nat} (hT : TR μ0 st0 a) (hH : HR μ0 st0.h w)
    (hrun : forkA P t d r st0 = .ok st') (hQ : Post μ0 st0.h w st' (Q .normal)) : wpC ro P (Code.region id ops true) Q a w := by
  obtain ⟨o0, o1, o2, o3, c1, c2, F⟩ := forkOf_ok hf
  have hget : ∀ i, ops[i]? = [o0, o1, o2, o3][i]? := fun i => by rw [← Array.getElem?_toList, F.ops]
  have hsz4 : ops.size = 4 := by rw [← Array.length_toList, F.ops]; rfl
  -- the type, and what the run says
  unfold forkA at hrun
  obtain ⟨dd, h1, h2⟩ := Res.bind_ok hrun
  have hu := tunder_ok h1
  split at h2
  · obtain ⟨inf, h3, h4⟩ := Res.bind_ok h2
    have hinf := tinfo_ok h3
    split at h4
    · rename_i hs1
      split at h4
      · rename_i z hz
        simp only at h4
        obtain ⟨st1, h5, h6⟩ := Res.bind_ok h4
        have hd : d < st0.sz ∧ st1 = ⟨st0.t.set d (.ptr st0.h.n 0), (newCells st0.h [.anyb]).2, st0.sz, st0.md⟩ := by
          simp only [putA] at h5
          split at h5
          · rename_i hlt; simp only [Res.ok.injEq] at h5; exact ⟨by simpa [Nat.blt_eq] using hlt, h5.symm⟩
          · cases h5
        obtain ⟨hd, rfl⟩ := hd
        have hr : r < st0.sz ∧ st' = ⟨(st0.t.set d (.ptr st0.h.n 0)).set r .anyb, (newCells st0.h [.anyb]).2, st0.sz, st0.md⟩ := by
          simp only [putA] at h6
          split at h6
          · rename_i hlt; simp only [Res.ok.injEq] at h6; exact ⟨by simpa [Nat.blt_eq] using hlt, h6.symm⟩
          · cases h6
        obtain ⟨hr, rfl⟩ := hr
        have htsize : tsize P t = .ok 1 := by simp [tsize, h3, Res.bind, hs1]
        have htagg : tagg P t = .ok false := by simp [tagg, h1, Res.bind]
        have hH0 : HR μ0 st0.h w.drew := hH.drew
        have hQ0 : Post μ0 st0.h w.drew ⟨(st0.t.set d (.ptr st0.h.n 0)).set r .anyb, (newCells st0.h [.anyb]).2, st0.sz, st0.md⟩ (Q .normal) := hQ.trans hH (Ext.drew μ0 st0.h w)
        have hnb : (newCells st0.h [.anyb]).2.b.get st0.h.n = some (.cells (putCells .nil 0 [.anyb]) 1 true) := HT.get_set_self _ _ _
        have hbk : getBlk (newCells st0.h [.anyb]).2 st0.h.n = .ok (.cells (putCells .nil 0 [.anyb]) 1 true) := by simp [getBlk, hnb, Res.ofOpt]
        have hload : loadVarA P (newCells st0.h [.anyb]).2 t (.ptr st0.h.n 0) = .ok .anyb := by
          simp only [loadVarA, htagg, Res.bind, readCells, hbk]
          rfl
        have hstore : ∃ H', storeVarA P (newCells st0.h [.anyb]).2 t (.ptr st0.h.n 0) .anyb = .ok H' ∧ HpEq H' (newCells st0.h [.anyb]).2 := by
          refine ⟨⟨(newCells st0.h [.anyb]).2.n, (newCells st0.h [.anyb]).2.b.set st0.h.n (.cells (putCells (putCells .nil 0 [.anyb]) 0 [.anyb]) 1 true)⟩, ?_, rfl, fun i => ?_⟩
          · simp [storeVarA, AV.cells, htsize, Res.bind, oneCell, writeCells, hbk]
          · simp only [HT.get_set]
            split
            · rename_i e; subst e; rw [hnb]; rfl
            · rfl
        refine any_wp (Inv := InvF ops st0 d r μ0 w.drew) hm ?_ (fun L a w h => h.size) ?_ ?_ ?_
        · intro j o ho e he hb
          rw [hget] at ho
          match j, ho with
          | 0, ho => simp at ho; subst ho; have := bindsWithin_ok F.w0 he hb; simp at this
          | 1, ho => simp at ho; subst ho; have := bindsWithin_ok F.w1 he hb; simp at this; omega
          | 2, ho => simp at ho; subst ho; have := bindsWithin_ok F.w2 he hb; simp at this; omega
          | 3, ho => simp at ho; subst ho; have := bindsWithin_ok F.w3 he hb; simp at this; omega
          | j + 4, ho => simp at ho
        · intro L b u h hall
          rcases h.st with ⟨c, _⟩ | ⟨_, c, _⟩ | ⟨_, _, _, _, μ, e1, e2, e3⟩
          · rw [hall 0 (by omega)] at c; cases c
          · rw [hall 3 (by omega)] at c; cases c
          · exact hQ0 μ u b e1 e2 ⟨h.tsz, h.defers.mono e1.sub, e3⟩
        · intro L b u i o h ho hn hdep K hK
          have hi : i < L.size := by rw [h.size]; exact (Array.getElem?_eq_some_iff.1 ho).1
          have hop := ho
          rw [hget] at ho
          have hwant : ∀ {o : Oper}, o.guard = none → Region.wanted o (yielded ops b.tmps) = true := fun hg => by unfold Region.wanted; simp [hg]
          -- the two stores
          have hst : ∀ c, (i = 1 ∨ i = 2) → o.dst = none → o.op = .store t (.tmp d) (.const (.bool c)) → o.guard = none → inS L 0 = true → wpO ro P ops Q i K b u := by
            intro c hi12 hdst hopp hg h0
            rcases h.st with ⟨c0, _⟩ | ⟨_, c3, μ, e1, e2, e3⟩ | ⟨_, c1', c2', _⟩
            · rw [h0] at c0; cases c0
            · obtain ⟨H', s1, s2⟩ := hstore
              have hp := e3 d
              rw [get_setSt, if_pos rfl] at hp
              obtain ⟨μ', w', q1, q2, q3⟩ := store_sim e2 hp (.anyb c) s1
              refine wpO_run hop (hwant hg) ?_
              have hex : execOp b.eval o = (do Instr.storeAt t (b.tmps.getD d undef) (.bool c); pure .skip) := by
                obtain ⟨dst, op, ty, pos, after, guard⟩ := o
                simp only at hopp
                subst hopp
                rfl
              refine wpI_skip (fun c hc => by rw [hopp] at hc; cases hc) (w' := w') (by rw [hex]; simp only [Sem.run_bind, q1, Result.andThen_ok, Sem.run_pure]) ?_
              rw [hdst]
              refine hK _ _ ⟨by rw [Array.size_setIfInBounds]; exact h.size, h.tsz, h.defers, .inr (.inl ⟨?_, ?_, μ', (Ext.trans hH0.dom' e1 q2).congr s2, q3.congr s2, ?_⟩)⟩
              · rw [inS_set hi, h0]; simp
              · rw [inS_set hi, c3]; rcases hi12 with rfl | rfl <;> simp
              · exact e3.mono q2.sub
            · rcases hi12 with rfl | rfl
              · rw [c1'] at hn; cases hn
              · rw [c2'] at hn; cases hn
          match i, ho with
          | 0, ho =>
            simp at ho
            subst ho
            rcases h.st with ⟨_, c1', c2', c3', e1, e2⟩ | ⟨c, _⟩ | ⟨c, _⟩
            · subst e1
              obtain ⟨q1, q2⟩ := newCells_sim hH0 (cs := [.anyb]) (cs' := #[.bool z]) true (.cons (.anyb z) (.nil μ0)) rfl t 0 0 (.inl rfl) (fun _ => rfl)
              refine wpO_run hop (hwant F.g0) ?_
              have hex : execOp b.eval o0 = (do pure (.value (← Instr.alloc t true (.tuple #[])))) := by
                have hp0 := F.p0
                obtain ⟨dst, op, ty, pos, after, guard⟩ := o0
                simp only at hp0
                subst hp0
                rfl
              have hrun' : (Instr.alloc t true (.tuple #[])).run P w.drew = .ok (.pointer (some ⟨w.drew.heap.size, 0, none⟩)) (w.drew.alloc (.cells #[.bool z] t (0, 0))) := by
                simp [Instr.alloc, run_zero hinf hz, newVar, newRow, Value.cells]
              refine wpI_value (fun c hc => by rw [F.p0] at hc; cases hc) (by rw [hex]; simp only [Sem.run_bind, hrun', Result.andThen_ok, Sem.run_pure]; rfl) ?_
              rw [F.d0]
              refine hK _ _ ⟨by rw [Array.size_setIfInBounds]; exact h.size, by rw [put_size]; exact h.tsz, by rw [put_defers]; exact h.defers, .inr (.inl ⟨?_, ?_, _, q1, q2, ?_⟩)⟩
              · rw [inS_set hi]; simp
              · rw [inS_set hi, c3']; simp
              · exact (e2.mono q1.sub).put (Nat.lt_of_lt_of_le hd h.tsz) (.ptr _ 0 _ 0 _ (Mp.put_self _ _ _))
            · rw [c] at hn; cases hn
            · rw [c] at hn; cases hn
          | 1, ho =>
            simp at ho
            subst ho
            exact hst c1 (.inl rfl) F.d1 F.p1 F.g1 (bindsOn_ok F.b1 hdep)
          | 2, ho =>
            simp at ho
            subst ho
            exact hst c2 (.inr rfl) F.d2 F.p2 F.g2 (bindsOn_ok F.b2 hdep)
          | 3, ho =>
            simp at ho
            subst ho
            have d1 := bindsOn_ok F.b3 hdep
            have d2 := bindsOn_ok F.b3' hdep
            rcases h.st with ⟨_, c, _⟩ | ⟨c0, c3, μ, e1, e2, e3⟩ | ⟨_, _, _, c, _⟩
            · rw [c] at d1; cases d1
            · have hp := e3 d
              rw [get_setSt, if_pos rfl] at hp
              obtain ⟨v', μ', w', q1, q2, q3, q4⟩ := load_sim (P := P) e2 hp hload
              refine wpO_run hop (hwant F.g3) ?_
              have hex : execOp b.eval o3 = (do pure (.value (← Instr.loadAt t (b.tmps.getD d undef)))) := by
                have hp3 := F.p3
                obtain ⟨dst, op, ty, pos, after, guard⟩ := o3
                simp only at hp3
                subst hp3
                rfl
              refine wpI_value (fun c hc => by rw [F.p3] at hc; cases hc) (w' := w') (v := v') (by rw [hex]; simp only [Sem.run_bind, q1, Result.andThen_ok, Sem.run_pure]) ?_
              rw [F.d3]
              refine hK _ _ ⟨by rw [Array.size_setIfInBounds]; exact h.size, by rw [put_size]; exact h.tsz, by rw [put_defers]; exact h.defers, .inr (.inr ⟨?_, ?_, ?_, ?_, μ', Ext.trans hH0.dom' e1 q2, q3, ?_⟩)⟩
              · rw [inS_set hi, c0]; simp
              · rw [inS_set hi, d1]; simp
              · rw [inS_set hi, d2]; simp
              · rw [inS_set hi]; simp
              · exact (e3.mono q2.sub).put (Nat.lt_of_lt_of_le hr h.tsz) q4
            · rw [c] at hn; cases hn
          | j + 4, ho => simp at ho
        · exact ⟨by simp, hT.sz, hT.defers, .inl ⟨inS_replicate _ _, inS_replicate _ _, inS_replicate _ _, inS_replicate _ _, rfl, hT.tmps⟩⟩
      · cases h4
    · cases h4
  · cases h2
end
end Go.Ab

namespace Go.Ab
theorem badAll_get : ∀ (t : PT AV) (i : Nat), (badAll t).get i = t.get i ∨ (badAll t).get i = some .bad
  | .nil, i => .inl rfl
  | .node v l r, i => by
    cases i with
    | zero => cases v <;> simp [badAll, PT.get]
    | succ m =>
      simp only [badAll, PT.get]
      split
      · exact badAll_get l _
      · exact badAll_get r _
theorem badAll_none : ∀ (t : PT AV) (i : Nat), (badAll t).get i = none ∨ (badAll t).get i = some .bad
  | .nil, i => .inl rfl
  | .node v l r, i => by
    cases i with
    | zero => cases v <;> simp [badAll, PT.get]
    | succ m =>
      simp only [badAll, PT.get]
      split
      · exact badAll_none l _
      · exact badAll_none r _
theorem joinV_ok (a b : Option AV) : (joinV a b = a ∨ joinV a b = some .bad) ∧ (joinV a b = b ∨ joinV a b = some .bad) := by
  cases a <;> cases b <;> simp [joinV]
  rename_i x y
  by_cases h : eqAV 8 x y = true
  · have := eqAV_ok 8 x y h; subst this; simp [h]
  · simp [h]
theorem joinT_get : ∀ (a b : PT AV) (i : Nat), ((joinT a b).get i = a.get i ∨ (joinT a b).get i = some .bad) ∧ ((joinT a b).get i = b.get i ∨ (joinT a b).get i = some .bad)
  | .nil, b, i => by
    refine ⟨?_, badAll_get b i⟩
    exact badAll_none b i
  | .node v l r, .nil, i => ⟨badAll_get _ i, badAll_none _ i⟩
  | .node v l r, .node v' l' r', i => by
    cases i with
    | zero => exact joinV_ok v v'
    | succ m =>
      simp only [joinT, PT.get]
      split
      · exact joinT_get l l' _
      · exact joinT_get r r' _
theorem eqO_ok {a b : Option AV} (h : eqO a b = true) : a = b := by
  cases a <;> cases b <;> simp [eqO] at h ⊢
  exact eqAV_ok 8 _ _ h
theorem eqPT_ok : ∀ (a b : PT AV), eqPT a b = true → a = b
  | .nil, .nil, _ => rfl
  | .node v l r, .node v' l' r', h => by
    simp only [eqPT, Bool.and_eq_true] at h
    rw [eqO_ok h.1.1, eqPT_ok l l' h.1.2, eqPT_ok r r' h.2]
  | .nil, .node .., h => by simp [eqPT] at h
  | .node .., .nil, h => by simp [eqPT] at h
theorem eqEs_ok : ∀ (a b : List (AV × AV)), eqEs a b = true → a = b
  | [], [], _ => rfl
  | (a, b) :: x, (c, d) :: y, h => by
    simp only [eqEs, Bool.and_eq_true] at h
    rw [eqAV_ok 8 _ _ h.1.1, eqAV_ok 8 _ _ h.1.2, eqEs_ok x y h.2]
  | [], _ :: _, h => by simp [eqEs] at h
  | _ :: _, [], h => by simp [eqEs] at h
theorem eqBlk_ok {a b : Blk} (h : eqBlk a b = true) : a = b := by
  cases a <;> cases b <;> simp only [eqBlk, Bool.and_eq_true, Bool.false_eq_true] at h
  · rfl
  · rw [Nat.eq_of_beq_eq_true h.1.1, eq_of_beq h.1.2, eqPT_ok _ _ h.2]
  · rw [eqEs_ok _ _ h]
  · rw [eqEs_ok _ _ h]
  · rw [eqSPs_ok h]
theorem joinB_get (a b : Option Blk) : (joinB a b = a ∨ joinB a b = some .dead) ∧ (joinB a b = b ∨ joinB a b = some .dead) := by
  cases a <;> cases b <;> simp [joinB]
  rename_i x y
  by_cases h : eqBlk x y = true
  · have := eqBlk_ok h; subst this; simp [h]
  · simp [h]
theorem H1.nil_sel (d : Nat) (hd : d < 8) : H1.nil.sel d = none := by
  have h1 : d = 0 ∨ d = 1 ∨ d = 2 ∨ d = 3 ∨ d = 4 ∨ d = 5 ∨ d = 6 ∨ d = 7 := by omega
  rcases h1 with rfl | rfl | rfl | rfl | rfl | rfl | rfl | rfl <;> rfl
theorem H1.join_sel (k : Nat) (a b : H1) (d : Nat) (hd : d < 8) : (H1.join k a b).sel d = if d < k then joinB (a.sel d) (b.sel d) else none := by
  have h1 : d = 0 ∨ d = 1 ∨ d = 2 ∨ d = 3 ∨ d = 4 ∨ d = 5 ∨ d = 6 ∨ d = 7 := by omega
  rcases h1 with rfl | rfl | rfl | rfl | rfl | rfl | rfl | rfl <;> rfl
theorem H2.nil_sel (d : Nat) (hd : d < 8) : H2.nil.sel d = H1.nil := by
  have h1 : d = 0 ∨ d = 1 ∨ d = 2 ∨ d = 3 ∨ d = 4 ∨ d = 5 ∨ d = 6 ∨ d = 7 := by omega
  rcases h1 with rfl | rfl | rfl | rfl | rfl | rfl | rfl | rfl <;> rfl
theorem H2.join_sel (k : Nat) (a b : H2) (d : Nat) (hd : d < 8) : (H2.join k a b).sel d = if d * 8 < k then H1.join (k - d * 8) (a.sel d) (b.sel d) else H1.nil := by
  have h1 : d = 0 ∨ d = 1 ∨ d = 2 ∨ d = 3 ∨ d = 4 ∨ d = 5 ∨ d = 6 ∨ d = 7 := by omega
  rcases h1 with rfl | rfl | rfl | rfl | rfl | rfl | rfl | rfl <;> rfl
theorem H3.nil_sel (d : Nat) (hd : d < 8) : H3.nil.sel d = H2.nil := by
  have h1 : d = 0 ∨ d = 1 ∨ d = 2 ∨ d = 3 ∨ d = 4 ∨ d = 5 ∨ d = 6 ∨ d = 7 := by omega
  rcases h1 with rfl | rfl | rfl | rfl | rfl | rfl | rfl | rfl <;> rfl
theorem H3.join_sel (k : Nat) (a b : H3) (d : Nat) (hd : d < 8) : (H3.join k a b).sel d = if d * 64 < k then H2.join (k - d * 64) (a.sel d) (b.sel d) else H2.nil := by
  have h1 : d = 0 ∨ d = 1 ∨ d = 2 ∨ d = 3 ∨ d = 4 ∨ d = 5 ∨ d = 6 ∨ d = 7 := by omega
  rcases h1 with rfl | rfl | rfl | rfl | rfl | rfl | rfl | rfl <;> rfl
theorem H4.nil_sel (d : Nat) (hd : d < 8) : H4.nil.sel d = H3.nil := by
  have h1 : d = 0 ∨ d = 1 ∨ d = 2 ∨ d = 3 ∨ d = 4 ∨ d = 5 ∨ d = 6 ∨ d = 7 := by omega
  rcases h1 with rfl | rfl | rfl | rfl | rfl | rfl | rfl | rfl <;> rfl
theorem H4.join_sel (k : Nat) (a b : H4) (d : Nat) (hd : d < 8) : (H4.join k a b).sel d = if d * 512 < k then H3.join (k - d * 512) (a.sel d) (b.sel d) else H3.nil := by
  have h1 : d = 0 ∨ d = 1 ∨ d = 2 ∨ d = 3 ∨ d = 4 ∨ d = 5 ∨ d = 6 ∨ d = 7 := by omega
  rcases h1 with rfl | rfl | rfl | rfl | rfl | rfl | rfl | rfl <;> rfl
theorem H5.nil_sel (d : Nat) (hd : d < 8) : H5.nil.sel d = H4.nil := by
  have h1 : d = 0 ∨ d = 1 ∨ d = 2 ∨ d = 3 ∨ d = 4 ∨ d = 5 ∨ d = 6 ∨ d = 7 := by omega
  rcases h1 with rfl | rfl | rfl | rfl | rfl | rfl | rfl | rfl <;> rfl
theorem H5.join_sel (k : Nat) (a b : H5) (d : Nat) (hd : d < 8) : (H5.join k a b).sel d = if d * 4096 < k then H4.join (k - d * 4096) (a.sel d) (b.sel d) else H4.nil := by
  have h1 : d = 0 ∨ d = 1 ∨ d = 2 ∨ d = 3 ∨ d = 4 ∨ d = 5 ∨ d = 6 ∨ d = 7 := by omega
  rcases h1 with rfl | rfl | rfl | rfl | rfl | rfl | rfl | rfl <;> rfl
theorem H1.nil_all (d1 : Nat) (h1 : d1 < 8) : H1.nil.sel d1 = none := H1.nil_sel _ h1
theorem H1.join_all (k : Nat) (a b : H1) (d1 : Nat) (h1 : d1 < 8) : (H1.join k a b).sel d1 = if d1 < k then joinB (a.sel d1) (b.sel d1) else none := H1.join_sel k a b d1 h1
theorem H2.nil_all (d1 d2 : Nat) (h1 : d1 < 8) (h2 : d2 < 8) : (H2.nil.sel d2).sel d1 = none := by
  rw [H2.nil_sel _ h2]; exact H1.nil_all d1 h1
theorem H2.join_all (k : Nat) (a b : H2) (d1 d2 : Nat) (h1 : d1 < 8) (h2 : d2 < 8) : ((H2.join k a b).sel d2).sel d1 = if d1 + d2 * 8 < k then joinB ((a.sel d2).sel d1) ((b.sel d2).sel d1) else none := by
  rw [H2.join_sel _ _ _ _ h2]
  by_cases h : d2 * 8 < k
  · rw [if_pos h, H1.join_all _ _ _ d1 h1]
    by_cases h' : d1 + d2 * 8 < k
    · rw [if_pos h', if_pos (by omega)]
    · rw [if_neg h', if_neg (by omega)]
  · rw [if_neg h, H1.nil_all d1 h1, if_neg (by omega)]
theorem H3.nil_all (d1 d2 d3 : Nat) (h1 : d1 < 8) (h2 : d2 < 8) (h3 : d3 < 8) : ((H3.nil.sel d3).sel d2).sel d1 = none := by
  rw [H3.nil_sel _ h3]; exact H2.nil_all d1 d2 h1 h2
theorem H3.join_all (k : Nat) (a b : H3) (d1 d2 d3 : Nat) (h1 : d1 < 8) (h2 : d2 < 8) (h3 : d3 < 8) : (((H3.join k a b).sel d3).sel d2).sel d1 = if d1 + d2 * 8 + d3 * 64 < k then joinB (((a.sel d3).sel d2).sel d1) (((b.sel d3).sel d2).sel d1) else none := by
  rw [H3.join_sel _ _ _ _ h3]
  by_cases h : d3 * 64 < k
  · rw [if_pos h, H2.join_all _ _ _ d1 d2 h1 h2]
    by_cases h' : d1 + d2 * 8 + d3 * 64 < k
    · rw [if_pos h', if_pos (by omega)]
    · rw [if_neg h', if_neg (by omega)]
  · rw [if_neg h, H2.nil_all d1 d2 h1 h2, if_neg (by omega)]
theorem H4.nil_all (d1 d2 d3 d4 : Nat) (h1 : d1 < 8) (h2 : d2 < 8) (h3 : d3 < 8) (h4 : d4 < 8) : (((H4.nil.sel d4).sel d3).sel d2).sel d1 = none := by
  rw [H4.nil_sel _ h4]; exact H3.nil_all d1 d2 d3 h1 h2 h3
theorem H4.join_all (k : Nat) (a b : H4) (d1 d2 d3 d4 : Nat) (h1 : d1 < 8) (h2 : d2 < 8) (h3 : d3 < 8) (h4 : d4 < 8) : ((((H4.join k a b).sel d4).sel d3).sel d2).sel d1 = if d1 + d2 * 8 + d3 * 64 + d4 * 512 < k then joinB ((((a.sel d4).sel d3).sel d2).sel d1) ((((b.sel d4).sel d3).sel d2).sel d1) else none := by
  rw [H4.join_sel _ _ _ _ h4]
  by_cases h : d4 * 512 < k
  · rw [if_pos h, H3.join_all _ _ _ d1 d2 d3 h1 h2 h3]
    by_cases h' : d1 + d2 * 8 + d3 * 64 + d4 * 512 < k
    · rw [if_pos h', if_pos (by omega)]
    · rw [if_neg h', if_neg (by omega)]
  · rw [if_neg h, H3.nil_all d1 d2 d3 h1 h2 h3, if_neg (by omega)]
theorem H5.nil_all (d1 d2 d3 d4 d5 : Nat) (h1 : d1 < 8) (h2 : d2 < 8) (h3 : d3 < 8) (h4 : d4 < 8) (h5 : d5 < 8) : ((((H5.nil.sel d5).sel d4).sel d3).sel d2).sel d1 = none := by
  rw [H5.nil_sel _ h5]; exact H4.nil_all d1 d2 d3 d4 h1 h2 h3 h4
theorem H5.join_all (k : Nat) (a b : H5) (d1 d2 d3 d4 d5 : Nat) (h1 : d1 < 8) (h2 : d2 < 8) (h3 : d3 < 8) (h4 : d4 < 8) (h5 : d5 < 8) : (((((H5.join k a b).sel d5).sel d4).sel d3).sel d2).sel d1 = if d1 + d2 * 8 + d3 * 64 + d4 * 512 + d5 * 4096 < k then joinB (((((a.sel d5).sel d4).sel d3).sel d2).sel d1) (((((b.sel d5).sel d4).sel d3).sel d2).sel d1) else none := by
  rw [H5.join_sel _ _ _ _ h5]
  by_cases h : d5 * 4096 < k
  · rw [if_pos h, H4.join_all _ _ _ d1 d2 d3 d4 h1 h2 h3 h4]
    by_cases h' : d1 + d2 * 8 + d3 * 64 + d4 * 512 + d5 * 4096 < k
    · rw [if_pos h', if_pos (by omega)]
    · rw [if_neg h', if_neg (by omega)]
  · rw [if_neg h, H4.nil_all d1 d2 d3 d4 h1 h2 h3 h4, if_neg (by omega)]
theorem HT.join_get (k : Nat) (a b : HT) (hk : k ≤ 32768) (i : Nat) : (HT.join k a b).get i = if i < k then joinB (a.get i) (b.get i) else none := by
  unfold HT.join HT.get
  cases hi : Nat.ble i 32767
  · have : 32767 < i := by
      rcases Nat.lt_or_ge 32767 i with h | h
      · exact h
      · rw [Nat.ble_eq_true_of_le h] at hi; cases hi
    simp only [PT.get_nil]
    rw [if_neg (by omega)]
  · have hi' := Nat.le_of_ble_eq_true hi
    simp only
    unfold H5.get
    rw [H5.join_all k a.t b.t _ _ _ _ _ (by rw [land7]; omega) (by rw [dig7]; omega) (by rw [dig7]; omega) (by rw [dig7]; omega) (by rw [dig7]; omega)]
    rw [land7, dig7, dig7, dig7, dig7]
    by_cases h : i < k
    · rw [if_pos h, if_pos (by omega)]
    · rw [if_neg h, if_neg (by omega)]
def HpLe (H H' : Hp) : Prop := H.n = H'.n ∧ (∀ i, i < H.n → H'.b.get i = H.b.get i ∨ H'.b.get i = some .dead) ∧ ∀ i, H.n ≤ i → H'.b.get i = none
theorem HpLe.at {H H' : Hp} (e : HpLe H H') {i : Nat} {b : Blk} (hb : H'.b.get i = some b) : i < H.n ∧ (H'.b.get i = H.b.get i ∨ b = .dead) := by
  rcases Nat.lt_or_ge i H.n with h | h
  · refine ⟨h, ?_⟩
    rcases e.2.1 i h with g | g
    · exact .inl g
    · rw [g] at hb; cases hb; exact .inr rfl
  · rw [e.2.2 i h] at hb; cases hb
theorem HR.less [Val] {μ : Mp} {H H' : Hp} {w : World} (h : HR μ H w) (e : HpLe H H') : HR μ H' w := by
  have hl : ∀ i, Live H' i → Live H i := fun i ⟨b, h1, h2⟩ => by
    rcases (e.at h1).2 with g | g
    · exact ⟨b, by rw [← g]; exact h1, h2⟩
    · exact absurd g h2
  refine ⟨fun i c s N hm => by rw [← e.1]; exact h.dom i c s N hm, fun i b hb => by rw [← e.1]; exact (e.at hb).1, fun i b c s N hb hm => ?_, fun i j c s N s' N' hi hj => h.inj i j c s N s' N' (hl i hi) (hl j hj)⟩
  rcases (e.at hb).2 with g | g
  · exact h.blk i b c s N (by rw [← g]; exact hb) hm
  · subst g; trivial
theorem Ext.less {μ μ' : Mp} {H H' H2 : Hp} {w w' : World} (h : Ext μ H w μ' H' w') (e : HpLe H' H2) : Ext μ H w μ' H2 w' where
  sub := h.sub
  fresh := h.fresh
  n := by rw [← e.1]; exact h.n
  old := fun i hi hn => by
    rcases e.2.1 i (Nat.lt_of_lt_of_le hi h.n) with g | g
    · rw [g]; exact h.old i hi hn
    · exact .inr g
  alive := fun i hi ⟨b, h1, h2⟩ => by
    rcases (e.at h1).2 with g | g
    · exact h.alive i hi ⟨b, by rw [← g]; exact h1, h2⟩
    · exact absurd g h2
  size := h.size
  newc := h.newc
  frame := h.frame
  os := h.os
  tape := h.tape
  output := h.output
theorem TR.less [Val] {μ : Mp} {st st' : St} {a : Act} (h : TR μ st a) (hs : st'.sz = st.sz) (hmd : st'.md = st.md) (ht : ∀ i, st'.t.get i = st.t.get i ∨ st'.t.get i = some .bad) : TR μ st' a := by
  refine ⟨by rw [hs]; exact h.sz, by rw [hmd]; exact h.defers, fun i => ?_⟩
  rcases ht i with g | g
  · have : St.get st'.t i = St.get st.t i := by unfold St.get; rw [g]
    rw [this]; exact h.tmps i
  · have : St.get st'.t i = .bad := by unfold St.get; rw [g]
    rw [this]; exact .bad _
theorem eqEx_ok {a b : Ex} (h : eqEx a b = true) : a = b := by
  cases a <;> cases b <;> simp [eqEx] at h <;> first | rfl | rw [h]
theorem eqMd_ok {a b : Md} (h : eqMd a b = true) : a = b := by
  cases a <;> cases b <;> simp [eqMd] at h <;> first | rfl | rw [h]
theorem joinA_ok {x y : Ex × St} {e : Ex} {st : St} (h : joinA x y = .ok (e, st)) :
    (x.1 = e ∧ HpLe x.2.h st.h ∧ st.sz = x.2.sz ∧ st.md = x.2.md ∧ ∀ i, st.t.get i = x.2.t.get i ∨ st.t.get i = some .bad) ∧
    (y.1 = e ∧ HpLe y.2.h st.h ∧ st.sz = y.2.sz ∧ st.md = y.2.md ∧ ∀ i, st.t.get i = y.2.t.get i ∨ st.t.get i = some .bad) := by
  unfold joinA at h
  split at h
  · rename_i hc
    simp only [Bool.and_eq_true] at hc
    obtain ⟨⟨⟨⟨h1, h2⟩, h3⟩, h4⟩, h5⟩ := hc
    simp only [Res.ok.injEq, Prod.mk.injEq] at h
    obtain ⟨rfl, rfl⟩ := h
    have hn := Nat.eq_of_beq_eq_true h2
    have hz := Nat.eq_of_beq_eq_true h3
    have hk := Nat.le_of_ble_eq_true h4
    refine ⟨⟨rfl, ⟨rfl, fun i hi => ?_, fun i hi => ?_⟩, rfl, rfl, fun i => (joinT_get _ _ i).1⟩, ⟨(eqEx_ok h1).symm, ⟨hn.symm, fun i hi => ?_, fun i hi => ?_⟩, hz, eqMd_ok h5, fun i => (joinT_get _ _ i).2⟩⟩
    · simp only [HT.join_get _ _ _ hk]; rw [if_pos hi]; exact (joinB_get _ _).1
    · simp only [HT.join_get _ _ _ hk]; rw [if_neg (by omega)]
    · simp only [HT.join_get _ _ _ hk]; rw [if_pos (by omega)]; exact (joinB_get _ _).2
    · simp only [HT.join_get _ _ _ hk]; rw [if_neg (by omega)]
  · cases h
theorem Post.less [Val] {μ : Mp} {H : Hp} {w : World} {st st' : St} {K : Act → World → Prop} (h : Post μ H w st' K) (e1 : HpLe st.h st'.h) (e2 : st'.sz = st.sz) (e4 : st'.md = st.md) (e3 : ∀ i, st'.t.get i = st.t.get i ∨ st'.t.get i = some .bad) : Post μ H w st K :=
  fun μ' w' a' x1 x2 x3 => h μ' w' a' (x1.less e1) (x2.less e1) (x3.less e2 e4 e3)
end Go.Ab

namespace Go.Ab
def exOf : Ex → Exit
  | .normal => .normal
  | .exit i => .exit i
  | .goto l => .goto l
  | .ret => .ret
section
variable {P : Program} {ro : Option Nat} {gl : Gam} {cf : CallF} {rec : Rec}
def isRd : Md → Bool
  | .round => true
  | _ => false
def MdOK (rec : Rec) : Prop := ∀ (c : Code) (st : St) (e : Ex) (st' : St), rec c st = .ok (e, st') → isRd st'.md = isRd st.md
def CodeOK [Val] (ro : Option Nat) (P : Program) (gl : Gam) (rec : Rec) : Prop :=
  ∀ (c : Code) (st : St) (e : Ex) (st' : St), rec c st = .ok (e, st') → isRd st.md = ro.isSome → ∀ (μ : Mp) (a : Act) (w : World), TR μ st a → HR μ st.h w → GR gl μ st.h w → ∀ Q : Exit → Act → World → Prop, Post μ st.h w st' (Q (exOf e)) → wpC ro P c Q a w
theorem loop_wp [Val] (hmd : MdOK rec) (hrec : CodeOK ro P gl rec) (body : Code) {Q : Exit → Act → World → Prop} : ∀ (k : Nat) (st : St) (e : Ex) (st' : St), loopA rec body k st = .ok (e, st') → isRd st.md = ro.isSome → ∀ (μ : Mp) (a : Act) (w : World), TR μ st a → HR μ st.h w → GR gl μ st.h w →
    Post μ st.h w st' (Q (exOf e)) → LoopN ro P body Q k a w
  | 0, st, e, st', h, _, _, _, _, _, _, _, _ => by simp [loopA] at h
  | k + 1, st, e, st', h, hrd, μ, a, w, hT, hH, hG, hQ => by
    obtain ⟨⟨e1, st1⟩, h1, h2⟩ := Res.bind_ok h
    refine hrec body st e1 st1 h1 hrd μ a w hT hH hG _ fun μ' w' a' x1 x2 x3 => ?_
    cases e1 with
    | normal => exact loop_wp hmd hrec body k st1 e st' h2 ((hmd _ _ _ _ h1).trans hrd) μ' a' w' x3 x2 (hG.mono hH x1) (hQ.trans hH x1)
    | exit i => simp only [Res.ok.injEq, Prod.mk.injEq] at h2; obtain ⟨rfl, rfl⟩ := h2; exact hQ μ' w' a' x1 x2 x3
    | goto l => simp only [Res.ok.injEq, Prod.mk.injEq] at h2; obtain ⟨rfl, rfl⟩ := h2; exact hQ μ' w' a' x1 x2 x3
    | ret => simp only [Res.ok.injEq, Prod.mk.injEq] at h2; obtain ⟨rfl, rfl⟩ := h2; exact hQ μ' w' a' x1 x2 x3
theorem scope_wp [Val] (hmd : MdOK rec) (hrec : CodeOK ro P gl rec) (body : Code) {Q : Exit → Act → World → Prop} : ∀ (k : Nat) (cur : Code) (st : St) (e : Ex) (st' : St), scopeA rec body k cur st = .ok (e, st') → isRd st.md = ro.isSome → ∀ (μ : Mp) (a : Act) (w : World), TR μ st a → HR μ st.h w → GR gl μ st.h w →
    Post μ st.h w st' (Q (exOf e)) → ScopeN ro P body Q k cur a w
  | 0, cur, st, e, st', h, _, _, _, _, _, _, _, _ => by simp [scopeA] at h
  | k + 1, cur, st, e, st', h, hrd, μ, a, w, hT, hH, hG, hQ => by
    obtain ⟨⟨e1, st1⟩, h1, h2⟩ := Res.bind_ok h
    refine hrec cur st e1 st1 h1 hrd μ a w hT hH hG _ fun μ' w' a' x1 x2 x3 => ?_
    cases e1 with
    | normal => simp only [Res.ok.injEq, Prod.mk.injEq] at h2; obtain ⟨rfl, rfl⟩ := h2; exact hQ μ' w' a' x1 x2 x3
    | exit i => simp only [Res.ok.injEq, Prod.mk.injEq] at h2; obtain ⟨rfl, rfl⟩ := h2; exact hQ μ' w' a' x1 x2 x3
    | goto l =>
      simp only at h2
      simp only [exOf]
      split at h2
      · rename_i rest hf
        rw [hf]
        exact scope_wp hmd hrec body k rest st1 e st' h2 ((hmd _ _ _ _ h1).trans hrd) μ' a' w' x3 x2 (hG.mono hH x1) (hQ.trans hH x1)
      · rename_i hf
        rw [hf]
        simp only [Res.ok.injEq, Prod.mk.injEq] at h2; obtain ⟨rfl, rfl⟩ := h2; exact hQ μ' w' a' x1 x2 x3
    | ret => simp only [Res.ok.injEq, Prod.mk.injEq] at h2; obtain ⟨rfl, rfl⟩ := h2; exact hQ μ' w' a' x1 x2 x3
theorem eval_bool [Val] {μ : Mp} {st : St} {a : Act} {H : Hp} {w : World} (hT : TR μ st a) (hG : GR gl μ H w) {c : Operand} {v : AV} (h : evalO gl st.t c = .ok v) : VR μ v (a.eval c) := hT.tmps.opd hG c v h
theorem hasBody_ok {g : FuncId} (h : hasBody P g = true) : ∃ fn c, P.funcs[g]? = some fn ∧ fn.body = some c ∧ fn.name ≠ "runtime.NumGoroutine" := by
  unfold hasBody at h
  split at h
  · rename_i fn hf
    simp only [Bool.and_eq_true, decide_eq_true_eq] at h
    obtain ⟨c, hc⟩ := Option.isSome_iff_exists.1 h.1
    exact ⟨fn, c, hf, hc, h.2⟩
  · cases h
theorem run_callFunc_enter {f : FuncId} {fn : Func} {c : Code} (hf : P.funcs[f]? = some fn) (hname : fn.name ≠ "runtime.NumGoroutine") (hb : fn.body = some c) (args : Array Value) (w : World) :
    (callFunc f args).run P w = .ok (.enter f args) w := by
  simp [callFunc, hf, hname, hb]
theorem getLoop_ok [Val] {μ : Mp} {H : Hp} {w : World} (hH : HR μ H w) {b c s N : Nat} (hm : μ b = some (c, s, N)) {ls : LoopState} {pend : Option Code} {t : PT AV} {sz : Nat} {params : List Tmp} {assign body : Code}
    (h : getBlk H b = .ok (.loop ls pend t sz params assign body)) : ∃ r : Loop, s = 0 ∧ w.heap[c]? = some (.loop r) ∧ r.state = ls ∧ r.pending = pend ∧ r.params.toList = params ∧ r.assign = assign ∧ r.body = body ∧ sz ≤ r.tmps.size ∧
      (∀ i, VR μ (St.get t i) (r.tmps.getD i undef)) ∧ H.b.get b = some (.loop ls pend t sz params assign body) := by
  have hb := Res.ofOpt_ok h
  obtain ⟨h0, r, h1, h2, h3, h4, h5, h6, h7, h8⟩ := hH.blk b _ c s N hb hm
  exact ⟨r, h0, h1, h2, h3, h4, h5, h6, h7, h8, hb⟩
theorem run_getLoop {w : World} {c : Nat} {r : Loop} (h : w.heap[c]? = some (.loop r)) : (Instr.getLoop c).run P w = .ok r w := by
  simp [Instr.getLoop, getObj, Sem.run_bind, Sem.run, h, Result.andThen]
theorem run_setLoop {w : World} {c : Nat} {r : Loop} (h : w.heap[c]? = some (.loop r)) (o' : Obj) : (setObj c o').run P w = .ok () { w with heap := w.heap.set! c o' } := by
  simp [setObj, Sem.run, h]
theorem range_wp [Val] (hcf : CallOK P gl cf) (hrec : CodeOK ro P gl rec) {f : Operand} {params : Array Tmp} {assign body : Code} {st st' : St} {e : Ex} (hrd : isRd st.md = ro.isSome) (h : rangeFuncA P gl cf rec f params assign body st = .ok (e, st')) {μ : Mp} {a : Act} {w : World}
    (hT : TR μ st a) (hH : HR μ st.h w) (hG : GR gl μ st.h w) {Q : Exit → Act → World → Prop} (hQ : Post μ st.h w st' (Q (exOf e))) : wpC ro P (.rangeFunc f params assign body) Q a w := by
  unfold rangeFuncA at h
  split at h
  · rename_i hmd
    have hro : ro = none := by
      rw [hmd] at hrd
      cases ro with
      | none => rfl
      | some l => simp [isRd] at hrd
    subst hro
    obtain ⟨fv, h1, h2⟩ := Res.bind_ok h
    have hfv := hT.tmps.opd hG f fv h1
    split at h2
    · rename_i g first captured
      split at h2
      · rename_i hbody
        obtain ⟨fn, cc, hf, hb, hname⟩ := hasBody_ok hbody
        simp only [newBlk] at h2
        obtain ⟨⟨v, h3⟩, h4, h5⟩ := Res.bind_ok h2
        obtain ⟨blk, h6, h7⟩ := Res.bind_ok h5
        -- the two new blocks
        obtain ⟨a1, a2⟩ := newBlk_sim hH .dfr (.deferred (some [])) (fun μ' _ => ⟨rfl, rfl⟩)
        have hd : a.defers = [] := by have := hT.defers; rw [hmd] at this; exact this
        refine wpIn_rangeFunc fun fnid _ => ?_
        let lo : Loop := { state := .ready, pending := none, fn := fnid, tmps := a.tmps, params := params, assign := assign, body := body, defers := w.heap.size }
        obtain ⟨b1, b2⟩ := newBlk_sim a2 (.loop .ready none st.t st.sz params.toList assign body) (.loop lo) (fun μ' hs => ⟨rfl, lo, rfl, rfl, rfl, rfl, rfl, rfl, hT.sz, fun i => ((hT.tmps i).mono a1.sub).mono hs⟩)
        have hw1 : (w.alloc (.deferred (some []))).heap.size = w.heap.size + 1 := by simp
        rw [hw1] at b1 b2
        have hn1 : (newBlk st.h .dfr).2.n = st.h.n + 1 := rfl
        rw [hn1] at b1 b2
        have he12 := Ext.trans hH.dom' a1 b1
        have hbl : ((μ.put st.h.n (w.heap.size, 0, 0)).put (st.h.n + 1) (w.heap.size + 1, 0, 0)) (st.h.n + 1) = some (w.heap.size + 1, 0, 0) := Mp.put_self _ _ _
        have hbd : ((μ.put st.h.n (w.heap.size, 0, 0)).put (st.h.n + 1) (w.heap.size + 1, 0, 0)) st.h.n = some (w.heap.size, 0, 0) := by
          rw [Mp.put_ne _ _ (by omega), Mp.put_self]
        have hfv' := hfv.mono he12.sub
        generalize hy : a.eval f = y at hfv hfv'
        cases hfv' with
        | func _ _ _ xs' ys' hx hyl q1 q2 =>
          have hf1 : VRs ((μ.put st.h.n (w.heap.size, 0, 0)).put (st.h.n + 1) (w.heap.size + 1, 0, 0)) first xs'.toList := ⟨by simpa using hx, fun i v v' g1 g2 => q1 i v v' g1 (by simpa using g2)⟩
          have hf2 : VRs ((μ.put st.h.n (w.heap.size, 0, 0)).put (st.h.n + 1) (w.heap.size + 1, 0, 0)) captured ys'.toList := ⟨by simpa using hyl, fun i v v' g1 g2 => q2 i v v' g1 (by simpa using g2)⟩
          have hyv : VRs ((μ.put st.h.n (w.heap.size, 0, 0)).put (st.h.n + 1) (w.heap.size + 1, 0, 0)) [.yield (st.h.n + 1)] [.func (.yield (w.heap.size + 1)) #[] #[]] := .cons (.yield _ _ 0 hbl) (.nil _)
          have hall : VRs ((μ.put st.h.n (w.heap.size, 0, 0)).put (st.h.n + 1) (w.heap.size + 1, 0, 0)) (first ++ [.yield (st.h.n + 1)] ++ captured) (xs' ++ #[Value.func (.yield (w.heap.size + 1)) #[] #[]] ++ ys').toList := by
            have := (hf1.append hyv).append hf2
            simpa using this
          have hgo := hcf.fn g _ _ v h3 h4 _ _ _ hall b2 (hG.mono hH he12)
          have hent := run_callFunc_enter hf hname hb (xs' ++ #[Value.func (.yield (w.heap.size + 1)) #[] #[]] ++ ys') ((w.alloc (.deferred (some []))).alloc (.loop lo))
          refine ⟨w.heap.size + 1, [{ target := .collected w.heap.size, args := #[] }], (w.alloc (.deferred (some []))).alloc (.loop lo), { target := .fn (.func g) ys', args := xs' ++ #[Value.func (.yield (w.heap.size + 1)) #[] #[]] }, (w.alloc (.deferred (some []))).alloc (.loop lo), g, xs' ++ #[Value.func (.yield (w.heap.size + 1)) #[] #[]] ++ ys', (w.alloc (.deferred (some []))).alloc (.loop lo), ?_, ?_, fun _ _ => trivial, ?_, fun hdp => by simp [FR] at hdp, ?_⟩
          · simp [Instr.enterLoop, FR, lo]
          · have hm : (#[Operand.const (.func (.yield (w.heap.size + 1)) #[] #[])] : Array Operand).map a.eval = #[Value.func (.yield (w.heap.size + 1)) #[] #[]] := by simp [Act.eval]
            simp only [resolve, hm, hy, Deferred.ofValue, Sem.run_pure]
          · simp only [invoke]
            exact hent
          · rcases hgo with ⟨v', w', g1, _⟩ | ⟨f', args2, g1, g2⟩
            · rw [hent] at g1; cases g1
            · rw [hent] at g1
              cases g1
              have hc : CallsIn Fence.wide 0 P g _ _ _ := callsIn_wide.2 g2
              refine CallsIn.mono (F := FR none) hc fun en w' hen => ?_
              obtain ⟨v', rfl, μ3, x1, x2, x3⟩ := hen
              -- the loop is over
              split at h7
              · rename_i ls pend t' sz' ps' as' bo'
                obtain ⟨r, _, r1, r2, r3, _, _, _, _, _, r9⟩ := getLoop_ok x2 (x1.sub _ _ hbl) h6
                split at h7
                · cases h7
                · rename_i hbusy
                  have hc3 := (x2.dom _ _ _ _ (x1.sub _ _ hbl)).2
                  let w4 : World := { w' with heap := w'.heap.set! (w.heap.size + 1) (.loop { r with state := .exhausted }) }
                  have s1 : w4.heap.size = w'.heap.size := by simp [w4]
                  have s2 : ∀ k, k ≠ w.heap.size + 1 → w4.heap[k]? = w'.heap[k]? := fun k hk => by simp [w4, Ne.symm hk]
                  have y1 := Ext.setBlk (w' := w4) .dead r9 (by simp) (x1.sub _ _ hbl) s1 s2 rfl rfl rfl
                  have y2 := HR.setBlk (w' := w4) (b' := .dead) x2 r9 (by simp) (x1.sub _ _ hbl) s1 s2 trivial
                  have hext : Ext μ st.h w μ3 ⟨h3.n, h3.b.set (st.h.n + 1) .dead⟩ w4 := Ext.trans hH.dom' (Ext.trans hH.dom' he12 x1) y1
                  have hend : (Instr.endLoop (w.heap.size + 1)).run P w' = .ok r.pending w4 := by
                    have hb' : r.state ≠ LoopState.busy := by rw [r2]; exact hbusy
                    simp [Instr.endLoop, run_getLoop r1, hb', run_setLoop r1, w4]
                  have hTR : TR μ3 ⟨st.t, ⟨h3.n, h3.b.set (st.h.n + 1) .dead⟩, st.sz, .marked st.h.n⟩ { a with defers := [{ target := .collected w.heap.size, args := #[] }] ++ a.defers } :=
                    ⟨hT.sz, ⟨w.heap.size, 0, x1.sub _ _ hbd, by simp [hd]⟩, fun i => (hT.tmps i).mono hext.sub⟩
                  refine ⟨r.pending, w4, hend, ?_⟩
                  rw [r3]
                  cases pend with
                  | none =>
                    simp only [Res.ok.injEq, Prod.mk.injEq] at h7
                    obtain ⟨rfl, rfl⟩ := h7
                    exact hQ μ3 w4 _ hext y2 hTR
                  | some c =>
                    exact hrec c _ e st' h7 rfl μ3 _ w4 hTR y2 (hG.mono hH hext) Q (hQ.trans hH hext)
              · cases h7
      · cases h2
    · cases h2
  · cases h
theorem step_wp [Val] (hm : P.follows .mixedOrders = true) (hcf : CallOK P gl cf) (hmd : MdOK rec) (hrec : CodeOK ro P gl rec) {c : Code} {st st' : St} {e : Ex} (hrd : isRd st.md = ro.isSome) (h : stepA P gl cf rec c st = .ok (e, st')) {μ : Mp} {a : Act} {w : World} (hT : TR μ st a) (hH : HR μ st.h w) (hG : GR gl μ st.h w)
    {Q : Exit → Act → World → Prop} (hQ : Post μ st.h w st' (Q (exOf e))) : wpC ro P c Q a w := by
  unfold stepA at h
  split at h
  · simp only [Res.ok.injEq, Prod.mk.injEq] at h; obtain ⟨rfl, rfl⟩ := h
    exact wpIn_skip (hQ μ w a (.refl μ st.h w) hH hT)
  · simp only [Res.ok.injEq, Prod.mk.injEq] at h; obtain ⟨rfl, rfl⟩ := h
    exact wpIn_label (hQ μ w a (.refl μ st.h w) hH hT)
  · rename_i id ops draw
    obtain ⟨st1, h1, h2⟩ := Res.bind_ok h
    simp only [Res.ok.injEq, Prod.mk.injEq] at h2; obtain ⟨rfl, rfl⟩ := h2
    unfold regionA at h1
    cases draw with
    | false => exact text_wp hcf (by simpa using h1) hT hH hG hQ
    | true =>
      simp only [if_true] at h1
      split at h1
      · rename_i t d r hf
        exact fork_wp hm hf hT hH h1 hQ
      · split at h1
        · rename_i p hp
          exact plan_wp hm hcf hp hG hT hH h1 hQ
        · cases h1
  · rename_i x y
    obtain ⟨⟨e1, st1⟩, h1, h2⟩ := Res.bind_ok h
    refine wpIn_seq (hrec x st e1 st1 h1 hrd μ a w hT hH hG _ fun μ' w' a' x1 x2 x3 => ?_)
    cases e1 with
    | normal => exact hrec y st1 e st' h2 ((hmd _ _ _ _ h1).trans hrd) μ' a' w' x3 x2 (hG.mono hH x1) Q (hQ.trans hH x1)
    | exit i => simp only [Res.ok.injEq, Prod.mk.injEq] at h2; obtain ⟨rfl, rfl⟩ := h2; exact hQ μ' w' a' x1 x2 x3
    | goto l => simp only [Res.ok.injEq, Prod.mk.injEq] at h2; obtain ⟨rfl, rfl⟩ := h2; exact hQ μ' w' a' x1 x2 x3
    | ret => simp only [Res.ok.injEq, Prod.mk.injEq] at h2; obtain ⟨rfl, rfl⟩ := h2; exact hQ μ' w' a' x1 x2 x3
  · rename_i co x y
    obtain ⟨v, h1, h2⟩ := Res.bind_ok h
    have hv := eval_bool hT hG h1
    split at h2
    · generalize hy : a.eval co = z at hv
      cases hv
      exact wpIn_cond_true hy (hrec x st e st' h2 hrd μ a w hT hH hG Q hQ)
    · generalize hy : a.eval co = z at hv
      cases hv
      exact wpIn_cond_false hy (hrec y st e st' h2 hrd μ a w hT hH hG Q hQ)
    · obtain ⟨⟨e1, st1⟩, h3, h4⟩ := Res.bind_ok h2
      obtain ⟨⟨e2, st2⟩, h5, h6⟩ := Res.bind_ok h4
      obtain ⟨⟨rfl, p1, p2, p4, p3⟩, ⟨q0, q1, q2, q4, q3⟩⟩ := joinA_ok h6
      simp only at p1 p2 p3 p4 q0 q1 q2 q3 q4
      subst q0
      generalize hy : a.eval co = z at hv
      cases hv with
      | anyb b =>
        cases b with
        | true => exact wpIn_cond_true hy (hrec x st _ st1 h3 hrd μ a w hT hH hG Q (hQ.less p1 p2 p4 p3))
        | false => exact wpIn_cond_false hy (hrec y st _ st2 h5 hrd μ a w hT hH hG Q (hQ.less q1 q2 q4 q3))
    · cases h2
  · rename_i id b
    obtain ⟨⟨e1, st1⟩, h1, h2⟩ := Res.bind_ok h
    refine wpIn_block (hrec b st e1 st1 h1 hrd μ a w hT hH hG _ fun μ' w' a' x1 x2 x3 => ?_)
    cases e1 with
    | normal => simp only [Res.ok.injEq, Prod.mk.injEq] at h2; obtain ⟨rfl, rfl⟩ := h2; exact hQ μ' w' a' x1 x2 x3
    | exit i =>
      simp only at h2
      simp only [exOf, Exit.inBlock]
      split at h2
      · rename_i hi
        have := Nat.eq_of_beq_eq_true hi
        simp only [Res.ok.injEq, Prod.mk.injEq] at h2; obtain ⟨rfl, rfl⟩ := h2
        rw [if_pos this]
        exact hQ μ' w' a' x1 x2 x3
      · rename_i hi
        simp only [Res.ok.injEq, Prod.mk.injEq] at h2; obtain ⟨rfl, rfl⟩ := h2
        rw [if_neg (fun e => hi (by rw [e]; simp))]
        exact hQ μ' w' a' x1 x2 x3
    | goto l => simp only [Res.ok.injEq, Prod.mk.injEq] at h2; obtain ⟨rfl, rfl⟩ := h2; exact hQ μ' w' a' x1 x2 x3
    | ret => simp only [Res.ok.injEq, Prod.mk.injEq] at h2; obtain ⟨rfl, rfl⟩ := h2; exact hQ μ' w' a' x1 x2 x3
  · exact wpC_loopN (loop_wp hmd hrec _ rounds st e st' h hrd μ a w hT hH hG hQ)
  · exact wpC_scopeN (scope_wp hmd hrec _ rounds _ st e st' h hrd μ a w hT hH hG hQ)
  · simp only [Res.ok.injEq, Prod.mk.injEq] at h; obtain ⟨rfl, rfl⟩ := h
    exact wpIn_exit (hQ μ w a (.refl μ st.h w) hH hT)
  · simp only [Res.ok.injEq, Prod.mk.injEq] at h; obtain ⟨rfl, rfl⟩ := h
    exact wpIn_goto (hQ μ w a (.refl μ st.h w) hH hT)
  · simp only [Res.ok.injEq, Prod.mk.injEq] at h; obtain ⟨rfl, rfl⟩ := h
    exact wpIn_ret (hQ μ w a (.refl μ st.h w) hH hT)
  · exact range_wp hcf hrec hrd h hT hH hG hQ
  · cases h
def SpecOK [Val] (P : Program) (gl : Gam) (sp : Special) : Prop :=
  ∀ f g, sp f = some g → ∀ (args : List AV) (H : Hp) (v : AV) (H' : Hp), g args H = .ok (v, H') → ∀ (μ : Mp) (w : World) (args' : Array Value), VRs μ args args'.toList → HR μ H w → GR gl μ H w →
    Goes P (callFunc f args') w fun v' w' => ∃ μ', Ext μ H w μ' H' w' ∧ HR μ' H' w' ∧ VR μ' v v'
theorem argsT_get : ∀ (l : List AV) (i : Nat) (t : PT AV) (j : Nat), St.get (argsT l i t) j = if i ≤ j ∧ j < i + l.length then (l[j - i]?).getD aundef else St.get t j
  | [], i, t, j => by
    simp only [argsT, List.length_nil, Nat.add_zero]
    rw [if_neg (by omega)]
  | v :: l, i, t, j => by
    simp only [argsT]
    rw [argsT_get l (i + 1) _ j, get_setSt]
    by_cases h1 : i = j
    · subst h1
      rw [if_neg (by omega), if_pos rfl, if_pos (by simp)]
      simp
    · rw [if_neg h1]
      by_cases h2 : i + 1 ≤ j ∧ j < i + 1 + l.length
      · rw [if_pos h2, if_pos (by simp; omega)]
        rw [show j - i = (j - (i + 1)) + 1 by omega, List.getElem?_cons_succ]
      · rw [if_neg h2, if_neg (by simp; omega)]
theorem args_TR [Val] {μ : Mp} {args : List AV} {args' : Array Value} (h : VRs μ args args'.toList) {n : Nat} (hn : args.length ≤ n) (H : Hp) :
    TR μ ⟨argsT args 0 .nil, H, n, .top⟩ { tmps := args' ++ Array.replicate (n - args'.size) undef, defers := [] } := by
  have hl : args.length = args'.size := by simpa using h.1
  refine ⟨by simp; omega, rfl, fun i => ?_⟩
  rw [argsT_get]
  simp only [Nat.zero_le, true_and, Nat.zero_add, Nat.sub_zero]
  by_cases hi : i < args.length
  · rw [if_pos hi]
    have h1 : args[i]? = some args[i] := by simp [hi]
    obtain ⟨v', h2, h3⟩ := h.get h1
    have h4 : args'[i]? = some v' := by simpa using h2
    rw [h1]
    simp only [Option.getD_some]
    have : (args' ++ Array.replicate (n - args'.size) undef).getD i undef = v' := by
      rw [Array.getD_eq_getD_getElem?, Array.getElem?_append_left (by omega), h4]; rfl
    rw [this]; exact h3
  · rw [if_neg hi]
    have : (args' ++ Array.replicate (n - args'.size) undef).getD i undef = undef := by
      rw [Array.getD_eq_getD_getElem?, Array.getElem?_append_right (by omega)]
      rw [Array.getElem?_replicate]
      split <;> rfl
    rw [this]
    exact undef_VR μ
end
end Go.Ab

namespace Go.Ab
section
variable {P : Program} {gl : Gam}
theorem loadVar_run [Val] {μ : Mp} {H : Hp} {w : World} (h : HR μ H w) {t : TypeId} {a : AV} {a' : Value} (ha : VR μ a a') {v : AV} (hl : loadVarA P H t a = .ok v) :
    ∃ v', (do loadVar t (← asAddr a') : Sem Value).run P w = .ok v' w ∧ VR μ v v' := by
  cases ha with
  | ptr b o c s N hm =>
    simp only [loadVarA] at hl
    obtain ⟨ag, h1, h2⟩ := Res.bind_ok hl
    have hag := tagg_ok h1 w
    cases ag with
    | true =>
      simp only at h2
      obtain ⟨n, h3, h4⟩ := Res.bind_ok h2
      obtain ⟨cs, h5, h6⟩ := Res.bind_ok h4
      simp at h6; subst h6
      obtain ⟨e1, e2, l', e3, e4⟩ := readCells_ok h hm h5
      have hn : l'.length = n := by rw [← e3.1, e1]
      have hload := run_loadCells_list (P := P) w ⟨c, o + s, none⟩ l' e4
      rw [hn] at hload
      refine ⟨.agg l'.toArray, ?_, .agg cs _ (by simpa using e3.1) fun i x x' g1 g2 => e3.2 i x x' g1 (by simpa using g2)⟩
      simp [asAddr, loadVar, hag, run_sizeOf h3 w, hload]
    | false =>
      simp only at h2
      obtain ⟨cs, h5, h6⟩ := Res.bind_ok h2
      obtain ⟨e1, e2, l', e3, e4⟩ := readCells_ok h hm h5
      match cs, l', e1, e3 with
      | [x], [x'], _, e3 =>
        simp at h6; subst h6
        have hc := e4 0 x' rfl
        rw [addr_add] at hc
        refine ⟨x', ?_, e3.head⟩
        simp [asAddr, loadVar, hag, show w.cell? ⟨c, o + s, none⟩ = some x' from hc]
      | [x], [], _, e3 => simp [VRs] at e3
      | [x], _ :: _ :: _, _, e3 => simp [VRs] at e3
  | _ => simp [loadVarA] at hl
def resM (tmps : Array Value) : ResultVar → Sem Value
  | .tmp t => pure (tmps.getD t undef)
  | .cell a t => do loadVar t (← asAddr (tmps.getD a undef))
theorem resList_run [Val] {μ : Mp} {st : St} {a : Act} {w : World} (hT : TR μ st a) (hH : HR μ st.h w) : ∀ (l : List ResultVar) (r : List AV), mapA (resA P st.t st.h) l = .ok r → ∃ r', (l.mapM (resM a.tmps)).run P w = .ok r' w ∧ VRs μ r r'
  | [], r, h => by simp [mapA] at h; subst h; exact ⟨[], rfl, .nil μ⟩
  | x :: l, r, h => by
    obtain ⟨b, h1, h2⟩ := Res.bind_ok h
    obtain ⟨bs, h3, h4⟩ := Res.bind_ok h2
    simp only [Res.ok.injEq] at h4; subst h4
    obtain ⟨r', q1, q2⟩ := resList_run hT hH l bs h3
    have : ∃ v', (resM a.tmps x).run P w = .ok v' w ∧ VR μ b v' := by
      cases x with
      | tmp i => simp only [resA, Res.ok.injEq] at h1; subst h1; exact ⟨_, rfl, hT.tmps i⟩
      | cell c t => exact loadVar_run hH (hT.tmps c) h1
    obtain ⟨v', g1, g2⟩ := this
    exact ⟨v' :: r', by simp [List.mapM_cons, g1, q1], .cons g2 q2⟩
theorem results_run [Val] {μ : Mp} {st : St} {a : Act} {w : World} (hT : TR μ st a) (hH : HR μ st.h w) {fn : Func} {v : AV} (h : resultsA P fn st.t st.h = .ok v) : ∃ v', (results fn a.tmps).run P w = .ok v' w ∧ VR μ v v' := by
  obtain ⟨r, h1, h2⟩ := Res.bind_ok h
  obtain ⟨r', q1, q2⟩ := resList_run hT hH _ r h1
  have e : results fn a.tmps = (do let vs ← fn.results.mapM (resM a.tmps); pure (if h : vs.size = 1 then vs[0] else .tuple vs)) := by
    unfold results
    congr 2
  rw [e]
  have e2 : (fn.results.mapM (resM a.tmps)).run P w = .ok r'.toArray w := by
    rw [Array.mapM_eq_mapM_toList]
    simp [q1]
  simp only [Sem.run_bind, e2, Result.andThen_ok, Sem.run_pure]
  split at h2
  · rename_i x
    simp only [Res.ok.injEq] at h2; subst h2
    obtain ⟨x', rfl, hx⟩ := q2.single
    exact ⟨x', rfl, hx⟩
  · rename_i hne
    simp only [Res.ok.injEq] at h2; subst h2
    have hl : ¬ r'.toArray.size = 1 := by
      intro h1
      have h1' : r'.length = 1 := by simpa using h1
      have := q2.1
      rw [h1'] at this
      match r, this, hne with
      | [x], _, hne => exact hne x rfl
    refine ⟨.tuple r'.toArray, by rw [dif_neg hl], .tuple _ _ (by simpa using q2.1) fun i v v' g1 g2 => q2.2 i v v' g1 (by simpa using g2)⟩
theorem call_fn [Val] {sp : Special} {rec : Rec} (hrec : CodeOK none P gl rec) (hsp : SpecOK P gl sp) (f : FuncId) (args : List AV) (H : Hp) (v : AV) (H' : Hp) (h : callWith P sp rec (.fn f) args H = .ok (v, H')) (μ : Mp) (w : World) (args' : Array Value) (ha : VRs μ args args'.toList) (hH : HR μ H w)
    (hG : GR gl μ H w) : Goes P (callFunc f args') w fun v' w' => ∃ μ', Ext μ H w μ' H' w' ∧ HR μ' H' w' ∧ VR μ' v v' := by
  unfold callWith at h
  simp only at h
  split at h
  · rename_i g hg
    exact hsp f g hg args H v H' h μ w args' ha hH hG
  · split at h
    · rename_i fn hf
      split at h
      · rename_i c hb
        split at h
        · rename_i hc
          have hT := args_TR (μ := μ) ha hc.1 H
          have main : ∀ (e : Ex) (st : St), rec c ⟨argsT args 0 .nil, H, fn.ntmps, .top⟩ = .ok (e, st) → (e = .normal ∨ e = .ret) → ((leaveA st).bind fun h => (resultsA P fn st.t h).bind fun v => .ok (v, h)) = Res.ok (v, H') →
              Goes P (callFunc f args') w fun v' w' => ∃ μ', Ext μ H w μ' H' w' ∧ HR μ' H' w' ∧ VR μ' v v' := by
            intro e st h1 he h2
            obtain ⟨hh, h3, h4⟩ := Res.bind_ok h2
            obtain ⟨v1, h5, h6⟩ := Res.bind_ok h4
            simp only [Res.ok.injEq, Prod.mk.injEq] at h6
            obtain ⟨rfl, rfl⟩ := h6
            refine .inr ⟨f, args', run_callFunc_enter hf hc.2 hb args' w, callsIn_wide.1 (callsIn_of_wp_marks (n := 0) hf hb trivial ?_)⟩
            have hw : wpC none P c (bodyPostM Fence.wide 0 P fn fun e w' => ∃ v', e = .returned v' ∧ ∃ μ', Ext μ H w μ' hh w' ∧ HR μ' hh w' ∧ VR μ' v1 v') { tmps := args' ++ Array.replicate (fn.ntmps - args'.size) undef, defers := [] } w := by
              refine hrec c _ e st h1 rfl μ _ w hT hH hG _ fun μ' w' a' x1 x2 x3 => ?_
              have fin : LeavesInM Fence.wide 0 P fn a'.tmps (fun e w' => ∃ v', e = .returned v' ∧ ∃ μ', Ext μ H w μ' hh w' ∧ HR μ' hh w' ∧ VR μ' v1 v') a'.defers .returning w' := by
                unfold leaveA at h3
                have hdr := x3.defers
                split at h3
                · rename_i hmd
                  rw [hmd] at hdr
                  have hdr : a'.defers = [] := hdr
                  rw [hdr]
                  simp only [Res.ok.injEq] at h3
                  subst h3
                  obtain ⟨v', g1, g2⟩ := results_run x3 x2 h5
                  exact ⟨v', g1, v', rfl, μ', x1, x2, g2⟩
                · rename_i b hmd
                  rw [hmd] at hdr
                  obtain ⟨cc, N, hm, hds⟩ := hdr
                  rw [hds]
                  obtain ⟨blk, h7, h8⟩ := Res.bind_ok h3
                  have hgb := Res.ofOpt_ok h7
                  split at h8
                  · simp only [Res.ok.injEq] at h8
                    subst h8
                    have hB := x2.blk b _ cc 0 N hgb hm
                    have hcell : w'.heap[cc]? = some (.deferred (some [])) := hB.2
                    have hlt := (x2.dom _ _ _ _ hm).2
                    have s1 : (w'.putObj cc (.deferred none)).heap.size = w'.heap.size := by simp [World.putObj]
                    have s2 : ∀ k, k ≠ cc → (w'.putObj cc (.deferred none)).heap[k]? = w'.heap[k]? := fun k hk => by simp [World.putObj, Ne.symm hk]
                    have y1 := Ext.setBlk (w' := w'.putObj cc (.deferred none)) .dead hgb (by simp) hm s1 s2 rfl rfl rfl
                    have y2 := HR.setBlk (w' := w'.putObj cc (.deferred none)) (b' := .dead) x2 hgb (by simp) hm s1 s2 trivial
                    obtain ⟨v', g1, g2⟩ := results_run (w := w'.putObj cc (.deferred none)) (st := ⟨st.t, ⟨st.h.n, st.h.b.set b .dead⟩, st.sz, st.md⟩) ⟨x3.sz, x3.defers, x3.tmps⟩ y2 h5
                    exact ⟨by simp, .inl ⟨cc, _, rfl, run_takeDeferred hcell, v', g1, v', rfl, μ', Ext.trans hH.dom' x1 y1, y2, g2⟩⟩
                  · cases h8
                · cases h3
              rcases he with rfl | rfl
              · exact fin
              · exact fin
            exact hw
          split at h
          · rename_i st hst; exact main _ _ hst (.inl rfl) h
          · rename_i st hst; exact main _ _ hst (.inr rfl) h
          · cases h
          · cases h
        · cases h
      · cases h
    · cases h
theorem setAll_R [Val] {μ : Mp} : ∀ (ps : List Tmp) (vs : List AV) (vs' : List Value) (t : PT AV) (tmps : Array Value) (sz : Nat), VRs μ vs vs' → sz ≤ tmps.size → (ps.all fun p => Nat.blt p sz) = true → (∀ i, VR μ (St.get t i) (tmps.getD i undef)) →
    sz ≤ ((ps.zip vs').foldl (fun tmps (t, a) => tmps.setIfInBounds t a) tmps).size ∧ ∀ i, VR μ (St.get (setAll ps vs t) i) (((ps.zip vs').foldl (fun tmps (t, a) => tmps.setIfInBounds t a) tmps).getD i undef)
  | [], vs, vs', t, tmps, sz, _, hs, _, ht => by
    simp only [setAll, List.zip_nil_left, List.foldl_nil]
    exact ⟨hs, ht⟩
  | p :: ps, [], vs', t, tmps, sz, hv, hs, _, ht => by
    have := hv.1
    match vs', this with
    | [], _ =>
      simp only [setAll, List.zip_nil_right, List.foldl_nil]
      exact ⟨hs, ht⟩
  | p :: ps, v :: vs, vs', t, tmps, sz, hv, hs, hp, ht => by
    obtain ⟨x, xs, rfl, h1, h2⟩ := hv.more
    simp only [List.all_cons, Bool.and_eq_true] at hp
    have hlt : p < tmps.size := Nat.lt_of_lt_of_le (by simpa [Nat.blt_eq] using hp.1) hs
    have := setAll_R (μ := μ) ps vs xs (t.set p v) (tmps.setIfInBounds p x) sz h2 (by simpa using hs) hp.2 (fun i => by
      have hg := getD_put (a := { tmps := tmps, defers := [] }) (v := x) hlt i
      simp only [Act.put] at hg
      rw [hg, get_setSt]
      split
      · exact h1
      · exact ht i)
    simp only [setAll, List.zip_cons_cons, List.foldl_cons]
    exact this
theorem jump_end [Val] {μ : Mp} {H H' : Hp} {w : World} (hH : HR μ H w) {b c N : Nat} (hm : μ b = some (c, 0, N)) {e : Ex} {v : AV} (h : endA H b e = .ok (v, H')) :
    ∃ v' w', (Instr.endRound c (jumpOf e)).run P w = .ok v' w' ∧ Ext μ H w μ H' w' ∧ HR μ H' w' ∧ VR μ v v' := by
  unfold endA at h
  obtain ⟨blk, h1, h2⟩ := Res.bind_ok h
  split at h2
  · rename_i ls pd t sz ps as bo
    simp only [Res.ok.injEq, Prod.mk.injEq] at h2
    obtain ⟨rfl, rfl⟩ := h2
    obtain ⟨r, _, r1, r2, r3, r4, r5, r6, r7, r8, r9⟩ := getLoop_ok hH hm h1
    have hlt := (hH.dom _ _ _ _ hm).2
    have key : ∀ o' : Loop, (Instr.endRound c (jumpOf e)).run P w = .ok (.bool (jumpOf e).isNone) { w with heap := w.heap.set! c (.loop o') } → o'.state = (if (jumpOf e).isNone then .ready else .done) → o'.pending = jumpOf e → o'.params = r.params → o'.assign = r.assign → o'.body = r.body → o'.tmps = r.tmps →
        ∃ v' w', (Instr.endRound c (jumpOf e)).run P w = .ok v' w' ∧ Ext μ H w μ ⟨H.n, H.b.set b (.loop (if (jumpOf e).isNone then .ready else .done) (jumpOf e) t sz ps as bo)⟩ w' ∧ HR μ ⟨H.n, H.b.set b (.loop (if (jumpOf e).isNone then .ready else .done) (jumpOf e) t sz ps as bo)⟩ w' ∧ VR μ (.bool (jumpOf e).isNone) v' := by
      intro o' k1 k2 k3 k4 k5 k6 k7
      obtain ⟨y1, y2⟩ := set_obj hH r9 (by simp) hm (.loop (if (jumpOf e).isNone then .ready else .done) (jumpOf e) t sz ps as bo) (.loop o') ⟨rfl, o', rfl, k2, k3, by rw [k4]; exact r4, by rw [k5]; exact r5, by rw [k6]; exact r6, by rw [k7]; exact r7, fun i => by rw [k7]; exact r8 i⟩
      exact ⟨_, _, k1, y1, y2, .bool _⟩
    refine key { r with state := if (jumpOf e).isNone then .ready else .done, pending := jumpOf e } ?_ rfl rfl rfl rfl rfl rfl
    simp [Instr.endRound, run_getLoop r1, run_setLoop r1]
  · cases h2
theorem call_yield [Val] {rec : Rec} (hrec : ∀ ro, CodeOK ro P gl rec) (b : Nat) (args : List AV) (H : Hp) (v : AV) (H' : Hp) (h : roundA rec b args H = .ok (v, H')) (μ : Mp) (w : World) (args' : Array Value) (c N : Nat) (ro : Option Nat) (ha : VRs μ args args'.toList) (hH : HR μ H w)
    (hG : GR gl μ H w) (hm : μ b = some (c, 0, N)) : ∃ f tmps assign body, (Instr.yield c args').run P w = .ok (.round c f tmps assign body) w ∧ RoundIn (FR ro) 0 P c f tmps assign body w fun e w' => ∃ v', e = .returned v' ∧ ∃ μ', Ext μ H w μ' H' w' ∧ HR μ' H' w' ∧ VR μ' v v' := by
  unfold roundA at h
  obtain ⟨blk, h1, h2⟩ := Res.bind_ok h
  split at h2
  · rename_i ls pd t sz ps as bo
    split at h2
    · rename_i hc
      obtain ⟨⟨e1, st1⟩, h3, h4⟩ := Res.bind_ok h2
      obtain ⟨r, _, r1, r2, r3, r4, r5, r6, r7, r8, r9⟩ := getLoop_ok hH hm h1
      have hlen : args'.size = r.params.size := by
        have h5 := ha.1
        have h6 : r.params.size = ps.length := by rw [← r4]; simp
        rw [h6, ← hc.1, h5]
        simp
      refine ⟨r.fn, (r.params.zip args').foldl (fun tmps (t, a) => tmps.setIfInBounds t a) r.tmps, r.assign, r.body, by simp [Instr.yield, run_getLoop r1, hlen], roundIn_of_wpIn trivial ?_⟩
      obtain ⟨q1, q2⟩ := setAll_R (μ := μ) ps args args'.toList t r.tmps sz ha r7 hc.2 r8
      have hzip : (r.params.zip args').foldl (fun tmps (t, a) => tmps.setIfInBounds t a) r.tmps = (ps.zip args'.toList).foldl (fun tmps (t, a) => tmps.setIfInBounds t a) r.tmps := by
        rw [← Array.foldl_toList, Array.toList_zip, r4]
      have hT : TR μ ⟨setAll ps args t, H, sz, .round⟩ { tmps := (r.params.zip args').foldl (fun tmps (t, a) => tmps.setIfInBounds t a) r.tmps, defers := [] } := ⟨by rw [hzip]; exact q1, trivial, fun i => by rw [hzip]; exact q2 i⟩
      cases e1 with
      | exit i => cases h4
      | goto l => cases h4
      | ret => cases h4
      | normal =>
        simp only at h4
        obtain ⟨h2', h5, h6⟩ := Res.bind_ok h4
        obtain ⟨⟨e2, st2⟩, h7, h8⟩ := Res.bind_ok h6
        rw [r5, r6]
        refine hrec (some c) as _ _ st1 h3 rfl μ _ w hT hH hG _ fun μ1 w1 a1 x1 x2 x3 => ?_
        -- the round begins
        unfold beginA at h5
        obtain ⟨blk', h9, h10⟩ := Res.bind_ok h5
        split at h10
        · rename_i p' t' sz' ps' as' bo'
          simp only [Res.ok.injEq] at h10
          subst h10
          obtain ⟨r', _, s1, s2, s3, s4, s5, s6, s7, s8, s9⟩ := getLoop_ok x2 (x1.sub _ _ hm) h9
          obtain ⟨y1, y2⟩ := set_obj x2 s9 (by simp) (x1.sub _ _ hm) (.loop .busy p' t' sz' ps' as' bo') (.loop { r' with state := .busy }) ⟨rfl, { r' with state := .busy }, rfl, rfl, s3, s4, s5, s6, s7, s8⟩
          refine ⟨{ w1 with heap := w1.heap.set! c (.loop { r' with state := .busy }) }, by simp [Instr.beginRound, run_getLoop s1, run_setLoop s1, s2], ?_⟩
          have hext1 := Ext.trans hH.dom' x1 y1
          refine hrec (some c) bo _ e2 st2 h7 rfl μ1 a1 _ ⟨x3.sz, trivial, x3.tmps⟩ y2 (hG.mono hH hext1) _ fun μ2 w2 a2 z1 z2 z3 => ?_
          have hext2 := Ext.trans hH.dom' hext1 z1
          obtain ⟨v', w3, k1, k2, k3, k4⟩ := jump_end (P := P) z2 (hext2.sub _ _ hm) h8
          have hext3 := Ext.trans hH.dom' hext2 k2
          cases e2 with
          | normal => exact ⟨v', w3, k1, v', rfl, μ2, hext3, k3, k4⟩
          | exit i => exact ⟨v', w3, k1, v', rfl, μ2, hext3, k3, k4⟩
          | goto l => exact ⟨v', w3, k1, v', rfl, μ2, hext3, k3, k4⟩
          | ret => exact ⟨v', w3, k1, v', rfl, μ2, hext3, k3, k4⟩
        · cases h10
    · cases h2
  · cases h2
theorem call_ok [Val] {sp : Special} {rec : Rec} (hrec : ∀ ro, CodeOK ro P gl rec) (hsp : SpecOK P gl sp) : CallOK P gl (callWith P sp rec) :=
  ⟨fun f args H v H' h => call_fn (hrec none) hsp f args H v H' h, fun b args H v H' h => call_yield hrec b args H v H' h⟩
theorem opsA_md {cf : CallF} {ops : Array Oper} : ∀ (l : List Oper) (st st' : St), opsA P gl cf ops l st = .ok st' → st'.md = st.md
  | [], st, st', h => by simp only [opsA, Res.ok.injEq] at h; rw [h]
  | o :: l, st, st', h => by
    obtain ⟨⟨b, v, hp⟩, _, h2⟩ := Res.bind_ok h
    obtain ⟨st1, h3, h4⟩ := Res.bind_ok h2
    rw [opsA_md l st1 st' h4, (putA_h h3).2.2]
theorem drawA_md {cf : CallF} {ops : Array Oper} : ∀ (l : List PStep) (pend : List Pend) (st st' : St), drawA P gl cf ops l pend st = .ok st' → st'.md = st.md
  | [], pend, st, st', h => by simp only [drawA, Res.ok.injEq] at h; rw [h]
  | s :: l, pend, st, st', h => by
    obtain ⟨_, _, _, st1, _, _, h2, _, h4⟩ := drawA_cons h
    rw [drawA_md l _ st1 st' h4, (putA_h h2).2.2]
theorem regionA_md {cf : CallF} {ops : Array Oper} {draw : Bool} {st st' : St} (h : regionA P gl cf ops draw st = .ok st') : st'.md = st.md := by
  unfold regionA at h
  split at h
  · split at h
    · unfold forkA at h
      obtain ⟨d, _, h2⟩ := Res.bind_ok h
      split at h2
      · obtain ⟨i, _, h3⟩ := Res.bind_ok h2
        split at h3
        · split at h3
          · simp only at h3
            obtain ⟨st1, h4, h5⟩ := Res.bind_ok h3
            rw [(putA_h h5).2.2, (putA_h h4).2.2]
          · cases h3
        · cases h3
      · cases h2
    · split at h
      · obtain ⟨st1, h1, h2⟩ := Res.bind_ok h
        have e1 := drawA_md _ _ _ _ h1
        split at h2
        · simp only [Res.ok.injEq] at h2; rw [← h2, e1]
        · unfold twoA at h2
          obtain ⟨b, _, h3⟩ := Res.bind_ok h2
          obtain ⟨b', _, h4⟩ := Res.bind_ok h3
          split at h4
          · cases h4
          · obtain ⟨⟨_, v, hp⟩, _, h5⟩ := Res.bind_ok h4
            obtain ⟨st2, h6, h7⟩ := Res.bind_ok h5
            obtain ⟨⟨_, v', hp'⟩, _, h8⟩ := Res.bind_ok h7
            rw [(putA_h h8).2.2, (putA_h h6).2.2, e1]
      · cases h
  · exact opsA_md _ _ _ h
theorem loopA_md {rec : Rec} (hmd : MdOK rec) (body : Code) : ∀ (k : Nat) (st : St) (e : Ex) (st' : St), loopA rec body k st = .ok (e, st') → isRd st'.md = isRd st.md
  | 0, st, e, st', h => by simp [loopA] at h
  | k + 1, st, e, st', h => by
    obtain ⟨⟨e1, st1⟩, h1, h2⟩ := Res.bind_ok h
    have := hmd _ _ _ _ h1
    cases e1 with
    | normal => rw [loopA_md hmd body k st1 e st' h2, this]
    | exit i => cases h2; exact this
    | goto l => cases h2; exact this
    | ret => cases h2; exact this
theorem scopeA_md {rec : Rec} (hmd : MdOK rec) (body : Code) : ∀ (k : Nat) (cur : Code) (st : St) (e : Ex) (st' : St), scopeA rec body k cur st = .ok (e, st') → isRd st'.md = isRd st.md
  | 0, cur, st, e, st', h => by simp [scopeA] at h
  | k + 1, cur, st, e, st', h => by
    obtain ⟨⟨e1, st1⟩, h1, h2⟩ := Res.bind_ok h
    have := hmd _ _ _ _ h1
    cases e1 with
    | normal => cases h2; exact this
    | exit i => cases h2; exact this
    | goto l =>
      simp only at h2
      split at h2
      · rw [scopeA_md hmd body k _ st1 e st' h2, this]
      · cases h2; exact this
    | ret => cases h2; exact this
theorem stepA_md {cf : CallF} {rec : Rec} (hmd : MdOK rec) {c : Code} {st st' : St} {e : Ex} (h : stepA P gl cf rec c st = .ok (e, st')) : isRd st'.md = isRd st.md := by
  unfold stepA at h
  split at h
  · cases h; rfl
  · cases h; rfl
  · obtain ⟨st1, h1, h2⟩ := Res.bind_ok h
    cases h2
    rw [regionA_md h1]
  · obtain ⟨⟨e1, st1⟩, h1, h2⟩ := Res.bind_ok h
    have := hmd _ _ _ _ h1
    cases e1 with
    | normal => rw [hmd _ _ _ _ h2, this]
    | exit i => cases h2; exact this
    | goto l => cases h2; exact this
    | ret => cases h2; exact this
  · obtain ⟨v, h1, h2⟩ := Res.bind_ok h
    split at h2
    · exact hmd _ _ _ _ h2
    · exact hmd _ _ _ _ h2
    · obtain ⟨⟨e1, st1⟩, h3, h4⟩ := Res.bind_ok h2
      obtain ⟨⟨e2, st2⟩, h5, h6⟩ := Res.bind_ok h4
      have := (joinA_ok h6).1.2.2.2.1
      rw [this]
      exact hmd _ _ _ _ h3
    · cases h2
  · obtain ⟨⟨e1, st1⟩, h1, h2⟩ := Res.bind_ok h
    have := hmd _ _ _ _ h1
    cases e1 with
    | normal => cases h2; exact this
    | exit i =>
      simp only at h2
      split at h2
      · cases h2; exact this
      · cases h2; exact this
    | goto l => cases h2; exact this
    | ret => cases h2; exact this
  · exact loopA_md hmd _ _ _ _ _ h
  · exact scopeA_md hmd _ _ _ _ _ _ h
  · cases h; rfl
  · cases h; rfl
  · cases h; rfl
  · unfold rangeFuncA at h
    split at h
    · rename_i htop
      obtain ⟨fv, _, h2⟩ := Res.bind_ok h
      split at h2
      · split at h2
        · simp only [newBlk] at h2
          obtain ⟨⟨v, h3⟩, _, h5⟩ := Res.bind_ok h2
          obtain ⟨blk, _, h7⟩ := Res.bind_ok h5
          split at h7
          · split at h7
            · cases h7
            · split at h7
              · cases h7; rw [htop]; rfl
              · rw [hmd _ _ _ _ h7, htop]; rfl
          · cases h7
        · cases h2
      · cases h2
    · cases h
  · cases h
theorem evalC_md (sp : Special) : ∀ n, MdOK (evalC P gl sp n)
  | 0 => fun c st e st' h => by simp [evalC] at h
  | n + 1 => fun c st e st' h => stepA_md (evalC_md sp n) (show stepA P gl (callWith P sp (evalC P gl sp n)) (evalC P gl sp n) c st = .ok (e, st') from h)
theorem evalC_ok [Val] (hm : P.follows .mixedOrders = true) {sp : Special} (hsp : SpecOK P gl sp) : ∀ n ro, CodeOK ro P gl (evalC P gl sp n)
  | 0, _ => fun c st e st' h => by simp [evalC] at h
  | n + 1, ro => fun c st e st' h hrd μ a w hT hH hG Q hQ => by
    have ih := evalC_ok hm hsp n
    exact step_wp hm (call_ok ih hsp) (evalC_md sp n) (ih ro) hrd (show stepA P gl (callWith P sp (evalC P gl sp n)) (evalC P gl sp n) c st = .ok (e, st') from h) hT hH hG hQ
theorem evalF_calls [Val] (hm : P.follows .mixedOrders = true) {sp : Special} (hsp : SpecOK P gl sp) {n : Nat} {f : FuncId} {args : List AV} {H H' : Hp} {v : AV} (h : evalF P gl sp n f args H = .ok (v, H'))
    {fn : Func} {c : Code} (hf : P.funcs[f]? = some fn) (hname : fn.name ≠ "runtime.NumGoroutine") (hb : fn.body = some c) {μ : Mp} {w : World} {args' : Array Value} (ha : VRs μ args args'.toList) (hH : HR μ H w) (hG : GR gl μ H w) :
    Calls P f args' w fun e w' => ∃ v', e = .returned v' ∧ ∃ μ', Ext μ H w μ' H' w' ∧ HR μ' H' w' ∧ VR μ' v v' := by
  have hrun := run_callFunc_enter hf hname hb args' w
  rcases (call_ok (evalC_ok hm hsp n) hsp).fn f args H v H' h μ w args' ha hH hG with ⟨v', w', g1, _⟩ | ⟨f', args2, g1, g2⟩
  · rw [hrun] at g1; cases g1
  · rw [hrun] at g1
    cases g1
    exact g2
end
end Go.Ab

namespace Go.Ab
def posOf (c : Nat) : List Nat → Nat → Option Nat
  | [], _ => none
  | x :: l, i => if Nat.beq x c then some i else posOf c l (i + 1)
def indexByteA (args : List AV) (h : Hp) : Res (AV × Hp) :=
  match args with
  | [.str s, .int .u8 c] => if 0 ≤ c ∧ c < 256 then .ok (.int .i64 (match posOf c.toNat s 0 with | some i => (i : Int) | none => -1), h) else .err 201
  | _ => .err 202
theorem posOf_find (b : ByteArray) (c : UInt8) : ∀ (m k : Nat), k + m = b.size → posOf c.toNat ((b.data.toList.map (·.toNat)).drop k) k = (List.range' k m).find? fun i => b[i]! == c
  | 0, k, h => by
    have : (b.data.toList.map (·.toNat)).length ≤ k := by simp; omega
    rw [List.drop_of_length_le this]
    rfl
  | m + 1, k, h => by
    have hk : k < b.size := by omega
    have hk' : k < (b.data.toList.map (·.toNat)).length := by simpa using hk
    rw [List.drop_eq_getElem_cons hk', List.range'_succ, List.find?_cons]
    have e1 : (b.data.toList.map (·.toNat))[k] = (b[k]'hk).toNat := by
      simp
      rfl
    have e2 : b[k]! = b[k]'hk := by simp [getElem!_pos, hk]
    simp only [posOf, e1, e2]
    by_cases hc : b[k]'hk = c
    · simp [hc]
    · have h1 : Nat.beq (b[k]'hk).toNat c.toNat = false := by
        cases hb : Nat.beq (b[k]'hk).toNat c.toNat with
        | false => rfl
        | true => exact absurd (UInt8.toNat_inj.1 (Nat.eq_of_beq_eq_true hb)) hc
      have h2 : (b[k]'hk == c) = false := by simpa using hc
      rw [h1, h2]
      simpa using posOf_find b c m (k + 1) (by omega)
theorem indexByte_goes [Val] {P : Program} {f : FuncId} {fn : Func} (hf : P.funcs[f]? = some fn) (hname : (fn.name == "runtime.NumGoroutine") = false) (hb : fn.body.isNone = true) (hn : Extern.findNext fn = none) (he : Extern.find fn = some Extern.BytealgIndexByte.indexByte)
    {args : List AV} {H : Hp} {v : AV} {H' : Hp} (h : indexByteA args H = .ok (v, H')) {μ : Mp} {w : World} {args' : Array Value} (ha : VRs μ args args'.toList) (hH : HR μ H w) :
    Goes P (callFunc f args') w fun v' w' => ∃ μ', Ext μ H w μ' H' w' ∧ HR μ' H' w' ∧ VR μ' v v' := by
  unfold indexByteA at h
  split at h
  · rename_i s c
    split at h
    · rename_i hc
      simp only [Res.ok.injEq, Prod.mk.injEq] at h
      obtain ⟨rfl, rfl⟩ := h
      obtain ⟨args'⟩ := args'
      simp only at ha
      obtain ⟨x, y, rfl, hx, hy⟩ := ha.two
      cases hx with
      | str _ b hbs =>
        cases hy
        have hc8 : c.toNat.toUInt8.toNat = c.toNat := by
          simp
          omega
        have hp := posOf_find b c.toNat.toUInt8 b.size 0 (by omega)
        rw [hc8, List.drop_zero, hbs, ← List.range_eq_range'] at hp
        refine .inl ⟨.int .i64 (match posOf c.toNat s 0 with | some i => (i : Int) | none => -1), w, ?_, μ, .refl μ H w, hH, .int _ _⟩
        rw [run_callFunc_indexByte hf hname hb hn he]
        have e : Extern.BytealgIndexByte.indexByte #[.string b, .int .u8 c] = (do
            let b ← Extern.Bytes.bytesOf (.string b)
            let c ← Extern.Bytes.asByte (.int .u8 c)
            match (List.range b.size).find? fun i => b[i]! == c with
            | some i => pure (goInt i)
            | none => pure (goInt (-1)) : Sem Value) := rfl
        rw [e]
        simp only [Extern.Bytes.bytesOf, Extern.Bytes.asByte, Sem.run_bind, Sem.run_pure, Result.andThen_ok]
        rw [hp]
        cases (List.range b.size).find? fun i => b[i]! == c.toNat.toUInt8 <;> simp [goInt]
    · cases h
  · cases h
end Go.Ab

namespace Go.Ab
def preN : List Nat → List Nat → Bool
  | [], _ => true
  | _ :: _, [] => false
  | a :: x, b :: y => Nat.beq a b && preN x y
def posN (q : List Nat) : List Nat → Nat → Option Nat
  | [], i => if q.isEmpty then some i else none
  | b :: l, i => if preN q (b :: l) then some i else posN q l (i + 1)
def spN (n : Nat) : Bool := Nat.beq n 32 || (Nat.ble 9 n && Nat.ble n 13)
def fieldsN : List Nat → List Nat → List (List Nat)
  | cur, [] => if cur.isEmpty then [] else [cur]
  | cur, b :: l => if spN b then (if cur.isEmpty then fieldsN [] l else cur :: fieldsN [] l) else fieldsN (cur ++ [b]) l
theorem beq8 (a b : UInt8) : Nat.beq a.toNat b.toNat = (a == b) := by
  rw [Bool.eq_iff_iff, beq_iff_eq, Nat.beq_eq]
  exact UInt8.toNat_inj
theorem preN_eq : ∀ (q l : List UInt8), preN (q.map (·.toNat)) (l.map (·.toNat)) = q.isPrefixOf l
  | [], l => by cases l <;> rfl
  | a :: q, [] => rfl
  | a :: q, b :: l => by simp only [List.map_cons, preN, List.isPrefixOf, beq8, preN_eq q l]
theorem posN_eq (q : List UInt8) : ∀ (l : List UInt8) (i : Nat), (posN (q.map (·.toNat)) (l.map (·.toNat)) i = none ∧ Lib.index l q = -1) ∨ ∃ j : Nat, posN (q.map (·.toNat)) (l.map (·.toNat)) i = some (i + j) ∧ Lib.index l q = j
  | [], i => by
    cases q with
    | nil => exact .inr ⟨0, rfl, rfl⟩
    | cons a q => exact .inl ⟨rfl, rfl⟩
  | b :: l, i => by
    have hp := preN_eq q (b :: l)
    simp only [List.map_cons] at hp
    simp only [List.map_cons, posN, Lib.index, hp]
    by_cases h : q.isPrefixOf (b :: l) = true
    · rw [if_pos h, if_pos h]; exact .inr ⟨0, rfl, rfl⟩
    · rw [if_neg h, if_neg h]
      rcases posN_eq q l (i + 1) with ⟨h1, h2⟩ | ⟨j, h1, h2⟩
      · rw [h1, h2]; exact .inl ⟨rfl, rfl⟩
      · rw [h1, h2]
        refine .inr ⟨j + 1, by rw [show i + 1 + j = i + (j + 1) by omega], ?_⟩
        rw [if_neg (by simp <;> omega)]
        try simp
theorem spN_eq (b : UInt8) : spN b.toNat = Lib.isSp b := by
  have e : ∀ k : UInt8, (b == k) = decide (b.toNat = k.toNat) := fun k => by
    rw [Bool.eq_iff_iff, beq_iff_eq, decide_eq_true_eq]; exact UInt8.toNat_inj.symm
  unfold spN Lib.isSp
  rw [e, e, e, e, e, e, Bool.eq_iff_iff]
  simp only [Bool.or_eq_true, Bool.and_eq_true, decide_eq_true_eq, Nat.beq_eq, Nat.ble_eq]
  have h : (9 : UInt8).toNat = 9 ∧ (10 : UInt8).toNat = 10 ∧ (11 : UInt8).toNat = 11 ∧ (12 : UInt8).toNat = 12 ∧ (13 : UInt8).toNat = 13 ∧ (32 : UInt8).toNat = 32 := by decide
  obtain ⟨h1, h2, h3, h4, h5, h6⟩ := h
  rw [h1, h2, h3, h4, h5, h6]
  omega
theorem fieldsN_eq : ∀ (l cur : List UInt8), fieldsN (cur.map (·.toNat)) (l.map (·.toNat)) = (Lib.fieldsGo cur l).map fun x => x.map (·.toNat)
  | [], cur => by cases cur <;> rfl
  | b :: l, cur => by
    have h1 := fieldsN_eq l []
    have h2 := fieldsN_eq l (cur ++ [b])
    simp only [List.map_cons, fieldsN, Lib.fieldsGo, spN_eq]
    by_cases h : Lib.isSp b = true
    · rw [if_pos h, if_pos h]
      cases cur with
      | nil => exact h1
      | cons a c => simp only [List.map_cons, List.isEmpty_cons, Bool.false_eq_true, if_false]; rw [← h1]; rfl
    · rw [if_neg h, if_neg h, ← h2]
      simp
def indexStrA (args : List AV) (h : Hp) : Res (AV × Hp) :=
  match args with
  | [.str s, .str q] => if s.length < 1000000 then .ok (.int .i64 (match posN q s 0 with | some i => Int.ofNat i | none => -1), h) else .err 204
  | _ => .err 205
theorem cell_of_heap {w w0 : World} {g : Nat} (h : w.heap[g]? = w0.heap[g]?) (o : Nat) : w.cell? ⟨g, o, none⟩ = w0.cell? ⟨g, o, none⟩ := by
  simp only [World.cell?, h]
theorem indexStr_goes [Val] {P : Program} {gl : Gam} {f : FuncId} {g : Nat} {m : Int} (hc : ∀ (s sub : ByteArray) (m : Int) (w : World), s.size < 4294967281 → w.cell? ⟨g, 0, none⟩ = some (.int .i64 m) →
      Calls P f #[.string s, .string sub] w fun e w' => e = .returned (.int .i64 (Lib.index s.data.toList sub.data.toList)) ∧ w' = w)
    (hent : ∀ args w, (callFunc f args).run P w = .ok (.enter f args) w) (hg : g ∈ gl.rl) (hm : gl.w0.cell? ⟨g, 0, none⟩ = some (.int .i64 m))
    {args : List AV} {H : Hp} {v : AV} {H' : Hp} (h : indexStrA args H = .ok (v, H')) {μ : Mp} {w : World} {args' : Array Value} (ha : VRs μ args args'.toList) (hH : HR μ H w) (hG : GR gl μ H w) :
    Goes P (callFunc f args') w fun v' w' => ∃ μ', Ext μ H w μ' H' w' ∧ HR μ' H' w' ∧ VR μ' v v' := by
  unfold indexStrA at h
  split at h
  · rename_i s q
    split at h
    · rename_i hlen
      simp only [Res.ok.injEq, Prod.mk.injEq] at h
      obtain ⟨rfl, rfl⟩ := h
      obtain ⟨args'⟩ := args'
      simp only at ha
      obtain ⟨x, y, rfl, hx, hy⟩ := ha.two
      cases hx with
      | str _ b hb =>
        cases hy with
        | str _ b2 hb2 =>
          have hs : b.size < 4294967281 := by
            have : s.length = b.size := by rw [← hb]; simp
            omega
          refine .inr ⟨f, _, hent _ w, (hc b b2 m w hs (by rw [cell_of_heap (hG.same g hg)]; exact hm)).mono fun e w' he => ?_⟩
          obtain ⟨rfl, rfl⟩ := he
          refine ⟨_, rfl, μ, .refl μ H w', hH, ?_⟩
          have := posN_eq b2.data.toList b.data.toList 0
          rw [hb, hb2] at this
          rcases this with ⟨h1, h2⟩ | ⟨j, h1, h2⟩
          · rw [h1, h2]; exact .int _ _
          · rw [h1, h2, Nat.zero_add]; exact .int _ _
    · cases h
  · cases h
def fieldsA (args : List AV) (h : Hp) : Res (AV × Hp) :=
  match args with
  | [.str s] => if s.length < 1000000 ∧ s.all (fun b => Nat.ble b 127) = true then
      let l := fieldsN [] s
      let (i, h) := newCells h (l.map AV.str) false
      .ok (.slice i 0 l.length (some l.length) 1, h)
    else .err 209
  | _ => .err 210
theorem fields_goes [Val] {P : Program} {gl : Gam} {f : FuncId} {g ty : Nat} (hc : ∀ (s : ByteArray) (w : World), s.size < 4294967281 → (∀ (j : Nat) b, s.data.toList[j]? = some b → b.toNat < 128) → (∀ c : Nat, c < 256 → w.cell? ⟨g, c, none⟩ = some (.int .u8 (if Lib.isSp (UInt8.ofNat c) then 1 else 0))) →
      Calls P f #[.string s] w fun e w' => e = .returned (.slice (some ⟨w.heap.size, 0, none⟩) (Lib.fields s.data.toList).length (Lib.fields s.data.toList).length) ∧ w' = w.alloc (.cells ((Lib.fields s.data.toList).map fun l => Value.string ⟨l.toArray⟩).toArray ty))
    (hent : ∀ args w, (callFunc f args).run P w = .ok (.enter f args) w) (hg : g ∈ gl.rl) (htab : ∀ c : Nat, c < 256 → gl.w0.cell? ⟨g, c, none⟩ = some (.int .u8 (if Lib.isSp (UInt8.ofNat c) then 1 else 0)))
    {args : List AV} {H : Hp} {v : AV} {H' : Hp} (h : fieldsA args H = .ok (v, H')) {μ : Mp} {w : World} {args' : Array Value} (ha : VRs μ args args'.toList) (hH : HR μ H w) (hG : GR gl μ H w) :
    Goes P (callFunc f args') w fun v' w' => ∃ μ', Ext μ H w μ' H' w' ∧ HR μ' H' w' ∧ VR μ' v v' := by
  unfold fieldsA at h
  split at h
  · rename_i s
    split at h
    · rename_i hlen
      obtain ⟨hlen, hasc⟩ := hlen
      simp only [Res.ok.injEq, Prod.mk.injEq] at h
      obtain ⟨rfl, rfl⟩ := h
      obtain ⟨args'⟩ := args'
      simp only at ha
      obtain ⟨x, rfl, hx⟩ := ha.single
      cases hx with
      | str _ b hb =>
        have hs : b.size < 4294967281 := by
          have : s.length = b.size := by rw [← hb]; simp
          omega
        have hasc' : ∀ (j : Nat) c, b.data.toList[j]? = some c → c.toNat < 128 := fun j c hj => by
          have hmem : c.toNat ∈ s := by rw [← hb]; exact List.mem_map_of_mem (List.mem_of_getElem? hj)
          have := Nat.le_of_ble_eq_true (List.all_eq_true.1 hasc _ hmem)
          omega
        have hf : fieldsN [] s = (Lib.fields b.data.toList).map fun x => x.map (·.toNat) := by
          have := fieldsN_eq b.data.toList []
          rw [hb] at this
          exact this
        have hll : (fieldsN [] s).length = (Lib.fields b.data.toList).length := by rw [hf]; simp
        refine .inr ⟨f, _, hent _ w, (hc b w hs hasc' fun c hcc => by rw [cell_of_heap (hG.same g hg)]; exact htab c hcc).mono fun e w' he => ?_⟩
        obtain ⟨rfl, rfl⟩ := he
        have hcs : VRs μ ((fieldsN [] s).map AV.str) ((((Lib.fields b.data.toList).map fun l => Value.string ⟨l.toArray⟩).toArray).toList.take ((fieldsN [] s).map AV.str).length) := by
          rw [List.take_of_length_le (by simp [hll])]
          refine ⟨by simp [hll], fun i v v' h1 h2 => ?_⟩
          rw [hf] at h1
          simp only [List.map_map, List.getElem?_map] at h1 h2
          cases hi : (Lib.fields b.data.toList)[i]? with
          | none => rw [hi] at h1; cases h1
          | some l =>
            rw [hi] at h1 h2
            simp only [Option.map_some, Option.some.injEq] at h1 h2
            subst h1; subst h2
            exact .str _ _ rfl
        obtain ⟨e1, e2⟩ := newCells_sim hH false hcs (by simp [oneCell]) ty 0 0 (.inl rfl) (fun h => by cases h)
        refine ⟨_, rfl, _, e1, e2, ?_⟩
        rw [hll]
        refine .slice H.n 0 _ _ 1 ⟨w.heap.size, 0, none⟩ _ w.heap.size 0 _ (Nat.le_refl _) (fun k hk => by cases hk; rfl) (by omega) (Mp.put_self _ _ _) fun _ => ⟨rfl, by simp⟩
    · cases h
  · cases h
def withinA (args : List AV) (h : Hp) : Res (AV × Hp) :=
  match args with
  | [.cls m k, .int .i64 n] => if 0 < n ∧ n < 1000000 ∧ m % n.toNat = 0 then .ok (.int .i64 ((k % n.toNat : Nat) : Int), h) else .err 206
  | [.int .i64 x, .int .i64 n] => if 0 < n ∧ n < 1000000 then .ok (.int .i64 (x % n), h) else .err 208
  | [.rng m lo hi, .int .i64 n] => if n = (m : Int) ∧ 0 < m ∧ m < 1000000 then .ok (.rng 0 lo hi, h) else .err 206
  | _ => .err 207
theorem within_goes [Val] {P : Program} {f : FuncId} (hc : ∀ (x m : Int) (w : World), 0 < m → m < 1000000 → Calls P f #[.int .i64 x, .int .i64 m] w fun e w' => e = .returned (.int .i64 (x % m)) ∧ w' = w)
    (hent : ∀ args w, (callFunc f args).run P w = .ok (.enter f args) w)
    {args : List AV} {H : Hp} {v : AV} {H' : Hp} (h : withinA args H = .ok (v, H')) {μ : Mp} {w : World} {args' : Array Value} (ha : VRs μ args args'.toList) (hH : HR μ H w) :
    Goes P (callFunc f args') w fun v' w' => ∃ μ', Ext μ H w μ' H' w' ∧ HR μ' H' w' ∧ VR μ' v v' := by
  unfold withinA at h
  split at h
  · rename_i m k n
    split at h
    · rename_i hk
      simp only [Res.ok.injEq, Prod.mk.injEq] at h
      obtain ⟨rfl, rfl⟩ := h
      obtain ⟨args'⟩ := args'
      simp only at ha
      obtain ⟨x, y, rfl, hx, hy⟩ := ha.two
      cases hx with
      | cls _ _ x hx =>
        cases hy
        refine .inr ⟨f, _, hent _ w, (hc x n w hk.1 hk.2.1).mono fun e w' he => ?_⟩
        obtain ⟨rfl, rfl⟩ := he
        refine ⟨_, rfl, μ, .refl μ H w', hH, ?_⟩
        obtain ⟨d, hd⟩ := Nat.dvd_of_mod_eq_zero hk.2.2
        obtain ⟨cn, rfl⟩ : ∃ cn : Nat, n = (cn : Int) := ⟨n.toNat, by omega⟩
        simp only [Int.toNat_natCast] at hd ⊢
        have hxc : x % (cn : Int) = ((k % cn : Nat) : Int) := by
          have e1 : x % (cn : Int) = (x % (m : Int)) % (cn : Int) := by
            exact (Int.emod_emod_of_dvd x (Int.ofNat_dvd.2 ⟨d, hd⟩)).symm
          rw [e1, hx]
          norm_cast
        rw [hxc]
        exact .int _ _
    · cases h
  · rename_i x n
    split at h
    · rename_i hk
      simp only [Res.ok.injEq, Prod.mk.injEq] at h
      obtain ⟨rfl, rfl⟩ := h
      obtain ⟨args'⟩ := args'
      simp only at ha
      obtain ⟨x', y, rfl, hx, hy⟩ := ha.two
      cases hx
      cases hy
      refine .inr ⟨f, _, hent _ w, (hc x n w hk.1 hk.2).mono fun e w' he => ?_⟩
      obtain ⟨rfl, rfl⟩ := he
      exact ⟨_, rfl, μ, .refl μ H w', hH, .int _ _⟩
    · cases h
  · rename_i m lo hi n
    split at h
    · rename_i hk
      obtain ⟨rfl, h0, h1⟩ := hk
      simp only [Res.ok.injEq, Prod.mk.injEq] at h
      obtain ⟨rfl, rfl⟩ := h
      obtain ⟨args'⟩ := args'
      simp only at ha
      obtain ⟨x, y, rfl, hx, hy⟩ := ha.two
      cases hx with
      | rng _ _ _ x g0 g1 =>
        cases hy
        rw [if_neg (by omega)] at g0 g1
        refine .inr ⟨f, _, hent _ w, (hc x m w (by omega) (by omega)).mono fun e w' he => ?_⟩
        obtain ⟨rfl, rfl⟩ := he
        exact ⟨_, rfl, μ, .refl μ H w', hH, .rng 0 _ _ _ (by simpa using g0) (by simpa using g1)⟩
    · cases h
  · cases h
end Go.Ab

namespace Go.Ab
open Go.Sort
def fmtIntA (args : List AV) (h : Hp) : Res (AV × Hp) :=
  match args with
  | [.int .i64 n, .int .i64 10] => if -9223372036854775808 ≤ n ∧ n ≤ 9223372036854775807 then .ok (.str ((Lib.itoa n).map (·.toNat)), h) else .err 211
  | [.sym (.lin .i64 c x y _ _), .int .i64 10] => .ok (.sym (.str [.dec c x y]), h)
  | _ => .err 212
theorem drewN_heap (k : Nat) (w : World) : (w.drewN k).heap = w.heap ∧ (w.drewN k).os = w.os ∧ (w.drewN k).tape = w.tape ∧ (w.drewN k).output = w.output := ⟨rfl, rfl, rfl, rfl⟩
theorem grown_ext [Val] {μ : Mp} {H : Hp} {w : World} (hH : HR μ H w) (k : Nat) (os : Array Obj) : Ext μ H w μ H (grow (w.drewN k) os) ∧ HR μ H (grow (w.drewN k) os) := by
  obtain ⟨d1, d2, d3, d4⟩ := drewN_heap k w
  have hold : ∀ i, i < w.heap.size → (grow (w.drewN k) os).heap[i]? = w.heap[i]? := fun i hi => by
    rw [heap_grow_old _ _ (by rw [d1]; exact hi), d1]
  have hsz : w.heap.size ≤ (grow (w.drewN k) os).heap.size := by
    show w.heap.size ≤ ((w.drewN k).heap ++ os).size
    rw [d1]; simp
  constructor
  · exact {
      sub := .refl μ
      fresh := fun i x h h' => by rw [h] at h'; cases h'
      n := Nat.le_refl _
      old := fun _ _ _ => .inl rfl
      alive := fun _ _ h => h
      size := hsz
      newc := fun i c s N h h' => by rw [h] at h'; cases h'
      frame := fun i hi _ => hold i hi
      os := d2
      tape := d3
      output := d4 }
  · exact ⟨fun i c s N h => ⟨(hH.dom i c s N h).1, Nat.lt_of_lt_of_le (hH.dom i c s N h).2 hsz⟩, hH.low, fun i b c s N h1 h2 => by rw [hold c (hH.dom i c s N h2).2]; exact hH.blk i b c s N h1 h2, hH.inj⟩
theorem fmtInt_goes [Val] {P : Program} {gl : Gam} {f : FuncId} {g : Nat} (hc : ∀ (n : Int) (w : World), -9223372036854775808 ≤ n → n ≤ 9223372036854775807 → Lib.TabIs P w "internal/strconv.uint64pow10" .u64 Lib.pow10Tab →
      Calls P f #[.int .i64 n, .int .i64 10] w fun e w' => e = .returned (.string ⟨(Lib.itoa n).toArray⟩) ∧ ∃ k os, w' = grow (w.drewN k) os)
    (hent : ∀ args w, (callFunc f args).run P w = .ok (.enter f args) w) (hg : g ∈ gl.rl) (ht : ∀ w : World, w.heap[g]? = gl.w0.heap[g]? → Lib.TabIs P w "internal/strconv.uint64pow10" .u64 Lib.pow10Tab)
    {args : List AV} {H : Hp} {v : AV} {H' : Hp} (h : fmtIntA args H = .ok (v, H')) {μ : Mp} {w : World} {args' : Array Value} (ha : VRs μ args args'.toList) (hH : HR μ H w) (hG : GR gl μ H w) :
    Goes P (callFunc f args') w fun v' w' => ∃ μ', Ext μ H w μ' H' w' ∧ HR μ' H' w' ∧ VR μ' v v' := by
  unfold fmtIntA at h
  split at h
  · rename_i n
    split at h
    · rename_i hn
      simp only [Res.ok.injEq, Prod.mk.injEq] at h
      obtain ⟨rfl, rfl⟩ := h
      obtain ⟨args'⟩ := args'
      simp only at ha
      obtain ⟨x, y, rfl, hx, hy⟩ := ha.two
      cases hx
      cases hy
      refine .inr ⟨f, _, hent _ w, (hc n w hn.1 hn.2 (ht w (hG.same g hg))).mono fun e w' he => ?_⟩
      obtain ⟨rfl, k, os, rfl⟩ := he
      obtain ⟨q1, q2⟩ := grown_ext hH k os
      exact ⟨_, rfl, μ, q1, q2, .str _ _ (by simp)⟩
    · cases h
  · rename_i c x y _ _
    simp only [Res.ok.injEq, Prod.mk.injEq] at h
    obtain ⟨rfl, rfl⟩ := h
    obtain ⟨args'⟩ := args'
    simp only at ha
    obtain ⟨u, z, rfl, hx, hy⟩ := ha.two
    have hx : VR μ (.int .i64 (IntKind.i64.wrap (valE c x y))) u := hx.symI.2
    cases hx
    cases hy
    have hr := wrap64_lo (valE c x y)
    refine .inr ⟨f, _, hent _ w, (hc (IntKind.i64.wrap (valE c x y)) w hr.1 hr.2 (ht w (hG.same g hg))).mono fun e w' he => ?_⟩
    obtain ⟨rfl, k, os, rfl⟩ := he
    obtain ⟨q1, q2⟩ := grown_ext hH k os
    refine ⟨_, rfl, μ, q1, q2, .sym (.str [.dec c x y]) _ trivial (.str _ _ ?_)⟩
    simp [exps, SP.bytes]
  · cases h
def decA (args : List AV) (h : Hp) : Res (AV × Hp) :=
  match args with
  | [.int .i64 n] => if -9223372036854775808 ≤ n ∧ n ≤ 9223372036854775807 then .ok (.str ((Lib.itoa n).map (·.toNat)), h) else .err 213
  | [.sym (.lin .i64 c x y _ _)] => .ok (.sym (.str [.dec c x y]), h)
  | _ => .err 214
theorem dec_goes [Val] {P : Program} {f : FuncId} (hc : ∀ (n : Int) (w : World), -9223372036854775808 ≤ n → n ≤ 9223372036854775807 → Calls P f #[.int .i64 n] w fun e w' => e = .returned (.string ⟨(Lib.itoa n).toArray⟩) ∧ ∃ k os, w' = grow (w.drewN k) os)
    (hent : ∀ args w, (callFunc f args).run P w = .ok (.enter f args) w) {args : List AV} {H : Hp} {v : AV} {H' : Hp} (h : decA args H = .ok (v, H')) {μ : Mp} {w : World} {args' : Array Value} (ha : VRs μ args args'.toList) (hH : HR μ H w) :
    Goes P (callFunc f args') w fun v' w' => ∃ μ', Ext μ H w μ' H' w' ∧ HR μ' H' w' ∧ VR μ' v v' := by
  unfold decA at h
  split at h
  · rename_i n
    split at h
    · rename_i hn
      simp only [Res.ok.injEq, Prod.mk.injEq] at h
      obtain ⟨rfl, rfl⟩ := h
      obtain ⟨args'⟩ := args'
      simp only at ha
      obtain ⟨x, rfl, hx⟩ := ha.single
      cases hx
      refine .inr ⟨f, _, hent _ w, (hc n w hn.1 hn.2).mono fun e w' he => ?_⟩
      obtain ⟨rfl, k, os, rfl⟩ := he
      obtain ⟨q1, q2⟩ := grown_ext hH k os
      exact ⟨_, rfl, μ, q1, q2, .str _ _ (by simp)⟩
    · cases h
  · rename_i c x y _ _
    simp only [Res.ok.injEq, Prod.mk.injEq] at h
    obtain ⟨rfl, rfl⟩ := h
    obtain ⟨args'⟩ := args'
    simp only at ha
    obtain ⟨u, rfl, hx⟩ := ha.single
    have hx : VR μ (.int .i64 (IntKind.i64.wrap (valE c x y))) u := hx.symI.2
    cases hx
    have hr := wrap64_lo (valE c x y)
    refine .inr ⟨f, _, hent _ w, (hc (IntKind.i64.wrap (valE c x y)) w hr.1 hr.2).mono fun e w' he => ?_⟩
    obtain ⟨rfl, k, os, rfl⟩ := he
    obtain ⟨q1, q2⟩ := grown_ext hH k os
    refine ⟨_, rfl, μ, q1, q2, .sym (.str [.dec c x y]) _ trivial (.str _ _ ?_)⟩
    simp [exps, SP.bytes]
  · cases h
end Go.Ab

namespace Go.Ab
def setBs : HT → List (Nat × Blk) → HT
  | t, [] => t
  | t, p :: l => setBs (t.set p.1 p.2) l
theorem setBs_get : ∀ (l : List (Nat × Blk)) (t : HT) (i : Nat), (∃ b, (i, b) ∈ l ∧ (setBs t l).get i = some b) ∨ ((∀ b, (i, b) ∉ l) ∧ (setBs t l).get i = t.get i)
  | [], t, i => .inr ⟨fun b h => (by cases h), rfl⟩
  | p :: l, t, i => by
    rcases setBs_get l (t.set p.1 p.2) i with ⟨b, h1, h2⟩ | ⟨h1, h2⟩
    · exact .inl ⟨b, List.mem_cons_of_mem _ h1, h2⟩
    · have h2 : (setBs t (p :: l)).get i = _ := h2
      rw [HT.get_set] at h2
      by_cases e : p.1 = i
      · rw [if_pos e] at h2
        exact .inl ⟨p.2, by rw [← e]; exact List.mem_cons_self, h2⟩
      · rw [if_neg e] at h2
        exact .inr ⟨fun b hb => by
          rcases List.mem_cons.1 hb with hb | hb
          · exact e (by rw [← hb])
          · exact h1 b hb, h2⟩
structure Cert where
  n0 : Nat
  args : List AV
  rd : List (Nat × Blk)
  ch : List (Nat × Blk)
  n1 : Nat
  v : AV
  wr : List (Nat × Blk)
def Nd (v : AV) (l r : PT AV) : PT AV := .node (some v) l r
def Lf (v : AV) : PT AV := .node (some v) .nil .nil
def Em : PT AV := .nil
def Ce (c : PT AV) (n : Nat) (p : Bool := true) : Blk := .cells c n p
def Ii (n : Nat) : AV := .int .i64 (.ofNat n)
def Bu (n : Nat) : AV := .int .u8 (.ofNat n)
def Se : AV := .str []
def Tt : AV := .bool true
def Ff : AV := .bool false
def Pp (b o : Nat) : AV := .ptr b o
def Sl (b o l c z : Nat) : AV := .slice b o l (some c) z
def Sn (b o l z : Nat) : AV := .slice b o l none z
def eqBO : Option Blk → Blk → Bool
  | some a, b => eqBlk a b
  | none, _ => false
theorem eqBO_ok {a : Option Blk} {b : Blk} (h : eqBO a b = true) : a = some b := by
  cases a with
  | none => cases h
  | some a => rw [eqBlk_ok h]
def hasBs (t : HT) : List (Nat × Blk) → Bool
  | [] => true
  | p :: l => eqBO (t.get p.1) p.2 && hasBs t l
theorem hasBs_ok {t : HT} : ∀ {l : List (Nat × Blk)}, hasBs t l = true → ∀ i b, (i, b) ∈ l → t.get i = some b
  | [], _, i, b, hm => by cases hm
  | p :: l, h, i, b, hm => by
    simp only [hasBs, Bool.and_eq_true] at h
    rcases List.mem_cons.1 hm with e | hm
    · subst e; exact eqBO_ok h.1
    · exact hasBs_ok h.2 i b hm
def HT.bare : HT := ⟨H5.nil, .nil⟩
theorem HT.bare_get (i : Nat) : HT.bare.get i = none := by
  unfold HT.bare HT.get
  cases Nat.ble i 32767 with
  | false => exact PT.get_nil i
  | true => exact H5.nil_all _ _ _ _ _ (by rw [land7]; omega) (by rw [dig7]; omega) (by rw [dig7]; omega) (by rw [dig7]; omega) (by rw [dig7]; omega)
def Cert.start (c : Cert) : Hp := ⟨c.n0, setBs (setBs .bare c.rd) c.ch⟩
def Cert.hit (c : Cert) (args : List AV) (H : Hp) : Bool := Nat.ble H.n c.n0 && eqList (eqAV 8) args c.args
def Cert.met (c : Cert) (H : Hp) : Bool := hasBs H.b c.rd && hasBs H.b c.ch
def memoA : List Cert → List AV → Hp → Res (AV × Hp)
  | [], _, _ => .err 300
  | c :: l, args, H => match c.hit args H && c.met H with
    | true => .ok (c.v, ⟨c.n1, setBs H.b c.wr⟩)
    | false => memoA l args H
def isDead : Blk → Bool
  | .dead => true
  | _ => false
def strikeE (x : AV × AV) : List (AV × AV) → Option (List (AV × AV))
  | [] => none
  | y :: l => match eqAV 8 x.1 y.1 && eqAV 8 x.2 y.2 with
    | true => some l
    | false => match strikeE x l with
      | some r => some (y :: r)
      | none => none
theorem strikeE_ok {x : AV × AV} : ∀ {l r : List (AV × AV)}, strikeE x l = some r → List.Perm (x :: r) l
  | [], r, h => by cases h
  | y :: l, r, h => by
    unfold strikeE at h
    split at h
    · rename_i e
      simp only [Bool.and_eq_true] at e
      simp only [Option.some.injEq] at h
      subst h
      have : x = y := by
        obtain ⟨x1, x2⟩ := x
        obtain ⟨y1, y2⟩ := y
        simp only at e
        rw [eqAV_ok 8 _ _ e.1, eqAV_ok 8 _ _ e.2]
      rw [this]
    · split at h
      · rename_i r' hr
        simp only [Option.some.injEq] at h
        subst h
        exact (List.Perm.swap y x r').trans ((strikeE_ok hr).cons y)
      · cases h
def permE : List (AV × AV) → List (AV × AV) → Bool
  | [], [] => true
  | x :: l, r => match strikeE x r with
    | some r' => permE l r'
    | none => false
  | _, _ => false
theorem permE_ok : ∀ {l r : List (AV × AV)}, permE l r = true → List.Perm l r
  | [], [], _ => .refl _
  | x :: l, r, h => by
    simp only [permE] at h
    split at h
    · rename_i r' hr
      exact ((permE_ok h).cons x).trans (strikeE_ok hr)
    · cases h
  | [], _ :: _, h => by simp [permE] at h
def genB : Option Blk → Blk → Bool
  | some (.map es), .umap es' => permE es es'
  | _, _ => false
def Gen [Val] (b b' : Blk) : Prop := (∀ (μ : Mp) (s N : Nat) (o : Option Obj), BR μ s N b' o → BR μ s N b o) ∧ (b' = .dead → b = .dead)
theorem Gen.refl [Val] (b : Blk) : Gen b b := ⟨fun _ _ _ _ h => h, fun h => h⟩
theorem genB_ok [Val] {a : Option Blk} {b : Blk} (h : genB a b = true) : ∃ b', a = some b' ∧ Gen b b' := by
  unfold genB at h
  split at h
  · rename_i es es'
    refine ⟨_, rfl, fun μ s N o hB => ?_, fun h => by cases h⟩
    obtain ⟨ces, g1, g2, g3⟩ := hB
    exact ⟨ces, ces.size, es, g1, permE_ok h, g2, fun i k v e h1 h2 => ⟨(g3 i k v e h1 h2).1, (g3 i k v e h1 h2).2.1⟩⟩
  · cases h
def wrOk (n0 n : Nat) (t : HT) : List (Nat × Blk) → Bool
  | [] => true
  | p :: l => Nat.blt p.1 n && (isDead p.2 || eqBO (t.get p.1) p.2 || (Nat.ble n0 p.1 && genB (t.get p.1) p.2)) && wrOk n0 n t l
theorem wrOk_ok [Val] {n0 n : Nat} {t : HT} : ∀ {l : List (Nat × Blk)}, wrOk n0 n t l = true → ∀ i b, (i, b) ∈ l → i < n ∧ (b = .dead ∨ t.get i = some b ∨ (n0 ≤ i ∧ ∃ b', t.get i = some b' ∧ Gen b b'))
  | [], _, i, b, hm => by cases hm
  | p :: l, h, i, b, hm => by
    simp only [wrOk, Bool.and_eq_true, Bool.or_eq_true] at h
    rcases List.mem_cons.1 hm with e | hm
    · subst e
      refine ⟨(Nat.blt_eq.mp h.1.1), ?_⟩
      rcases h.1.2 with (g | g) | g
      · left; cases b <;> first | rfl | cases g
      · exact .inr (.inl (eqBO_ok g))
      · exact .inr (.inr ⟨Nat.le_of_ble_eq_true g.1, genB_ok g.2⟩)
    · exact wrOk_ok h.2 i b hm
def inKeys (i : Nat) : List (Nat × Blk) → Bool
  | [] => false
  | p :: l => Nat.beq i p.1 || inKeys i l
theorem inKeys_ok {i : Nat} : ∀ {l : List (Nat × Blk)}, inKeys i l = true → ∃ b, (i, b) ∈ l
  | [], h => by cases h
  | p :: l, h => by
    simp only [inKeys, Bool.or_eq_true] at h
    rcases h with h | h
    · exact ⟨p.2, by rw [Nat.eq_of_beq_eq_true h]; exact List.mem_cons_self⟩
    · obtain ⟨b, hb⟩ := inKeys_ok h; exact ⟨b, List.mem_cons_of_mem _ hb⟩
def keysIn (l : List (Nat × Blk)) : List (Nat × Blk) → Bool
  | [] => true
  | p :: r => inKeys p.1 l && keysIn l r
theorem keysIn_ok {l : List (Nat × Blk)} : ∀ {r : List (Nat × Blk)}, keysIn l r = true → ∀ i b, (i, b) ∈ r → ∃ b', (i, b') ∈ l
  | [], _, i, b, h => by cases h
  | p :: r, h, i, b, hm => by
    simp only [keysIn, Bool.and_eq_true] at h
    rcases List.mem_cons.1 hm with e | hm
    · subst e; exact inKeys_ok h.1
    · exact keysIn_ok h.2 i b hm
def Cert.fits (c : Cert) (v : AV) (h : Hp) : Bool :=
  eqAV 8 v c.v && Nat.ble h.n c.n1 && hasBs h.b c.rd && keysIn c.wr c.ch && wrOk c.n0 c.n1 h.b c.wr
section
variable {P : Program} {gl : Gam} {c : Cert} {μ : Mp} {H : Hp} {w : World}
theorem Cert.start_get (i : Nat) : (∃ b, ((i, b) ∈ c.rd ∨ (i, b) ∈ c.ch) ∧ c.start.b.get i = some b) ∨ ((∀ b, (i, b) ∉ c.rd ∧ (i, b) ∉ c.ch) ∧ c.start.b.get i = none) := by
  unfold Cert.start
  simp only
  rcases setBs_get c.ch (setBs .bare c.rd) i with ⟨b, h1, h2⟩ | ⟨h1, h2⟩
  · exact .inl ⟨b, .inr h1, h2⟩
  · rcases setBs_get c.rd .bare i with ⟨b, h3, h4⟩ | ⟨h3, h4⟩
    · exact .inl ⟨b, .inl h3, h2.trans h4⟩
    · exact .inr ⟨fun b => ⟨h3 b, h1 b⟩, h2.trans (h4.trans (HT.bare_get i))⟩
theorem Cert.start_le (hm : c.met H = true) {i : Nat} {b : Blk} (h : c.start.b.get i = some b) : H.b.get i = some b := by
  simp only [Cert.met, Bool.and_eq_true] at hm
  rcases c.start_get i with ⟨b', h1, h2⟩ | ⟨_, h2⟩
  · rw [h2] at h; cases h
    exact h1.elim (hasBs_ok hm.1 i _) (hasBs_ok hm.2 i _)
  · rw [h2] at h; cases h
theorem Cert.start_live (hm : c.met H = true) {i : Nat} (h : Live c.start i) : Live H i := by
  obtain ⟨b, h1, h2⟩ := h
  exact ⟨b, Cert.start_le hm h1, h2⟩
theorem Cert.start_HR [Val] (hm : c.met H = true) (hn : H.n ≤ c.n0) (hH : HR μ H w) : HR μ c.start w where
  dom := fun i x s N h => by have := hH.dom i x s N h; exact ⟨by show i < c.n0; omega, this.2⟩
  low := fun i b h => by have := hH.low i b (Cert.start_le hm h); show i < c.n0; omega
  blk := fun i b x s N h => hH.blk i b x s N (Cert.start_le hm h)
  inj := fun i j x s N s' N' hi hj => hH.inj i j x s N s' N' (Cert.start_live hm hi) (Cert.start_live hm hj)
theorem Cert.start_GR (hm : c.met H = true) (hG : GR gl μ H w) : GR gl μ c.start w :=
  ⟨hG.own, hG.lt, hG.same, fun k hk i x s N hl => hG.far k hk i x s N (Cert.start_live hm hl)⟩
theorem Cert.after_get [Val] {v : AV} {h : Hp} (hm : c.met H = true) (hf : c.fits v h = true) (i : Nat) :
    ((setBs H.b c.wr).get i = some .dead ∧ i < c.n1) ∨ (∃ b b', (setBs H.b c.wr).get i = some b ∧ h.b.get i = some b' ∧ Gen b b' ∧ ((i < c.n1 ∧ (b = b' ∨ c.n0 ≤ i)) ∨ (b = b' ∧ H.b.get i = some b))) ∨
      ((setBs H.b c.wr).get i = H.b.get i ∧ c.start.b.get i = none) := by
  simp only [Cert.fits, Bool.and_eq_true] at hf
  obtain ⟨⟨⟨⟨_, _⟩, f3⟩, f4⟩, f5⟩ := hf
  rcases setBs_get c.wr H.b i with ⟨b, h1, h2⟩ | ⟨h1, h2⟩
  · obtain ⟨g1, g2⟩ := wrOk_ok f5 i b h1
    rcases g2 with rfl | g2 | ⟨g3, b', g4, g5⟩
    · exact .inl ⟨h2, g1⟩
    · exact .inr (.inl ⟨b, b, h2, g2, .refl b, .inl ⟨g1, .inl rfl⟩⟩)
    · exact .inr (.inl ⟨b, b', h2, g4, g5, .inl ⟨g1, .inr g3⟩⟩)
  · rcases c.start_get i with ⟨b, h3, h4⟩ | ⟨_, h4⟩
    · rcases h3 with h3 | h3
      · have e := Cert.start_le hm h4
        exact .inr (.inl ⟨b, b, h2.trans e, hasBs_ok f3 i b h3, .refl b, .inr ⟨rfl, e⟩⟩)
      · obtain ⟨b', hb'⟩ := keysIn_ok f4 i b h3
        exact absurd hb' (h1 b')
    · exact .inr (.inr ⟨h2, h4⟩)
theorem memo_post [Val] {v : AV} {h : Hp} {μ' : Mp} {w' : World} (hm : c.met H = true) (hn : H.n ≤ c.n0) (hf : c.fits v h = true) (hH : HR μ H w) (x : Ext μ c.start w μ' h w') (hh : HR μ' h w') :
    Ext μ H w μ' ⟨c.n1, setBs H.b c.wr⟩ w' ∧ HR μ' ⟨c.n1, setBs H.b c.wr⟩ w' := by
  have hn1 : h.n ≤ c.n1 := by
    simp only [Cert.fits, Bool.and_eq_true] at hf
    exact Nat.le_of_ble_eq_true hf.1.1.1.2
  have hn0 : c.n0 ≤ h.n := x.n
  have hs : c.start.n = c.n0 := rfl
  -- a live block behind the call: one of the run's, or one that it did not read
  have live : ∀ i, Live ⟨c.n1, setBs H.b c.wr⟩ i → Live h i ∨ (Live H i ∧ c.start.b.get i = none) := by
    rintro i ⟨b, h1, h2⟩
    rcases Cert.after_get hm hf i with ⟨e, _⟩ | ⟨b0, b', e1, e2, e3, _⟩ | ⟨e1, e2⟩
    · rw [show (setBs H.b c.wr).get i = _ from h1] at e; cases e; exact absurd rfl h2
    · rw [show (setBs H.b c.wr).get i = _ from h1] at e1; cases e1; exact .inl ⟨_, e2, fun hd => h2 (e3.2 hd)⟩
    · exact .inr ⟨⟨b, e1.symm.trans h1, h2⟩, e2⟩
  have old : ∀ i y, i < H.n → μ' i = some y → μ i = some y := by
    intro i y hi hy
    cases e : μ i with
    | none => have := x.fresh i y hy e; omega
    | some z => have := x.sub i z e; rw [hy] at this; exact this.symm
  -- a block that was not read shares no block of the world with one of the run's
  have apart : ∀ i j cc s N s' N', Live H i → c.start.b.get i = none → Live h j → μ' i = some (cc, s, N) → μ' j = some (cc, s', N') → False := by
    intro i j cc s N s' N' hi hni hj h1 h2
    obtain ⟨bi, hbi, _⟩ := id hi
    have hilt := hH.low i bi hbi
    have m1 := old i _ hilt h1
    have hcc := (hH.dom i cc s N m1).2
    have key : ∀ k s'' N'', Live c.start k → μ k = some (cc, s'', N'') → False := by
      intro k s'' N'' hk mk
      have := hH.inj i k cc s N s'' N'' hi (Cert.start_live hm hk) m1 mk
      subst this
      obtain ⟨b, hb, _⟩ := hk
      rw [hni] at hb; cases hb
    cases e : μ j with
    | none =>
      rcases x.newc j cc s' N' h2 e with g | ⟨k, s'', N'', g1, g2⟩
      · omega
      · exact key k s'' N'' g1 g2
    | some z =>
      have m2 := x.sub j z e
      rw [h2] at m2
      cases m2
      have hjlt := (hH.dom j cc s' N' e).1
      exact key j s' N' (x.alive j (by omega) hj) e
  constructor
  · exact {
      sub := x.sub
      fresh := fun i y h1 h2 => by have := x.fresh i y h1 h2; omega
      n := by show H.n ≤ c.n1; omega
      old := fun i hi hmi => by
        rcases Cert.after_get hm hf i with ⟨e, _⟩ | ⟨b0, b', e1, e2, _, ⟨_, rfl | e3⟩ | ⟨rfl, e3⟩⟩ | ⟨e1, _⟩
        · exact .inr e
        · rcases x.old i (by omega) hmi with g | g
          · rw [e2] at g
            exact .inl (e1.trans (Cert.start_le hm g.symm).symm)
          · rw [e2] at g; cases g; exact .inr e1
        · omega
        · exact .inl (e1.trans e3.symm)
        · exact .inl e1
      alive := fun i hi hl => by
        rcases live i hl with g | g
        · exact Cert.start_live hm (x.alive i (by omega) g)
        · exact g.1
      size := x.size
      newc := fun i cc s N h1 h2 => (x.newc i cc s N h1 h2).imp id fun ⟨j, s', N', g1, g2⟩ => ⟨j, s', N', Cert.start_live hm g1, g2⟩
      frame := fun k hk hno => x.frame k hk fun i cc s N hl => hno i cc s N (Cert.start_live hm hl)
      os := x.os
      tape := x.tape
      output := x.output }
  · exact {
      dom := fun i cc s N h1 => by have := hh.dom i cc s N h1; exact ⟨by show i < c.n1; omega, this.2⟩
      low := fun i b h1 => by
        show i < c.n1
        rcases Cert.after_get hm hf i with ⟨_, e⟩ | ⟨b0, b', _, e, _, _⟩ | ⟨e, _⟩
        · exact e
        · have := hh.low i b' e; omega
        · have := hH.low i b (e.symm.trans h1); omega
      blk := fun i b cc s N h1 h2 => by
        rcases Cert.after_get hm hf i with ⟨e, _⟩ | ⟨b0, b', e1, e2, e3, _⟩ | ⟨e1, e2⟩
        · rw [show (setBs H.b c.wr).get i = _ from h1] at e; cases e; trivial
        · rw [show (setBs H.b c.wr).get i = _ from h1] at e1; cases e1; exact e3.1 _ _ _ _ (hh.blk i b' cc s N e2 h2)
        · have hb : H.b.get i = some b := e1.symm.trans h1
          by_cases hd : b = .dead
          · subst hd; trivial
          · have m1 := old i _ (hH.low i b hb) h2
            have hlt := (hH.dom i cc s N m1).2
            have hfr := x.frame cc hlt (fun j c2 s2 N2 hj mj ec => by
              subst ec
              have := hH.inj i j c2 s N s2 N2 ⟨b, hb, hd⟩ (Cert.start_live hm hj) m1 mj
              subst this
              obtain ⟨b3, hb3, _⟩ := hj
              rw [e2] at hb3; cases hb3)
            rw [hfr]
            exact (hH.blk i b cc s N hb m1).mono x.sub
      inj := fun i j cc s N s' N' hi hj h1 h2 => by
        rcases live i hi with gi | gi <;> rcases live j hj with gj | gj
        · exact hh.inj i j cc s N s' N' gi gj h1 h2
        · exact (apart j i cc s' N' s N gj.1 gj.2 gi h2 h1).elim
        · exact (apart i j cc s N s' N' gi.1 gi.2 gj h1 h2).elim
        · obtain ⟨b1, hb1, _⟩ := id gi.1
          obtain ⟨b2, hb2, _⟩ := id gj.1
          exact hH.inj i j cc s N s' N' gi.1 gj.1 (old i _ (hH.low i b1 hb1) h1) (old j _ (hH.low j b2 hb2) h2) }
def Cert.Holds [Val] (P : Program) (gl : Gam) (f : FuncId) (c : Cert) : Prop :=
  ∀ (μ : Mp) (w : World) (args' : Array Value), VRs μ c.args args'.toList → HR μ c.start w → GR gl μ c.start w →
    Goes P (callFunc f args') w fun v' w' => ∃ v h, c.fits v h = true ∧ ∃ μ', Ext μ c.start w μ' h w' ∧ HR μ' h w' ∧ VR μ' v v'
theorem Goes.mono {s : Sem Next} {R R' : Value → World → Prop} (h : Goes P s w R) (hR : ∀ v w', R v w' → R' v w') : Goes P s w R' := by
  rcases h with ⟨v1, w1, g1, g2⟩ | ⟨f', a', g1, g2⟩
  · exact .inl ⟨v1, w1, g1, hR v1 w1 g2⟩
  · exact .inr ⟨f', a', g1, g2.mono fun e w1 ⟨v1, k1, k2⟩ => ⟨v1, k1, hR v1 w1 k2⟩⟩
theorem Cert.holds_eval [Val] (hmix : P.follows .mixedOrders = true) {sp : Special} (hsp : SpecOK P gl sp) {N f : Nat} {v : AV} {h : Hp} (hev : evalF P gl sp N f c.args c.start = .ok (v, h)) (hfit : c.fits v h = true) : c.Holds P gl f := by
  intro μ w args' ha hH hG
  refine Goes.mono ((call_ok (evalC_ok hmix hsp N) hsp).fn f c.args c.start v h hev μ w args' ha hH hG) fun v1 w1 ⟨μ', g1, g2, g3⟩ => ?_
  exact ⟨v, h, hfit, μ', g1, g2, g3⟩
theorem memo_goes [Val] (hmix : P.follows .mixedOrders = true) {f : FuncId} : ∀ {l : List Cert}, (∀ c ∈ l, c.Holds P gl f) → ∀ {args : List AV} {H : Hp} {v : AV} {H' : Hp}, memoA l args H = .ok (v, H') →
    ∀ {μ : Mp} {w : World} {args' : Array Value}, VRs μ args args'.toList → HR μ H w → GR gl μ H w →
    Goes P (callFunc f args') w fun v' w' => ∃ μ', Ext μ H w μ' H' w' ∧ HR μ' H' w' ∧ VR μ' v v'
  | [], _, args, H, v, H', h, _, _, _, _, _, _ => by cases h
  | c :: l, hl, args, H, v, H', h, μ, w, args', ha, hH, hG => by
    unfold memoA at h
    cases e0 : c.hit args H && c.met H with
    | false => rw [e0] at h; exact memo_goes hmix (fun c hc => hl c (List.mem_cons_of_mem _ hc)) h ha hH hG
    | true =>
        rw [e0] at h
        simp only [Bool.and_eq_true] at e0
        obtain ⟨e1, e2⟩ := e0
        simp only [Res.ok.injEq, Prod.mk.injEq] at h
        obtain ⟨rfl, rfl⟩ := h
        simp only [Cert.hit, Bool.and_eq_true] at e1
        have hn := Nat.le_of_ble_eq_true e1.1
        have hargs := eqList_ok (eqAV_ok 8) _ _ e1.2
        subst hargs
        refine Goes.mono (hl c List.mem_cons_self μ w args' ha (Cert.start_HR e2 hn hH) (Cert.start_GR e2 hG)) fun v1 w1 ⟨v', h', hfit, μ', g1, g2, g3⟩ => ?_
        have hv : v' = c.v := by
          simp only [Cert.fits, Bool.and_eq_true] at hfit
          exact eqAV_ok 8 _ _ hfit.1.1.1.1
        subst hv
        obtain ⟨k1, k2⟩ := memo_post e2 hn hfit hH g1 g2
        exact ⟨μ', k1, k2, g3⟩
end
end Go.Ab

namespace Go.Ab
def nthN : List Nat → Nat → Option Nat
  | [], _ => none
  | a :: _, 0 => some a
  | _ :: l, n + 1 => nthN l n
theorem nthN_eq : ∀ (l : List Nat) (n : Nat), nthN l n = l[n]?
  | [], n => by simp [nthN]
  | a :: l, 0 => rfl
  | a :: l, n + 1 => by simp [nthN, nthN_eq l n]
structure CertN where
  n0 : Nat
  args : List AV
  rd : List (Nat × Blk)
  ren : List Nat
  v : AV
  wr : List (Nat × Blk)
def srcN (n0 : Nat) (ren : List Nat) (k : Nat) : Option Nat := match Nat.ble n0 k with
  | false => some k
  | true => nthN ren (k - n0)
def refOk (n0 : Nat) (ren : List Nat) (k i : Nat) : Bool := match srcN n0 ren k with
  | some j => Nat.beq j i
  | none => false
def eqR (r : Nat → Nat → Bool) : Nat → AV → AV → Bool
  | 0, _, _ => false
  | f + 1, a, b => match a, b with
    | .bool x, .bool y => x == y
    | .anyb, .anyb => true
    | .int k x, .int k' y => decide (k = k') && decide (x = y)
    | .anyint k, .anyint k' => decide (k = k')
    | .cls m x, .cls m' y => Nat.beq m m' && Nat.beq x y
    | .rng m a b, .rng m' a' b' => Nat.beq m m' && (decide (a = a') && decide (b = b'))
    | .str x, .str y => strEq x y
    | .nilptr, .nilptr => true
    | .ptr b o, .ptr b' o' => r b b' && Nat.beq o o'
    | .nilslice, .nilslice => true
    | .slice b o l c s, .slice b' o' l' c' s' => r b b' && Nat.beq o o' && Nat.beq l l' && eqON c c' && Nat.beq s s'
    | .nilmap, .nilmap => true
    | .map b, .map b' => r b b'
    | .nilFunc, .nilFunc => true
    | .nilIface, .nilIface => true
    | .agg x, .agg y => eqList (eqR r f) x y
    | .tuple x, .tuple y => eqList (eqR r f) x y
    | _, _ => false
def eqRO (r : Nat → Nat → Bool) : Option AV → Option AV → Bool
  | none, none => true
  | some a, some b => eqR r 8 a b
  | _, _ => false
def eqRP (r : Nat → Nat → Bool) : PT AV → PT AV → Bool
  | .nil, .nil => true
  | .node v l x, .node v' l' x' => eqRO r v v' && eqRP r l l' && eqRP r x x'
  | _, _ => false
def eqREs (r : Nat → Nat → Bool) : List (AV × AV) → List (AV × AV) → Bool
  | [], [] => true
  | (a, b) :: x, (c, d) :: y => eqR r 8 a c && eqR r 8 b d && eqREs r x y
  | _, _ => false
def eqRB (r : Nat → Nat → Bool) : Blk → Blk → Bool
  | .dead, .dead => true
  | .cells c n p, .cells c' n' p' => Nat.beq n n' && (p == p') && eqRP r c c'
  | .map x, .map y => eqREs r x y
  | _, _ => false
def eqRBO (r : Nat → Nat → Bool) (b : Blk) : Option Blk → Bool
  | some b' => eqRB r b b'
  | none => false
section
variable {μ μ' : Mp} {r : Nat → Nat → Bool}
def RefR (r : Nat → Nat → Bool) (μ μ' : Mp) : Prop := ∀ k i, r k i = true → μ k = μ' i
theorem eqList_VR [Val] {f : AV → AV → Bool} (hf : ∀ a b v, f a b = true → VR μ' b v → VR μ a v) : ∀ (x y : List AV) (l : List Value), eqList f x y = true → y.length = l.length → (∀ (i : Nat) v v', y[i]? = some v → l[i]? = some v' → VR μ' v v') →
    x.length = l.length ∧ ∀ (i : Nat) v v', x[i]? = some v → l[i]? = some v' → VR μ v v'
  | [], [], l, _, hl, _ => ⟨hl, fun i v v' h => by simp at h⟩
  | a :: x, b :: y, l, h, hl, hv => by
    simp only [eqList, Bool.and_eq_true] at h
    cases l with
    | nil => simp at hl
    | cons z l =>
      obtain ⟨g1, g2⟩ := eqList_VR hf x y l h.2 (by simpa using hl) (fun i v v' h1 h2 => hv (i + 1) v v' (by simpa using h1) (by simpa using h2))
      refine ⟨by simp [g1], fun i v v' h1 h2 => ?_⟩
      cases i with
      | zero => simp at h1 h2; subst h1; subst h2; exact hf a b z h.1 (hv 0 b z rfl rfl)
      | succ i => exact g2 i v v' (by simpa using h1) (by simpa using h2)
  | [], _ :: _, l, h, _, _ => by simp [eqList] at h
  | _ :: _, [], l, h, _, _ => by simp [eqList] at h
theorem eqR_VR [Val] (hr : RefR r μ μ') : ∀ (f : Nat) (a b : AV) (v : Value), eqR r f a b = true → VR μ' b v → VR μ a v
  | 0, a, b, v, h, _ => by simp [eqR] at h
  | f + 1, a, b, v, h, hv => by
    unfold eqR at h
    split at h <;> try simp only [Bool.and_eq_true, beq_iff_eq, decide_eq_true_eq] at h
    · subst h; cases hv; exact .bool _
    · cases hv; exact .anyb _
    · obtain ⟨rfl, rfl⟩ := h; cases hv; exact .int _ _
    · subst h; cases hv; exact .anyint _ _
    · obtain ⟨h1, h2⟩ := h
      have h1 := Nat.eq_of_beq_eq_true h1
      have h2 := Nat.eq_of_beq_eq_true h2
      subst h1; subst h2
      cases hv with | cls m n x hx => exact .cls _ _ _ hx
    · obtain ⟨h1, h2, h3⟩ := h
      have h1 := Nat.eq_of_beq_eq_true h1
      subst h1; subst h2; subst h3
      cases hv with | rng m lo hi x h0 h1 => exact .rng _ _ _ _ h0 h1
    · have h := strEq_ok _ _ h
      subst h
      cases hv with | str s b hb => exact .str _ _ hb
    · cases hv; exact .nilptr
    · have h2 := Nat.eq_of_beq_eq_true h.2
      subst h2
      cases hv with | ptr b o c s N hm => exact .ptr _ _ _ _ _ ((hr _ _ h.1).trans hm)
    · cases hv; exact .nilslice
    · rename_i b o l c s b' o' l' c' s'
      have hc : c = c' := by
        have := h.1.2
        cases c <;> cases c' <;> simp [eqON] at this ⊢ <;> try exact this
      have h2 := Nat.eq_of_beq_eq_true h.1.1.1.2
      have h3 := Nat.eq_of_beq_eq_true h.1.1.2
      have h4 := Nat.eq_of_beq_eq_true h.2
      subst hc; subst h2; subst h3; subst h4
      cases hv with | slice b o len cap sz a c cb s N hl hc hz hm hk => exact .slice _ _ _ _ _ _ _ _ _ _ hl hc hz ((hr _ _ h.1.1.1.1).trans hm) hk
    · cases hv; exact .nilmap
    · cases hv with | map b c s N hm => exact .map _ _ _ _ ((hr _ _ h).trans hm)
    · cases hv; exact .nilFunc
    · cases hv; exact .nilIface
    · cases hv with | agg cs cs' hl hh =>
        obtain ⟨g1, g2⟩ := eqList_VR (fun a b v => eqR_VR hr f a b v) _ _ cs'.toList h (by simpa using hl) (fun i v v' h1 h2 => hh i v v' h1 (by simpa using h2))
        exact .agg _ _ (by simpa using g1) fun i v v' h1 h2 => g2 i v v' h1 (by simpa using h2)
    · cases hv with | tuple cs cs' hl hh =>
        obtain ⟨g1, g2⟩ := eqList_VR (fun a b v => eqR_VR hr f a b v) _ _ cs'.toList h (by simpa using hl) (fun i v v' h1 h2 => hh i v v' h1 (by simpa using h2))
        exact .tuple _ _ (by simpa using g1) fun i v v' h1 h2 => g2 i v v' h1 (by simpa using h2)
    · cases h
theorem eqR_oneCell {f : Nat} {a b : AV} (h : eqR r f a b = true) (hb : oneCell b = true) : oneCell a = true := by
  cases f with
  | zero => simp [eqR] at h
  | succ f =>
    unfold eqR at h
    split at h <;> first | rfl | exact absurd h Bool.false_ne_true | exact absurd hb Bool.false_ne_true
theorem eqRP_get [Val] (hr : RefR r μ μ') : ∀ (a b : PT AV), eqRP r a b = true → ∀ j av v, b.get j = some av → VR μ' av v → oneCell av = true → ∃ av', a.get j = some av' ∧ VR μ av' v ∧ oneCell av' = true
  | .nil, .nil, _, j, av, v, h, _, _ => by rw [PT.get_nil] at h; cases h
  | .node x l y, .node x' l' y', h, j, av, v, hg, hv, ho => by
    simp only [eqRP, Bool.and_eq_true] at h
    cases j with
    | zero =>
      have hg : x' = some av := hg
      subst hg
      cases x with
      | none => have := h.1.1; simp [eqRO] at this
      | some z => exact ⟨z, rfl, eqR_VR hr 8 z av v h.1.1 hv, eqR_oneCell h.1.1 ho⟩
    | succ j =>
      simp only [PT.get] at hg ⊢
      split at hg
      · exact eqRP_get hr l l' h.1.2 _ av v hg hv ho
      · exact eqRP_get hr y y' h.2 _ av v hg hv ho
  | .nil, .node .., h, _, _, _, _, _, _ => by simp [eqRP] at h
  | .node .., .nil, h, _, _, _, _, _, _ => by simp [eqRP] at h
theorem eqREs_len : ∀ (x y : List (AV × AV)), eqREs r x y = true → x.length = y.length
  | [], [], _ => rfl
  | (a, b) :: x, (c, d) :: y, h => by
    simp only [eqREs, Bool.and_eq_true] at h
    simp [eqREs_len x y h.2]
  | [], _ :: _, h => by simp [eqREs] at h
  | _ :: _, [], h => by simp [eqREs] at h
theorem eqREs_get : ∀ (x y : List (AV × AV)), eqREs r x y = true → ∀ (i : Nat) k v, x[i]? = some (k, v) → ∃ k' v', y[i]? = some (k', v') ∧ eqR r 8 k k' = true ∧ eqR r 8 v v' = true
  | [], [], _, i, k, v, h => by simp at h
  | (a, b) :: x, (c, d) :: y, h, i, k, v, hi => by
    simp only [eqREs, Bool.and_eq_true] at h
    cases i with
    | zero => simp at hi; obtain ⟨rfl, rfl⟩ := hi; exact ⟨c, d, rfl, h.1.1, h.1.2⟩
    | succ i => simpa using eqREs_get x y h.2 i k v (by simpa using hi)
  | [], _ :: _, h, _, _, _, _ => by simp [eqREs] at h
  | _ :: _, [], h, _, _, _, _ => by simp [eqREs] at h
theorem eqRB_BR [Val] (hr : RefR r μ μ') {b b' : Blk} (h : eqRB r b b' = true) {s N : Nat} {o : Option Obj} (hB : BR μ' s N b' o) : BR μ s N b o := by
  cases b <;> cases b' <;> simp only [eqRB, Bool.and_eq_true, Bool.false_eq_true] at h
  · trivial
  · have h1 := Nat.eq_of_beq_eq_true h.1.1
    have h2 := eq_of_beq h.1.2
    subst h1; subst h2
    obtain ⟨arr, e, lo, hi, g1, g2, g3, g4, g5, g6⟩ := hB
    refine ⟨arr, e, lo, hi, g1, g2, g3, g4, g5, fun j hj => ?_⟩
    obtain ⟨av, v, k1, k2, k3, k4⟩ := g6 j hj
    obtain ⟨av', q1, q2, q3⟩ := eqRP_get hr _ _ h.2 j av v k1 k3 k4
    exact ⟨av', v, q1, k2, q2, q3⟩
  · obtain ⟨ces, g1, g2, g3⟩ := hB
    refine ⟨ces, g1, (eqREs_len _ _ h).trans g2, fun i k v e h1 h2 => ?_⟩
    obtain ⟨k', v', q1, q2, q3⟩ := eqREs_get _ _ h i k v h1
    obtain ⟨p1, p2, p3⟩ := g3 i k' v' e q1 h2
    exact ⟨eqR_VR hr 8 _ _ _ q2 p1, eqR_VR hr 8 _ _ _ q3 p2, p3⟩
theorem eqRB_dead {b b' : Blk} (h : eqRB r b b' = true) : b = .dead ↔ b' = .dead := by
  cases b <;> cases b' <;> simp [eqRB] at h ⊢
end
def distinct : List Nat → Bool
  | [] => true
  | a :: l => l.all (fun b => !Nat.beq a b) && distinct l
theorem distinct_ok : ∀ {l : List Nat}, distinct l = true → ∀ {i j : Nat} {a : Nat}, l[i]? = some a → l[j]? = some a → i = j
  | [], _, i, j, a, h, _ => by simp at h
  | x :: l, h, i, j, a, hi, hj => by
    simp only [distinct, Bool.and_eq_true, List.all_eq_true, Bool.not_eq_true'] at h
    have hno : ∀ n : Nat, l[n]? ≠ some x := by
      intro n hn
      have := h.1 x (List.mem_of_getElem? hn)
      rw [Nat.beq_refl] at this
      cases this
    cases i with
    | zero =>
      simp at hi; subst hi
      cases j with
      | zero => rfl
      | succ j => exact absurd (by simpa using hj) (hno j)
    | succ i =>
      cases j with
      | zero => simp at hj; subst hj; exact absurd (by simpa using hi) (hno i)
      | succ j =>
        have := distinct_ok h.2 (i := i) (j := j) (a := a) (by simpa using hi) (by simpa using hj)
        rw [this]
def CertN.start (c : CertN) : Hp := ⟨c.n0, setBs .bare c.rd⟩
def CertN.cert (c : CertN) : Cert := ⟨c.n0, c.args, c.rd, [], c.n0, .bad, []⟩
def CertN.n1 (c : CertN) : Nat := c.n0 + c.ren.length
def hasR (r : Nat → Nat → Bool) (t : HT) : List (Nat × Blk) → Bool
  | [] => true
  | p :: l => eqRBO r p.2 (t.get p.1) && hasR r t l
theorem hasR_ok {r : Nat → Nat → Bool} {t : HT} : ∀ {l : List (Nat × Blk)}, hasR r t l = true → ∀ i b, (i, b) ∈ l → ∃ b', t.get i = some b' ∧ eqRB r b b' = true
  | [], _, i, b, hm => by cases hm
  | p :: l, h, i, b, hm => by
    simp only [hasR, Bool.and_eq_true] at h
    rcases List.mem_cons.1 hm with e | hm
    · subst e
      have := h.1
      cases ht : t.get i with
      | none => rw [ht] at this; cases this
      | some b' => rw [ht] at this; exact ⟨b', rfl, this⟩
    · exact hasR_ok h.2 i b hm
def wrR (n0 : Nat) (ren : List Nat) (r : Nat → Nat → Bool) (t : HT) : List (Nat × Blk) → Bool
  | [] => true
  | p :: l => Nat.ble n0 p.1 && (match nthN ren (p.1 - n0) with
    | some i => eqRBO r p.2 (t.get i)
    | none => false) && wrR n0 ren r t l
theorem wrR_ok {n0 : Nat} {ren : List Nat} {r : Nat → Nat → Bool} {t : HT} : ∀ {l : List (Nat × Blk)}, wrR n0 ren r t l = true → ∀ k b, (k, b) ∈ l → n0 ≤ k ∧ ∃ i b', ren[k - n0]? = some i ∧ t.get i = some b' ∧ eqRB r b b' = true
  | [], _, k, b, hm => by cases hm
  | p :: l, h, k, b, hm => by
    simp only [wrR, Bool.and_eq_true] at h
    rcases List.mem_cons.1 hm with e | hm
    · subst e
      refine ⟨Nat.le_of_ble_eq_true h.1.1, ?_⟩
      have h2 := h.1.2
      split at h2
      · rename_i i hi
        rw [nthN_eq] at hi
        cases ht : t.get i with
        | none => rw [ht] at h2; cases h2
        | some b' => rw [ht] at h2; exact ⟨i, b', hi, ht, h2⟩
      · cases h2
    · exact wrR_ok h.2 k b hm
def CertN.fits (c : CertN) (v : AV) (h : Hp) : Bool :=
  eqR (refOk c.n0 c.ren) 8 c.v v && c.ren.all (fun i => Nat.ble c.n0 i) && distinct c.ren && hasR (refOk c.n0 c.ren) h.b c.rd && wrR c.n0 c.ren (refOk c.n0 c.ren) h.b c.wr
def CertN.hit (c : CertN) (args : List AV) (H : Hp) : Bool := Nat.ble H.n c.n0 && eqList (eqAV 8) args c.args && hasBs H.b c.rd
def memoN : List CertN → List AV → Hp → Res (AV × Hp)
  | [], _, _ => .err 302
  | c :: l, args, H => match c.hit args H with
    | true => .ok (c.v, ⟨c.n1, setBs H.b c.wr⟩)
    | false => memoN l args H
def mpN (n0 : Nat) (ren : List Nat) (μ : Mp) : Mp := fun k => match srcN n0 ren k with
  | some i => μ i
  | none => none
theorem refR_mp (n0 : Nat) (ren : List Nat) (μ : Mp) : RefR (refOk n0 ren) (mpN n0 ren μ) μ := by
  intro k i h
  unfold refOk at h
  unfold mpN
  cases e : srcN n0 ren k with
  | none => rw [e] at h; cases h
  | some j => rw [e] at h; simp only at h ⊢; rw [Nat.eq_of_beq_eq_true h]
theorem srcN_lt {n0 : Nat} {ren : List Nat} {k : Nat} (h : k < n0) : srcN n0 ren k = some k := by
  unfold srcN
  have : Nat.ble n0 k = false := by
    cases e : Nat.ble n0 k with
    | false => rfl
    | true => have := Nat.le_of_ble_eq_true e; omega
  rw [this]
theorem srcN_ge {n0 : Nat} {ren : List Nat} {k : Nat} (h : n0 ≤ k) : srcN n0 ren k = ren[k - n0]? := by
  unfold srcN
  rw [Nat.ble_eq_true_of_le h]
  exact nthN_eq _ _
section
variable {P : Program} {gl : Gam} {c : CertN} {μ : Mp} {H : Hp} {w : World}
theorem memoN_post [Val] {v : AV} {h : Hp} {μ' : Mp} {w' : World} (hm : hasBs H.b c.rd = true) (hn : H.n ≤ c.n0) (hf : c.fits v h = true) (hH : HR μ H w) (x : Ext μ c.start w μ' h w') (hh : HR μ' h w') :
    Ext μ H w (mpN c.n0 c.ren μ') ⟨c.n1, setBs H.b c.wr⟩ w' ∧ HR (mpN c.n0 c.ren μ') ⟨c.n1, setBs H.b c.wr⟩ w' := by
  simp only [CertN.fits, Bool.and_eq_true] at hf
  obtain ⟨⟨⟨⟨_, f2⟩, f3⟩, f4⟩, f5⟩ := hf
  have hs : c.start.n = c.n0 := rfl
  have hR := refR_mp c.n0 c.ren μ'
  have hge : ∀ (j i : Nat), c.ren[j]? = some i → c.n0 ≤ i := fun j i hi => Nat.le_of_ble_eq_true (List.all_eq_true.1 f2 i (List.mem_of_getElem? hi))
  -- the start
  have sget : ∀ i b, c.start.b.get i = some b → (i, b) ∈ c.rd ∧ H.b.get i = some b := by
    intro i b hb
    rcases setBs_get c.rd .bare i with ⟨b', h1, h2⟩ | ⟨_, h2⟩
    · rw [show (setBs HT.bare c.rd).get i = _ from hb] at h2; cases h2; exact ⟨h1, hasBs_ok hm i b h1⟩
    · rw [show (setBs HT.bare c.rd).get i = _ from hb, HT.bare_get] at h2; cases h2
  have slive : ∀ i, Live c.start i → Live H i := fun i ⟨b, h1, h2⟩ => ⟨b, (sget i b h1).2, h2⟩
  -- old numbers
  have mlt : ∀ k, k < c.n0 → mpN c.n0 c.ren μ' k = μ' k := fun k hk => by unfold mpN; rw [srcN_lt hk]
  have mge : ∀ k y, c.n0 ≤ k → mpN c.n0 c.ren μ' k = some y → ∃ i, c.ren[k - c.n0]? = some i ∧ μ' i = some y := fun k y hk hy => by
    unfold mpN at hy
    rw [srcN_ge hk] at hy
    cases e : c.ren[k - c.n0]? with
    | none => rw [e] at hy; cases hy
    | some i => rw [e] at hy; exact ⟨i, rfl, hy⟩
  have mnone : ∀ i, c.n0 ≤ i → μ i = none := fun i hi => hH.none_n (by omega)
  have old : ∀ i y, i < c.n0 → μ' i = some y → μ i = some y := by
    intro i y hi hy
    cases e : μ i with
    | none => have := x.fresh i y hy e; omega
    | some z => have := x.sub i z e; rw [hy] at this; exact this.symm
  have after : ∀ k, (∃ b i b', (setBs H.b c.wr).get k = some b ∧ c.n0 ≤ k ∧ c.ren[k - c.n0]? = some i ∧ h.b.get i = some b' ∧ eqRB (refOk c.n0 c.ren) b b' = true) ∨ (setBs H.b c.wr).get k = H.b.get k := by
    intro k
    rcases setBs_get c.wr H.b k with ⟨b, h1, h2⟩ | ⟨_, h2⟩
    · obtain ⟨g1, i, b', g2, g3, g4⟩ := wrR_ok f5 k b h1
      exact .inl ⟨b, i, b', h2, g1, g2, g3, g4⟩
    · exact .inr h2
  have src : ∀ k, Live ⟨c.n1, setBs H.b c.wr⟩ k → (∃ i, c.n0 ≤ k ∧ c.ren[k - c.n0]? = some i ∧ Live h i) ∨ (Live H k ∧ k < c.n0) := by
    rintro k ⟨b, h1, h2⟩
    rcases after k with ⟨b0, i, b', e1, e2, e3, e4, e5⟩ | e
    · rw [show (setBs H.b c.wr).get k = _ from h1] at e1; cases e1
      exact .inl ⟨i, e2, e3, b', e4, fun hd => h2 ((eqRB_dead e5).2 hd)⟩
    · have hb : H.b.get k = some b := e.symm.trans h1
      exact .inr ⟨⟨b, hb, h2⟩, by have := hH.low k b hb; omega⟩
  -- a new block of the run and an old one of the heap: apart in the world, or the old one was read
  have oldB : ∀ k b cc s N, H.b.get k = some b → b ≠ .dead → μ k = some (cc, s, N) → (∃ b', c.start.b.get k = some b' ∧ b' = b) ∨ (∀ j c2 s2 N2, Live c.start j → μ j = some (c2, s2, N2) → c2 ≠ cc) := by
    intro k b cc s N hb hd mk
    cases e : c.start.b.get k with
    | some b' => exact .inl ⟨b', rfl, by have := (sget k b' e).2; rw [hb] at this; exact (Option.some.inj this).symm⟩
    | none =>
      right
      intro j c2 s2 N2 hj mj ec
      subst ec
      have := hH.inj k j c2 s N s2 N2 ⟨b, hb, hd⟩ (slive j hj) mk mj
      subst this
      obtain ⟨b3, hb3, _⟩ := hj
      rw [e] at hb3; cases hb3
  have newOld : ∀ k i j cc s N s' N', Live H k → k < c.n0 → c.n0 ≤ i → Live h i → j = i → μ' k = some (cc, s, N) → μ' i = some (cc, s', N') → False := by
    intro k i j cc s N s' N' hk hkn hi hli _ h1 h2
    have m1 := old k _ hkn h1
    have hcc := (hH.dom k cc s N m1).2
    rcases x.newc i cc s' N' h2 (mnone i hi) with g | ⟨q, s2, N2, g1, g2⟩
    · omega
    · have := hH.inj k q cc s N s2 N2 hk (slive q g1) m1 g2
      subst this
      -- the world's block lies beside two of the run's: the same one
      have hlk : Live h k := by
        obtain ⟨b, hb, hbd⟩ := g1
        obtain ⟨b', hb', he⟩ := hasR_ok f4 k b (sget k b hb).1
        exact ⟨b', hb', fun hd => hbd ((eqRB_dead he).2 hd)⟩
      have := hh.inj k i cc s N s' N' hlk hli h1 h2
      omega
  constructor
  · exact {
      sub := fun i y hy => by
        have := (hH.dom i y.1 y.2.1 y.2.2 hy).1
        rw [mlt i (by omega)]; exact x.sub i y hy
      fresh := fun k y h1 h2 => by
        by_cases hk : k < c.n0
        · rw [mlt k hk] at h1; have := x.fresh k y h1 h2; omega
        · omega
      n := by show H.n ≤ c.n1; unfold CertN.n1; omega
      old := fun i hi hmi => by
        rcases after i with ⟨b, j, b', _, e2, _⟩ | e
        · omega
        · exact .inl e
      alive := fun i hi hl => by
        rcases src i hl with ⟨j, e, _⟩ | ⟨g, _⟩
        · omega
        · exact g
      size := x.size
      newc := fun k cc s N h1 h2 => by
        by_cases hk : k < c.n0
        · rw [mlt k hk] at h1
          exact (x.newc k cc s N h1 h2).imp id fun ⟨j, s', N', g1, g2⟩ => ⟨j, s', N', slive j g1, g2⟩
        · obtain ⟨i, g1, g2⟩ := mge k _ (by omega) h1
          exact (x.newc i cc s N g2 (mnone i (hge _ i g1))).imp id fun ⟨j, s', N', g1, g2⟩ => ⟨j, s', N', slive j g1, g2⟩
      frame := fun k hk hno => x.frame k hk fun i cc s N hl => hno i cc s N (slive i hl)
      os := x.os
      tape := x.tape
      output := x.output }
  · exact {
      dom := fun k cc s N h1 => by
        by_cases hk : k < c.n0
        · rw [mlt k hk] at h1
          exact ⟨by show k < c.n1; unfold CertN.n1; omega, (hh.dom k cc s N h1).2⟩
        · obtain ⟨i, g1, g2⟩ := mge k _ (by omega) h1
          have hlt := (List.getElem?_eq_some_iff.1 g1).1
          exact ⟨by show k < c.n1; unfold CertN.n1; omega, (hh.dom i cc s N g2).2⟩
      low := fun k b h1 => by
        show k < c.n1
        unfold CertN.n1
        rcases after k with ⟨b, i, b', _, e2, e3, _⟩ | e
        · have hlt := (List.getElem?_eq_some_iff.1 e3).1
          omega
        · have := hH.low k b (e.symm.trans h1); omega
      blk := fun k b cc s N h1 h2 => by
        rcases after k with ⟨b0, i, b', e1, e2, e3, e4, e5⟩ | e
        · rw [show (setBs H.b c.wr).get k = _ from h1] at e1; cases e1
          obtain ⟨i', g1, g2⟩ := mge k _ e2 h2
          rw [e3] at g1; cases g1
          exact eqRB_BR hR e5 (hh.blk i b' cc s N e4 g2)
        · have hb : H.b.get k = some b := e.symm.trans h1
          by_cases hd : b = .dead
          · subst hd; trivial
          · have hk : k < c.n0 := by have := hH.low k b hb; omega
            rw [mlt k hk] at h2
            have m1 := old k _ hk h2
            rcases oldB k b cc s N hb hd m1 with ⟨b1, g1, rfl⟩ | g
            · obtain ⟨b', g2, g3⟩ := hasR_ok f4 k b1 (sget k b1 g1).1
              exact eqRB_BR hR g3 (hh.blk k b' cc s N g2 h2)
            · have hlt := (hH.dom k cc s N m1).2
              rw [x.frame cc hlt (fun j c2 s2 N2 hj mj => g j c2 s2 N2 hj mj)]
              refine (hH.blk k b cc s N hb m1).mono fun i y hy => ?_
              have := (hH.dom i y.1 y.2.1 y.2.2 hy).1
              rw [mlt i (by omega)]; exact x.sub i y hy
      inj := fun k j cc s N s' N' hk hj h1 h2 => by
        rcases src k hk with ⟨i, e1, e2, e3⟩ | ⟨g, e1⟩ <;> rcases src j hj with ⟨i', e1', e2', e3'⟩ | ⟨g', e1'⟩
        · obtain ⟨a, p1, p2⟩ := mge k _ e1 h1
          obtain ⟨a', p1', p2'⟩ := mge j _ e1' h2
          rw [e2] at p1; cases p1
          rw [e2'] at p1'; cases p1'
          have := hh.inj i i' cc s N s' N' e3 e3' p2 p2'
          subst this
          have := distinct_ok f3 e2 e2'
          omega
        · obtain ⟨a, p1, p2⟩ := mge k _ e1 h1
          rw [e2] at p1; cases p1
          rw [mlt j e1'] at h2
          exact (newOld j i i cc s' N' s N g' e1' (hge _ i e2) e3 rfl h2 p2).elim
        · obtain ⟨a', p1', p2'⟩ := mge j _ e1' h2
          rw [e2'] at p1'; cases p1'
          rw [mlt k e1] at h1
          exact (newOld k i' i' cc s N s' N' g e1 (hge _ i' e2') e3' rfl h1 p2').elim
        · rw [mlt k e1] at h1
          rw [mlt j e1'] at h2
          exact hH.inj k j cc s N s' N' g g' (old k _ e1 h1) (old j _ e1' h2) }
def CertN.Holds [Val] (P : Program) (gl : Gam) (f : FuncId) (c : CertN) : Prop :=
  ∃ sp N v h, SpecOK P gl sp ∧ evalF P gl sp N f c.args c.start = .ok (v, h) ∧ c.fits v h = true
theorem CertN.start_HR [Val] (hm : hasBs H.b c.rd = true) (hn : H.n ≤ c.n0) (hH : HR μ H w) : HR μ c.start w := by
  have e : c.start = c.cert.start := rfl
  rw [e]
  exact Cert.start_HR (c := c.cert) (by simp [Cert.met, CertN.cert, hm, hasBs]) hn hH
theorem CertN.start_GR (hm : hasBs H.b c.rd = true) (hG : GR gl μ H w) : GR gl μ c.start w := by
  have e : c.start = c.cert.start := rfl
  rw [e]
  exact Cert.start_GR (c := c.cert) (by simp [Cert.met, CertN.cert, hm, hasBs]) hG
theorem memoN_goes [Val] (hmix : P.follows .mixedOrders = true) {f : FuncId} : ∀ {l : List CertN}, (∀ c ∈ l, c.Holds P gl f) → ∀ {args : List AV} {H : Hp} {v : AV} {H' : Hp}, memoN l args H = .ok (v, H') →
    ∀ {μ : Mp} {w : World} {args' : Array Value}, VRs μ args args'.toList → HR μ H w → GR gl μ H w →
    Goes P (callFunc f args') w fun v' w' => ∃ μ', Ext μ H w μ' H' w' ∧ HR μ' H' w' ∧ VR μ' v v'
  | [], _, args, H, v, H', h, _, _, _, _, _, _ => by cases h
  | c :: l, hl, args, H, v, H', h, μ, w, args', ha, hH, hG => by
    unfold memoN at h
    cases e0 : c.hit args H with
    | false => rw [e0] at h; exact memoN_goes hmix (fun c hc => hl c (List.mem_cons_of_mem _ hc)) h ha hH hG
    | true =>
      rw [e0] at h
      simp only [Res.ok.injEq, Prod.mk.injEq] at h
      obtain ⟨rfl, rfl⟩ := h
      simp only [CertN.hit, Bool.and_eq_true] at e0
      have hn := Nat.le_of_ble_eq_true e0.1.1
      have hargs := eqList_ok (eqAV_ok 8) _ _ e0.1.2
      subst hargs
      obtain ⟨sp, N, v', h', hsp, hev, hfit⟩ := hl c List.mem_cons_self
      have := (call_ok (evalC_ok hmix hsp N) hsp).fn f c.args c.start v' h' hev μ w args' ha (CertN.start_HR e0.2 hn hH) (CertN.start_GR e0.2 hG)
      have hv : eqR (refOk c.n0 c.ren) 8 c.v v' = true := by
        simp only [CertN.fits, Bool.and_eq_true] at hfit
        exact hfit.1.1.1.1
      have step : ∀ v1 w1, (∃ μ', Ext μ c.start w μ' h' w1 ∧ HR μ' h' w1 ∧ VR μ' v' v1) → ∃ μ', Ext μ H w μ' ⟨c.n1, setBs H.b c.wr⟩ w1 ∧ HR μ' ⟨c.n1, setBs H.b c.wr⟩ w1 ∧ VR μ' c.v v1 := by
        rintro v1 w1 ⟨μ', g1, g2, g3⟩
        obtain ⟨k1, k2⟩ := memoN_post e0.2 hn hfit hH g1 g2
        exact ⟨_, k1, k2, eqR_VR (refR_mp c.n0 c.ren μ') 8 _ _ _ hv g3⟩
      rcases this with ⟨v1, w1, g1, g2⟩ | ⟨f', a', g1, g2⟩
      · exact .inl ⟨v1, w1, g1, step v1 w1 g2⟩
      · exact .inr ⟨f', a', g1, g2.mono fun e w1 ⟨v1, k1, k2⟩ => ⟨v1, k1, step v1 w1 k2⟩⟩
end
end Go.Ab

namespace Go.Ab
def altsN (h : Hp) (b m n : Nat) (seen : List Nat) : List (AV × AV) → Nat → List (AV × Hp)
  | [], _ => []
  | (k, v) :: es, i => if seen.contains i then altsN h b m n seen es (i + 1)
      else (.tuple [.bool true, k, v], ⟨h.n, h.b.set b (.miterAt m n (seen ++ [i]))⟩) :: altsN h b m n seen es (i + 1)
def goN (h : Hp) (b m n : Nat) (seen : List Nat) : Res (List (AV × Hp)) :=
  (getMap h m).bind fun es => if es.length = n then
      (if seen.length = n then .ok [(.tuple [.bool false], h)] else .ok (altsN h b m n seen es 0))
    else .err 181
def nextN (h : Hp) (it : AV) : Res (List (AV × Hp)) :=
  match it with
  | .ptr b 0 => match h.b.get b with
    | some (.miter (some m) n left) => if left = n then goN h b m n [] else .err 178
    | some (.miterAt m n seen) => goN h b m n seen
    | _ => .err 179
  | _ => .err 180
def isManyN (h : Hp) (it : AV) : Bool :=
  match it with
  | .ptr b 0 => match h.b.get b with
    | some (.miter (some _) n left) => Nat.ble 2 n && Nat.beq left n
    | some (.miterAt _ _ _) => true
    | _ => false
  | _ => false
def bindN {α β : Type} (f : α → Res (List β)) : List α → Res (List β)
  | [] => .ok []
  | a :: l => (f a).bind fun x => (bindN f l).bind fun y => .ok (x ++ y)
theorem bindN_mem {α β : Type} {f : α → Res (List β)} : ∀ {l : List α} {r : List β}, bindN f l = .ok r → ∀ a ∈ l, ∃ x, f a = .ok x ∧ ∀ b ∈ x, b ∈ r
  | [], r, h, a, ha => by cases ha
  | c :: l, r, h, a, ha => by
    obtain ⟨x, h1, h2⟩ := Res.bind_ok h
    obtain ⟨y, h3, h4⟩ := Res.bind_ok h2
    simp only [Res.ok.injEq] at h4
    subst h4
    rcases List.mem_cons.1 ha with rfl | ha
    · exact ⟨x, h1, fun b hb => List.mem_append_left _ hb⟩
    · obtain ⟨x', g1, g2⟩ := bindN_mem h3 a ha
      exact ⟨x', g1, fun b hb => List.mem_append_right _ (g2 b hb)⟩
theorem altsN_mem {h : Hp} {b m n : Nat} {seen : List Nat} : ∀ (es : List (AV × AV)) (i j : Nat) (k v : AV), es[j]? = some (k, v) → seen.contains (i + j) = false →
    (AV.tuple [.bool true, k, v], (⟨h.n, h.b.set b (.miterAt m n (seen ++ [i + j]))⟩ : Hp)) ∈ altsN h b m n seen es i
  | [], i, j, k, v, hj, _ => by simp at hj
  | (k0, v0) :: es, i, 0, k, v, hj, hc => by
    simp at hj
    obtain ⟨rfl, rfl⟩ := hj
    simp only [Nat.add_zero] at hc ⊢
    unfold altsN
    rw [hc]
    exact List.mem_cons_self
  | (k0, v0) :: es, i, j + 1, k, v, hj, hc => by
    have e : i + (j + 1) = i + 1 + j := by omega
    rw [e] at hc ⊢
    have := altsN_mem (h := h) (b := b) (m := m) (n := n) (seen := seen) es (i + 1) j k v (by simpa using hj) hc
    unfold altsN
    split
    · exact this
    · exact List.mem_cons_of_mem _ this
section
variable {P : Program} {μ : Mp} {H : Hp} {w : World}
def SimN [Val] (P : Program) (s : Sem Value) (μ : Mp) (H : Hp) (w : World) (l : List (AV × Hp)) : Prop :=
  ∃ v' μ' w' v H', (v, H') ∈ l ∧ s.run P w = .ok v' w' ∧ Ext μ H w μ' H' w' ∧ HR μ' H' w' ∧ VR μ' v v'
theorem goN_sim [Val] (hH : HR μ H w) {b c N m n : Nat} {seen : List Nat} {ty : TypeId} {blk : Blk} (hb : H.b.get b = some blk) (hd : blk ≠ .dead) (hm : μ b = some (c, 0, N)) {cm s' N' : Nat} (g1 : μ m = some (cm, s', N')) (k1 : seen.Nodup) (k2 : ∀ x ∈ seen, x < n)
    (k4 : w.heap[c]? = some (.mapIter (some cm) n seen.toArray n)) {l : List (AV × Hp)} (h : goN H b m n seen = .ok l) : SimN P (Instr.next (.pointer (some ⟨c, 0, none⟩)) false ty) μ H w l := by
  unfold goN at h
  obtain ⟨es, h3, h4⟩ := Res.bind_ok h
  obtain ⟨ces, e1, e2, e3, e4⟩ := getMap_ok hH g1 h3
  split at h4
  · rename_i hn
    have hcs : ces.size = n := by omega
    have hborn : ∀ i (hi : i < ces.size), (ces[i]'hi).born = i := fun i hi =>
      (e3 i _ _ (ces[i]'hi) (List.getElem?_eq_getElem (by omega)) (by simp [hi])).2.2
    have hold : ∀ x ∈ ces.toList, x.born < n := by
      intro x hx
      obtain ⟨i, hi, rfl⟩ := Array.getElem_of_mem (Array.mem_toList_iff.1 hx)
      rw [hborn i hi]; omega
    rcases run_next_at (P := P) w ty c cm n n seen.toArray ces ces.size k4 e1 hold (Nat.le_refl _) with ⟨h0, hrun⟩ | ⟨e, he, w1, hal, hrun⟩
    · have hall : ∀ i, i < n → i ∈ seen := by
        intro i hi
        have := all_seen ces seen.toArray h0 (ces[i]'(by omega)) (by simp)
        rw [hborn i (by omega)] at this
        simpa using this
      have q1 := all_in n seen hall
      have q2 := (nodup_full n seen k1 k2).1
      rw [if_pos (by omega)] at h4
      simp only [Res.ok.injEq] at h4; subst h4
      exact ⟨.tuple #[.bool false], μ, w, _, H, List.mem_cons_self, hrun, .refl μ H w, hH, .tuple _ _ rfl fun i a b h1 h2 => (VRs.cons (.bool false) (.nil μ)).2 i a b h1 (by simpa using h2)⟩
    · obtain ⟨hem, hes⟩ := mem_left he
      have hbn := hold e hem
      have hnew : e.born ∉ seen := by
        intro hc
        have : seen.toArray.contains e.born = true := by simpa using hc
        rw [hes] at this; cases this
      have hne : seen.length ≠ n := fun hl => hnew ((nodup_full n seen k1 k2).2 hl e.born hbn)
      rw [if_neg hne] at h4
      simp only [Res.ok.injEq] at h4; subst h4
      obtain ⟨i, hi, rfl⟩ := Array.getElem_of_mem (Array.mem_toList_iff.1 hem)
      have hbi := hborn i hi
      rw [hbi] at hnew hrun hbn
      have hil : i < es.length := by omega
      have hget : es[i]? = some (es[i].1, es[i].2) := by simp [hil]
      have h30 := e3 i _ _ (ces[i]'hi) hget (by simp [hi])
      have hmem := altsN_mem (h := H) (b := b) (m := m) (n := n) (seen := seen) es 0 i _ _ hget (by simpa using hnew)
      rw [Nat.zero_add] at hmem
      have hBR : BR μ 0 N (.miterAt m n (seen ++ [i])) (some (.mapIter (some cm) n (seen.toArray.push i) n)) := by
        refine ⟨rfl, cm, s', N', g1, ?_, ?_, by simp⟩
        · rw [List.nodup_append]
          refine ⟨k1, by simp, fun a ha b' hb' => ?_⟩
          simp at hb'
          subst hb'
          exact fun e => hnew (e ▸ ha)
        · intro x hx
          rcases List.mem_append.1 hx with hx | hx
          · exact k2 x hx
          · simp at hx; subst hx; exact hbn
      have hv : VR μ (.tuple [.bool true, es[i].1, es[i].2]) (.tuple #[.bool true, (ces[i]'hi).key, (ces[i]'hi).val]) :=
        .tuple _ _ rfl fun i a b h1 h2 => (VRs.cons (.bool true) (.cons h30.1 (.cons h30.2.1 (.nil μ)))).2 i a b h1 (by simpa using h2)
      rcases hal with rfl | rfl
      · obtain ⟨q1, q2⟩ := set_obj hH hb hd hm _ _ hBR
        exact ⟨_, μ, _, _, _, hmem, by rw [← hcs]; rw [← hcs] at hrun; exact hrun, q1, q2, hv⟩
      · obtain ⟨q1, q2⟩ := set_obj hH.drew hb hd hm _ _ hBR
        exact ⟨_, μ, _, _, _, hmem, by rw [← hcs]; rw [← hcs] at hrun; exact hrun, (Ext.drew μ H w).trans hH.dom' q1, q2, hv⟩
  · cases h4
theorem nextN_sim [Val] (hH : HR μ H w) {it : AV} {it' : Value} (hi : VR μ it it') {ty : TypeId} {l : List (AV × Hp)} (h : nextN H it = .ok l) : SimN P (Instr.next it' false ty) μ H w l := by
  unfold nextN at h
  split at h
  · rename_i b
    cases hi with
    | ptr _ _ c s N hm =>
      split at h
      · rename_i m n left hb
        split at h
        · rename_i hl
          obtain ⟨rfl, cm, s', N', g1, seen, k1, k2, k3, k4⟩ := hH.blk b _ c s N hb hm
          have : seen = #[] := Array.eq_empty_of_size_eq_zero (by omega)
          subst this
          exact goN_sim hH hb (by simp) hm g1 (by simp) (by simp) k4 h
        · cases h
      · rename_i m n seen hb
        obtain ⟨rfl, cm, s', N', g1, k1, k2, k4⟩ := hH.blk b _ c s N hb hm
        exact goN_sim hH hb (by simp) hm g1 k1 k2 k4 h
      · cases h
  · cases h
end
def regN (P : Program) (gl : List Nat) (cf : CallF) (ops : Array Oper) (st : St) : Res (List St) :=
  match ops.toList with
  | o :: rest => match o.op, o.guard, o.dst with
    | .next it false, none, some d => (evalO gl st.t it).bind fun i => match isManyN st.h i with
      | true => (nextN st.h i).bind fun l => bindN (fun (x : AV × Hp) => (putA st x.2 (some d) x.1).bind fun st1 => (opsA P gl cf ops rest st1).bind fun st2 => .ok [st2]) l
      | false => (opsA P gl cf ops ops.toList st).bind fun st => .ok [st]
    | _, _, _ => (opsA P gl cf ops ops.toList st).bind fun st => .ok [st]
  | [] => .ok [st]
def loopE (ev : St → Res (List (Ex × St))) : Nat → St → Res (List (Ex × St))
  | 0, _ => .err 182
  | k + 1, st => (ev st).bind fun l => bindN (fun (x : Ex × St) => match x with
    | (.normal, st) => loopE ev k st
    | r => .ok [r]) l
def inBlk (id : Nat) (x : Ex × St) : Ex × St := match x with
  | (.exit i, st) => if Nat.beq i id then (.normal, st) else (.exit i, st)
  | r => r
def evN (P : Program) (gl : List Nat) (cf : CallF) (rec : Rec) : Nat → Code → St → Res (List (Ex × St))
  | 0, _, _ => .err 183
  | n + 1, c, st => match c with
    | .region _ ops false => (regN P gl cf ops st).bind fun l => .ok (l.map fun s => (.normal, s))
    | .seq a b => (evN P gl cf rec n a st).bind fun l => bindN (fun (x : Ex × St) => match x with
      | (.normal, st) => evN P gl cf rec n b st
      | r => .ok [r]) l
    | .cond c a b => (evalO gl st.t c).bind fun
      | .bool true => evN P gl cf rec n a st
      | .bool false => evN P gl cf rec n b st
      | _ => .err 184
    | .block id b => (evN P gl cf rec n b st).bind fun l => .ok (l.map (inBlk id))
    | .loop b => loopE (evN P gl cf rec n b) 1000 st
    | c => (rec c st).bind fun r => .ok [r]
section
variable {P : Program} {ro : Option Nat} {gl : Gam} {cf : CallF} {rec : Rec}
def PostN [Val] (_ro : Option Nat) (μ : Mp) (H : Hp) (w : World) (l : List (Ex × St)) (Q : Exit → Act → World → Prop) : Prop :=
  ∀ e st', (e, st') ∈ l → Post μ H w st' (Q (exOf e))
theorem regN_wp [Val] (hcf : CallOK P gl cf) {id : Nat} {ops : Array Oper} {Q : Exit → Act → World → Prop} {st : St} {l : List St} {μ : Mp} {a : Act} {w : World} (h : regN P gl cf ops st = .ok l) (hT : TR μ st a) (hH : HR μ st.h w) (hG : GR gl μ st.h w)
    (hQ : ∀ st' ∈ l, Post μ st.h w st' (Q .normal)) : wpC ro P (Code.region id ops false) Q a w ∧ ∀ st' ∈ l, st'.md = st.md := by
  have det : ∀ st1, opsA P gl cf ops ops.toList st = .ok st1 → l = [st1] → wpC ro P (Code.region id ops false) Q a w ∧ ∀ st' ∈ l, st'.md = st.md := by
    intro st1 h1 hl
    subst hl
    refine ⟨text_wp hcf h1 hT hH hG (hQ st1 List.mem_cons_self), fun st' hm => ?_⟩
    rcases List.mem_cons.1 hm with rfl | hm
    · exact (opsA_md _ _ _ h1)
    · cases hm
  unfold regN at h
  split at h
  · rename_i o rest hops
    split at h
    · rename_i it d ho hg hdst
      obtain ⟨i, h1, h2⟩ := Res.bind_ok h
      split at h2
      · obtain ⟨alts, h3, h4⟩ := Res.bind_ok h2
        have hi := hT.tmps.opd hG it i h1
        have hsim := nextN_sim (P := P) (ty := o.type) hH hi h3
        obtain ⟨v', μ', w', v, H', hmem, hrun, x1, x2, x3⟩ := hsim
        have hmd : ∀ st' ∈ l, st'.md = st.md := by
          intro st' hst'
          have key : ∀ (al : List (AV × Hp)) (r : List St), bindN (fun (x : AV × Hp) => (putA st x.2 (some d) x.1).bind fun st1 => (opsA P gl cf ops rest st1).bind fun st2 => Res.ok [st2]) al = .ok r → ∀ s ∈ r, s.md = st.md := by
            intro al
            induction al with
            | nil => intro r hr s hs; simp only [bindN, Res.ok.injEq] at hr; subst hr; cases hs
            | cons x al ih =>
              intro r hr s hs
              obtain ⟨y, g1, g2⟩ := Res.bind_ok hr
              obtain ⟨z, g3, g4⟩ := Res.bind_ok g2
              simp only [Res.ok.injEq] at g4; subst g4
              rcases List.mem_append.1 hs with hs | hs
              · obtain ⟨st1, p1, p2⟩ := Res.bind_ok g1
                obtain ⟨st2, p3, p4⟩ := Res.bind_ok p2
                simp only [Res.ok.injEq] at p4; subst p4
                rcases List.mem_cons.1 hs with rfl | hs
                · exact (opsA_md _ _ _ p3).trans (putA_h p1).2.2
                · cases hs
              · exact ih z g3 s hs
          exact key alts l h4 st' hst'
        refine ⟨?_, hmd⟩
        obtain ⟨y, g1, g2⟩ := bindN_mem h4 (v, H') hmem
        obtain ⟨st1, p1, p2⟩ := Res.bind_ok g1
        obtain ⟨st2, p3, p4⟩ := Res.bind_ok p2
        simp only [Res.ok.injEq] at p4; subst p4
        have hin := g2 st2 List.mem_cons_self
        apply wpIn_region
        have hsz : ops.size = rest.length + 1 := by
          have := congrArg List.length hops
          simpa using this
        rw [List.range_eq_range', hsz, List.range'_succ, wpOpsIn_cons]
        show wpO ro P ops Q 0 _ a w
        have ho0 : ops[0]? = some o := by
          have := congrArg (·[0]?) hops
          simpa using this
        have hw : Region.wanted o (yielded ops a.tmps) = true := by unfold Region.wanted; rw [hg]
        have hrest : ops.toList.drop 1 = rest := by rw [hops]; rfl
        have hnd : NoDefer o := fun c hc => by rw [ho] at hc; cases hc
        have hexec : (execOp a.eval o).run P w = .ok (.value v') w' := by
          obtain ⟨dst, op, ty, pos, after, guard⟩ := o
          simp only at ho
          subst ho
          show (do pure (Next.value (← Instr.next (a.eval it) false ty)) : Sem Next).run P w = _
          simp [hrun]
        refine wpO_run ho0 hw (wpI_value hnd hexec ?_)
        rw [hdst]
        obtain ⟨e1, _, _⟩ := putA_h p1
        have hT1 : TR μ' st1 (a.put (some d) v') := (hT.mono x1.sub).put p1 x3
        have hH1 : HR μ' st1.h w' := by rw [e1]; exact x2
        have hG1 : GR gl μ' st1.h w' := by rw [e1]; exact hG.mono hH x1
        refine ops_wp hcf ops rest 1 hrest st1 st2 μ' _ w' p3 hT1 hH1 hG1 ?_
        rw [e1]
        exact (hQ st2 hin).trans hH x1
      · obtain ⟨st1, h3, h4⟩ := Res.bind_ok h2
        simp only [Res.ok.injEq] at h4
        exact det st1 h3 h4.symm
    · obtain ⟨st1, h3, h4⟩ := Res.bind_ok h
      simp only [Res.ok.injEq] at h4
      exact det st1 h3 h4.symm
  · rename_i hops
    simp only [Res.ok.injEq] at h
    exact det st (by rw [hops]; rfl) h.symm
def CodeOKN [Val] (ro : Option Nat) (P : Program) (gl : Gam) (ev : St → Res (List (Ex × St))) (c : Code) : Prop :=
  ∀ (st : St) (l : List (Ex × St)), ev st = .ok l → isRd st.md = ro.isSome → ∀ (μ : Mp) (a : Act) (w : World), TR μ st a → HR μ st.h w → GR gl μ st.h w → ∀ Q : Exit → Act → World → Prop, (∀ e st', (e, st') ∈ l → Post μ st.h w st' (Q (exOf e))) →
    wpC ro P c Q a w
def MdN (ev : St → Res (List (Ex × St))) : Prop := ∀ (st : St) (l : List (Ex × St)), ev st = .ok l → ∀ e st', (e, st') ∈ l → isRd st'.md = isRd st.md
theorem bindN_inv {α β : Type} {f : α → Res (List β)} : ∀ {l : List α} {r : List β}, bindN f l = .ok r → ∀ b ∈ r, ∃ a ∈ l, ∃ x, f a = .ok x ∧ b ∈ x
  | [], r, h, b, hb => by simp only [bindN, Res.ok.injEq] at h; subst h; cases hb
  | c :: l, r, h, b, hb => by
    obtain ⟨x, h1, h2⟩ := Res.bind_ok h
    obtain ⟨y, h3, h4⟩ := Res.bind_ok h2
    simp only [Res.ok.injEq] at h4
    subst h4
    rcases List.mem_append.1 hb with hb | hb
    · exact ⟨c, List.mem_cons_self, x, h1, hb⟩
    · obtain ⟨a, g1, g2⟩ := bindN_inv h3 b hb
      exact ⟨a, List.mem_cons_of_mem _ g1, g2⟩
theorem loopE_md {ev : St → Res (List (Ex × St))} (hev : MdN ev) : ∀ k, MdN (loopE ev k)
  | 0 => fun st l h => by simp [loopE] at h
  | k + 1 => fun st l h e st' hm => by
    obtain ⟨l1, h1, h2⟩ := Res.bind_ok h
    obtain ⟨⟨e1, s1⟩, g1, x, g2, g3⟩ := bindN_inv h2 _ hm
    have hs1 := hev st l1 h1 e1 s1 g1
    cases e1 with
    | normal => exact (loopE_md hev k s1 x g2 e st' g3).trans hs1
    | exit i => simp only [Res.ok.injEq] at g2; subst g2; rcases List.mem_cons.1 g3 with h | h; · cases h; exact hs1
                · cases h
    | goto i => simp only [Res.ok.injEq] at g2; subst g2; rcases List.mem_cons.1 g3 with h | h; · cases h; exact hs1
                · cases h
    | ret => simp only [Res.ok.injEq] at g2; subst g2; rcases List.mem_cons.1 g3 with h | h; · cases h; exact hs1
             · cases h
theorem loopE_wp [Val] {ev : St → Res (List (Ex × St))} {body : Code} (hmd : MdN ev) (hev : CodeOKN ro P gl ev body) {Q : Exit → Act → World → Prop} : ∀ (k : Nat) (st : St) (l : List (Ex × St)), loopE ev k st = .ok l → isRd st.md = ro.isSome → ∀ (μ : Mp) (a : Act) (w : World),
    TR μ st a → HR μ st.h w → GR gl μ st.h w → (∀ e st', (e, st') ∈ l → Post μ st.h w st' (Q (exOf e))) → LoopN ro P body Q k a w
  | 0, st, l, h, _, _, _, _, _, _, _, _ => by simp [loopE] at h
  | k + 1, st, l, h, hrd, μ, a, w, hT, hH, hG, hQ => by
    obtain ⟨l1, h1, h2⟩ := Res.bind_ok h
    refine hev st l1 h1 hrd μ a w hT hH hG _ fun e1 st1 hm μ' w' a' x1 x2 x3 => ?_
    obtain ⟨x, g1, g2⟩ := bindN_mem h2 _ hm
    cases e1 with
    | normal => exact loopE_wp hmd hev k st1 x g1 ((hmd _ _ h1 _ _ hm).trans hrd) μ' a' w' x3 x2 (hG.mono hH x1) fun e st' hm' => (hQ e st' (g2 _ hm')).trans hH x1
    | exit i => simp only [Res.ok.injEq] at g1; subst g1; exact hQ _ _ (g2 _ List.mem_cons_self) μ' w' a' x1 x2 x3
    | goto i => simp only [Res.ok.injEq] at g1; subst g1; exact hQ _ _ (g2 _ List.mem_cons_self) μ' w' a' x1 x2 x3
    | ret => simp only [Res.ok.injEq] at g1; subst g1; exact hQ _ _ (g2 _ List.mem_cons_self) μ' w' a' x1 x2 x3
theorem regN_md {ops : Array Oper} {st : St} {l : List St} (h : regN P gl.l cf ops st = .ok l) : ∀ st' ∈ l, st'.md = st.md := by
  have det : ∀ st1, opsA P gl.l cf ops ops.toList st = .ok st1 → l = [st1] → ∀ st' ∈ l, st'.md = st.md := by
    intro st1 h1 hl st' hm
    subst hl
    rcases List.mem_cons.1 hm with rfl | hm
    · exact (opsA_md _ _ _ h1)
    · cases hm
  unfold regN at h
  split at h
  · rename_i o rest hops
    split at h
    · rename_i it d ho hg hdst
      obtain ⟨i, h1, h2⟩ := Res.bind_ok h
      split at h2
      · obtain ⟨alts, h3, h4⟩ := Res.bind_ok h2
        intro st' hst'
        obtain ⟨x, _, y, g1, g2⟩ := bindN_inv h4 st' hst'
        obtain ⟨st1, p1, p2⟩ := Res.bind_ok g1
        obtain ⟨st2, p3, p4⟩ := Res.bind_ok p2
        simp only [Res.ok.injEq] at p4; subst p4
        rcases List.mem_cons.1 g2 with rfl | hs
        · exact (opsA_md _ _ _ p3).trans (putA_h p1).2.2
        · cases hs
      · obtain ⟨st1, h3, h4⟩ := Res.bind_ok h2
        simp only [Res.ok.injEq] at h4
        exact det st1 h3 h4.symm
    · obtain ⟨st1, h3, h4⟩ := Res.bind_ok h
      simp only [Res.ok.injEq] at h4
      exact det st1 h3 h4.symm
  · rename_i hops
    simp only [Res.ok.injEq] at h
    exact det st (by rw [hops]; rfl) h.symm
theorem evN_md (hmd : MdOK rec) : ∀ (n : Nat) (c : Code), MdN (evN P gl.l cf rec n c)
  | 0, c => fun st l h => by simp [evN] at h
  | n + 1, c => fun st l h e st' hm => by
    unfold evN at h
    split at h
    · obtain ⟨l1, h1, h2⟩ := Res.bind_ok h
      simp only [Res.ok.injEq] at h2; subst h2
      obtain ⟨s, g1, g2⟩ := List.mem_map.1 hm
      cases g2
      rw [regN_md h1 st' g1]
    · rename_i x y
      obtain ⟨l1, h1, h2⟩ := Res.bind_ok h
      obtain ⟨⟨e1, s1⟩, g1, z, g2, g3⟩ := bindN_inv h2 _ hm
      have hs1 := evN_md hmd n x st l1 h1 e1 s1 g1
      cases e1 with
      | normal => exact (evN_md hmd n y s1 z g2 e st' g3).trans hs1
      | exit i => simp only [Res.ok.injEq] at g2; subst g2; rcases List.mem_cons.1 g3 with h | h; · cases h; exact hs1
                  · cases h
      | goto i => simp only [Res.ok.injEq] at g2; subst g2; rcases List.mem_cons.1 g3 with h | h; · cases h; exact hs1
                  · cases h
      | ret => simp only [Res.ok.injEq] at g2; subst g2; rcases List.mem_cons.1 g3 with h | h; · cases h; exact hs1
               · cases h
    · rename_i co x y
      obtain ⟨v, h1, h2⟩ := Res.bind_ok h
      split at h2
      · exact evN_md hmd n x st l h2 e st' hm
      · exact evN_md hmd n y st l h2 e st' hm
      · cases h2
    · rename_i id b
      obtain ⟨l1, h1, h2⟩ := Res.bind_ok h
      simp only [Res.ok.injEq] at h2; subst h2
      obtain ⟨⟨e1, s1⟩, g1, g2⟩ := List.mem_map.1 hm
      have hs1 := evN_md hmd n b st l1 h1 e1 s1 g1
      have : st' = s1 := by
        unfold inBlk at g2
        split at g2
        · split at g2 <;> cases g2 <;> simp_all
        · cases g2; rfl
      rw [this]; exact hs1
    · rename_i b
      exact loopE_md (evN_md hmd n b) 1000 st l h e st' hm
    · obtain ⟨⟨e1, s1⟩, h1, h2⟩ := Res.bind_ok h
      simp only [Res.ok.injEq] at h2; subst h2
      rcases List.mem_cons.1 hm with hm | hm
      · cases hm; exact hmd _ _ _ _ h1
      · cases hm
theorem evN_wp [Val] (hcf : CallOK P gl cf) (hmd : MdOK rec) (hrec : CodeOK ro P gl rec) : ∀ (n : Nat) (c : Code), CodeOKN ro P gl (evN P gl.l cf rec n c) c
  | 0, c => fun st l h => by simp [evN] at h
  | n + 1, c => fun st l h hrd μ a w hT hH hG Q hQ => by
    unfold evN at h
    split at h
    · rename_i id ops
      obtain ⟨l1, h1, h2⟩ := Res.bind_ok h
      simp only [Res.ok.injEq] at h2; subst h2
      exact (regN_wp (ro := ro) hcf h1 hT hH hG fun st' hm => hQ .normal st' (List.mem_map.2 ⟨st', hm, rfl⟩)).1
    · rename_i x y
      obtain ⟨l1, h1, h2⟩ := Res.bind_ok h
      refine wpIn_seq (evN_wp hcf hmd hrec n x st l1 h1 hrd μ a w hT hH hG _ fun e1 st1 hm μ' w' a' x1 x2 x3 => ?_)
      obtain ⟨z, g1, g2⟩ := bindN_mem h2 _ hm
      cases e1 with
      | normal => exact evN_wp hcf hmd hrec n y st1 z g1 ((evN_md hmd n x _ _ h1 _ _ hm).trans hrd) μ' a' w' x3 x2 (hG.mono hH x1) Q fun e st' hm' => (hQ e st' (g2 _ hm')).trans hH x1
      | exit i => simp only [Res.ok.injEq] at g1; subst g1; exact hQ _ _ (g2 _ List.mem_cons_self) μ' w' a' x1 x2 x3
      | goto i => simp only [Res.ok.injEq] at g1; subst g1; exact hQ _ _ (g2 _ List.mem_cons_self) μ' w' a' x1 x2 x3
      | ret => simp only [Res.ok.injEq] at g1; subst g1; exact hQ _ _ (g2 _ List.mem_cons_self) μ' w' a' x1 x2 x3
    · rename_i co x y
      obtain ⟨v, h1, h2⟩ := Res.bind_ok h
      have hv := eval_bool hT hG h1
      split at h2
      · generalize hy : a.eval co = z at hv
        cases hv
        exact wpIn_cond_true hy (evN_wp hcf hmd hrec n x st l h2 hrd μ a w hT hH hG Q hQ)
      · generalize hy : a.eval co = z at hv
        cases hv
        exact wpIn_cond_false hy (evN_wp hcf hmd hrec n y st l h2 hrd μ a w hT hH hG Q hQ)
      · cases h2
    · rename_i id b
      obtain ⟨l1, h1, h2⟩ := Res.bind_ok h
      simp only [Res.ok.injEq] at h2; subst h2
      refine wpIn_block (evN_wp hcf hmd hrec n b st l1 h1 hrd μ a w hT hH hG _ fun e1 st1 hm μ' w' a' x1 x2 x3 => ?_)
      have hq := hQ (inBlk id (e1, st1)).1 (inBlk id (e1, st1)).2 (List.mem_map.2 ⟨(e1, st1), hm, rfl⟩) μ' w' a'
      cases e1 with
      | normal => exact hq x1 x2 x3
      | exit i =>
        simp only [exOf, Exit.inBlock]
        simp only [inBlk] at hq
        split at hq
        · rename_i hi
          have := Nat.eq_of_beq_eq_true hi
          rw [if_pos this]
          exact hq x1 x2 x3
        · rename_i hi
          rw [if_neg (fun e => hi (by rw [e]; simp))]
          exact hq x1 x2 x3
      | goto i => exact hq x1 x2 x3
      | ret => exact hq x1 x2 x3
    · rename_i b
      exact wpC_loopN (loopE_wp (evN_md hmd n b) (evN_wp hcf hmd hrec n b) 1000 st l h hrd μ a w hT hH hG hQ)
    · obtain ⟨⟨e1, s1⟩, h1, h2⟩ := Res.bind_ok h
      simp only [Res.ok.injEq] at h2; subst h2
      exact hrec _ st e1 s1 h1 hrd μ a w hT hH hG Q (hQ e1 s1 List.mem_cons_self)
end
def finN (P : Program) (fn : Func) (x : Ex × St) : Res (List (AV × Hp)) :=
  match x with
  | (.normal, st) | (.ret, st) => (leaveA st).bind fun h => (resultsA P fn st.t h).bind fun v => .ok [(v, h)]
  | _ => .err 185
def evFN (P : Program) (gl : List Nat) (sp : Special) (n : Nat) (f : FuncId) (args : List AV) (h : Hp) : Res (List (AV × Hp)) :=
  match sp f with
  | some _ => .err 186
  | none => match P.funcs[f]? with
    | some fn => match fn.body with
      | some c => if args.length ≤ fn.ntmps ∧ fn.name ≠ "runtime.NumGoroutine" then
          (evN P gl (callWith P sp (evalC P gl sp n)) (evalC P gl sp n) n c ⟨argsT args 0 .nil, h, fn.ntmps, .top⟩).bind fun l => bindN (finN P fn) l
        else .err 154
      | none => .err 126
    | none => .err 127
theorem evFN_goes [Val] {P : Program} {gl : Gam} (hm : P.follows .mixedOrders = true) {sp : Special} (hsp : SpecOK P gl sp) {n : Nat} {f : FuncId} {args : List AV} {H : Hp} {l : List (AV × Hp)} (h : evFN P gl sp n f args H = .ok l)
    {μ : Mp} {w : World} {args' : Array Value} (ha : VRs μ args args'.toList) (hH : HR μ H w) (hG : GR gl μ H w) :
    Goes P (callFunc f args') w fun v' w' => ∃ v H', (v, H') ∈ l ∧ ∃ μ', Ext μ H w μ' H' w' ∧ HR μ' H' w' ∧ VR μ' v v' := by
  unfold evFN at h
  split at h
  · cases h
  · split at h
    · rename_i fn hf
      split at h
      · rename_i c hb
        split at h
        · rename_i hc
          obtain ⟨l1, h1, h2⟩ := Res.bind_ok h
          have hT := args_TR (μ := μ) ha hc.1 H
          refine .inr ⟨f, args', run_callFunc_enter hf hc.2 hb args' w, callsIn_wide.1 (callsIn_of_wp_marks (n := 0) hf hb trivial ?_)⟩
          have hw : wpC none P c (bodyPostM Fence.wide 0 P fn fun e w' => ∃ v', e = .returned v' ∧ ∃ v H', (v, H') ∈ l ∧ ∃ μ', Ext μ H w μ' H' w' ∧ HR μ' H' w' ∧ VR μ' v v') { tmps := args' ++ Array.replicate (fn.ntmps - args'.size) undef, defers := [] } w := by
            refine evN_wp (call_ok (evalC_ok hm hsp n) hsp) (evalC_md sp n) (evalC_ok hm hsp n none) n c _ l1 h1 rfl μ _ w hT hH hG _ fun e st hmem μ' w' a' x1 x2 x3 => ?_
            obtain ⟨y, g1, g2⟩ := bindN_mem h2 _ hmem
            have main : ((leaveA st).bind fun h => (resultsA P fn st.t h).bind fun v => Res.ok [(v, h)]) = Res.ok y →
                LeavesInM Fence.wide 0 P fn a'.tmps (fun e w' => ∃ v', e = .returned v' ∧ ∃ v H', (v, H') ∈ l ∧ ∃ μ', Ext μ H w μ' H' w' ∧ HR μ' H' w' ∧ VR μ' v v') a'.defers .returning w' := by
              intro g
              obtain ⟨hh, h3, h4⟩ := Res.bind_ok g
              obtain ⟨v1, h5, h6⟩ := Res.bind_ok h4
              simp only [Res.ok.injEq] at h6
              subst h6
              have hin : (v1, hh) ∈ l := g2 _ List.mem_cons_self
              unfold leaveA at h3
              have hdr := x3.defers
              split at h3
              · rename_i hmd
                rw [hmd] at hdr
                have hdr : a'.defers = [] := hdr
                rw [hdr]
                simp only [Res.ok.injEq] at h3
                subst h3
                obtain ⟨v', p1, p2⟩ := results_run x3 x2 h5
                exact ⟨v', p1, v', rfl, v1, _, hin, μ', x1, x2, p2⟩
              · rename_i b hmd
                rw [hmd] at hdr
                obtain ⟨cc, N, hmm, hds⟩ := hdr
                rw [hds]
                obtain ⟨blk, h7, h8⟩ := Res.bind_ok h3
                have hgb := Res.ofOpt_ok h7
                split at h8
                · simp only [Res.ok.injEq] at h8
                  subst h8
                  have hB := x2.blk b _ cc 0 N hgb hmm
                  have hcell : w'.heap[cc]? = some (.deferred (some [])) := hB.2
                  have s1 : (w'.putObj cc (.deferred none)).heap.size = w'.heap.size := by simp [World.putObj]
                  have s2 : ∀ k, k ≠ cc → (w'.putObj cc (.deferred none)).heap[k]? = w'.heap[k]? := fun k hk => by simp [World.putObj, Ne.symm hk]
                  have y1 := Ext.setBlk (w' := w'.putObj cc (.deferred none)) .dead hgb (by simp) hmm s1 s2 rfl rfl rfl
                  have y2 := HR.setBlk (w' := w'.putObj cc (.deferred none)) (b' := .dead) x2 hgb (by simp) hmm s1 s2 trivial
                  obtain ⟨v', p1, p2⟩ := results_run (w := w'.putObj cc (.deferred none)) (st := ⟨st.t, ⟨st.h.n, st.h.b.set b .dead⟩, st.sz, st.md⟩) ⟨x3.sz, x3.defers, x3.tmps⟩ y2 h5
                  exact ⟨by simp, .inl ⟨cc, _, rfl, run_takeDeferred hcell, v', p1, v', rfl, v1, _, hin, μ', Ext.trans hH.dom' x1 y1, y2, p2⟩⟩
                · cases h8
              · cases h3
            unfold finN at g1
            cases e with
            | normal => exact main g1
            | ret => exact main g1
            | exit i => cases g1
            | goto i => cases g1
          exact hw
        · cases h
      · cases h
    · cases h
def fitsN (c : Cert) (r : Res (List (AV × Hp))) : Bool := match r with
  | .ok l => l.all fun x => c.fits x.1 x.2
  | .err _ => false
theorem Cert.holds_evN [Val] {P : Program} {gl : Gam} (hmix : P.follows .mixedOrders = true) {sp : Special} (hsp : SpecOK P gl sp) {N f : Nat} {c : Cert} (h : fitsN c (evFN P gl sp N f c.args c.start) = true) : c.Holds P gl f := by
  intro μ w args' ha hH hG
  unfold fitsN at h
  split at h
  · rename_i l hl
    refine Goes.mono (evFN_goes hmix hsp hl ha hH hG) fun v1 w1 ⟨v, h', hm, μ', g1, g2, g3⟩ => ?_
    exact ⟨v, h', List.all_eq_true.1 h _ hm, μ', g1, g2, g3⟩
  · cases h
end Go.Ab
