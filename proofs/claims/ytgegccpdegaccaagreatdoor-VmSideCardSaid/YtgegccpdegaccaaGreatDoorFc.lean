/- What the quick form answers the evaluator answers. -/
import Derived.Test.YtgegccpdegaccaaGreatDoorFb
import Derived.Test.YtgegccpdegaccaaGreatDoorEc
namespace Go.Ab
section
variable {P : Program} {gl : List Nat}
theorem isNilSl_true {a : AV} (h : isNilSl a = some true) : a = .nilslice := by cases a <;> simp [isNilSl] at h; rfl
theorem isNilSl_false {a : AV} (h : isNilSl a = some false) : ∃ b o l c s, a = .slice b o l c s := by
  cases a <;> simp [isNilSl] at h
  exact ⟨_, _, _, _, _, rfl⟩
theorem nl_ok {neg : Bool} {a b v : AV} (h : nlR neg a b = .ok v) {t e : TypeId} (ht : tunder P t = .ok (.slice e)) (c : Bool) : binA P (if neg then .neq else .eql) t c a b = .ok v := by
  unfold nlR at h
  split at h
  · rename_i h1 h2
    obtain rfl := isNilSl_true h1
    obtain rfl := isNilSl_true h2
    cases h
    cases neg <;> simp [binA, eqA, ht, Res.bind]
  · rename_i h1 h2
    obtain rfl := isNilSl_true h1
    obtain ⟨b, o, l, c, s, rfl⟩ := isNilSl_false h2
    cases h
    cases neg <;> simp [binA, eqA, ht, Res.bind]
  · rename_i h1 h2
    obtain ⟨b, o, l, c, s, rfl⟩ := isNilSl_false h1
    obtain rfl := isNilSl_true h2
    cases h
    cases neg <;> simp [binA, eqA, ht, Res.bind]
  · cases h
theorem whole_eq {t : TypeId} {agg : Bool} (h : tagg P t = .ok agg) (n : Nat) (a : AV) : wholeOf P t n a = wholeR agg n a := by
  unfold wholeOf wholeR
  rw [h]
  cases agg <;> cases a <;> rfl
theorem eqKey_eq {t : TypeId} {l : List TypeDesc} {agg : Bool} (hl : leaves P 6 t = some l) (h : tagg P t = .ok agg) (a b : AV) : eqKey P t a b = eqFlatR l agg a b := by
  unfold eqKey eqFlat eqFlatR
  rw [hl]
  simp only [whole_eq h]
  cases wholeR agg l.length a <;> cases wholeR agg l.length b <;> simp only
  rename_i x y
  cases eqLeaves l x y <;> rfl
theorem find_eq {t : TypeId} {l : List TypeDesc} {agg : Bool} (hl : leaves P 6 t = some l) (h : tagg P t = .ok agg) (k : AV) : ∀ (es : List (AV × AV)) (i : Nat), findA P t k es i = findR l agg k es i
  | [], i => rfl
  | (k', v) :: es, i => by
    simp only [findA, findR, eqKey_eq hl h]
    cases eqFlatR l agg k k' with
    | err n => rfl
    | ok b => cases b
              · exact find_eq hl h k es (i + 1)
              · rfl
theorem eqk_eq {t : TypeId} {l : List TypeDesc} {agg : Bool} (hl : leaves P 6 t = some l) (h : tagg P t = .ok agg) (k : AV) : eqKey P t k = eqFlatR l agg k := funext fun k' => eqKey_eq hl h k k'
theorem key_eq {t : TypeId} {l : List TypeDesc} {agg : Bool} (hl : leaves P 6 t = some l) (h : tagg P t = .ok agg) (k : AV) : keyOk P t k = keyR l agg k := by
  unfold keyOk keyR
  rw [hl]
  simp only [whole_eq h]
  cases wholeR agg l.length k <;> rfl
theorem alDen_append (a b : List QA) (t : Fr) : alDen (a ++ b) t = alDen a t ++ alDen b t := by
  induction a with
  | nil => rfl
  | cons x l ih => show _ :: alDen (l ++ b) t = _ :: _; rw [ih]; rfl
theorem alDen_len (a : List QA) (t : Fr) : (alDen a t).length = a.length := by
  induction a with
  | nil => rfl
  | cons x l ih => show (alDen l t).length + 1 = _; rw [ih]; rfl
theorem optQ_ok {x : Option Operand} {a : Option QA} (h : optQ gl x = some a) {t : Fr} {p : PT AV} (hp : QFR t p) : optOp (evalO gl p) x = .ok (a.map fun a => a.den t) := by
  cases x with
  | none => simp only [optQ, Option.some.injEq] at h; subst h; rfl
  | some x =>
    simp only [optQ] at h
    split at h
    · rename_i b hb
      cases h
      simp only [optOp, qa_ok hb hp, Res.bind]
      rfl
    · cases h
theorem optL_eq (b c : Option QA) (t : Fr) : optL b.isSome c.isSome (alDen (toL b ++ toL c) t) = some (b.map fun a => a.den t, c.map fun a => a.den t) := by
  cases b <;> cases c <;> rfl
theorem parts_ok {t : Fr} {p : PT AV} (hp : QFR t p) : ∀ (l : List (Nat × Operand)) (r : List QA), qas gl (l.map (·.2)) = some r →
    mapA (fun q : Nat × Operand => (evalO gl p q.2).bind fun x => .ok (q.1, x)) l = .ok ((l.map (·.1)).zip (alDen r t)) ∧ r.length = l.length
  | [], r, h => by simp only [List.map_nil, qas, Option.some.injEq] at h; subst h; exact ⟨rfl, rfl⟩
  | (i, x) :: l, r, h => by
    simp only [List.map_cons, qas] at h
    split at h
    · rename_i a q h1 h2
      cases h
      obtain ⟨g1, g2⟩ := parts_ok hp l q h2
      refine ⟨?_, by simp [g2]⟩
      rw [mapA]
      simp only [qa_ok h1 hp]
      show Res.bind (mapA _ l) _ = _
      rw [g1]
      rfl
    · cases h
theorem fillR_ok {t : TypeId} : ∀ (is : List Nat) (ps : List (Nat × Nat × Nat)) (cells : List AV) (vs r : List AV), offs P t is = some ps → fillR cells ps vs = .ok r →
    fillA (fun i => (fieldOff P t i).bind fun (o, n, _) => .ok (o, n)) cells (is.zip vs) = .ok r
  | [], ps, cells, vs, r, ho, h => by
    simp only [offs, Option.some.injEq] at ho
    subst ho
    cases vs with
    | nil => exact h
    | cons v vs => cases h
  | i :: is, ps, cells, vs, r, ho, h => by
    simp only [offs] at ho
    split at ho
    · rename_i o n ag ps' h1 h2
      cases ho
      cases vs with
      | nil => cases h
      | cons v vs =>
        simp only [fillR] at h
        obtain ⟨cs, e1, e2⟩ := Res.bind_ok h
        split at e2
        · rename_i hc
          simp only [List.zip_cons_cons, fillA, h1, Res.bind, e1, if_pos hc]
          exact fillR_ok is ps' _ vs r h2 e2
        · cases e2
    · cases ho
theorem fillS_ok {sz : Nat} : ∀ (is : List Nat) (cells : List AV) (vs r : List AV), fillS sz cells is vs = .ok r →
    fillA (fun i => .ok (i * sz, sz)) cells (is.zip vs) = .ok r
  | [], cells, vs, r, h => by
    cases vs with
    | nil => exact h
    | cons v vs => cases h
  | i :: is, cells, vs, r, h => by
    cases vs with
    | nil => cases h
    | cons v vs =>
      simp only [fillS] at h
      obtain ⟨cs, e1, e2⟩ := Res.bind_ok h
      split at e2
      · rename_i hc
        simp only [List.zip_cons_cons, fillA, Res.bind, e1, if_pos hc]
        exact fillS_ok is _ vs r e2
      · cases e2
theorem rsV_ok {h : Hp} {r : Res AV} {v : AV} {h' : Hp} (e : rsV h r = .ok (v, h')) : r = .ok v ∧ h' = h := by
  cases r with
  | ok x => cases e; exact ⟨rfl, rfl⟩
  | err n => cases e
theorem ib_ok {op : BinOp} (hs : isShift op = false) {a b v : AV} (h : ibR op a b = .ok v) (t : TypeId) (c : Bool) : binA P op t c a b = .ok v := by
  unfold ibR at h
  split at h
  · rename_i k x k' y
    unfold binA
    simp only
    split
    · cases hs
    · cases hs
    · exact h
  · exact h
  · exact h
  · exact h
  · exact h
  · cases a <;> exact h
  · cases h
theorem sb_ok {op : BinOp} {a b v : AV} (h : sbR op a b = .ok v) (t : TypeId) (c : Bool) : binA P op t c a b = .ok v := by
  unfold sbR at h
  split at h
  · exact h
  · exact h
  · cases a <;> exact h
  · cases h
theorem appS_ok {t e : TypeId} {sz : Nat} {inf : TypeInfo} (ht : tunder P t = .ok (.slice e)) (hz : zeroFits P e = .ok sz) (hi : tinfo P e = .ok inf) (h : Hp) (s x : AV) : appendS P h t s x = appS sz inf.bytes h s x := by
  unfold appendS
  rw [ht]
  simp only [Res.bind]
  rw [hz]
  simp only
  rw [hi]
theorem app_ok {t e : TypeId} {sz : Nat} {inf : TypeInfo} (ht : tunder P t = .ok (.slice e)) (hz : zeroFits P e = .ok sz) (hi : tinfo P e = .ok inf) (h : Hp) (s x : AV) : appendA P h t s x = appR0 sz inf.bytes h s x := by
  unfold appendA appR0
  rw [ht]
  simp only [Res.bind]
  rw [hz]
  simp only
  rw [hi]
  rfl
theorem sl_ex {o : Oper} {ty : TypeId} {x : Operand} {lo hi : Option Operand} (ho : o.op = .slice ty x lo hi none) {a : QA} {b c : Option QA} (ha : qa gl x = some a) (hb : optQ gl lo = some b) (hc : optQ gl hi = some c)
    {t : Fr} {p : PT AV} (hp : QFR t p) {h : Hp} {v : AV} (e2 : sliceA P h ty (a.den t) (b.map fun a => a.den t) (c.map fun a => a.den t) none = .ok v) (cf : CallF) : opA P cf (evalO gl p) o h = .ok (v, h) := by
  have ex : opA P cf (evalO gl p) o h = ((evalO gl p x).bind fun x => (optOp (evalO gl p) lo).bind fun lo => (optOp (evalO gl p) hi).bind fun hi => (optOp (evalO gl p) none).bind fun mx => (sliceA P h ty x lo hi mx).bind fun x => .ok (x, h)) := by simp only [opA, ho]
  rw [ex, qa_ok ha hp]
  show (optOp _ lo).bind _ = _
  rw [optQ_ok hb hp]
  show (optOp _ hi).bind _ = _
  rw [optQ_ok hc hp]
  show (sliceA P h ty _ _ _ none).bind _ = _
  rw [e2]
  rfl
theorem rsOf_ok {o : Oper} {r : RS} {l : List QA} (hq : rsOf P gl o = some (r, l)) {t : Fr} {p : PT AV} (hp : QFR t p) {h : Hp} {v : AV} {h' : Hp} (e : rsR r (alDen l t) h = .ok (v, h')) (cf : CallF) : opA P cf (evalO gl p) o h = .ok (v, h') := by
  unfold rsOf at hq
  split at hq
  · rename_i op ty x y ty2 ho
    split at hq
    · rename_i a b k ha hb ht
      split at hq
      · cases hq
      · rename_i hs
        cases hq
        obtain ⟨e1, rfl⟩ := rsV_ok (show rsV h (ibR op (a.den t) (b.den t)) = _ from e)
        simp only [opA, ho, qa_ok ha hp, qa_ok hb hp, Res.bind, ib_ok (P := P) (by simpa using hs) e1]
    · rename_i a b ha hb ht
      cases hq
      obtain ⟨e1, rfl⟩ := rsV_ok (show rsV h (sbR op (a.den t) (b.den t)) = _ from e)
      simp only [opA, ho, qa_ok ha hp, qa_ok hb hp, Res.bind, sb_ok (P := P) e1]
    · rename_i a b el ha hb ht
      split at hq
      · cases hq
        obtain ⟨e1, rfl⟩ := rsV_ok (show rsV h (nlR false (a.den t) (b.den t)) = _ from e)
        have := nl_ok (P := P) e1 ht (isConstOp x || isConstOp y)
        simp only [Bool.false_eq_true, if_false] at this
        simp only [opA, ho, qa_ok ha hp, qa_ok hb hp, Res.bind, this]
      · cases hq
        obtain ⟨e1, rfl⟩ := rsV_ok (show rsV h (nlR true (a.den t) (b.den t)) = _ from e)
        have := nl_ok (P := P) e1 ht (isConstOp x || isConstOp y)
        simp only [if_true] at this
        simp only [opA, ho, qa_ok ha hp, qa_ok hb hp, Res.bind, this]
      · cases hq
    · cases hq
  · rename_i ty x ho
    split at hq
    · rename_i a ha
      cases hq
      obtain ⟨e1, rfl⟩ := rsV_ok (show rsV h (unA .neg (a.den t)) = _ from e)
      simp only [opA, ho, qa_ok ha hp, Res.bind, e1]
    · cases hq
  · rename_i s d x ho
    split at hq
    · rename_i a sd k ha hs hd
      cases hq
      have e : rsR (.conv k) [a.den t] h = .ok (v, h') := e
      simp only [opA, ho, qa_ok ha hp, Res.bind]
      cases hx : a.den t with
      | int kk n =>
        rw [hx] at e
        simp only [convA, hs, hd, Res.bind]
        cases sd <;> exact e
      | sym s =>
        rw [hx] at e
        cases s with
        | lin k' c x y lo hi =>
          simp only [convA, hs, hd, Res.bind]
          cases sd <;> exact e
        | _ => cases e
      | _ => rw [hx] at e; cases e
    · rename_i a el ha hs hd
      split at hq
      · rename_i hel
        cases hq
        have e : rsR .s2b [a.den t] h = .ok (v, h') := e
        simp only [opA, ho, qa_ok ha hp, Res.bind]
        cases hx : a.den t with
        | str n =>
          rw [hx] at e
          simp only [convA, hs, hd, Res.bind, hel]
          have e : nCF h (ofBytes n) false (fun i h => Res.ok (AV.slice i 0 n.length none 1, h)) = .ok (v, h') := e
          rw [nCF_eq] at e
          exact e
        | _ => rw [hx] at e; cases e
      · cases hq
    · rename_i a el ha hs hd
      split at hq
      · rename_i hel
        cases hq
        have e : b2sR h (a.den t) = .ok (v, h') := e
        simp only [opA, ho, qa_ok ha hp, Res.bind]
        have old : ∀ x, ((slCF h 1 x).bind fun cs => (toBytes cs).bind fun l => Res.ok (AV.str l, h)) = .ok (v, h') → ((sliceCells h 1 x).bind fun cs => (toBytes cs).bind fun l => Res.ok (AV.str l, h)) = .ok (v, h') := by
          intro x e
          obtain ⟨cs, g1, g2⟩ := Res.bind_ok e
          rw [slCF_ok g1]
          exact g2
        cases hx : a.den t with
        | str s => rw [hx] at e; cases e
        | sym s =>
          rw [hx] at e
          cases s with
          | bytes b l =>
            simp only [convA, hs, hd, Res.bind, hel]
            exact e
          | _ => cases e
        | slice b o n c z =>
          rw [hx] at e
          have e := old (.slice b o n c z) e
          simp only [convA, hs, hd, Res.bind, hel]
          exact e
        | nilslice =>
          rw [hx] at e
          have e := old .nilslice e
          simp only [convA, hs, hd, Res.bind, hel]
          exact e
        | _ => rw [hx] at e; cases e
      · cases hq
    · cases hq
  · rename_i c ho
    split at hq
    · rename_i ty ty' a b hc hty hl
      have hargs := qas_ok hp _ _ hl
      split at hq
      · rename_i el' el ht' ht
        split at hq
        · rename_i sz inf hz hi
          cases hq
          have e : (if isSym (a.den t) || isSym (b.den t) then appS sz inf.bytes h (a.den t) (b.den t) else appR sz inf.bytes h (a.den t) (b.den t)) = .ok (v, h') := e
          simp only [opA, ho, callA, hargs, Res.bind, hc, builtinA, hty, alDen, ac, an, ht', app_ok ht hz hi, appS_ok ht hz hi]
          split at e
          · rename_i hsy
            rw [if_pos hsy]
            exact e
          · rename_i hsy
            rw [if_neg hsy]
            exact appR_ok e
        · cases hq
      · rename_i el ht' ht
        split at hq
        · rename_i sz inf hz hi
          cases hq
          have e : (if isSym (a.den t) || isSym (b.den t) then appS sz inf.bytes h (a.den t) (b.den t) else appR sz inf.bytes h (a.den t) (b.den t)) = .ok (v, h') := e
          simp only [opA, ho, callA, hargs, Res.bind, hc, builtinA, hty, alDen, ac, an, ht', app_ok ht hz hi, appS_ok ht hz hi]
          split at e
          · rename_i hsy
            rw [if_pos hsy]
            exact e
          · rename_i hsy
            rw [if_neg hsy]
            exact appR_ok e
        · cases hq
      · cases hq
    · rename_i ty tl a hc hty hl
      have hargs := qas_ok hp _ _ hl
      split at hq
      · rename_i k el ht
        cases hq
        have e : rsR .lenM [a.den t] h = .ok (v, h') := e
        simp only [opA, ho, callA, hargs, Res.bind, hc, builtinA, hty, alDen, ac, an, lenA, ht]
        cases hx : a.den t with
        | map b =>
          rw [hx] at e
          simp only
          have e : ((getMap h b).bind fun es => Res.ok (AV.int .i64 (es.length : Int), h)) = .ok (v, h') := e
          cases hg : getMap h b with
          | err n => rw [hg] at e; cases e
          | ok es => rw [hg] at e; exact e
        | nilmap => rw [hx] at e; exact e
        | _ => rw [hx] at e; cases e
      · cases hq
    · rename_i ty tl a b hc hty hl
      have hargs := qas_ok hp _ _ hl
      split at hq
      · rename_i el ht
        split at hq
        · rename_i sz hs
          cases hq
          have e : cpR0 sz h (a.den t) (b.den t) = .ok (v, h') := cpR_ok (show cpR sz h (a.den t) (b.den t) = .ok (v, h') from e)
          have e2 : copyA P h ty (a.den t) (b.den t) = cpR0 sz h (a.den t) (b.den t) := by
            unfold copyA cpR0
            rw [ht]
            simp only [Res.bind]
            rw [hs]
            rfl
          simp only [opA, ho, callA, hargs, Res.bind, hc, builtinA, hty, alDen, ac, an, e2]
          exact e
        · cases hq
      · cases hq
    · rename_i a b hc hl
      have hargs := qas_ok hp _ _ hl
      cases hq
      obtain ⟨e1, rfl⟩ := rsV_ok (show rsV h (minmaxA false (a.den t) (b.den t)) = _ from e)
      simp only [opA, ho, callA, hargs, Res.bind, hc, builtinA, alDen, ac, an, foldA, e1]
    · rename_i a b hc hl
      have hargs := qas_ok hp _ _ hl
      cases hq
      obtain ⟨e1, rfl⟩ := rsV_ok (show rsV h (minmaxA true (a.den t) (b.den t)) = _ from e)
      simp only [opA, ho, callA, hargs, Res.bind, hc, builtinA, alDen, ac, an, foldA, e1]
    · cases hq
  · rename_i ty parts ho
    split at hq
    · rename_i l' z fs ps hl hz ht hof
      split at hq
      · rename_i zs hzs
        split at hq
        · rename_i hall
          cases hq
          obtain ⟨cs, e1, e2⟩ := Res.bind_ok (show (fillR zs ps (alDen l t)).bind (fun cs => Res.ok (AV.agg cs, h)) = _ from e)
          cases e2
          obtain ⟨g1, _⟩ := parts_ok hp parts.toList l hl
          have := fillR_ok (P := P) (t := ty) _ _ _ _ _ hof e1
          have hb : buildA P ty ((parts.toList.map (·.1)).zip (alDen l t)) = .ok (.agg cs) := by
            unfold buildA
            rw [hz]
            simp only [Res.bind]
            rw [hzs]
            simp only
            rw [ht]
            simp only [hall, Bool.not_true, Bool.false_eq_true, if_false]
            have t2 : fillA (fun i => (fieldOff P ty i).bind fun (o, n, _) => .ok (o, n)) zs ((parts.toList.map (·.1)).zip (alDen l t)) = .ok cs := this
            show Res.bind (fillA (fun i => (fieldOff P ty i).bind fun (o, n, _) => .ok (o, n)) zs ((parts.toList.map (·.1)).zip (alDen l t))) _ = _
            rw [t2]
            rfl
          have ex : opA P cf (evalO gl p) o h = ((mapA (fun q : Nat × Operand => (evalO gl p q.2).bind fun x => .ok (q.1, x)) parts.toList).bind fun ps => (buildA P ty ps).bind fun x => .ok (x, h)) := by simp only [opA, ho]
          rw [ex, g1]
          show (buildA P ty _).bind _ = _
          rw [hb]
          rfl
        · cases hq
      · cases hq
    · cases hq
  · rename_i ty len parts ho
    split at hq
    · rename_i l' el hl ht
      split at hq
      · rename_i sz z hs hz
        split at hq
        · rename_i zs hzs
          cases hq
          have e : bslR0 len sz zs (parts.toList.map (·.1)) (alDen l t) h = .ok (v, h') := (bslR_eq ..).symm.trans (show bslR len sz zs (parts.toList.map (·.1)) (alDen l t) h = .ok (v, h') from e)
          obtain ⟨g1, _⟩ := parts_ok hp parts.toList l hl
          unfold bslR0 at e
          split at e
          · rename_i hc
            obtain ⟨cs, e1, e2⟩ := Res.bind_ok e
            have := fillS_ok _ _ _ _ e1
            have hb : buildSliceA P h ty len ((parts.toList.map (·.1)).zip (alDen l t)) = .ok (v, h') := by
              unfold buildSliceA
              rw [ht]
              simp only [Res.bind]
              rw [hs]
              simp only
              rw [hz]
              simp only
              rw [hzs]
              simp only
              rw [if_pos hc]
              show Res.bind (fillA (fun i => Res.ok (i * sz, sz)) (repl len zs) ((parts.toList.map (·.1)).zip (alDen l t))) _ = _
              rw [this]
              exact e2
            have ex : opA P cf (evalO gl p) o h = ((mapA (fun q : Nat × Operand => (evalO gl p q.2).bind fun x => .ok (q.1, x)) parts.toList).bind fun ps => buildSliceA P h ty len ps) := by simp only [opA, ho]
            rw [ex, g1]
            exact hb
          · cases e
        · cases hq
      · cases hq
    · cases hq
  · rename_i ty x lo hi ho
    split at hq
    · rename_i a b c ha hb hc ht
      cases hq
      have hopt := optL_eq b c t
      have e : rsR (.slS b.isSome c.isSome) (a.den t :: alDen (toL b ++ toL c) t) h = .ok (v, h') := e
      simp only [rsR, hopt] at e
      obtain ⟨e1, rfl⟩ := rsV_ok e
      refine sl_ex ho ha hb hc hp ?_ cf
      unfold sliceA
      rw [ht]
      simp only [Res.bind]
      cases hx : a.den t with
      | str s =>
        rw [hx] at e1
        exact e1
      | sym s =>
        rw [hx] at e1
        cases s with
        | str l =>
          generalize (b.map fun a => a.den t) = B at e1 ⊢
          generalize (c.map fun a => a.den t) = C at e1 ⊢
          simp only [slSR] at e1
          split at e1
          · exact e1
          · cases e1
        | _ => cases e1
      | _ => rw [hx] at e1; cases e1
    · rename_i a b c el ha hb hc ht
      split at hq
      · rename_i sz hs
        cases hq
        have hopt := optL_eq b c t
        have e : rsR (.slL sz b.isSome c.isSome) (a.den t :: alDen (toL b ++ toL c) t) h = .ok (v, h') := e
        simp only [rsR, hopt] at e
        obtain ⟨e1, rfl⟩ := rsV_ok e
        have e2 : sliceA P h' ty (a.den t) (b.map fun a => a.den t) (c.map fun a => a.den t) none = .ok v := by
          unfold slLR at e1
          split at e1
          · rename_i bb off len cap sz' hx
            split at e1
            · rename_i hsz
              have := Nat.eq_of_beq_eq_true hsz
              subst this
              unfold sliceA
              rw [ht, hx]
              simp only [Res.bind]
              rw [hs]
              simp only [Nat.beq_refl, if_true]
              exact e1
            · cases e1
          · rename_i hx
            unfold sliceA
            rw [ht, hx]
            simp only [Res.bind]
            rw [hs]
            exact e1
          · cases e1
        exact sl_ex ho ha hb hc hp e2 cf
      · cases hq
    · rename_i a b c n el ha hb hc ht
      split at hq
      · rename_i sz hs
        cases hq
        have hopt := optL_eq b c t
        have e : rsR (.slA n sz b.isSome c.isSome) (a.den t :: alDen (toL b ++ toL c) t) h = .ok (v, h') := e
        simp only [rsR, hopt] at e
        obtain ⟨e1, rfl⟩ := rsV_ok e
        have e2 : sliceA P h' ty (a.den t) (b.map fun a => a.den t) (c.map fun a => a.den t) none = .ok v := by
          unfold slAR at e1
          split at e1
          · rename_i bb off hx
            unfold sliceA
            rw [ht, hx]
            simp only [Res.bind]
            obtain ⟨r, g1, g2⟩ := Res.bind_ok e1
            rw [g1]
            simp only
            rw [hs]
            exact g2
          · cases e1
        exact sl_ex ho ha hb hc hp e2 cf
      · cases hq
    · cases hq
  · rename_i ty m k ok ho
    split at hq
    · rename_i a b key elem ha hb ht
      split at hq
      · rename_i l' agg z hlv hag hz
        cases hq
        have e : rsV h (lkR l' agg z ok h (a.den t) (b.den t)) = .ok (v, h') := e
        obtain ⟨e1, rfl⟩ := rsV_ok e
        have e2 : lookupA P h' ty (a.den t) (b.den t) ok = .ok v := by
          rw [← e1]
          unfold lookupA lkR
          rw [ht]
          simp only [Res.bind, key_eq hlv hag, eqk_eq hlv hag, find_eq hlv hag, hz]
          rfl
        simp only [opA, ho, qa_ok ha hp, qa_ok hb hp, Res.bind, e2]
      · cases hq
    · cases hq
  · rename_i ty m k x ho
    split at hq
    · rename_i a b c key elem ha hb hc ht
      split at hq
      · rename_i l' agg hlv hag
        cases hq
        obtain ⟨h1, e1, e2⟩ := Res.bind_ok (show (msR l' agg h (a.den t) (b.den t) (c.den t)).bind (fun h => Res.ok (aundef, h)) = _ from e)
        cases e2
        have e2 : mapUpdateA P h ty (a.den t) (b.den t) (c.den t) = .ok h' := by
          rw [← e1]
          unfold mapUpdateA msR
          rw [ht]
          simp only [Res.bind, key_eq hlv hag, find_eq hlv hag]
          rfl
        simp only [opA, ho, qa_ok ha hp, qa_ok hb hp, qa_ok hc hp, Res.bind, e2]
      · cases hq
    · cases hq
  · rename_i ty m k x ho
    split at hq
    · rename_i a b c key elem ha hb hc ht
      split at hq
      · rename_i l' agg hlv hag
        cases hq
        obtain ⟨h1, e1, e2⟩ := Res.bind_ok (show (msR l' agg h (a.den t) (b.den t) (c.den t)).bind (fun h => Res.ok (aundef, h)) = _ from e)
        cases e2
        have e2 : mapUpdateA P h ty (a.den t) (b.den t) (c.den t) = .ok h' := by
          rw [← e1]
          unfold mapUpdateA msR
          rw [ht]
          simp only [Res.bind, key_eq hlv hag, find_eq hlv hag]
          rfl
        simp only [opA, ho, qa_ok ha hp, qa_ok hb hp, qa_ok hc hp, Res.bind, e2]
      · cases hq
    · cases hq
  · rename_i ty ho
    cases hq
    simp only [opA, ho, Res.bind]
    exact e
  · rename_i fn x y ho
    split at hq
    · rename_i l1 l2 h1 h2
      cases hq
      have e : Res.ok (AV.func fn ((alDen (l1 ++ l2) t).take l1.length) ((alDen (l1 ++ l2) t).drop l1.length), h) = .ok (v, h') := e
      rw [alDen_append, List.take_left' (alDen_len l1 t), List.drop_left' (alDen_len l1 t)] at e
      simp only [opA, ho, qas_ok hp _ _ h1, qas_ok hp _ _ h2, Res.bind]
      exact e
    · cases hq
  · rename_i ty x i ho
    split at hq
    · rename_i a b len el ha hb ht
      split at hq
      · rename_i sz hs
        cases hq
        obtain ⟨e1, rfl⟩ := rsV_ok (show rsV h (iaAR len sz (a.den t) (b.den t)) = _ from e)
        have e2 : indexAddrA P ty (a.den t) (b.den t) = .ok v := by
          unfold iaAR at e1
          split at e1
          · rename_i k i bb off hx hy
            unfold indexAddrA
            rw [hx, hy, ht]
            simp only [Res.bind]
            split at e1
            · rename_i hc
              rw [if_pos hc, hs]
              exact e1
            · cases e1
          · cases e1
        simp only [opA, ho, qa_ok ha hp, qa_ok hb hp, Res.bind, e2]
      · cases hq
    · cases hq
  · rename_i ty x c ho
    split at hq
    · rename_i a b el ha hb ht
      split at hq
      · rename_i inf z hi hz
        split at hq
        · rename_i zs hzs
          cases hq
          have e : mksR0 zs inf.bytes inf.size h (a.den t) (b.den t) = .ok (v, h') := (mksR_eq ..).symm.trans (show mksR zs inf.bytes inf.size h (a.den t) (b.den t) = .ok (v, h') from e)
          have e2 : makeSliceA P h ty (a.den t) (b.den t) = .ok (v, h') := by
            unfold mksR0 at e
            split at e
            · rename_i l' c' hx hy
              unfold makeSliceA
              rw [ht, hx, hy]
              simp only [Res.bind]
              rw [hi]
              simp only
              rw [hz]
              simp only
              rw [hzs]
              exact e
            · cases e
          simp only [opA, ho, qa_ok ha hp, qa_ok hb hp, Res.bind, e2]
        · cases hq
      · cases hq
    · cases hq
  · cases hq
end
end Go.Ab

namespace Go.Ab
section
variable (P : Program) (gl : List Nat) (sp : Special)
abbrev cfS (n : Nat) : CallF := callWith P sp (evalC P gl sp n)
def CFok (cf : CF) : Prop := ∀ f args h v h', cf f args h = .ok v h' → ∃ N, ∀ n, N ≤ n → cfS P gl sp n (.fn f) args h = .ok (v, h')
def After (dst : Option Tmp) (k : M) (cf : CF) (t : Fr) (h : Hp) (v : AV) : Out :=
  match dst with
  | some d => k cf (t.set d v) h
  | none => k cf t h
def XQ (X : M → M) (dst : Option Tmp) (o : Oper) : Prop :=
  ∀ cf, CFok P gl sp cf → ∀ k t h, X k cf t h = .err ∨ ∃ v h', X k cf t h = After dst k cf t h' v ∧ ∀ p, QFR t p → ∃ N, ∀ n, N ≤ n → opA P (cfS P gl sp n) (evalO gl p) o h = .ok (v, h')
end
section
variable {P : Program} {gl : List Nat} {sp : Special}
theorem ck_or (w : AV) (s : S) (k : M) (cf : CF) (t : Fr) (h : Hp) : ck w s k cf t h = .err ∨ (w ≠ .bad ∧ ck w s k cf t h = s w k cf t h) := by
  cases ho : okV w with
  | false => left; unfold ck; rw [ho]
  | true => right; refine ⟨(okV_iff w).1 ho, ?_⟩; unfold ck; rw [ho]
theorem XQ.val {X : M → M} {d : Nat} {o : Oper} (hd : d < 256) (w : Fr → Hp → AV) (hX : ∀ k cf t h, X k cf t h = ck (w t h) (nthS sList d) k cf t h)
    (hw : ∀ t h p, w t h ≠ .bad → QFR t p → ∀ cf', opA P cf' (evalO gl p) o h = .ok (w t h, h)) : XQ P gl sp X (some d) o := by
  intro cf _ k t h
  rcases ck_or (w t h) (nthS sList d) k cf t h with e | ⟨e1, e2⟩
  · left; rw [hX, e]
  · right
    refine ⟨w t h, h, ?_, fun p hp => ⟨0, fun n _ => hw t h p e1 hp _⟩⟩
    rw [hX, e2, nthS_ok d hd]
    rfl
theorem XQ.eff {X : M → M} {dst : Option Tmp} {o : Oper} (hd : ∀ d, dst = some d → d < 256) (r : Fr → Hp → RO)
    (hX : ∀ k cf t h, X k cf t h = match dst with | some d => er (r t h) (nthS sList d) k cf t | none => en (r t h) k cf t)
    (hr : ∀ t h p v h', r t h = .ok v h' → QFR t p → ∀ cf', opA P cf' (evalO gl p) o h = .ok (v, h')) : XQ P gl sp X dst o := by
  intro cf _ k t h
  cases e : r t h with
  | err =>
    left
    rw [hX, e]
    cases dst <;> rfl
  | ok v h' =>
    right
    refine ⟨v, h', ?_, fun p hp => ⟨0, fun n _ => hr t h p v h' e hp _⟩⟩
    rw [hX, e]
    cases dst with
    | none => rfl
    | some d => exact nthS_ok d (hd d rfl) v k cf t h'
theorem XQ.err {X : M → M} {dst : Option Tmp} {o : Oper} (hX : ∀ k cf t h, X k cf t h = .err) : XQ P gl sp X dst o := fun cf _ k t h => .inl (hX k cf t h)
theorem evF_eq {t : Fr} {p : PT AV} (hf : QFR t p) : evF gl t = evalO gl p := by
  funext x
  cases x with
  | tmp i => simp only [evF, evalO, hf i]
  | const v => rfl
  | global g => rfl
  | func f => rfl
theorem callA_cf {ρ : Operand → Res AV} {c : Call} {h : Hp} {r : AV × Hp} (e : callA P noCF ρ c h = .ok r) (cf : CallF) : callA P cf ρ c h = .ok r := by
  unfold callA at e ⊢
  cases hm : mapA ρ c.args.toList with
  | err n => rw [hm] at e; cases e
  | ok l =>
    rw [hm] at e
    simp only [Res.bind] at e ⊢
    split at e
    · exact e
    · rename_i f hf
      cases hg : ρ f with
      | err n => rw [hg] at e; cases e
      | ok v =>
        rw [hg] at e
        simp only at e
        split at e
        · simp only [noCF] at e
          cases e
        · simp only [noCF] at e
          cases e
        · cases e
    · cases e
theorem opA_cf {ρ : Operand → Res AV} {o : Oper} {h : Hp} {r : AV × Hp} (e : opA P noCF ρ o h = .ok r) (cf : CallF) : opA P cf ρ o h = .ok r := by
  by_cases hc : ∃ c, o.op = .call c
  · obtain ⟨c, hc⟩ := hc
    simp only [opA, hc] at e ⊢
    exact callA_cf e cf
  · rw [← e]
    unfold opA
    split <;> first | rfl | exact absurd ⟨_, ‹_›⟩ hc
theorem toRO_ok {r : Res (AV × Hp)} {v : AV} {h : Hp} (e : toRO r = .ok v h) : r = .ok (v, h) := by
  cases r with
  | ok a => cases a; cases e; rfl
  | err n => cases e
theorem gnR_ok {o : Oper} {t : Fr} {h : Hp} {v : AV} {h' : Hp} (e : gnR P gl o t h = .ok v h') {p : PT AV} (hp : QFR t p) (cf : CallF) : opA P cf (evalO gl p) o h = .ok (v, h') := by
  have := toRO_ok e
  rw [evF_eq hp] at this
  exact opA_cf this cf
theorem gn_ok (o : Oper) (dst : Option Tmp) (hd : ∀ d, dst = some d → d < 256) : XQ P gl sp (fun k => (QX.gn o).den P gl dst k) dst o := by
  refine .eff hd (fun t h => gnR P gl o t h) ?_ fun t h p v h' e hp cf' => gnR_ok e hp cf'
  intro k cf t h
  cases dst <;> rfl
theorem er_or (r : RO) (s : S) (k : M) (cf : CF) (t : Fr) : er r s k cf t = .err ∨ ∃ v h, r = .ok v h ∧ er r s k cf t = s v k cf t h := by
  cases r with
  | err => exact .inl rfl
  | ok v h => exact .inr ⟨v, h, rfl, rfl⟩
theorem en_or (r : RO) (k : M) (cf : CF) (t : Fr) : en r k cf t = .err ∨ ∃ v h, r = .ok v h ∧ en r k cf t = k cf t h := by
  cases r with
  | err => exact .inl rfl
  | ok v h => exact .inr ⟨v, h, rfl, rfl⟩
theorem app2_eq (a b : List AV) : app2 a b = a ++ b := by
  induction a with
  | nil => rfl
  | cons x l ih =>
    show x :: app2 l b = _
    rw [ih]; rfl
theorem XQ.call {X : M → M} {dst : Option Tmp} {o : Oper} (hd : ∀ d, dst = some d → d < 256) (r : CF → Fr → Hp → RO)
    (hX : ∀ k cf t h, X k cf t h = match dst with | some d => er (r cf t h) (nthS sList d) k cf t | none => en (r cf t h) k cf t)
    (hr : ∀ cf t h v h', CFok P gl sp cf → r cf t h = .ok v h' → ∀ p, QFR t p → ∃ N, ∀ n, N ≤ n → opA P (cfS P gl sp n) (evalO gl p) o h = .ok (v, h')) : XQ P gl sp X dst o := by
  intro cf hcf k t h
  cases e : r cf t h with
  | err =>
    left
    rw [hX, e]
    cases dst <;> rfl
  | ok v h' =>
    right
    refine ⟨v, h', ?_, hr cf t h v h' hcf e⟩
    rw [hX, e]
    cases dst with
    | none => rfl
    | some d => exact nthS_ok d (hd d rfl) v k cf t h'
theorem call_ok' {f : Nat} {l : List QA} {o : Oper} {c : Call} {x : Operand} (ho : o.op = .call c) (hc : c.callee = .value x) (hx : qa gl x = some (.c (.func (.func f) [] []))) (hl : qas gl c.args.toList = some l)
    (dst : Option Tmp) (hd : ∀ d, dst = some d → d < 256) : XQ P gl sp (fun k => (QX.call f l).den P gl dst k) dst o := by
  refine .call hd (fun cf t h => cf f (alDen l t) h) ?_ ?_
  · intro k cf t h
    cases dst <;> rfl
  · intro cf t h v h' hcf e p hp
    obtain ⟨N, hN⟩ := hcf _ _ _ _ _ e
    refine ⟨N, fun n hn => ?_⟩
    have h1 := qas_ok hp _ _ hl
    have h2 := qa_ok hx hp
    have := hN n hn
    simp only [opA, ho, callA, h1, hc, h2, Res.bind, QA.den, cst, List.nil_append, List.append_nil]
    exact this
theorem fnT_ok {g : Fn} {f : Nat} (h : fnT g = f + 1) : g = .func f := by
  cases g <;> simp [fnT] at h
  rw [h]
theorem fnV_ok {v : AV} {f : Nat} (h : fnV v = f + 1) : ∃ a b, v = .func (.func f) a b ∧ fxV v = a ∧ fyV v = b := by
  cases v with
  | func g a b =>
    have : fnT g = f + 1 := h
    rw [fnT_ok this]
    exact ⟨a, b, rfl, rfl, rfl⟩
  | _ => simp [fnV] at h
theorem cv_ok {g : QA} {l : List QA} {o : Oper} {c : Call} {x : Operand} (ho : o.op = .call c) (hc : c.callee = .value x) (hx : qa gl x = some g) (hl : qas gl c.args.toList = some l)
    (dst : Option Tmp) (hd : ∀ d, dst = some d → d < 256) : XQ P gl sp (fun k => (QX.cv g l).den P gl dst k) dst o := by
  refine .call hd (fun cf t h => cvR cf (g.den t) (alDen l t) h) ?_ ?_
  · intro k cf t h
    cases dst <;> rfl
  · intro cf t h v h' hcf e p hp
    have h1 := qas_ok hp _ _ hl
    have h2 := qa_ok hx hp
    unfold cvR at e
    cases hf : fnV (g.den t) with
    | zero => rw [hf] at e; cases e
    | succ f =>
      rw [hf] at e
      obtain ⟨a, b, e1, e2, e3⟩ := fnV_ok hf
      have e : cf f (app2 (fxV (g.den t)) (app2 (alDen l t) (fyV (g.den t)))) h = .ok v h' := e
      rw [e2, e3, app2_eq, app2_eq] at e
      obtain ⟨N, hN⟩ := hcf _ _ _ _ _ e
      refine ⟨N, fun n hn => ?_⟩
      have := hN n hn
      simp only [opA, ho, callA, h1, hc, h2, Res.bind, e1]
      rw [List.append_assoc]
      exact this
theorem lt256 {sz : Nat} {dst : Option Tmp} (h : fit sz dst = true) : ∀ d, dst = some d → d < 256 := by
  intro d e
  subst e
  simp only [fit, Bool.and_eq_true] at h
  exact Nat.le_of_ble_eq_true h.2
theorem mv_ok {a : QA} {x : Operand} {o : Oper} (hx : qa gl x = some a) (ho : o.op = .move x ∨ o.op = .assign x) (dst : Option Tmp) (hd : ∀ d, dst = some d → d < 256) : XQ P gl sp (fun k => (QX.mv a).den P gl dst k) dst o := by
  cases dst with
  | none => exact .err fun _ _ _ _ => rfl
  | some d =>
    intro cf _ k t h
    right
    refine ⟨a.den t, h, ?_, fun p hp => ⟨0, fun n _ => ?_⟩⟩
    · show nthS sList d (a.den t) k cf t h = _
      rw [nthS_ok d (hd d rfl)]
      rfl
    · have := qa_ok hx hp
      rcases ho with ho | ho <;> simp only [opA, ho, this, Res.bind]
theorem v1_ok {f : Q1} {a : QA} {o : Oper} (dst : Option Tmp) (hd : ∀ d, dst = some d → d < 256) (hw : ∀ t h p, f.den (a.den t) ≠ .bad → QFR t p → ∀ cf', opA P cf' (evalO gl p) o h = .ok (f.den (a.den t), h)) :
    XQ P gl sp (fun k => (QX.v1 f a).den P gl dst k) dst o := by
  cases dst with
  | none => exact .err fun _ _ _ _ => rfl
  | some d => exact .val (hd d rfl) (fun t h => f.den (a.den t)) (fun _ _ _ _ => rfl) hw
theorem v2_ok {f : Q2} {a b : QA} {o : Oper} (dst : Option Tmp) (hd : ∀ d, dst = some d → d < 256) (hw : ∀ t h p, f.den (a.den t) (b.den t) ≠ .bad → QFR t p → ∀ cf', opA P cf' (evalO gl p) o h = .ok (f.den (a.den t) (b.den t), h)) :
    XQ P gl sp (fun k => (QX.v2 f a b).den P gl dst k) dst o := by
  cases dst with
  | none => exact .err fun _ _ _ _ => rfl
  | some d => exact .val (hd d rfl) (fun t h => f.den (a.den t) (b.den t)) (fun _ _ _ _ => rfl) hw
theorem hh_ok {f : QH} {a : QA} {o : Oper} (dst : Option Tmp) (hd : ∀ d, dst = some d → d < 256) (hw : ∀ t h p, f.den (a.den t) h ≠ .bad → QFR t p → ∀ cf', opA P cf' (evalO gl p) o h = .ok (f.den (a.den t) h, h)) :
    XQ P gl sp (fun k => (QX.h1 f a).den P gl dst k) dst o := by
  cases dst with
  | none => exact .err fun _ _ _ _ => rfl
  | some d => exact .val (hd d rfl) (fun t h => f.den (a.den t) h) (fun _ _ _ _ => rfl) hw
theorem qx0_ok {sz : Nat} (o : Oper) (dst : Option Tmp) (hfit : fit sz dst = true) : XQ P gl sp (fun k => (qx0 P gl o).den P gl dst k) dst o := by
  have hd := lt256 hfit
  have hgn := gn_ok (P := P) (gl := gl) (sp := sp) o dst hd
  generalize hq : qx0 P gl o = q
  unfold qx0 at hq
  split at hq
  · rename_i x ho
    split at hq
    · rename_i a ha; subst hq; exact mv_ok ha (.inl ho) dst hd
    · subst hq; exact hgn
  · rename_i x ho
    split at hq
    · rename_i a ha; subst hq; exact mv_ok ha (.inr ho) dst hd
    · subst hq; exact hgn
  · rename_i c a b ho
    split at hq
    · rename_i c' a' b' hc ha hb
      subst hq
      cases dst with
      | none => exact .err fun _ _ _ _ => rfl
      | some d =>
        refine .val (hd d rfl) (fun t h => pickV (c'.den t) (a'.den t) (b'.den t)) (fun _ _ _ _ => rfl) fun t h p hw hp cf' => ?_
        have e1 := qa_ok hc hp
        have e2 := qa_ok ha hp
        have e3 := qa_ok hb hp
        simp only [opA, ho, e1, Res.bind]
        rcases pick_ok hw with ⟨g1, g2⟩ | ⟨g1, g2⟩
        · rw [g2, g1, e2]
        · rw [g2, g1, e3]
    · subst hq; exact hgn
  · rename_i ty ho
    split at hq
    · rename_i z hz
      split at hq
      · rename_i cs hcs
        split at hq
        · rename_i hone
          subst hq
          cases dst with
          | none => exact .err fun _ _ _ _ => rfl
          | some d =>
            refine .eff hd (fun t h => alR cs cs.length h) (fun _ _ _ _ => rfl) fun t h p v h' e hp cf' => ?_
            have e : nwC cs cs.length h = .ok v h' := e
            rw [nwC_eq] at e
            cases e
            simp only [opA, ho, hz, hcs, Res.bind, if_pos hone]
        · subst hq; exact hgn
      · subst hq; exact hgn
    · subst hq; exact hgn
  · rename_i ty x ho
    split at hq
    · rename_i a ha
      subst hq
      cases dst with
      | none => exact .err fun _ _ _ _ => rfl
      | some d =>
        refine .eff hd (fun t h => bxR (a.den t) h) (fun _ _ _ _ => rfl) fun t h p v h' e hp cf' => ?_
        obtain ⟨cs, g1, g2, rfl, rfl⟩ := bxR_ok e
        simp only [opA, ho, qa_ok ha hp, Res.bind, g1, if_pos g2]
    · subst hq; exact hgn
  · rename_i ty x ho
    split at hq
    · rename_i a ha ht
      subst hq
      refine hh_ok dst hd fun t h p hw hp cf' => ?_
      have hw : ldV (a.den t) h ≠ .bad := hw
      have := ld_ok hw ht
      simp only [opA, ho, qa_ok ha hp, Res.bind, this]
      rfl
    · rename_i a n ha ht hs
      subst hq
      refine hh_ok dst hd fun t h p hw hp cf' => ?_
      have hw : ldA n (a.den t) h ≠ .bad := hw
      have := ldA_ok hw ht hs
      simp only [opA, ho, qa_ok ha hp, Res.bind, this]
      rfl
    · subst hq; exact hgn
  · rename_i ty x y ho
    split at hq
    · rename_i a b n ha hb ht hs
      split at hq
      · rename_i hn
        subst hq
        subst hn
        cases dst with
        | some d => exact .err fun _ _ _ _ => rfl
        | none =>
          refine .eff hd (fun t h => st1 (a.den t) (b.den t) h) (fun _ _ _ _ => rfl) fun t h p v h' e hp cf' => ?_
          obtain ⟨g1, rfl⟩ := st1_ok e hs
          simp only [opA, ho, qa_ok ha hp, qa_ok hb hp, Res.bind, g1]
      · subst hq; exact hgn
    · rename_i a b n ha hb ht hs
      subst hq
      cases dst with
      | some d => exact .err fun _ _ _ _ => rfl
      | none =>
        refine .eff hd (fun t h => stA n (a.den t) (b.den t) h) (fun _ _ _ _ => rfl) fun t h p v h' e hp cf' => ?_
        obtain ⟨g1, rfl⟩ := stA_ok e hs
        simp only [opA, ho, qa_ok ha hp, qa_ok hb hp, Res.bind, g1]
    · subst hq; exact hgn
  · rename_i x ho
    split at hq
    · rename_i a ha
      subst hq
      refine v1_ok dst hd fun t h p hw hp cf' => ?_
      have hw : nilcV (a.den t) ≠ .bad := hw
      obtain ⟨g1, g2⟩ := ifV_ok hw
      obtain ⟨b, o', g3⟩ := tag_ptr g1
      have : Q1.nilc.den (a.den t) = a.den t := g2
      rw [this]
      simp only [opA, ho, qa_ok ha hp, Res.bind, g3]
    · subst hq; exact hgn
  · rename_i op ty x y ty2 ho
    split at hq
    · rename_i a b f ha hb hf
      subst hq
      refine v2_ok dst hd fun t h p hw hp cf' => ?_
      have := qBin_ok hf hw (isConstOp x || isConstOp y)
      simp only [opA, ho, qa_ok ha hp, qa_ok hb hp, Res.bind, this]
    · subst hq; exact hgn
  · rename_i op ty x ho
    split at hq
    · rename_i a ha
      subst hq
      refine v1_ok dst hd fun t h p hw hp cf' => ?_
      have hw : notV (a.den t) ≠ .bad := hw
      obtain ⟨g1, g2⟩ := ifV_ok hw
      obtain ⟨b, g3⟩ := tag_bool g1
      have g4 : Q1.not.den (a.den t) = .bool (!b) := by
        show notV (a.den t) = _
        rw [g3]
        show AV.bool (bNot b) = _
        rw [bNot_eq]
      rw [g4]
      simp only [opA, ho, qa_ok ha hp, Res.bind, g3, unA]
    · subst hq; exact hgn
  · rename_i ty x fi ho
    split at hq
    · rename_i a k n ag ha hfo
      split at hq
      · subst hq; exact hgn
      · rename_i hn
        subst hq
        refine v1_ok dst hd fun t h p hw hp cf' => ?_
        have hw : faV k (a.den t) ≠ .bad := hw
        obtain ⟨g1, g2⟩ := ifV_ok hw
        obtain ⟨b, o', g3⟩ := tag_ptr g1
        have g4 : (Q1.fa k).den (a.den t) = .ptr b (o' + k) := by
          show faV k (a.den t) = _
          rw [g3]
          rfl
        rw [g4]
        simp only [opA, ho, qa_ok ha hp, Res.bind, g3, hfo, if_neg hn]
    · subst hq; exact hgn
  · rename_i ty x i ho
    split at hq
    · rename_i a b e ha hb ht
      split at hq
      · rename_i n hs
        subst hq
        refine v2_ok dst hd fun t h p hw hp cf' => ?_
        have := ia_ok (show iaV n (a.den t) (b.den t) ≠ .bad from hw) ht hs
        simp only [opA, ho, qa_ok ha hp, qa_ok hb hp, Res.bind, this]
        rfl
      · subst hq; exact hgn
    · subst hq; exact hgn
  · rename_i ty x i ho
    split at hq
    · rename_i a b ha hb ht
      subst hq
      refine v2_ok dst hd fun t h p hw hp cf' => ?_
      have := ix_ok (show ixV (a.den t) (b.den t) ≠ .bad from hw) ht
      simp only [opA, ho, qa_ok ha hp, qa_ok hb hp, Res.bind, this]
      rfl
    · subst hq; exact hgn
  · rename_i x i ho
    split at hq
    · rename_i a ha
      subst hq
      refine v1_ok dst hd fun t h p hw hp cf' => ?_
      have hw : exV i (a.den t) ≠ .bad := hw
      obtain ⟨g1, g2⟩ := ifV_ok hw
      obtain ⟨l, g3⟩ := tag_tuple g1
      have g4 : (Q1.ex i).den (a.den t) = nthV l i := by
        show exV i (a.den t) = _
        rw [g3]
        rfl
      have g5 : nthV l i ≠ .bad := by rw [← g4]; exact hw
      have := nthV_ok l i g5
      rw [g4]
      simp only [opA, ho, qa_ok ha hp, Res.bind, g3, this, Option.map_some, Res.ofOpt]
    · subst hq; exact hgn
  · rename_i c ho
    split at hq
    · rename_i x hc
      split at hq
      · rename_i g l hx hl
        subst hq
        exact call_ok' ho hc hx hl dst hd
      · rename_i a l h1 h2 h3
        subst hq
        exact cv_ok ho hc (by assumption) (by assumption) dst hd
      · subst hq; exact hgn
    · rename_i hc
      split at hq
      · rename_i ty tl x hty hx
        split at hq
        · rename_i a f ha hf
          subst hq
          refine v1_ok dst hd fun t h p hw hp cf' => ?_
          have := qLen_ok hf hw h
          simp only [opA, ho, callA, hx, mapA, qa_ok ha hp, Res.bind, hc, builtinA, hty, this]
        · subst hq; exact hgn
      · subst hq; exact hgn
    · subst hq; exact hgn
  · subst hq; exact hgn
theorem rs_ok {o : Oper} {r : RS} {l : List QA} (hq : rsOf P gl o = some (r, l)) (dst : Option Tmp) (hd : ∀ d, dst = some d → d < 256) : XQ P gl sp (fun k => (QX.rs r l).den P gl dst k) dst o := by
  refine .eff hd (fun t h => toRO (rsR r (alDen l t) h)) ?_ fun t h p v h' e hp cf' => rsOf_ok hq hp (toRO_ok e) cf'
  intro k cf t h
  cases dst <;> rfl
theorem qx_ok {sz : Nat} (o : Oper) (dst : Option Tmp) (hfit : fit sz dst = true) : XQ P gl sp (fun k => (qx P gl o).den P gl dst k) dst o := by
  have hd := lt256 hfit
  unfold qx
  split
  · split
    · rename_i r l hr
      exact rs_ok hr dst hd
    · exact gn_ok o dst hd
  · exact qx0_ok o dst hfit
end
end Go.Ab

namespace Go.Ab
def tset (dst : Option Tmp) (v : AV) (t : Fr) : Fr :=
  match dst with
  | some d => t.set d v
  | none => t
def pset (dst : Option Tmp) (v : AV) (p : PT AV) : PT AV :=
  match dst with
  | some d => p.set d v
  | none => p
section
variable (P : Program) (gl : List Nat) (sp : Special)
def XS (sz : Nat) (X : M → M) (step : Nat → St → Res St) : Prop :=
  ∀ cf, CFok P gl sp cf → ∀ k t h, X k cf t h = .err ∨ ∃ t' h', X k cf t h = k cf t' h' ∧ ∀ p md, QFR t p → ∃ p', QFR t' p' ∧ ∃ N, ∀ n, N ≤ n → step n ⟨p, h, sz, md⟩ = .ok ⟨p', h', sz, md⟩
def step1 (ops : Array Oper) (o : Oper) (n : Nat) (st : St) : Res St := (oneA P gl (cfS P gl sp n) ops o st).bind fun r => putA st r.2.2 o.dst r.2.1
end
section
variable {P : Program} {gl : List Nat} {sp : Special} {sz : Nat}
theorem XS.id : XS P gl sp sz (fun k => k) (fun _ st => .ok st) := fun _ _ _ t h => .inr ⟨t, h, rfl, fun p _ hp => ⟨p, hp, 0, fun _ _ => rfl⟩⟩
theorem XS.comp {X Y : M → M} {s1 s2 : Nat → St → Res St} (hx : XS P gl sp sz X s1) (hy : XS P gl sp sz Y s2) : XS P gl sp sz (fun k => X (Y k)) (fun n st => (s1 n st).bind (s2 n)) := by
  intro cf hcf k t h
  rcases hx cf hcf (Y k) t h with e | ⟨t1, h1, e1, g1⟩
  · exact .inl e
  · rcases hy cf hcf k t1 h1 with e | ⟨t2, h2, e2, g2⟩
    · exact .inl (e1.trans e)
    · refine .inr ⟨t2, h2, e1.trans e2, fun p md hp => ?_⟩
      obtain ⟨p1, q1, N1, f1⟩ := g1 p md hp
      obtain ⟨p2, q2, N2, f2⟩ := g2 p1 md q1
      refine ⟨p2, q2, max N1 N2, fun n hn => ?_⟩
      show ((s1 n _).bind (s2 n)) = _
      rw [f1 n (by omega)]
      exact f2 n (by omega)
theorem XS.congr {X : M → M} {s1 s2 : Nat → St → Res St} (hx : XS P gl sp sz X s1) (he : ∀ n st, s1 n st = s2 n st) : XS P gl sp sz X s2 := by
  intro cf hcf k t h
  rcases hx cf hcf k t h with e | ⟨t1, h1, e1, g1⟩
  · exact .inl e
  · refine .inr ⟨t1, h1, e1, fun p md hp => ?_⟩
    obtain ⟨p1, q1, N1, f1⟩ := g1 p md hp
    exact ⟨p1, q1, N1, fun n hn => by rw [← he]; exact f1 n hn⟩
theorem put_ok {dst : Option Tmp} (hf : fit sz dst = true) {t : Fr} {p : PT AV} (hp : QFR t p) (v : AV) (h h' : Hp) (md : Md) :
    ∃ p', QFR (tset dst v t) p' ∧ putA ⟨p, h, sz, md⟩ h' dst v = .ok ⟨p', h', sz, md⟩ ∧ p' = (pset dst v p) := by
  cases dst with
  | none => exact ⟨p, hp, rfl, rfl⟩
  | some d =>
    have hd := lt256 hf d rfl
    simp only [fit, Bool.and_eq_true] at hf
    exact ⟨p.set d v, hp.set d hd v, by simp only [putA, hf.1, if_true], rfl⟩
theorem After_eq (dst : Option Tmp) (k : M) (cf : CF) (t : Fr) (h : Hp) (v : AV) : After dst k cf t h v = k cf (tset dst v t) h := by
  cases dst <;> rfl
theorem tri_cases (v : AV) : triV v = 0 ∨ (triV v = 1 ∧ v = .bool true) ∨ (triV v = 2 ∧ v = .bool false) ∨ (triV v = 3 ∧ v = .tuple []) := by
  cases v with
  | bool b => cases b
              · exact .inr (.inr (.inl ⟨rfl, rfl⟩))
              · exact .inr (.inl ⟨rfl, rfl⟩)
  | tuple l => cases l
               · exact .inr (.inr (.inr ⟨rfl, rfl⟩))
               · exact .inl rfl
  | _ => exact .inl rfl
theorem gOf_ok {ops : Array Oper} {j : Nat} {w : Bool} {g c : Nat} (h : gOf ops j w = some (g, c)) {o : Oper} (ho : o.guard = some (j, w)) {t : Fr} {p : PT AV} (hp : QFR t p) :
    triV (nthG gList g t) = 0 ∨ (triV (nthG gList g t) = c ∧ wantedA ops p o = .ok true) ∨ (triV (nthG gList g t) ≠ c ∧ wantedA ops p o = .ok false) := by
  unfold gOf at h
  split at h
  · rename_i d hd
    split at h
    · rename_i hlt
      simp only [Option.some.injEq, Prod.mk.injEq] at h
      obtain ⟨rfl, rfl⟩ := h
      rw [nthG_ok d hlt, hp d]
      have hw : wantedA ops p o = match St.get p d with
        | .bool b => .ok (b == w)
        | .tuple [] => .ok false
        | _ => .err 133 := by
        simp only [wantedA, ho, hd]
        rfl
      rw [hw]
      rcases tri_cases (St.get p d) with e | ⟨e1, e2⟩ | ⟨e1, e2⟩ | ⟨e1, e2⟩
      · exact .inl e
      · rw [e1, e2]; cases w <;> simp
      · rw [e1, e2]; cases w <;> simp
      · rw [e1, e2]; cases w <;> simp
    · cases h
  · cases h
theorem gd_eq (g w : Nat) (s : S) (X : M → M) (k : M) (cf : CF) (t : Fr) (h : Hp) : gd (nthG gList g) w s X k cf t h = .err ∧ triV (nthG gList g t) = 0 ∨
    triV (nthG gList g t) ≠ 0 ∧ gd (nthG gList g) w s X k cf t h = if triV (nthG gList g t) = w then X k cf t h else s aundef k cf t h := by
  unfold gd
  cases e : triV (nthG gList g t) with
  | zero => exact .inl ⟨rfl, rfl⟩
  | succ m =>
    refine .inr ⟨by simp, ?_⟩
    show (Bool.rec (motive := fun _ => Out) (s aundef k cf t h) (X k cf t h) (Nat.beq (m + 1) w) : Out) = _
    cases hb : Nat.beq (m + 1) w with
    | true => rw [if_pos (Nat.eq_of_beq_eq_true hb)]
    | false => rw [if_neg (Nat.ne_of_beq_eq_false hb)]
theorem gdn_eq (g w : Nat) (X : M → M) (k : M) (cf : CF) (t : Fr) (h : Hp) : gdn (nthG gList g) w X k cf t h = .err ∧ triV (nthG gList g t) = 0 ∨
    triV (nthG gList g t) ≠ 0 ∧ gdn (nthG gList g) w X k cf t h = if triV (nthG gList g t) = w then X k cf t h else k cf t h := by
  unfold gdn
  cases e : triV (nthG gList g t) with
  | zero => exact .inl ⟨rfl, rfl⟩
  | succ m =>
    refine .inr ⟨by simp, ?_⟩
    show (Bool.rec (motive := fun _ => Out) (k cf t h) (X k cf t h) (Nat.beq (m + 1) w) : Out) = _
    cases hb : Nat.beq (m + 1) w with
    | true => rw [if_pos (Nat.eq_of_beq_eq_true hb)]
    | false => rw [if_neg (Nat.ne_of_beq_eq_false hb)]
theorem qi_full {ops : Array Oper} {o : Oper} {q : QI} (hq : qi P gl sz ops o = some q) (cf : CF) (hcf : CFok P gl sp cf) (k : M) (t : Fr) (h : Hp) :
    q.den P gl k cf t h = .err ∨ ∃ t' h' v want, q.den P gl k cf t h = k cf t' h' ∧ t' = (tset o.dst v t) ∧ (o.guard = none → want = true) ∧ ∀ p, QFR t p → wantedA ops p o = .ok want ∧ ∀ md, ∃ N, ∀ n, N ≤ n →
      oneA P gl (cfS P gl sp n) ops o ⟨p, h, sz, md⟩ = .ok (want, v, h') := by
  unfold qi at hq
  split at hq
  · rename_i hfit
    have hx := qx_ok (P := P) (gl := gl) (sp := sp) o o.dst hfit
    split at hq
    · rename_i hg
      cases hq
      rcases hx cf hcf k t h with e | ⟨v, h', e1, e2⟩
      · exact .inl e
      · refine .inr ⟨_, h', v, true, e1.trans (After_eq _ _ _ _ _ _), rfl, fun _ => rfl, fun p hp => ?_⟩
        have hw : wantedA ops p o = .ok true := by simp only [wantedA, hg]
        refine ⟨hw, fun md => ?_⟩
        obtain ⟨N, hN⟩ := e2 p hp
        exact ⟨N, fun n hn => by simp only [oneA, hw, hN n hn]⟩
    · rename_i j w hg
      split at hq
      · rename_i g c hgo
        cases hq
        have main : ∀ Y : Out, (Y = .err ∧ triV (nthG gList g t) = 0) ∨ (triV (nthG gList g t) ≠ 0 ∧ Y = if triV (nthG gList g t) = c then (qx P gl o).den P gl o.dst k cf t h else k cf (tset o.dst aundef t) h) →
            Y = .err ∨ ∃ t' h' v want, Y = k cf t' h' ∧ t' = (tset o.dst v t) ∧ (o.guard = none → want = true) ∧ ∀ p, QFR t p → wantedA ops p o = .ok want ∧ ∀ md, ∃ N, ∀ n, N ≤ n →
              oneA P gl (cfS P gl sp n) ops o ⟨p, h, sz, md⟩ = .ok (want, v, h') := by
          intro Y hY
          rcases hY with ⟨e, _⟩ | ⟨e0, e⟩
          · exact .inl e
          · by_cases hc : triV (nthG gList g t) = c
            · rw [if_pos hc] at e
              rcases hx cf hcf k t h with e' | ⟨v, h', e1, e2⟩
              · exact .inl (e.trans e')
              · refine .inr ⟨_, h', v, true, e.trans (e1.trans (After_eq _ _ _ _ _ _)), rfl, fun hn => (by simp [hg] at hn), fun p hp => ?_⟩
                have hw : wantedA ops p o = .ok true := by
                  rcases gOf_ok hgo hg hp with g1 | ⟨_, g1⟩ | ⟨g1, _⟩
                  · exact absurd g1 e0
                  · exact g1
                  · exact absurd hc g1
                refine ⟨hw, fun md => ?_⟩
                obtain ⟨N, hN⟩ := e2 p hp
                exact ⟨N, fun n hn => by simp only [oneA, hw, hN n hn]⟩
            · rw [if_neg hc] at e
              refine .inr ⟨_, h, aundef, false, e, rfl, fun hn => (by simp [hg] at hn), fun p hp => ?_⟩
              have hw : wantedA ops p o = .ok false := by
                rcases gOf_ok hgo hg hp with g1 | ⟨g1, _⟩ | ⟨_, g1⟩
                · exact absurd g1 e0
                · exact absurd g1 hc
                · exact g1
              exact ⟨hw, fun md => ⟨0, fun n _ => by simp only [oneA, hw]⟩⟩
        cases hdst : o.dst with
        | none =>
          rw [hdst] at main
          exact main _ (gdn_eq g c _ k cf t h)
        | some d =>
          rw [hdst] at main
          refine main _ ?_
          rcases gd_eq g c (nthS sList d) ((qx P gl o).den P gl (some d)) k cf t h with e | ⟨e0, e⟩
          · exact .inl e
          · refine .inr ⟨e0, e.trans ?_⟩
            rw [nthS_ok d (lt256 hfit d hdst)]
            rfl
      · cases hq
  · cases hq
theorem qi_fit {ops : Array Oper} {o : Oper} {q : QI} (hq : qi P gl sz ops o = some q) : fit sz o.dst = true := by
  unfold qi at hq
  split at hq
  · assumption
  · cases hq
theorem qi_ok {ops : Array Oper} {o : Oper} {q : QI} (hq : qi P gl sz ops o = some q) : XS P gl sp sz (q.den P gl) (step1 P gl sp ops o) := by
  intro cf hcf k t h
  rcases qi_full hq cf hcf k t h with e | ⟨t', h', v, want, e1, e2, _, e3⟩
  · exact .inl e
  · refine .inr ⟨t', h', e1, fun p md hp => ?_⟩
    obtain ⟨p', q1, q2, _⟩ := put_ok (qi_fit hq) hp v h h' md
    obtain ⟨N, hN⟩ := (e3 p hp).2 md
    refine ⟨p', by rw [e2]; exact q1, N, fun n hn => ?_⟩
    simp only [step1, hN n hn, Res.bind]
    exact q2
theorem qis_ok {ops : Array Oper} : ∀ (l : List Oper) (r : List QI), qis P gl sz ops l = some r → XS P gl sp sz (chain P gl r) (fun n st => opsA P gl (cfS P gl sp n) ops l st)
  | [], r, h => by simp only [qis, Option.some.injEq] at h; subst h; exact .id
  | o :: l, r, h => by
    simp only [qis] at h
    split at h
    · rename_i a q h1 h2
      cases h
      refine (XS.comp (qi_ok h1) (qis_ok l q h2)).congr fun n st => ?_
      simp only [opsA, step1]
      cases oneA P gl (cfS P gl sp n) ops o st with
      | ok r => obtain ⟨a, b, c⟩ := r; rfl
      | err n => rfl
    · cases h
end
end Go.Ab

namespace Go.Ab
section
variable {P : Program} {gl : List Nat} {sp : Special} {sz : Nat}
theorem mapA_cong2 {α β : Type} {f g : α → Res β} : ∀ (l : List α), (∀ x ∈ l, f x = g x) → mapA f l = mapA g l
  | [], _ => rfl
  | a :: l, h => by
    simp only [mapA]
    rw [h a (by simp), mapA_cong2 l fun x hx => h x (by simp [hx])]
theorem optOp_cong2 {f g : Operand → Res AV} (o : Option Operand) (h : ∀ x ∈ o.toList, f x = g x) : optOp f o = optOp g o := by
  cases o with
  | none => rfl
  | some x => simp only [optOp]; rw [h x (by simp)]
theorem opA_look {o : Oper} (hl : isLookOp o.op = true) {f g : Operand → Res AV} (h : ∀ x ∈ o.op.operands.toList, f x = g x) (cf : CallF) (H : Hp) : opA P cf f o H = opA P cf g o H := by
  unfold isLookOp at hl
  split at hl
  · rename_i t a ho
    rw [ho] at h
    have := h a (by simp [Op.operands])
    simp only [opA, ho, this]
  · rename_i t m k c ho
    rw [ho] at h
    have e1 := h m (by simp [Op.operands])
    have e2 := h k (by simp [Op.operands])
    simp only [opA, ho, e1, e2]
  · rename_i it ho
    rw [ho] at h
    have e1 := h it (by simp [Op.operands])
    simp only [opA, ho, e1]
  · rename_i t x lo hi mx ho
    rw [ho] at h
    have e1 := h x (by simp [Op.operands])
    have e2 := optOp_cong2 lo fun y hy => h y (by simp only [Op.operands, Array.toList_append, List.mem_append]; left; left; right; simpa using hy)
    have e3 := optOp_cong2 hi fun y hy => h y (by simp only [Op.operands, Array.toList_append, List.mem_append]; left; right; simpa using hy)
    have e4 := optOp_cong2 mx fun y hy => h y (by simp only [Op.operands, Array.toList_append, List.mem_append]; right; simpa using hy)
    simp only [opA, ho, e1, e2, e3, e4]
  · rename_i s d x ho
    rw [ho] at h
    have e1 := h x (by simp [Op.operands])
    simp only [opA, ho, e1]
  · rename_i c ho
    rw [ho] at h
    split at hl
    · rename_i hc
      have e1 := mapA_cong2 (f := f) (g := g) c.args.toList fun x hx => h x (by simp only [Op.operands, Call.operands, hc]; simpa using hx)
      simp only [opA, ho, callA, e1, hc]
    · cases hl
  · cases hl
theorem evalO_congr {p q : PT AV} {o : Oper} (h : ∀ j ∈ tmpsOf o, St.get p j = St.get q j) : ∀ x ∈ o.op.operands.toList, evalO gl p x = evalO gl q x := by
  intro x hx
  cases x with
  | tmp j =>
    have : j ∈ tmpsOf o := by
      unfold tmpsOf
      rw [List.mem_filterMap]
      exact ⟨.tmp j, hx, rfl⟩
    simp only [evalO, h j this]
  | const v => rfl
  | global g => rfl
  | func f => rfl
theorem rk_or (w d : AV) (k : M) (cf : CF) (t : Fr) (h : Hp) : rk w d k cf t h = .err ∨ (w ≠ .bad ∧ eqAV 8 w d = true ∧ rk w d k cf t h = k cf t h) := by
  unfold rk
  cases e : bAnd (okV w) (eqAV 8 w d) with
  | false => exact .inl rfl
  | true =>
    obtain ⟨h1, h2⟩ := bAnd_iff.1 e
    exact .inr ⟨(okV_iff w).1 h1, h2, rfl⟩
theorem set_inj {t : Fr} {d : Nat} (hd : d < 256) {v w : AV} (h : t.set d v = t.set d w) : v = w := by
  have h1 := Fr.get_set t d d v hd
  have h2 := Fr.get_set t d d w hd
  rw [h] at h1
  rw [if_pos rfl] at h1 h2
  exact h1.symm.trans h2
theorem qrk_val {o : Oper} {d : Nat} (hd : d < 256) (cf : CF) (hcf : CFok P gl sp cf) (k : M) (t : Fr) (h : Hp) :
    (qx P gl o).rk P gl d k cf t h = .err ∨ ((qx P gl o).rk P gl d k cf t h = k cf t h ∧ ∃ w, eqAV 8 w (t.get d) = true ∧ ∀ p, QFR t p → ∃ h2 N, ∀ n, N ≤ n → opA P (cfS P gl sp n) (evalO gl p) o h = .ok (w, h2)) := by
  have hx := qx_ok (P := P) (gl := gl) (sp := sp) (sz := d + 1) o (some d) (by simp [fit, hd])
  have probe : ∀ w h2, w ≠ .bad → (qx P gl o).den P gl (some d) (fun _ t h => .nrm t h) cf t h = .nrm (t.set d w) h2 → ∀ p, QFR t p → ∃ h2 N, ∀ n, N ≤ n → opA P (cfS P gl sp n) (evalO gl p) o h = .ok (w, h2) := by
    intro w h2 _ e p hp
    rcases hx cf hcf (fun _ t h => .nrm t h) t h with e' | ⟨v, h', e1, e2⟩
    · have := e.symm.trans e'; cases this
    · have e1 : Out.nrm (t.set d w) h2 = Out.nrm (t.set d v) h' := e.symm.trans e1
      have : w = v := by
        injection e1 with g1 g2
        exact set_inj hd g1
      subst this
      obtain ⟨N, hN⟩ := e2 p hp
      exact ⟨h', N, hN⟩
  generalize hq : qx P gl o = q at probe
  cases q with
  | v1 f a =>
    have e0 : (QX.v1 f a).rk P gl d k cf t h = rk (f.den (a.den t)) (nthG gList d t) k cf t h := rfl
    rw [e0]
    rcases rk_or (f.den (a.den t)) (nthG gList d t) k cf t h with e | ⟨e1, e2, e3⟩
    · exact .inl e
    · refine .inr ⟨e3, _, by rw [nthG_ok d hd] at e2; exact e2, probe _ h e1 ?_⟩
      show ck (f.den (a.den t)) (nthS sList d) (fun _ t h => .nrm t h) cf t h = _
      rcases ck_or (f.den (a.den t)) (nthS sList d) (fun _ t h => .nrm t h) cf t h with g | ⟨_, g⟩
      · unfold ck at g; rw [(okV_iff _).2 e1] at g
        have g : nthS sList d (f.den (a.den t)) (fun _ t h => .nrm t h) cf t h = .err := g
        rw [nthS_ok d hd] at g; cases g
      · rw [g, nthS_ok d hd]
  | h1 f a =>
    have e0 : (QX.h1 f a).rk P gl d k cf t h = rk (f.den (a.den t) h) (nthG gList d t) k cf t h := rfl
    rw [e0]
    rcases rk_or (f.den (a.den t) h) (nthG gList d t) k cf t h with e | ⟨e1, e2, e3⟩
    · exact .inl e
    · refine .inr ⟨e3, _, by rw [nthG_ok d hd] at e2; exact e2, probe _ h e1 ?_⟩
      show ck (f.den (a.den t) h) (nthS sList d) (fun _ t h => .nrm t h) cf t h = _
      rcases ck_or (f.den (a.den t) h) (nthS sList d) (fun _ t h => .nrm t h) cf t h with g | ⟨_, g⟩
      · unfold ck at g; rw [(okV_iff _).2 e1] at g
        have g : nthS sList d (f.den (a.den t) h) (fun _ t h => .nrm t h) cf t h = .err := g
        rw [nthS_ok d hd] at g; cases g
      · rw [g, nthS_ok d hd]
  | rs r l =>
    have e0 : (QX.rs r l).rk P gl d k cf t h = rk (roV (toRO (rsR r (alDen l t) h))) (nthG gList d t) k cf t h := rfl
    rw [e0]
    rcases rk_or (roV (toRO (rsR r (alDen l t) h))) (nthG gList d t) k cf t h with e | ⟨e1, e2, e3⟩
    · exact .inl e
    · cases hr : toRO (rsR r (alDen l t) h) with
      | err => rw [hr] at e1; exact absurd rfl e1
      | ok w h2 =>
        rw [hr] at e1 e2
        refine .inr ⟨by rw [hr] at e3; exact e3, w, by rw [nthG_ok d hd] at e2; exact e2, probe _ h2 e1 ?_⟩
        show er (toRO (rsR r (alDen l t) h)) (nthS sList d) (fun _ t h => .nrm t h) cf t = _
        rw [hr]
        exact nthS_ok d hd w _ cf t h2
  | gn o' =>
    have e0 : (QX.gn o').rk P gl d k cf t h = rk (roV (gnR P gl o' t h)) (nthG gList d t) k cf t h := rfl
    rw [e0]
    rcases rk_or (roV (gnR P gl o' t h)) (nthG gList d t) k cf t h with e | ⟨e1, e2, e3⟩
    · exact .inl e
    · cases hr : gnR P gl o' t h with
      | err => rw [hr] at e1; exact absurd rfl e1
      | ok w h2 =>
        rw [hr] at e1 e2
        refine .inr ⟨by rw [hr] at e3; exact e3, w, by rw [nthG_ok d hd] at e2; exact e2, probe _ h2 e1 ?_⟩
        show er (gnR P gl o' t h) (nthS sList d) (fun _ t h => .nrm t h) cf t = _
        rw [hr]
        exact nthS_ok d hd w _ cf t h2
  | _ => exact .inl rfl
structure PendOK (ops : Array Oper) (p : PT AV) (x : Pend) (s : PStep) : Prop where
  i : x.i = s.i
  o : x.o = s.o
  look : isLookOp s.o.op = true
  tm : ∀ j ∈ tmpsOf s.o, St.get x.t j = St.get p j
  w : wantedA ops p s.o = .ok true
  v : ∃ d, s.o.dst = some d ∧ St.get p d = x.v
def PendsOK (ops : Array Oper) (p : PT AV) (pend : List Pend) (qs : List PStep) : Prop := ∀ x ∈ pend, ∃ s ∈ qs, PendOK ops p x s
theorem wanted_keep {ops : Array Oper} {p : PT AV} {d : Nat} {v : AV} {o : Oper} (h : (match o.guard with | none => true | some (j, _) => (ops[j]?).bind (·.dst) != some d) = true) : wantedA ops (p.set d v) o = wantedA ops p o := by
  unfold wantedA
  cases hg : o.guard with
  | none => rfl
  | some jw =>
    obtain ⟨j, w⟩ := jw
    rw [hg] at h
    simp only at h ⊢
    cases hd : (ops[j]?).bind (·.dst) with
    | none => rfl
    | some g =>
      rw [hd] at h
      have hne : g ≠ d := by simpa using h
      simp only
      have : St.get (p.set d v) g = St.get p g := by
        unfold St.get
        rw [PT.get_set_ne _ _ (Ne.symm hne)]
      rw [this]
theorem get_keep {p : PT AV} {d j : Nat} {v : AV} (h : j ≠ d) : St.get (p.set d v) j = St.get p j := by
  unfold St.get
  rw [PT.get_set_ne _ _ (Ne.symm h)]
theorem PendOK.keep {ops : Array Oper} {p : PT AV} {x : Pend} {s : PStep} (h : PendOK ops p x s) {dst : Option Tmp} (hc : clear1 ops dst s.o = true) (v : AV) : PendOK ops (pset dst v p) x s := by
  cases dst with
  | none => exact h
  | some d =>
    simp only [clear1, Bool.and_eq_true] at hc
    obtain ⟨⟨h1, h2⟩, h3⟩ := hc
    show PendOK ops (p.set d v) x s
    refine ⟨h.i, h.o, h.look, fun j hj => ?_, by rw [wanted_keep h3]; exact h.w, ?_⟩
    · have : j ≠ d := by
        rintro rfl
        simp [hj] at h1
      rw [get_keep this]; exact h.tm j hj
    · obtain ⟨e, e1, e2⟩ := h.v
      refine ⟨e, e1, ?_⟩
      have : e ≠ d := by
        rintro rfl
        simp [e1] at h2
      rw [get_keep this]; exact e2
theorem recheck_done {m : Nat} {cf : CallF} {H : Hp} : ∀ (pend : List Pend), (∀ x ∈ pend, Nat.testBit m x.i = false → ∃ w h2, opA P cf (evalO gl x.t) x.o H = .ok (w, h2) ∧ eqAV 8 w x.v = true) →
    recheck P gl cf H m pend = .ok (pend.filter fun x => !Nat.testBit m x.i)
  | [], _ => rfl
  | x :: l, h => by
    have ih := recheck_done l fun y hy => h y (by simp [hy])
    unfold recheck
    cases hb : Nat.testBit m x.i with
    | true => simp only [if_true, List.filter, hb, Bool.not_true]; exact ih
    | false =>
      obtain ⟨w, h2, e1, e2⟩ := h x (by simp) hb
      simp only [Bool.false_eq_true, if_false, e1, e2, if_true, List.filter, hb, Bool.not_false, ih, Res.bind]
theorem qrks_ok {ops : Array Oper} {m : Nat} : ∀ (qs : List PStep) (r : List QI), qrks P gl ops m qs = some r → ∀ cf, CFok P gl sp cf → ∀ k t h,
    chain P gl r k cf t h = .err ∨ (chain P gl r k cf t h = k cf t h ∧ ∀ p, QFR t p → ∀ s ∈ qs, Nat.testBit m s.i = false → wantedA ops p s.o = .ok true → ∃ d w, s.o.dst = some d ∧ eqAV 8 w (St.get p d) = true ∧ ∃ h2 N, ∀ n, N ≤ n → opA P (cfS P gl sp n) (evalO gl p) s.o h = .ok (w, h2))
  | [], r, hr, cf, _, k, t, h => by
    simp only [qrks, Option.some.injEq] at hr
    subst hr
    exact .inr ⟨rfl, fun p _ s hs => by cases hs⟩
  | x :: l, r, hr, cf, hcf, k, t, h => by
    simp only [qrks] at hr
    split at hr
    · rename_i r' hr'
      have ih := qrks_ok l r' hr' cf hcf k t h
      split at hr
      · rename_i hb
        cases hr
        rcases ih with e | ⟨e1, e2⟩
        · exact .inl e
        · refine .inr ⟨e1, fun p hp s hs ht hw => ?_⟩
          rcases List.mem_cons.1 hs with rfl | hs
          · rw [hb] at ht; cases ht
          · exact e2 p hp s hs ht hw
      · split at hr
        · rename_i a ha
          cases hr
          unfold qrk at ha
          split at ha
          · rename_i d hd
            split at ha
            · rename_i hlt
              split at ha
              · cases ha
                show (qx P gl x.o).rk P gl d (chain P gl r' k) cf t h = .err ∨ _
                rcases qrk_val (o := x.o) hlt cf hcf (chain P gl r' k) t h with e | ⟨e1, w, e2, e3⟩
                · exact .inl e
                · rcases ih with g | ⟨g1, g2⟩
                  · exact .inl (e1.trans g)
                  · refine .inr ⟨e1.trans g1, fun p hp s hs ht hw => ?_⟩
                    rcases List.mem_cons.1 hs with rfl | hs
                    · exact ⟨d, w, hd, by rw [← hp d]; exact e2, e3 p hp⟩
                    · exact g2 p hp s hs ht hw
              · rename_i j w0 hg
                split at ha
                · rename_i g c hgo
                  cases ha
                  show gdn (nthG gList g) c ((qx P gl x.o).rk P gl d) (chain P gl r' k) cf t h = .err ∨ _
                  rcases gdn_eq g c ((qx P gl x.o).rk P gl d) (chain P gl r' k) cf t h with ⟨e, _⟩ | ⟨e0, e⟩
                  · exact .inl e
                  · by_cases hc : triV (nthG gList g t) = c
                    · rw [if_pos hc] at e
                      rcases qrk_val (o := x.o) hlt cf hcf (chain P gl r' k) t h with e' | ⟨e1, w, e2, e3⟩
                      · exact .inl (e.trans e')
                      · rcases ih with g | ⟨g1, g2⟩
                        · exact .inl (e.trans (e1.trans g))
                        · refine .inr ⟨e.trans (e1.trans g1), fun p hp s hs ht hw => ?_⟩
                          rcases List.mem_cons.1 hs with rfl | hs
                          · exact ⟨d, w, hd, by rw [← hp d]; exact e2, e3 p hp⟩
                          · exact g2 p hp s hs ht hw
                    · rw [if_neg hc] at e
                      rcases ih with g' | ⟨g1, g2⟩
                      · exact .inl (e.trans g')
                      · refine .inr ⟨e.trans g1, fun p hp s hs ht hw => ?_⟩
                        rcases List.mem_cons.1 hs with rfl | hs
                        · rcases gOf_ok hgo hg hp with q1 | ⟨q1, _⟩ | ⟨_, q1⟩
                          · exact absurd q1 e0
                          · exact absurd q1 hc
                          · rw [q1] at hw; cases hw
                        · exact g2 p hp s hs ht hw
                · cases ha
            · cases ha
          · cases ha
        · cases hr
    · cases hr
theorem chain_append (a b : List QI) (k : M) : chain P gl (a ++ b) k = chain P gl a (chain P gl b k) := by
  induction a with
  | nil => rfl
  | cons x l ih => simp only [List.cons_append, chain, ih]
theorem bound_all {α : Type} {R : α → Nat → Prop} : ∀ (l : List α), (∀ x ∈ l, ∃ N, ∀ n, N ≤ n → R x n) → ∃ N, ∀ n, N ≤ n → ∀ x ∈ l, R x n
  | [], _ => ⟨0, fun _ _ x hx => by cases hx⟩
  | a :: l, h => by
    obtain ⟨N1, h1⟩ := h a (by simp)
    obtain ⟨N2, h2⟩ := bound_all l fun x hx => h x (by simp [hx])
    refine ⟨max N1 N2, fun n hn x hx => ?_⟩
    rcases List.mem_cons.1 hx with rfl | hx
    · exact h1 n (by omega)
    · exact h2 n (by omega) x hx
theorem qdraw_ok {ops : Array Oper} : ∀ (l : List PStep) (qs : List PStep) (r : List QI), qdraw P gl sz ops l qs = some r → ∀ cf, CFok P gl sp cf → ∀ k t h,
    chain P gl r k cf t h = .err ∨ ∃ t' h', chain P gl r k cf t h = k cf t' h' ∧ ∀ p md, QFR t p → ∀ pend, PendsOK ops p pend qs → ∃ p', QFR t' p' ∧ ∃ N, ∀ n, N ≤ n → drawA P gl (cfS P gl sp n) ops l pend ⟨p, h, sz, md⟩ = .ok ⟨p', h', sz, md⟩
  | [], qs, r, hr, cf, _, k, t, h => by
    simp only [qdraw, Option.some.injEq] at hr
    subst hr
    exact .inr ⟨t, h, rfl, fun p md hp pend _ => ⟨p, hp, 0, fun _ _ => rfl⟩⟩
  | s :: l, qs, r, hr, cf, hcf, k, t, h => by
    simp only [qdraw] at hr
    split at hr
    · rename_i hcl
      simp only [Bool.and_eq_true] at hcl
      obtain ⟨hcl, hlk⟩ := hcl
      split at hr
      · rename_i a rk rest ha hrk hrest
        cases hr
        show a.den P gl (chain P gl (rk ++ rest) k) cf t h = .err ∨ _
        rw [chain_append]
        have hfit := qi_fit ha
        rcases qi_full ha cf hcf (chain P gl rk (chain P gl rest k)) t h with e | ⟨t1, h1, v, want, e1, e2, e3, e4⟩
        · exact .inl e
        · have ih := fun t h => qdraw_ok l (pendQ s qs) rest hrest cf hcf k t h
          -- the looks behind
          have hrks : chain P gl rk (chain P gl rest k) cf t1 h1 = .err ∨ (chain P gl rk (chain P gl rest k) cf t1 h1 = chain P gl rest k cf t1 h1 ∧
              (s.k = .eff → ∀ p, QFR t1 p → ∀ s' ∈ qs, Nat.testBit s.m s'.i = false → wantedA ops p s'.o = .ok true → ∃ d w, s'.o.dst = some d ∧ eqAV 8 w (St.get p d) = true ∧ ∃ h2 N, ∀ n, N ≤ n → opA P (cfS P gl sp n) (evalO gl p) s'.o h1 = .ok (w, h2))) := by
            unfold rkIf at hrk
            cases hk : s.k with
            | eff =>
              rw [hk] at hrk
              rcases qrks_ok qs rk hrk cf hcf (chain P gl rest k) t1 h1 with g | ⟨g1, g2⟩
              · exact .inl g
              · exact .inr ⟨g1, fun _ => g2⟩
            | plain => rw [hk] at hrk; simp only [Option.some.injEq] at hrk; subst hrk; exact .inr ⟨rfl, fun g => by cases g⟩
            | look => rw [hk] at hrk; simp only [Option.some.injEq] at hrk; subst hrk; exact .inr ⟨rfl, fun g => by cases g⟩
            | new => rw [hk] at hrk; simp only [Option.some.injEq] at hrk; subst hrk; exact .inr ⟨rfl, fun g => by cases g⟩
          rcases hrks with g | ⟨g1, g2⟩
          · exact .inl (e1.trans g)
          · rcases ih t1 h1 with g' | ⟨t2, h2, f1, f2⟩
            · exact .inl (e1.trans (g1.trans g'))
            · refine .inr ⟨t2, h2, (show a.den P gl (chain P gl (rk ++ rest) k) cf t h = _ by rw [chain_append]; exact e1.trans (g1.trans f1)), fun p md hp pend hpend => ?_⟩
              obtain ⟨hw, hN⟩ := e4 p hp
              obtain ⟨N1, hN1⟩ := hN md
              obtain ⟨p1, q1, q2, q3⟩ := put_ok hfit hp v h h1 md
              rw [← e2] at q1
              -- what waits, behind this step
              have hkeep : PendsOK ops p1 pend qs := fun x hx => by
                obtain ⟨s', hs', g⟩ := hpend x hx
                refine ⟨s', hs', ?_⟩
                rw [q3]
                exact g.keep (List.all_eq_true.1 hcl s' hs') v
              have hnext : ∃ pend', PendsOK ops p1 pend' (pendQ s qs) ∧ ∃ N, ∀ n, N ≤ n → nextPend P gl (cfS P gl sp n) s want p v h1 pend = .ok pend' := by
                cases hk : s.k with
                | plain =>
                  refine ⟨pend, ?_, 0, fun n _ => ?_⟩
                  · simp only [pendQ, hk]; exact hkeep
                  · cases want <;> simp only [nextPend, hk]
                | new =>
                  refine ⟨pend, ?_, 0, fun n _ => ?_⟩
                  · simp only [pendQ, hk]; exact hkeep
                  · cases want <;> simp only [nextPend, hk]
                | look =>
                  cases want with
                  | false =>
                    refine ⟨pend, ?_, 0, fun n _ => by simp only [nextPend]⟩
                    simp only [pendQ, hk]
                    intro x hx
                    obtain ⟨s', hs', g⟩ := hkeep x hx
                    exact ⟨s', by simp [hs'], g⟩
                  | true =>
                    refine ⟨⟨s.i, s.o, p, v⟩ :: pend, ?_, 0, fun n _ => by simp only [nextPend, hk]⟩
                    simp only [pendQ, hk]
                    intro x hx
                    rcases List.mem_cons.1 hx with rfl | hx
                    · refine ⟨s, by simp, ?_⟩
                      unfold lookIf at hlk
                      rw [hk] at hlk
                      simp only [lookOk, Bool.and_eq_true] at hlk
                      obtain ⟨⟨k1, k2⟩, k3⟩ := hlk
                      cases hd : s.o.dst with
                      | none => rw [hd] at k2; cases k2
                      | some d =>
                        rw [hd] at k3 q3
                        unfold pset at q3
                        simp only [clear1, Bool.and_eq_true] at k3
                        obtain ⟨⟨k4, _⟩, k5⟩ := k3
                        simp only at q3
                        subst q3
                        refine ⟨rfl, rfl, k1, fun j hj => ?_, by rw [wanted_keep k5]; exact hw, d, hd, ?_⟩
                        · have : j ≠ d := by
                            rintro rfl
                            have : j ∈ tmpsOf { s.o with dst := none } := hj
                            simp [this] at k4
                          exact (get_keep this).symm
                        · unfold St.get; rw [PT.get_set_self]
                    · obtain ⟨s', hs', g⟩ := hkeep x hx
                      exact ⟨s', by simp [hs'], g⟩
                | eff =>
                  cases want with
                  | false =>
                    refine ⟨pend, ?_, 0, fun n _ => by simp only [nextPend]⟩
                    have : s.o.guard.isNone = false := by
                      cases hgd : s.o.guard with
                      | none => have := e3 hgd; cases this
                      | some _ => rfl
                    simp only [pendQ, hk, this]
                    exact hkeep
                  | true =>
                    refine ⟨pend.filter fun x => !Nat.testBit s.m x.i, ?_, ?_⟩
                    · simp only [pendQ, hk]
                      intro x hx
                      obtain ⟨hx1, hx2⟩ := List.mem_filter.1 hx
                      obtain ⟨s', hs', g⟩ := hkeep x hx1
                      refine ⟨s', ?_, g⟩
                      cases hgd : s.o.guard with
                      | none =>
                        simp only [Option.isNone_none, if_true]
                        rw [List.mem_filter]
                        exact ⟨hs', by rw [← g.i]; exact hx2⟩
                      | some _ => simpa using hs'
                    · have hb := bound_all (α := Pend) (R := fun x n => Nat.testBit s.m x.i = false → ∃ w h2, opA P (cfS P gl sp n) (evalO gl x.t) x.o h1 = .ok (w, h2) ∧ eqAV 8 w x.v = true) pend (fun x hx => by
                        obtain ⟨s', hs', g⟩ := hkeep x hx
                        by_cases ht : Nat.testBit s.m x.i = true
                        · exact ⟨0, fun n _ hf => by rw [ht] at hf; cases hf⟩
                        · have ht : Nat.testBit s.m x.i = false := by simpa using ht
                          obtain ⟨d, w, d1, d2, hh, N, d3⟩ := g2 hk p1 q1 s' hs' (by rw [← g.i]; exact ht) g.w
                          refine ⟨N, fun n hn _ => ⟨w, hh, ?_, ?_⟩⟩
                          · rw [g.o, opA_look g.look (evalO_congr g.tm)]
                            exact d3 n hn
                          · obtain ⟨d', d4, d5⟩ := g.v
                            rw [d1] at d4
                            cases d4
                            rw [← d5]; exact d2)
                      obtain ⟨N, hN⟩ := hb
                      exact ⟨N, fun n hn => by simp only [nextPend, hk]; exact recheck_done pend (hN n hn)⟩
              obtain ⟨pend', k1, N2, k2⟩ := hnext
              obtain ⟨p2, r1, N3, r2⟩ := f2 p1 md q1 pend' k1
              refine ⟨p2, r1, max N1 (max N2 N3), fun n hn => ?_⟩
              simp only [drawA, hN1 n (by omega), Res.bind, q2, k2 n (by omega)]
              exact r2 n (by omega)
      · cases hr
    · cases hr
end
end Go.Ab

namespace Go.Ab
section
variable {P : Program} {gl : List Nat} {sp : Special} {sz : Nat}
theorem qx0_st {o : Oper} {n : Option Nat} {a b : QA} (h : qx0 P gl o = .st n a b) : ∃ ty x y, o.op = .store ty x y ∧ qa gl x = some a := by
  unfold qx0 at h
  split at h
  case h_7 ty x y ho =>
    split at h
    · split at h
      · cases h; exact ⟨ty, x, y, ho, by assumption⟩
      · cases h
    · cases h; exact ⟨ty, x, y, ho, by assumption⟩
    · cases h
  all_goals (repeat' split at h) <;> cases h
theorem qx_st {o : Oper} {n : Option Nat} {a b : QA} (h : qx P gl o = .st n a b) : ∃ ty x y, o.op = .store ty x y ∧ qa gl x = some a := by
  unfold qx at h
  split at h
  · split at h <;> cases h
  · exact qx0_st h
theorem qtwo_ok {ops : Array Oper} {x y : PStep} {q : QI} (hq : qtwo P gl x.o y.o = some q) : XS P gl sp sz (q.den P gl) (fun n st => twoA P gl (cfS P gl sp n) ops x y st) := by
  unfold qtwo at hq
  split at hq
  · rename_i n a b m c e hx hy gx gy dx dy
    cases hq
    obtain ⟨tx, ax, bx, ox, qx'⟩ := qx_st hx
    obtain ⟨ty, ay, by', oy, qy'⟩ := qx_st hy
    have kx := qx_ok (P := P) (gl := gl) (sp := sp) (sz := 0) x.o none rfl
    have ky := qx_ok (P := P) (gl := gl) (sp := sp) (sz := 0) y.o none rfl
    rw [hx] at kx
    rw [hy] at ky
    intro cf hcf k t h
    cases hc : bAnd (both 8 (a.den t) (c.den t)) (bNot (Nat.beq (blV (a.den t)) (blV (c.den t)))) with
    | false =>
      left
      show tw a.den c.den (n2 (stD n) a.den b.den) (n2 (stD m) c.den e.den) k cf t h = .err
      unfold tw
      rw [hc]
    | true =>
      have e0 : (QI.tw a b c e n m).den P gl k cf t h = n2 (stD n) a.den b.den (n2 (stD m) c.den e.den k) cf t h := by
        show tw a.den c.den (n2 (stD n) a.den b.den) (n2 (stD m) c.den e.den) k cf t h = _
        unfold tw
        rw [hc]
      obtain ⟨h1, h2⟩ := bAnd_iff.1 hc
      obtain ⟨h3, h4⟩ := bAnd_iff.1 h1
      obtain ⟨b1, o1, e1⟩ := tag_ptr h3
      obtain ⟨b2, o2, e2⟩ := tag_ptr h4
      have hne : Nat.beq b1 b2 = false := by
        rw [e1, e2, bNot_eq] at h2
        simpa [blV] using h2
      rw [e0]
      rcases kx cf hcf (n2 (stD m) c.den e.den k) t h with g | ⟨v1, h1', g1, g2⟩
      · exact .inl g
      · rcases ky cf hcf k t h1' with g | ⟨v2, h2', g3, g4⟩
        · exact .inl (g1.trans g)
        · refine .inr ⟨t, h2', g1.trans g3, fun p md hp => ⟨p, hp, ?_⟩⟩
          obtain ⟨N1, f1⟩ := g2 p hp
          obtain ⟨N2, f2⟩ := g4 p hp
          refine ⟨max N1 N2, fun n hn => ?_⟩
          have s1 : storeAt gl p x.o = .ok b1 := by
            simp only [storeAt, ox, qa_ok qx' hp, Res.bind, e1]
          have s2 : storeAt gl p y.o = .ok b2 := by
            simp only [storeAt, oy, qa_ok qy' hp, Res.bind, e2]
          have w1 : wantedA ops p x.o = .ok true := by simp only [wantedA, gx]
          have w2 : wantedA ops p y.o = .ok true := by simp only [wantedA, gy]
          simp only [twoA, s1, s2, Res.bind, hne, Bool.false_eq_true, if_false, oneA, w1, w2, f1 n (by omega), dx, dy, putA]
          rw [f2 n (by omega)]
  · cases hq
theorem qfork_ok {t : TypeId} {d r : Tmp} {q : QI} (hq : qfork P sz t d r = some q) : XS P gl sp sz (q.den P gl) (fun _ st => forkA P t d r st) := by
  unfold qfork at hq
  split at hq
  · rename_i i ht hi
    split at hq
    · rename_i hs
      split at hq
      · rename_i b hz
        split at hq
        · rename_i hf
          simp only [Bool.and_eq_true] at hf
          cases hq
          intro cf hcf k tt h
          have hd := lt256 hf.1 d rfl
          have hr := lt256 hf.2 r rfl
          right
          refine ⟨(tt.set d (.ptr (newCells h [.anyb]).1 0)).set r .anyb, (newCells h [.anyb]).2, ?_, fun p md hp => ?_⟩
          · show er (nwC [AV.anyb] 1 h) (nthS sList d) (nthS sList r AV.anyb k) cf tt = _
            have := nwC_eq [AV.anyb] h
            rw [show [AV.anyb].length = 1 from rfl] at this
            rw [this]
            show nthS sList d _ (nthS sList r AV.anyb k) cf tt _ = _
            rw [nthS_ok d hd, nthS_ok r hr]
          · refine ⟨_, (hp.set d hd _).set r hr _, 0, fun n _ => ?_⟩
            have f1 := hf.1
            have f2 := hf.2
            simp only [fit, Bool.and_eq_true] at f1 f2
            simp only [forkA, ht, hi, Res.bind, hs, if_true, hz, putA, f1.1, f2.1]
        · cases hq
      · cases hq
    · cases hq
  · cases hq
theorem qreg_ok {ops : Array Oper} {draw : Bool} {l : List QI} (hq : qreg P gl sz ops draw = some l) : XS P gl sp sz (chain P gl l) (fun n st => regionA P gl (cfS P gl sp n) ops draw st) := by
  unfold qreg at hq
  split at hq
  · rename_i hd
    split at hq
    · rename_i t d r hf
      split at hq
      · rename_i a ha
        cases hq
        refine XS.congr (s1 := fun _ st => forkA P t d r st) (qfork_ok ha) fun n st => ?_
        simp only [regionA, hd, if_true, hf]
      · cases hq
    · rename_i hf
      split at hq
      · rename_i p hp
        split at hq
        · rename_i l1 hl1
          have hdraw : XS P gl sp sz (chain P gl l1) (fun n st => drawA P gl (cfS P gl sp n) ops p.pre [] st) := by
            intro cf hcf k t h
            rcases qdraw_ok p.pre [] l1 hl1 cf hcf k t h with e | ⟨t', h', e1, e2⟩
            · exact .inl e
            · exact .inr ⟨t', h', e1, fun q md hq => e2 q md hq [] fun x hx => by cases hx⟩
          split at hq
          · rename_i htwo
            cases hq
            refine hdraw.congr fun n st => ?_
            simp only [regionA, hd, if_true, hf, hp, htwo]
            cases drawA P gl (cfS P gl sp n) ops p.pre [] st <;> rfl
          · rename_i x y htwo
            split at hq
            · rename_i a ha
              cases hq
              refine XS.congr (X := chain P gl (l1 ++ [a])) (s1 := fun n st => (drawA P gl (cfS P gl sp n) ops p.pre [] st).bind (twoA P gl (cfS P gl sp n) ops x y)) ?_ fun n st => ?_
              · have : chain P gl (l1 ++ [a]) = fun k => chain P gl l1 (a.den P gl k) := by
                  funext k
                  rw [chain_append]
                  rfl
                rw [this]
                exact hdraw.comp (qtwo_ok ha)
              · simp only [regionA, hd, if_true, hf, hp, htwo]
            · cases hq
        · cases hq
      · cases hq
  · rename_i hd
    refine (qis_ok ops.toList l hq).congr fun n st => ?_
    simp only [regionA, hd]
    rfl
def exO : Out → Option (Ex × Fr × Hp)
  | .nrm t h => some (.normal, t, h)
  | .ext i t h => some (.exit i, t, h)
  | .got l t h => some (.goto l, t, h)
  | .ret t h => some (.ret, t, h)
  | .err => none
variable (P gl sp sz) in
def MS (m : M) (c : Code) : Prop :=
  ∀ cf, CFok P gl sp cf → ∀ t h e t' h', exO (m cf t h) = some (e, t', h') → ∀ p md, QFR t p → ∃ p', QFR t' p' ∧ ∃ N, ∀ n, N ≤ n → evalC P gl sp n c ⟨p, h, sz, md⟩ = .ok (e, ⟨p', h', sz, md⟩)
theorem evalC_succ (n : Nat) (c : Code) (st : St) : evalC P gl sp (n + 1) c st = stepA P gl (cfS P gl sp n) (evalC P gl sp n) c st := rfl
theorem MS.leaf {m : M} {c : Code} (f : Hp → Ex) (hm : ∀ cf t h, exO (m cf t h) = some (f h, t, h)) (hc : ∀ n st, evalC P gl sp (n + 1) c st = .ok (f st.h, st)) : MS P gl sp sz m c := by
  intro cf _ t h e t' h' he p md hp
  rw [hm] at he
  cases he
  refine ⟨p, hp, 1, fun n hn => ?_⟩
  obtain ⟨n, rfl⟩ : ∃ k, n = k + 1 := ⟨n - 1, by omega⟩
  exact hc n _
theorem MS.err {m : M} {c : Code} (hm : ∀ cf t h, m cf t h = .err) : MS P gl sp sz m c := by
  intro cf _ t h e t' h' he
  rw [hm] at he
  cases he
theorem MS.reg {X : M → M} {ops : Array Oper} {draw : Bool} {id : Nat} (hx : XS P gl sp sz X (fun n st => regionA P gl (cfS P gl sp n) ops draw st)) : MS P gl sp sz (X nrmM) (.region id ops draw) := by
  intro cf hcf t h e t' h' he p md hp
  rcases hx cf hcf nrmM t h with g | ⟨t1, h1, g1, g2⟩
  · rw [g] at he; cases he
  · rw [g1] at he
    cases he
    obtain ⟨p1, q1, N, f⟩ := g2 p md hp
    refine ⟨p1, q1, N + 1, fun n hn => ?_⟩
    obtain ⟨n, rfl⟩ : ∃ k, n = k + 1 := ⟨n - 1, by omega⟩
    rw [evalC_succ]
    simp only [stepA, f n (by omega), Res.bind]
theorem MS.regSeq {X : M → M} {ops : Array Oper} {draw : Bool} {id : Nat} {m : M} {b : Code} (hx : XS P gl sp sz X (fun n st => regionA P gl (cfS P gl sp n) ops draw st)) (hm : MS P gl sp sz m b) :
    MS P gl sp sz (X m) (.seq (.region id ops draw) b) := by
  intro cf hcf t h e t' h' he p md hp
  rcases hx cf hcf m t h with g | ⟨t1, h1, g1, g2⟩
  · rw [g] at he; cases he
  · rw [g1] at he
    obtain ⟨p1, q1, N1, f1⟩ := g2 p md hp
    obtain ⟨p2, q2, N2, f2⟩ := hm cf hcf t1 h1 e t' h' he p1 md q1
    refine ⟨p2, q2, max N1 N2 + 2, fun n hn => ?_⟩
    obtain ⟨n, rfl⟩ : ∃ k, n = k + 2 := ⟨n - 2, by omega⟩
    rw [evalC_succ]
    simp only [stepA]
    rw [evalC_succ]
    simp only [stepA, f1 n (by omega), Res.bind]
    exact f2 (n + 1) (by omega)
theorem MS.seq {m k : M} {a b : Code} (h1 : MS P gl sp sz m a) (h2 : MS P gl sp sz k b) : MS P gl sp sz (sq m k) (.seq a b) := by
  intro cf hcf t h e t' h' he p md hp
  have he : exO (sqO k cf (m cf t h)) = some (e, t', h') := he
  have fin : ∀ (e : Ex) (t' : Fr) (h' : Hp), exO (m cf t h) = some (e, t', h') → (∀ p', QFR t' p' → e ≠ .normal → True) → ∃ p', QFR t' p' ∧ ∃ N, ∀ n, N ≤ n → evalC P gl sp n a ⟨p, h, sz, md⟩ = .ok (e, ⟨p', h', sz, md⟩) := fun e t' h' g _ => h1 cf hcf t h e t' h' g p md hp
  cases hm : m cf t h with
  | err => rw [hm] at he; cases he
  | nrm t1 h1' =>
    rw [hm] at he
    obtain ⟨p1, q1, N1, f1⟩ := fin .normal _ _ (by rw [hm]; rfl) fun _ _ _ => trivial
    obtain ⟨p2, q2, N2, f2⟩ := h2 cf hcf t1 h1' e t' h' he p1 md q1
    refine ⟨p2, q2, max N1 N2 + 1, fun n hn => ?_⟩
    obtain ⟨n, rfl⟩ : ∃ k, n = k + 1 := ⟨n - 1, by omega⟩
    rw [evalC_succ]
    simp only [stepA, f1 n (by omega), Res.bind]
    exact f2 n (by omega)
  | ext i t1 h1' =>
    rw [hm] at he
    cases he
    obtain ⟨p1, q1, N1, f1⟩ := fin (.exit i) _ _ (by rw [hm]; rfl) fun _ _ _ => trivial
    refine ⟨p1, q1, N1 + 1, fun n hn => ?_⟩
    obtain ⟨n, rfl⟩ : ∃ k, n = k + 1 := ⟨n - 1, by omega⟩
    rw [evalC_succ]
    simp only [stepA, f1 n (by omega), Res.bind]
  | got i t1 h1' =>
    rw [hm] at he
    cases he
    obtain ⟨p1, q1, N1, f1⟩ := fin (.goto i) _ _ (by rw [hm]; rfl) fun _ _ _ => trivial
    refine ⟨p1, q1, N1 + 1, fun n hn => ?_⟩
    obtain ⟨n, rfl⟩ : ∃ k, n = k + 1 := ⟨n - 1, by omega⟩
    rw [evalC_succ]
    simp only [stepA, f1 n (by omega), Res.bind]
  | ret t1 h1' =>
    rw [hm] at he
    cases he
    obtain ⟨p1, q1, N1, f1⟩ := fin .ret _ _ (by rw [hm]; rfl) fun _ _ _ => trivial
    refine ⟨p1, q1, N1 + 1, fun n hn => ?_⟩
    obtain ⟨n, rfl⟩ : ∃ k, n = k + 1 := ⟨n - 1, by omega⟩
    rw [evalC_succ]
    simp only [stepA, f1 n (by omega), Res.bind]
theorem MS.cond {g : QA} {c : Operand} {m k : M} {a b : Code} (hc : qa gl c = some g) (h1 : MS P gl sp sz m a) (h2 : MS P gl sp sz k b) : MS P gl sp sz (cnd g.den m k) (.cond c a b) := by
  intro cf hcf t h e t' h' he p md hp
  have hv := qa_ok hc hp
  unfold cnd at he
  rcases tri_cases (g.den t) with q | ⟨q, q'⟩ | ⟨q, q'⟩ | ⟨q, q'⟩
  · rw [q] at he; cases he
  · rw [q] at he
    obtain ⟨p2, q2, N2, f2⟩ := h1 cf hcf t h e t' h' he p md hp
    refine ⟨p2, q2, N2 + 1, fun n hn => ?_⟩
    obtain ⟨n, rfl⟩ : ∃ k, n = k + 1 := ⟨n - 1, by omega⟩
    rw [evalC_succ]
    simp only [stepA, hv, Res.bind, q']
    exact f2 n (by omega)
  · rw [q] at he
    obtain ⟨p2, q2, N2, f2⟩ := h2 cf hcf t h e t' h' he p md hp
    refine ⟨p2, q2, N2 + 1, fun n hn => ?_⟩
    obtain ⟨n, rfl⟩ : ∃ k, n = k + 1 := ⟨n - 1, by omega⟩
    rw [evalC_succ]
    simp only [stepA, hv, Res.bind, q']
    exact f2 n (by omega)
  · rw [q] at he; cases he
theorem MS.blk {id : Nat} {m : M} {a : Code} (h1 : MS P gl sp sz m a) : MS P gl sp sz (blk id m) (.block id a) := by
  intro cf hcf t h e t' h' he p md hp
  have he : exO (blkO id (m cf t h)) = some (e, t', h') := he
  have fin := fun (e : Ex) (t' : Fr) (h' : Hp) (g : exO (m cf t h) = some (e, t', h')) => h1 cf hcf t h e t' h' g p md hp
  cases hm : m cf t h with
  | err => rw [hm] at he; cases he
  | nrm t1 h1' =>
    rw [hm] at he
    cases he
    obtain ⟨p1, q1, N1, f1⟩ := fin .normal _ _ (by rw [hm]; rfl)
    refine ⟨p1, q1, N1 + 1, fun n hn => ?_⟩
    obtain ⟨n, rfl⟩ : ∃ k, n = k + 1 := ⟨n - 1, by omega⟩
    rw [evalC_succ]
    simp only [stepA, f1 n (by omega), Res.bind]
  | ext i t1 h1' =>
    rw [hm] at he
    obtain ⟨p1, q1, N1, f1⟩ := fin (.exit i) _ _ (by rw [hm]; rfl)
    have he : exO (Bool.rec (motive := fun _ => Out) (.ext i t1 h1') (.nrm t1 h1') (Nat.beq i id)) = some (e, t', h') := he
    cases hb : Nat.beq i id with
    | true =>
      rw [hb] at he
      cases he
      refine ⟨p1, q1, N1 + 1, fun n hn => ?_⟩
      obtain ⟨n, rfl⟩ : ∃ k, n = k + 1 := ⟨n - 1, by omega⟩
      rw [evalC_succ]
      simp only [stepA, f1 n (by omega), Res.bind, hb, if_true]
    | false =>
      rw [hb] at he
      cases he
      refine ⟨p1, q1, N1 + 1, fun n hn => ?_⟩
      obtain ⟨n, rfl⟩ : ∃ k, n = k + 1 := ⟨n - 1, by omega⟩
      rw [evalC_succ]
      simp only [stepA, f1 n (by omega), Res.bind, hb, Bool.false_eq_true, if_false]
  | got i t1 h1' =>
    rw [hm] at he
    cases he
    obtain ⟨p1, q1, N1, f1⟩ := fin (.goto i) _ _ (by rw [hm]; rfl)
    refine ⟨p1, q1, N1 + 1, fun n hn => ?_⟩
    obtain ⟨n, rfl⟩ : ∃ k, n = k + 1 := ⟨n - 1, by omega⟩
    rw [evalC_succ]
    simp only [stepA, f1 n (by omega), Res.bind]
  | ret t1 h1' =>
    rw [hm] at he
    cases he
    obtain ⟨p1, q1, N1, f1⟩ := fin .ret _ _ (by rw [hm]; rfl)
    refine ⟨p1, q1, N1 + 1, fun n hn => ?_⟩
    obtain ⟨n, rfl⟩ : ∃ k, n = k + 1 := ⟨n - 1, by omega⟩
    rw [evalC_succ]
    simp only [stepA, f1 n (by omega), Res.bind]
theorem loop_ok {m : M} {a : Code} (h1 : MS P gl sp sz m a) (cf : CF) (hcf : CFok P gl sp cf) : ∀ (k : Nat) (t : Fr) (h : Hp) (e : Ex) (t' : Fr) (h' : Hp), exO (lpN m k cf t h) = some (e, t', h') → ∀ p md, QFR t p →
    ∃ p', QFR t' p' ∧ ∃ N, ∀ n, N ≤ n → ∀ r, k ≤ r → loopA (evalC P gl sp n) a r ⟨p, h, sz, md⟩ = .ok (e, ⟨p', h', sz, md⟩)
  | 0, t, h, e, t', h', he, p, md, hp => by cases he
  | k + 1, t, h, e, t', h', he, p, md, hp => by
    have he : exO (lpO (lpN m k) cf (m cf t h)) = some (e, t', h') := he
    have fin := fun (e : Ex) (t' : Fr) (h' : Hp) (g : exO (m cf t h) = some (e, t', h')) => h1 cf hcf t h e t' h' g p md hp
    cases hm : m cf t h with
    | err => rw [hm] at he; cases he
    | nrm t1 h1' =>
      rw [hm] at he
      obtain ⟨p1, q1, N1, f1⟩ := fin .normal _ _ (by rw [hm]; rfl)
      obtain ⟨p2, q2, N2, f2⟩ := loop_ok h1 cf hcf k t1 h1' e t' h' he p1 md q1
      refine ⟨p2, q2, max N1 N2, fun n hn r hr => ?_⟩
      obtain ⟨r, rfl⟩ : ∃ j, r = j + 1 := ⟨r - 1, by omega⟩
      simp only [loopA, f1 n (by omega), Res.bind]
      exact f2 n (by omega) r (by omega)
    | ext i t1 h1' =>
      rw [hm] at he
      cases he
      obtain ⟨p1, q1, N1, f1⟩ := fin (.exit i) _ _ (by rw [hm]; rfl)
      refine ⟨p1, q1, N1, fun n hn r hr => ?_⟩
      obtain ⟨r, rfl⟩ : ∃ j, r = j + 1 := ⟨r - 1, by omega⟩
      simp only [loopA, f1 n (by omega), Res.bind]
    | got i t1 h1' =>
      rw [hm] at he
      cases he
      obtain ⟨p1, q1, N1, f1⟩ := fin (.goto i) _ _ (by rw [hm]; rfl)
      refine ⟨p1, q1, N1, fun n hn r hr => ?_⟩
      obtain ⟨r, rfl⟩ : ∃ j, r = j + 1 := ⟨r - 1, by omega⟩
      simp only [loopA, f1 n (by omega), Res.bind]
    | ret t1 h1' =>
      rw [hm] at he
      cases he
      obtain ⟨p1, q1, N1, f1⟩ := fin .ret _ _ (by rw [hm]; rfl)
      refine ⟨p1, q1, N1, fun n hn r hr => ?_⟩
      obtain ⟨r, rfl⟩ : ∃ j, r = j + 1 := ⟨r - 1, by omega⟩
      simp only [loopA, f1 n (by omega), Res.bind]
theorem MS.lp {m : M} {a : Code} (h1 : MS P gl sp sz m a) : MS P gl sp sz (lp m) (.loop a) := by
  intro cf hcf t h e t' h' he p md hp
  obtain ⟨p', q, N, f⟩ := loop_ok h1 cf hcf 100000 t h e t' h' he p md hp
  refine ⟨p', q, N + 1, fun n hn => ?_⟩
  obtain ⟨n, rfl⟩ : ∃ k, n = k + 1 := ⟨n - 1, by omega⟩
  rw [evalC_succ]
  simp only [stepA]
  exact f n (by omega) rounds (by unfold rounds; omega)
theorem scope_ok {l : Nat} {rest : M} {body R : Code} (hR : findLabel body l = some R) (hrest : MS P gl sp sz rest R) (cf : CF) (hcf : CFok P gl sp cf) : ∀ (k : Nat) (cur : M) (C : Code), MS P gl sp sz cur C → ∀ (t : Fr) (h : Hp) (e : Ex) (t' : Fr) (h' : Hp), exO (scN l rest k cur cf t h) = some (e, t', h') → ∀ p md, QFR t p →
    ∃ p', QFR t' p' ∧ ∃ N, ∀ n, N ≤ n → ∀ r, k ≤ r → scopeA (evalC P gl sp n) body r C ⟨p, h, sz, md⟩ = .ok (e, ⟨p', h', sz, md⟩)
  | 0, cur, C, hC, t, h, e, t', h', he, p, md, hp => by cases he
  | k + 1, cur, C, hC, t, h, e, t', h', he, p, md, hp => by
    have he : exO (scO l rest (scN l rest k) cf (cur cf t h)) = some (e, t', h') := he
    have fin := fun (e : Ex) (t' : Fr) (h' : Hp) (g : exO (cur cf t h) = some (e, t', h')) => hC cf hcf t h e t' h' g p md hp
    cases hm : cur cf t h with
    | err => rw [hm] at he; cases he
    | nrm t1 h1' =>
      rw [hm] at he
      cases he
      obtain ⟨p1, q1, N1, f1⟩ := fin .normal _ _ (by rw [hm]; rfl)
      refine ⟨p1, q1, N1, fun n hn r hr => ?_⟩
      obtain ⟨r, rfl⟩ : ∃ j, r = j + 1 := ⟨r - 1, by omega⟩
      simp only [scopeA, f1 n (by omega), Res.bind]
    | ext i t1 h1' =>
      rw [hm] at he
      cases he
      obtain ⟨p1, q1, N1, f1⟩ := fin (.exit i) _ _ (by rw [hm]; rfl)
      refine ⟨p1, q1, N1, fun n hn r hr => ?_⟩
      obtain ⟨r, rfl⟩ : ∃ j, r = j + 1 := ⟨r - 1, by omega⟩
      simp only [scopeA, f1 n (by omega), Res.bind]
    | ret t1 h1' =>
      rw [hm] at he
      cases he
      obtain ⟨p1, q1, N1, f1⟩ := fin .ret _ _ (by rw [hm]; rfl)
      refine ⟨p1, q1, N1, fun n hn r hr => ?_⟩
      obtain ⟨r, rfl⟩ : ∃ j, r = j + 1 := ⟨r - 1, by omega⟩
      simp only [scopeA, f1 n (by omega), Res.bind]
    | got i t1 h1' =>
      rw [hm] at he
      obtain ⟨p1, q1, N1, f1⟩ := fin (.goto i) _ _ (by rw [hm]; rfl)
      have he : exO (Bool.rec (motive := fun _ => Out) .err (scN l rest k rest cf t1 h1') (Nat.beq i l)) = some (e, t', h') := he
      cases hb : Nat.beq i l with
      | false => rw [hb] at he; cases he
      | true =>
        rw [hb] at he
        have := Nat.eq_of_beq_eq_true hb
        subst this
        obtain ⟨p2, q2, N2, f2⟩ := scope_ok hR hrest cf hcf k rest R hrest t1 h1' e t' h' he p1 md q1
        refine ⟨p2, q2, max N1 N2, fun n hn r hr => ?_⟩
        obtain ⟨r, rfl⟩ : ∃ j, r = j + 1 := ⟨r - 1, by omega⟩
        simp only [scopeA, f1 n (by omega), Res.bind, hR]
        exact f2 n (by omega) r (by omega)
theorem MS.sc {l : Nat} {rest m : M} {body R : Code} (hR : findLabel body l = some R) (hrest : MS P gl sp sz rest R) (hm : MS P gl sp sz m body) : MS P gl sp sz (sc l rest m) (.scope body) := by
  intro cf hcf t h e t' h' he p md hp
  obtain ⟨p', q, N, f⟩ := scope_ok hR hrest cf hcf 100000 m body hm t h e t' h' he p md hp
  refine ⟨p', q, N + 1, fun n hn => ?_⟩
  obtain ⟨n, rfl⟩ : ∃ k, n = k + 1 := ⟨n - 1, by omega⟩
  rw [evalC_succ]
  simp only [stepA]
  exact f n (by omega) rounds (by unfold rounds; omega)
theorem seq_den (a b : QC) : (QC.seq a b).den P gl = (match a with | .reg l => chain P gl l (b.den P gl) | _ => sq (a.den P gl) (b.den P gl)) := by
  cases a <;> rfl
theorem compW_ok {scf : Code → QC} (hs : ∀ b, MS P gl sp sz ((scf b).den P gl) (.scope b)) (hs2 : ∀ b l, scf b ≠ .reg l) : ∀ c, MS P gl sp sz ((compW P gl sz scf c).den P gl) c
  | .skip => .leaf (fun _ => .normal) (fun _ _ _ => rfl) (fun _ _ => rfl)
  | .label _ => .leaf (fun _ => .normal) (fun _ _ _ => rfl) (fun _ _ => rfl)
  | .region id ops draw => by
    simp only [compW]
    split
    · rename_i l hl; exact .reg (qreg_ok hl)
    · exact .err fun _ _ _ => rfl
  | .seq a b => by
    have h1 := compW_ok hs hs2 a
    have h2 := compW_ok hs hs2 b
    simp only [compW]
    rw [seq_den]
    split
    · rename_i l hl
      cases a with
      | region id ops draw =>
        simp only [compW] at hl
        split at hl
        · rename_i l' hl'
          cases hl
          exact .regSeq (qreg_ok hl') h2
        · cases hl
      | cond c x y => simp only [compW] at hl; split at hl <;> cases hl
      | scope x => exact absurd hl (hs2 x l)
      | _ => simp only [compW] at hl; cases hl
    · exact .seq h1 h2
  | .cond c a b => by
    simp only [compW]
    split
    · rename_i g hg; exact .cond hg (compW_ok hs hs2 a) (compW_ok hs hs2 b)
    · exact .err fun _ _ _ => rfl
  | .block id a => .blk (compW_ok hs hs2 a)
  | .loop a => .lp (compW_ok hs hs2 a)
  | .scope a => hs a
  | .exit i => .leaf (fun _ => .exit i) (fun _ _ _ => rfl) (fun _ _ => rfl)
  | .goto l => .leaf (fun _ => .goto l) (fun _ _ _ => rfl) (fun _ _ => rfl)
  | .ret => .leaf (fun _ => .ret) (fun _ _ _ => rfl) (fun _ _ => rfl)
  | .rangeFunc .. => .err fun _ _ _ => rfl
  | .refuse _ => .err fun _ _ _ => rfl
end
end Go.Ab

namespace Go.Ab
def Le {α : Type} (a b : Res α) : Prop := ∀ x, a = .ok x → b = .ok x
theorem Le.refl {α : Type} (a : Res α) : Le a a := fun _ h => h
theorem Le.err {α : Type} (n : Nat) (b : Res α) : Le (.err n) b := fun _ h => by cases h
theorem Le.bind {α β : Type} {a a' : Res α} {f f' : α → Res β} (h : Le a a') (g : ∀ y, Le (f y) (f' y)) : Le (a.bind f) (a'.bind f') := by
  intro x e
  cases a with
  | err n => cases e
  | ok y => rw [h y rfl]; exact g y x e
section
variable {P : Program} {gl : List Nat} {sp : Special}
def CfLe (c c' : CallF) : Prop := ∀ t a h, Le (c t a h) (c' t a h)
def RecLe (r r' : Rec) : Prop := ∀ c st, Le (r c st) (r' c st)
theorem callA_le {c c' : CallF} (hc : CfLe c c') (ρ : Operand → Res AV) (k : Call) (h : Hp) : Le (callA P c ρ k h) (callA P c' ρ k h) := by
  unfold callA
  refine .bind (.refl _) fun args => ?_
  cases k.callee with
  | builtin b => exact .refl _
  | invoke _ _ => exact .refl _
  | value f =>
    refine .bind (.refl _) fun v => ?_
    split
    · exact hc _ _ _
    · exact hc _ _ _
    · exact .refl _
theorem opA_le {c c' : CallF} (hc : CfLe c c') (ρ : Operand → Res AV) (o : Oper) (h : Hp) : Le (opA P c ρ o h) (opA P c' ρ o h) := by
  by_cases hk : ∃ k, o.op = .call k
  · obtain ⟨k, hk⟩ := hk
    have e : ∀ c, opA P c ρ o h = callA P c ρ k h := fun c => by simp only [opA, hk]
    rw [e, e]
    exact callA_le hc ρ k h
  · have : opA P c ρ o h = opA P c' ρ o h := by
      unfold opA
      split <;> first | rfl | exact absurd ⟨_, ‹_›⟩ hk
    rw [this]
    exact .refl _
theorem oneA_le {c c' : CallF} (hc : CfLe c c') (ops : Array Oper) (o : Oper) (st : St) : Le (oneA P gl c ops o st) (oneA P gl c' ops o st) := by
  unfold oneA
  cases wantedA ops st.t o with
  | err n => exact .refl _
  | ok b => cases b with
    | false => exact .refl _
    | true =>
      intro x e
      have := opA_le (P := P) hc (evalO gl st.t) o st.h
      cases h : opA P c (evalO gl st.t) o st.h with
      | err n => simp only [h] at e; cases e
      | ok r => simp only [this r h]; simp only [h] at e; exact e
theorem opsA_le {c c' : CallF} (hc : CfLe c c') (ops : Array Oper) : ∀ (l : List Oper) (st : St), Le (opsA P gl c ops l st) (opsA P gl c' ops l st)
  | [], st => .refl _
  | o :: l, st => by
    simp only [opsA]
    exact .bind (oneA_le hc ops o st) fun r => .bind (.refl _) fun st => opsA_le hc ops l st
theorem recheck_le {c c' : CallF} (hc : CfLe c c') (h : Hp) (m : Nat) : ∀ l, Le (recheck P gl c h m l) (recheck P gl c' h m l)
  | [] => .refl _
  | x :: l => by
    simp only [recheck]
    split
    · exact recheck_le hc h m l
    · intro y e
      have := opA_le (P := P) hc (evalO gl x.t) x.o h
      cases h1 : opA P c (evalO gl x.t) x.o h with
      | err n => simp only [h1] at e; cases e
      | ok r =>
        simp only [this r h1]
        simp only [h1] at e
        revert e
        split
        · exact fun e => (Le.bind (recheck_le hc h m l) fun _ => .refl _) y e
        · exact fun e => e
theorem nextPend_le {c c' : CallF} (hc : CfLe c c') (s : PStep) (w : Bool) (t : PT AV) (v : AV) (h : Hp) (l : List Pend) : Le (nextPend P gl c s w t v h l) (nextPend P gl c' s w t v h l) := by
  unfold nextPend
  split
  · exact recheck_le hc h s.m l
  · exact .refl _
  · exact .refl _
theorem drawA_le {c c' : CallF} (hc : CfLe c c') (ops : Array Oper) : ∀ (l : List PStep) (pend : List Pend) (st : St), Le (drawA P gl c ops l pend st) (drawA P gl c' ops l pend st)
  | [], pend, st => .refl _
  | s :: l, pend, st => by
    simp only [drawA]
    exact .bind (oneA_le hc ops s.o st) fun r => .bind (.refl _) fun st' => .bind (nextPend_le hc s _ _ _ _ _) fun pend => drawA_le hc ops l pend st'
theorem twoA_le {c c' : CallF} (hc : CfLe c c') (ops : Array Oper) (x y : PStep) (st : St) : Le (twoA P gl c ops x y st) (twoA P gl c' ops x y st) := by
  unfold twoA
  refine .bind (.refl _) fun b => .bind (.refl _) fun b' => ?_
  split
  · exact .refl _
  · exact .bind (oneA_le hc ops x.o st) fun r => .bind (.refl _) fun st => .bind (oneA_le hc ops y.o st) fun r => .refl _
theorem regionA_le {c c' : CallF} (hc : CfLe c c') (ops : Array Oper) (draw : Bool) (st : St) : Le (regionA P gl c ops draw st) (regionA P gl c' ops draw st) := by
  unfold regionA
  split
  · split
    · exact .refl _
    · split
      · refine .bind (drawA_le hc ops _ _ st) fun st => ?_
        split
        · exact .refl _
        · exact twoA_le hc ops _ _ st
      · exact .refl _
  · exact opsA_le hc ops _ st
theorem loopA_le {r r' : Rec} (hr : RecLe r r') (b : Code) : ∀ (k : Nat) (st : St), Le (loopA r b k st) (loopA r' b k st)
  | 0, st => .refl _
  | k + 1, st => by
    simp only [loopA]
    refine .bind (hr b st) fun y => ?_
    split
    · exact loopA_le hr b k _
    · exact .refl _
theorem scopeA_le {r r' : Rec} (hr : RecLe r r') (b : Code) : ∀ (k : Nat) (cur : Code) (st : St), Le (scopeA r b k cur st) (scopeA r' b k cur st)
  | 0, cur, st => .refl _
  | k + 1, cur, st => by
    simp only [scopeA]
    refine .bind (hr cur st) fun y => ?_
    split
    · split
      · exact scopeA_le hr b k _ _
      · exact .refl _
    · exact .refl _
theorem rangeFuncA_le {c c' : CallF} (hc : CfLe c c') {r r' : Rec} (hr : RecLe r r') (f : Operand) (ps : Array Tmp) (a b : Code) (st : St) : Le (rangeFuncA P gl c r f ps a b st) (rangeFuncA P gl c' r' f ps a b st) := by
  unfold rangeFuncA
  split
  · refine .bind (.refl _) fun v => ?_
    split
    · split
      · refine .bind (hc _ _ _) fun y => .bind (.refl _) fun z => ?_
        split
        · split
          · exact .refl _
          · simp only
            split
            · exact .refl _
            · exact hr _ _
        · exact .refl _
      · exact .refl _
    · exact .refl _
  · exact .refl _
theorem roundA_le {r r' : Rec} (hr : RecLe r r') (b : Nat) (args : List AV) (h : Hp) : Le (roundA r b args h) (roundA r' b args h) := by
  unfold roundA
  refine .bind (.refl _) fun blk => ?_
  split
  · split
    · refine .bind (hr _ _) fun y => ?_
      split
      · exact .bind (.refl _) fun h2 => .bind (hr _ _) fun z => .refl _
      · exact .refl _
    · exact .refl _
  · exact .refl _
theorem callWith_le {r r' : Rec} (hr : RecLe r r') : CfLe (callWith P sp r) (callWith P sp r') := by
  intro t a h
  cases t with
  | yield b => exact roundA_le hr b a h
  | fn f =>
    simp only [callWith]
    cases sp f with
    | some g => exact .refl _
    | none =>
      simp only
      cases P.funcs[f]? with
      | none => exact .refl _
      | some fn =>
        simp only
        cases fn.body with
        | none => exact .refl _
        | some c =>
          simp only
          split
          · intro x e
            have := hr c ⟨argsT a 0 .nil, h, fn.ntmps, .top⟩
            cases h1 : r c ⟨argsT a 0 .nil, h, fn.ntmps, .top⟩ with
            | err n => simp only [h1] at e; cases e
            | ok y => simp only [this y h1]; simp only [h1] at e; exact e
          · exact .refl _
theorem stepA_le {c c' : CallF} (hc : CfLe c c') {r r' : Rec} (hr : RecLe r r') (k : Code) (st : St) : Le (stepA P gl c r k st) (stepA P gl c' r' k st) := by
  cases k with
  | skip => exact .refl _
  | label _ => exact .refl _
  | region id ops draw => exact .bind (regionA_le hc ops draw st) fun st => .refl _
  | seq a b =>
    refine .bind (hr a st) fun y => ?_
    split
    · exact hr b _
    · exact .refl _
  | cond g a b =>
    refine .bind (.refl _) fun v => ?_
    split
    · exact hr a st
    · exact hr b st
    · exact .bind (hr a st) fun x => .bind (hr b st) fun y => .refl _
    · exact .refl _
  | block id b => exact .bind (hr b st) fun y => .refl _
  | loop b => exact loopA_le hr b _ st
  | scope b => exact scopeA_le hr b _ _ st
  | rangeFunc f ps a b => exact rangeFuncA_le hc hr f ps a b st
  | _ => exact .refl _
theorem evalC_le : ∀ n, RecLe (evalC P gl sp n) (evalC P gl sp (n + 1))
  | 0 => fun _ _ => .err _ _
  | n + 1 => fun c st => stepA_le (callWith_le (evalC_le n)) (evalC_le n) c st
theorem evalC_mono {n m : Nat} (h : n ≤ m) : RecLe (evalC P gl sp n) (evalC P gl sp m) := by
  induction m with
  | zero =>
    have : n = 0 := by omega
    subst this
    exact fun _ _ => .refl _
  | succ m ih =>
    by_cases e : n = m + 1
    · subst e; exact fun _ _ => .refl _
    · intro c st x hx
      exact evalC_le m c st x (ih (by omega) c st x hx)
end
end Go.Ab

namespace Go.Ab
section
variable {P : Program} {gl : List Nat} {sp : Special} {sz : Nat}
theorem scQ_ok (b : Code) : MS P gl sp sz ((scQ P gl sz b).den P gl) (.scope b) := by
  unfold scQ
  split
  · split
    · rename_i r hr
      have h0 : ∀ c, MS P gl sp sz ((compW P gl sz (fun _ => .er) c).den P gl) c := compW_ok (fun b => .err fun _ _ _ => rfl) (fun b l h => by cases h)
      exact .sc hr (h0 r) (h0 b)
    · exact .err fun _ _ _ => rfl
  · exact .err fun _ _ _ => rfl
theorem comp_ok (c : Code) : MS P gl sp sz ((comp P gl sz c).den P gl) c :=
  compW_ok scQ_ok (fun b l h => by
    unfold scQ at h
    split at h
    · split at h <;> cases h
    · cases h) c
variable (P gl sp) in
def FQok (q : FQ) (f : Nat) : Prop := ∀ cf, CFok P gl sp cf → ∀ args h v h', q cf args h = .ok v h' → ∃ N, ∀ n, N ≤ n → cfS P gl sp n (.fn f) args h = .ok (v, h')
theorem erQ_ok (f : Nat) : FQok P gl sp erQ f := fun _ _ _ _ _ _ h => by cases h
theorem argsT_got : ∀ (l : List AV) (i : Nat) (t : PT AV) (j : Nat), St.get (argsT l i t) j = if i ≤ j ∧ j < i + l.length then (l[j - i]?).getD aundef else St.get t j
  | [], i, t, j => by
    simp only [argsT, List.length_nil]
    rw [if_neg (by omega)]
  | v :: l, i, t, j => by
    simp only [argsT, List.length_cons]
    rw [argsT_got l (i + 1) _ j]
    by_cases h1 : i + 1 ≤ j ∧ j < i + 1 + l.length
    · rw [if_pos h1, if_pos (by omega)]
      obtain ⟨k, rfl⟩ : ∃ k, j = i + 1 + k := ⟨j - (i + 1), by omega⟩
      have e1 : i + 1 + k - (i + 1) = k := by omega
      have e2 : i + 1 + k - i = k + 1 := by omega
      rw [e1, e2]; simp
    · rw [if_neg h1]
      unfold St.get
      rw [PT.get_set]
      by_cases h2 : i = j
      · subst h2
        rw [if_pos rfl, if_pos (by omega)]; simp
      · rw [if_neg h2, if_neg (by omega)]
theorem nthU_eq : ∀ (l : List AV) (i : Nat), nthU l i = (l[i]?).getD aundef
  | [], i => rfl
  | a :: l, 0 => rfl
  | a :: l, i + 1 => by
    have := nthU_eq l i
    rw [List.getElem?_cons_succ, ← this]
    rfl
theorem frA_ok {l : List AV} (h : l.length ≤ 8) : QFR (frA l) (argsT l 0 .nil) := by
  intro i
  rw [argsT_got]
  have h0 : St.get (.nil : PT AV) i = aundef := by unfold St.get; rw [PT.get_nil]
  rw [h0, Nat.zero_add, Nat.sub_zero]
  have hu : ∀ k, l.length ≤ k → nthU l k = aundef := fun k hk => by rw [nthU_eq, List.getElem?_eq_none hk]; rfl
  have hr : (if 0 ≤ i ∧ i < l.length then (l[i]?).getD aundef else aundef) = nthU l i := by
    rw [nthU_eq]
    split
    · rfl
    · rw [List.getElem?_eq_none (by omega)]; rfl
  rw [hr]
  by_cases hi : i < 8
  · have hc : i = 0 ∨ i = 1 ∨ i = 2 ∨ i = 3 ∨ i = 4 ∨ i = 5 ∨ i = 6 ∨ i = 7 := by omega
    rcases hc with rfl | rfl | rfl | rfl | rfl | rfl | rfl | rfl <;> rfl
  · rw [hu i (by omega)]
    unfold Fr.get
    split
    · rename_i h256
      have e2 : ∀ d, d ≠ 0 → (frA l).sel d = u1 := fun d hd => by
        unfold frA F2.sel; split
        · exact absurd rfl hd
        · rfl
        · rfl
        · rfl
      have f1 : ∀ d, u1.sel d = u0 := fun d => by unfold F1.sel; split <;> rfl
      have f0 : ∀ d, u0.sel d = aundef := fun d => by unfold F0.sel; split <;> rfl
      by_cases hz : i / 64 = 0
      · rw [hz]
        have : i / 8 % 8 ≠ 0 := by omega
        have e1 : ((frA l).sel 0).sel (i / 8 % 8) = u0 := by
          generalize i / 8 % 8 = d at this
          unfold frA F2.sel F1.sel
          simp only
          split
          · exact absurd rfl this
          all_goals rfl
        rw [e1, f0]
      · rw [e2 _ hz, f1, f0]
    · rfl
theorem leave_top (p : PT AV) (h : Hp) : leaveA ⟨p, h, sz, .top⟩ = .ok h := rfl
theorem qr_ok {r : ResultVar} {q : QR} (hq : qr P r = some q) {t : Fr} {h : Hp} {p : PT AV} (hp : QFR t p) (hok : okV (q.den t h) = true) : resA P p h r = .ok (q.den t h) := by
  cases r with
  | tmp i =>
    simp only [qr] at hq
    split at hq
    · rename_i hi
      cases hq
      simp only [resA]
      show Res.ok _ = Res.ok (nthG gList i t)
      rw [nthG_ok i hi, hp i]
    · cases hq
  | cell a ty =>
    simp only [qr] at hq
    split at hq
    · rename_i ha
      split at hq
      · rename_i ht
        cases hq
        have hok : okV (ldV (nthG gList a t) h) = true := hok
        have := ld_ok (P := P) ((okV_iff _).1 hok) ht
        simp only [resA]
        rw [← hp a, ← nthG_ok a ha]
        exact this
      · rename_i n ht hs
        cases hq
        have hok : okV (ldA n (nthG gList a t) h) = true := hok
        have := ldA_ok (P := P) ((okV_iff _).1 hok) ht hs
        simp only [resA]
        rw [← hp a, ← nthG_ok a ha]
        exact this
      · cases hq
    · cases hq
theorem qrs_ok {t : Fr} {h : Hp} {p : PT AV} (hp : QFR t p) : ∀ (l : List ResultVar) (r : List QR), qrs P l = some r → allOk (rlDen r t h) = true → mapA (resA P p h) l = .ok (rlDen r t h)
  | [], r, hr, _ => by simp only [qrs, Option.some.injEq] at hr; subst hr; rfl
  | x :: l, r, hr, ho => by
    simp only [qrs] at hr
    split at hr
    · rename_i a b h1 h2
      cases hr
      obtain ⟨o1, o2⟩ := bAnd_iff.1 (show bAnd (okV (a.den t h)) (allOk (rlDen b t h)) = true from ho)
      simp only [mapA, qr_ok h1 hp o1, qrs_ok hp l b h2 o2, Res.bind]
      rfl
    · cases hr
theorem fin1_ok {v : RV} {o : Out} {w : AV} {h' : Hp} (e : fin1 v o = .ok w h') : ∃ ex t, exO o = some (ex, t, h') ∧ (ex = .normal ∨ ex = .ret) ∧ okV (v t h') = true ∧ w = v t h' := by
  cases o with
  | nrm t h => obtain ⟨a, b⟩ := ifR_ok (show ifR _ _ = .ok w h' from e); cases b; exact ⟨.normal, t, rfl, .inl rfl, a, rfl⟩
  | ret t h => obtain ⟨a, b⟩ := ifR_ok (show ifR _ _ = .ok w h' from e); cases b; exact ⟨.ret, t, rfl, .inr rfl, a, rfl⟩
  | ext i t h => cases e
  | got i t h => cases e
  | err => cases e
theorem finT_ok {v : RL} {o : Out} {w : AV} {h' : Hp} (e : finT v o = .ok w h') : ∃ ex t, exO o = some (ex, t, h') ∧ (ex = .normal ∨ ex = .ret) ∧ allOk (v t h') = true ∧ w = .tuple (v t h') := by
  cases o with
  | nrm t h => obtain ⟨a, b⟩ := ifR_ok (show ifR _ _ = .ok w h' from e); cases b; exact ⟨.normal, t, rfl, .inl rfl, a, rfl⟩
  | ret t h => obtain ⟨a, b⟩ := ifR_ok (show ifR _ _ = .ok w h' from e); cases b; exact ⟨.ret, t, rfl, .inr rfl, a, rfl⟩
  | ext i t h => cases e
  | got i t h => cases e
  | err => cases e
theorem compFn_ok {f : Nat} (hsp : sp f = none) : FQok P gl sp (compFn P gl f) f := by
  intro cf hcf args h v h' e
  unfold compFn at e
  cases hq : compQ P gl f with
  | none => rw [hq] at e; cases e
  | some q =>
    obtain ⟨m, c, l⟩ := q
    rw [hq] at e
    unfold compQ at hq
    split at hq
    · rename_i fn hfn
      split at hq
      · rename_i code hcode
        split at hq
        · rename_i hcond
          split at hq
          · rename_i l' hl
            cases hq
            -- what is left: the body's run and the results
            have fin : ∀ (ex : Ex) (t : Fr), exO ((comp P gl fn.ntmps code).den P gl cf (frA args) h) = some (ex, t, h') → (ex = .normal ∨ ex = .ret) → args.length ≤ Nat.min fn.ntmps 8 → (∀ p, QFR t p → resultsA P fn p h' = .ok v) →
                ∃ N, ∀ n, N ≤ n → cfS P gl sp n (.fn f) args h = .ok (v, h') := by
              intro ex t g1 g2 g3 g4
              have hm1 : args.length ≤ fn.ntmps := Nat.le_trans g3 (Nat.min_le_left _ _)
              have hm2 : args.length ≤ 8 := Nat.le_trans g3 (Nat.min_le_right _ _)
              obtain ⟨p', q1, N, q2⟩ := comp_ok (sp := sp) code cf hcf (frA args) h ex t h' g1 _ .top (frA_ok hm2)
              refine ⟨N, fun n hn => ?_⟩
              simp only [cfS, callWith, hsp, hfn, hcode]
              rw [if_pos ⟨hm1, hcond.2⟩, q2 n hn]
              rcases g2 with rfl | rfl <;> simp only [leave_top, Res.bind, g4 p' q1]
            unfold fqOf at e
            simp only at e
            split at e
            · rename_i r
              obtain ⟨a1, a2⟩ := ifR_ok (show ifR _ _ = .ok v h' from e)
              obtain ⟨ex, t, b1, b2, b3, b4⟩ := fin1_ok a2
              refine fin ex t b1 b2 (Nat.le_of_ble_eq_true a1) fun p hp => ?_
              have := qrs_ok hp _ _ hl (show allOk (rlDen [r] t h') = true from bAnd_iff.2 ⟨b3, rfl⟩)
              simp only [resultsA, this, Res.bind]
              rw [b4]
              rfl
            · rename_i hne
              obtain ⟨a1, a2⟩ := ifR_ok (show ifR _ _ = .ok v h' from e)
              obtain ⟨ex, t, b1, b2, b3, b4⟩ := finT_ok a2
              refine fin ex t b1 b2 (Nat.le_of_ble_eq_true a1) fun p hp => ?_
              have := qrs_ok hp _ _ hl b3
              simp only [resultsA, this, Res.bind]
              rw [b4]
              cases l with
              | nil => rfl
              | cons x l2 => cases l2 with
                | nil => exact absurd rfl (hne x)
                | cons y l3 => rfl
          · cases hq
        · cases hq
      · cases hq
    · cases hq
theorem slQ_ok (n f : Nat) : FQok P gl sp (slQ P gl sp n f) f := by
  intro cf _ args h v h' e
  have := toRO_ok e
  exact ⟨n, fun m hm => callWith_le (evalC_mono hm) _ _ _ _ this⟩
theorem spQ_ok {f : Nat} {g : List AV → Hp → Res (AV × Hp)} (hsp : sp f = some g) : FQok P gl sp (spQ g) f := by
  intro cf _ args h v h' e
  have := toRO_ok e
  exact ⟨0, fun m _ => by simp only [cfS, callWith, hsp]; exact this⟩
variable (P gl sp) in
def TabOK (T : Tab) : Prop := ∀ f, FQok P gl sp (T f) f
theorem tr_ok {n : Nat} {a b : Tab} (ha : TabOK P gl sp a) (hb : TabOK P gl sp b) : TabOK P gl sp (tr n a b) := by
  intro f
  show FQok P gl sp (Bool.rec (motive := fun _ => FQ) (b f) (a f) (Nat.ble f n)) f
  cases Nat.ble f n with
  | true => exact ha f
  | false => exact hb f
theorem lf_ok {n : Nat} {q : FQ} (h : FQok P gl sp q n) : TabOK P gl sp (lf n q) := by
  intro f
  show FQok P gl sp (Bool.rec (motive := fun _ => FQ) erQ q (Nat.beq f n)) f
  cases hb : Nat.beq f n with
  | true => rw [Nat.eq_of_beq_eq_true hb]; exact h
  | false => exact erQ_ok f
theorem run_ok {T : Tab} (hT : TabOK P gl sp T) : ∀ n, CFok P gl sp (run T n)
  | 0 => fun f args h v h' e => by cases e
  | n + 1 => fun f args h v h' e => hT f (run T n) (run_ok hT n) args h v h' e
theorem run_evalF {T : Tab} (hT : TabOK P gl sp T) {n f : Nat} {args : List AV} {h h' : Hp} {v : AV} (e : run T n f args h = .ok v h') : ∃ N, evalF P gl sp N f args h = .ok (v, h') := by
  obtain ⟨N, hN⟩ := run_ok hT n f args h v h' e
  exact ⟨N, hN N (Nat.le_refl N)⟩
end
end Go.Ab

namespace Go.Ab
section
variable {P : Program} {gl : Gam} {sp : Special}
noncomputable def fitsR (c : Cert) (r : RO) : Bool := RO.rec (motive := fun _ => Bool) (fun v h => c.fits v h) false r
noncomputable def fitAll (T : Tab) (f : Nat) : List Cert → Bool
  | [] => true
  | c :: l => fitsR c (run T 300 f c.args c.start) && fitAll T f l
theorem fitAll_h {T : Tab} {f : Nat} {c : Cert} {l : List Cert} (h : fitAll T f (c :: l) = true) : fitsR c (run T 300 f c.args c.start) = true := by
  simp only [fitAll, Bool.and_eq_true] at h
  exact h.1
theorem fitAll_t {T : Tab} {f : Nat} {c : Cert} {l : List Cert} (h : fitAll T f (c :: l) = true) : fitAll T f l = true := by
  simp only [fitAll, Bool.and_eq_true] at h
  exact h.2
theorem cert_holds [Val] (hmix : P.follows .mixedOrders = true) {T : Tab} (hT : TabOK P gl.l sp T) (hsp : SpecOK P gl sp) {n f : Nat} {c : Cert} (h : fitsR c (run T n f c.args c.start) = true) : c.Holds P gl f := by
  cases hr : run T n f c.args c.start with
  | err => rw [hr] at h; cases h
  | ok v h' =>
    rw [hr] at h
    obtain ⟨N, hN⟩ := run_evalF hT hr
    exact Cert.holds_eval hmix hsp hN h
theorem all_nil {α : Type} {p : α → Prop} : ∀ x ∈ ([] : List α), p x := fun _ h => by cases h
theorem all_cons {α : Type} {p : α → Prop} {a : α} {l : List α} (h : p a) (hl : ∀ x ∈ l, p x) : ∀ x ∈ a :: l, p x := fun x hx => by
  rcases List.mem_cons.1 hx with rfl | hx
  · exact h
  · exact hl x hx
def addSp (f : Nat) (g : List AV → Hp → Res (AV × Hp)) (sp : Special) : Special := fun f' => if f' = f then some g else sp f'
theorem addSp_ok [Val] {f : Nat} {g : List AV → Hp → Res (AV × Hp)} (h : ∀ (args : List AV) (H : Hp) (v : AV) (H' : Hp), g args H = .ok (v, H') → ∀ (μ : Mp) (w : World) (args' : Array Value), VRs μ args args'.toList → HR μ H w → GR gl μ H w →
    Goes P (callFunc f args') w fun v' w' => ∃ μ', Ext μ H w μ' H' w' ∧ HR μ' H' w' ∧ VR μ' v v') (hsp : SpecOK P gl sp) : SpecOK P gl (addSp f g sp) := by
  intro f' g' hg
  unfold addSp at hg
  by_cases e : f' = f
  · subst e
    rw [if_pos rfl] at hg
    cases hg
    exact h
  · rw [if_neg e] at hg
    exact hsp f' g' hg
theorem memoSp_ok [Val] (hmix : P.follows .mixedOrders = true) {f : Nat} {l : List Cert} (hl : ∀ c ∈ l, c.Holds P gl f) (hsp : SpecOK P gl sp) : SpecOK P gl (addSp f (memoA l) sp) :=
  addSp_ok (fun _ _ _ _ h _ _ _ ha hH hG => memo_goes hmix hl h ha hH hG) hsp
end
end Go.Ab

namespace Go.Ab
section
variable {P : Program} {gl : Gam} {sp : Special}
noncomputable def fitsRN (c : CertN) (r : RO) : Bool := RO.rec (motive := fun _ => Bool) (fun v h => c.fits v h) false r
theorem certN_holds [Val] {T : Tab} (hT : TabOK P gl.l sp T) (hsp : SpecOK P gl sp) {n f : Nat} {c : CertN} (h : fitsRN c (run T n f c.args c.start) = true) : c.Holds P gl f := by
  cases hr : run T n f c.args c.start with
  | err => rw [hr] at h; cases h
  | ok v h' =>
    rw [hr] at h
    obtain ⟨N, hN⟩ := run_evalF hT hr
    exact ⟨sp, N, v, h', hsp, hN, h⟩
noncomputable def fitAllN (T : Tab) (f : Nat) : List CertN → Bool
  | [] => true
  | c :: l => fitsRN c (run T 300 f c.args c.start) && fitAllN T f l
theorem fitAllN_h {T : Tab} {f : Nat} {c : CertN} {l : List CertN} (h : fitAllN T f (c :: l) = true) : fitsRN c (run T 300 f c.args c.start) = true := by
  simp only [fitAllN, Bool.and_eq_true] at h
  exact h.1
theorem fitAllN_t {T : Tab} {f : Nat} {c : CertN} {l : List CertN} (h : fitAllN T f (c :: l) = true) : fitAllN T f l = true := by
  simp only [fitAllN, Bool.and_eq_true] at h
  exact h.2
theorem memoNSp_ok [Val] (hmix : P.follows .mixedOrders = true) {f : Nat} {l : List CertN} (hl : ∀ c ∈ l, c.Holds P gl f) (hsp : SpecOK P gl sp) : SpecOK P gl (addSp f (memoN l) sp) :=
  addSp_ok (fun _ _ _ _ h _ _ _ ha hH hG => memoN_goes hmix hl h ha hH hG) hsp
end
end Go.Ab
