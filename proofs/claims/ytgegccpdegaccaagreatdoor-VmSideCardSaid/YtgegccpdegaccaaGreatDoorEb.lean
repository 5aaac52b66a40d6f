/- The evaluator's operations, its frames. -/
import Derived.Test.YtgegccpdegaccaaGreatDoorEa
import Derived.MapKept
import Derived.Laws.IdiomRangeMap
import Derived.Laws.RangeString
import Derived.Maps.RangeRun
import Derived.OrdersIn
import Derived.RangeFuncIn
import Derived.RangeFuncCalls
namespace Go.Ab
section
variable {P : Program} {μ : Mp} {H : Hp} {w : World}
theorem grownCap_small (w : World) (need old : Nat) (e : TypeId) : need ≤ grownCap w need old e := grownCap_ge w need old e
theorem append_sim [Val] (hH : HR μ H w) {t tx ty : TypeId} {s x : AV} {s' x' : Value} (hs : VR μ s s') (hx : VR μ x x') (hk : (∃ e', P.underlying tx = some (.slice e')) ∨ P.underlying tx = some .string)
    {r : AV × Hp} (h : appendA P H t s x = .ok r) : Sim P (Builtin.append_ #[t, tx] ty #[s', x']) μ H w r.1 r.2 := by
  unfold appendA at h
  obtain ⟨d, h1, h2⟩ := Res.bind_ok h
  have hu := tunder_ok h1
  split at h2
  · rename_i e
    obtain ⟨sz, h3, h4⟩ := Res.bind_ok h2
    obtain ⟨inf, h5, h6⟩ := Res.bind_ok h4
    obtain ⟨n, h7, h8⟩ := Res.bind_ok h6
    obtain ⟨xs, h9, h10⟩ := Res.bind_ok h8
    obtain ⟨ie, z, i1, i2, i3, i4, i5⟩ := zeroFits_ok h3
    have hinf := tinfo_ok h5
    rw [i1] at hinf; cases hinf
    subst i4
    split at h10
    · rename_i hone
      obtain ⟨news, n1, n2, n3⟩ := src_ok hH hx h9 hone h7 hk
      split at h10
      · -- a nil slice
        cases hs
        split at h10
        · rename_i hn
          simp only [Res.ok.injEq] at h10; subst h10
          subst hn
          refine Sim.still hH (v' := .slice none 0 0) ?_ .nilslice
          rw [run_append_in (w := w) t tx ty e inf hu i1 none 0 0 x' 0 news n2 (Nat.le_refl _)]
          rfl
        · rename_i hn
          split at h10
          · rename_i hb
            simp only [Res.ok.injEq] at h10; subst h10
            unfold small at hb
            obtain ⟨q1, q2⟩ := grown_sim hH n1 hone z.cells e inf.size n (grownCap w n 0 e) i3 n3 (grownCap_ge w n 0 e)
            have hr := run_append_grow_src (P := P) w t tx ty e inf z hu i1 i2 none 0 0 [] (run_firstCells_none w.drew inf.size 0 0 0) x' n news n2 (by omega) (by omega)
              (by rw [Nat.zero_add]; exact growslice_fits (by omega) (by omega))
            simp only [Nat.zero_add, List.nil_append] at hr
            exact ⟨_, _, _, hr, q1, q2, .slice _ _ _ _ _ _ _ _ _ _ (grownCap_ge w n 0 e) (by simp) (by omega) (Mp.put_self _ _ _) fun _ => ⟨rfl, by omega⟩⟩
          · cases h10
      · rename_i b off len cap sz'
        split at h10
        · rename_i hse
          have hse := Nat.eq_of_beq_eq_true hse
          subst hse
          split at h10
          · rename_i hb
            unfold small at hb
            cases hs with
            | slice _ _ _ _ _ a c cb s N hl hc hz hm hh =>
              have growCase : ∀ (old : List AV), sliceCells H inf.size (.slice b off len cap inf.size) = .ok old → c < len + n →
                  Sim P (Builtin.append_ #[t, tx] ty #[.slice (some a) len c, x']) μ H w (.slice (newCells H (old ++ xs) false).1 0 (len + n) none inf.size) (newCells H (old ++ xs) false).2 := by
                intro old ho hlt
                obtain ⟨a', len', c', ea, e1, e2, l', e3, e4, e5⟩ := sliceCells_ok hH (.slice b off len cap inf.size a c cb s N hl hc hz hm hh) ho
                cases ea
                have hl' : l'.length = len * inf.size := by rw [← e3.1, e1]
                have hfc := run_firstCells_some (P := P) w.drew inf.size len a len c l' hl' (by simpa using e4 a rfl)
                obtain ⟨q1, q2⟩ := grown_sim hH (e3.append n1) (by simp [e2, hone]) z.cells e inf.size (len + n) (grownCap w (len + n) c e) i3 (by rw [List.length_append, e1, n3, Nat.add_mul]) (grownCap_ge w (len + n) c e)
                have hr := run_append_grow_src (P := P) w t tx ty e inf z hu i1 i2 (some a) len c l' hfc x' n news n2 hlt (by omega) (growslice_fits hlt (by omega))
                exact ⟨_, _, _, hr, q1, q2, .slice _ _ _ _ _ _ _ _ _ _ (grownCap_ge w (len + n) c e) (by simp) (by omega) (Mp.put_self _ _ _) fun _ => ⟨rfl, by omega⟩⟩
              have stayCase : n = 0 → Sim P (Builtin.append_ #[t, tx] ty #[.slice (some a) len c, x']) μ H w (.slice b off len cap inf.size) H := by
                intro hn
                subst hn
                have : news = [] := List.eq_nil_of_length_eq_zero (by rw [n2.newsLen, Nat.zero_mul])
                subst this
                refine Sim.still hH (v' := .slice (some a) len c) ?_ (.slice b off len cap inf.size a c cb s N hl hc hz hm hh)
                rw [run_append_in (w := w) t tx ty e inf hu i1 (some a) len c x' 0 [] n2 (by omega)]
                rfl
              split at h10
              · rename_i c0
                have := hc c0 rfl
                subst this
                split at h10
                · rename_i hroom
                  split at h10
                  · rename_i hn
                    simp only [Res.ok.injEq] at h10; subst h10
                    exact stayCase hn
                  · rename_i hn
                    obtain ⟨H', g1, g2⟩ := Res.bind_ok h10
                    simp only [Res.ok.injEq] at g2; subst g2
                    obtain ⟨ha, hN⟩ := hh (by omega)
                    obtain ⟨w', r1, r2, r3⟩ := writeCells_ok (P := P) hH hm g1 hone n1
                    refine ⟨.slice (some a) (len + n) c, μ, w', ?_, r2, r3, .slice b off (len + n) (some c) inf.size a c cb s N hroom (by simp) hz hm hh⟩
                    rw [run_append_in (w := w) t tx ty e inf hu i1 (some a) len c x' n news n2 hroom]
                    have hadd : a.add (len * inf.size) = ⟨cb, off + len * inf.size + s, none⟩ := by rw [ha, addr_add]; congr 1; omega
                    dsimp only
                    rw [hadd]
                    simp only [r1, Result.andThen_ok]
                · rename_i hroom
                  obtain ⟨old, g1, g2⟩ := Res.bind_ok h10
                  simp only [Res.ok.injEq] at g2; subst g2
                  exact growCase old g1 (by omega)
              · split at h10
                · rename_i hn
                  simp only [Res.ok.injEq] at h10; subst h10
                  exact stayCase hn
                · rename_i hn
                  split at h10
                  · rename_i hcell
                    obtain ⟨old, g1, g2⟩ := Res.bind_ok h10
                    simp only [Res.ok.injEq] at g2; subst g2
                    unfold isCells at hcell
                    split at hcell
                    · rename_i cc k p hblk
                      by_cases hroom : len + n ≤ c
                      · -- in place
                        obtain ⟨ha, hN⟩ := hh (by omega)
                        obtain ⟨arr, e', lo, hi, a1, a2, a3, a4, a5, a6⟩ := hH.blk b _ cb s N hblk hm
                        obtain ⟨a', len', c', ea, e1, e2, l', e3, e4, e5⟩ := sliceCells_ok hH (.slice b off len none inf.size a c cb s N hl hc hz hm hh) g1
                        cases ea
                        have hnl : news.length = n * inf.size := n2.newsLen
                        have hfit : off + s + (len * inf.size + n * inf.size) ≤ N := by
                          have : (len + n) * inf.size ≤ c * inf.size := Nat.mul_le_mul_right _ hroom
                          rw [Nat.add_mul] at this
                          omega
                        obtain ⟨arr', w', r1, r2, r3, r4, r5, r6, r7, r8, r9⟩ := run_storeCells P cb (off + len * inf.size + s) e' lo hi news 0 arr w a1
                          (fun x hx hlh => by rcases a4 with rfl | h4 <;> omega) (by omega) n2.one
                        have hone2 : (old ++ xs).all oneCell = true := by simp [e2, hone]
                        have hlen2 : (old ++ xs).length = len * inf.size + n * inf.size := by rw [List.length_append, e1, n3]
                        have hsub := Mp.sub_put (μ := μ) (i := H.n) (cb, off + s, N) (hH.none_n (Nat.le_refl _))
                        obtain ⟨q1, q2⟩ := hH.take (w' := w') (nb := .cells (putCells .nil 0 (old ++ xs)) (old ++ xs).length false) hblk (by simp) hm (off + s) r5 r6 r7 r8 r9
                          ⟨arr', e', lo, hi, r2, by omega, by omega, a4, by simp, fun j hj => by
                            rw [get_putCells, if_pos (by omega), r4 (j + (off + s))]
                            simp only [Nat.add_zero, Nat.sub_zero]
                            by_cases hjo : j < old.length
                            · rw [if_neg (by omega), List.getElem?_append_left hjo]
                              obtain ⟨v', f1, f2⟩ := e3.get (i := j) (v := old[j]) (by simp [hjo])
                              have f3 := e4 a rfl j v' f1
                              rw [ha, addr_add] at f3
                              simp only [World.cell?, a1, Option.isSome_none, Bool.false_eq_true, if_false] at f3
                              exact ⟨old[j], v', by simp [hjo], by rw [← f3]; congr 1; omega, f2.mono hsub, by simpa using (List.all_eq_true.1 e2) old[j] (List.getElem_mem hjo)⟩
                            · have hjx : j - old.length < xs.length := by simp at hj; omega
                              rw [if_pos (by omega), List.getElem?_append_right (by omega)]
                              obtain ⟨v', f1, f2⟩ := n1.get (i := j - old.length) (v := xs[j - old.length]) (by simp [hjx])
                              exact ⟨xs[j - old.length], v', by simp [hjx], by rw [← f1]; congr 1; omega, f2.mono hsub, by simpa using (List.all_eq_true.1 hone) xs[j - old.length] (List.getElem_mem hjx)⟩⟩
                        refine ⟨.slice (some a) (len + n) c, _, w', ?_, q1, q2, .slice _ _ _ _ _ _ _ _ _ _ hroom (by simp) hz (Mp.put_self _ _ _) fun _ => ⟨by rw [ha]; congr 1; omega, by omega⟩⟩
                        rw [run_append_in (w := w) t tx ty e inf hu i1 (some a) len c x' n news n2 hroom]
                        have hadd : a.add (len * inf.size) = ⟨cb, off + len * inf.size + s, none⟩ := by rw [ha, addr_add]; congr 1; omega
                        dsimp only
                        rw [hadd]
                        simp only [r1, Result.andThen_ok]
                      · obtain ⟨v', μ', w', k1, k2, k3, k4⟩ := growCase old g1 (by omega)
                        have hbn : b < H.n := (hH.dom b cb s N hm).1
                        exact ⟨v', μ', w', k1, k2.kill hm, k3.kill (by have := k2.n; omega), k4⟩
                    · cases hcell
                  · cases h10
          · cases h10
        · cases h10
      · cases h10
    · cases h10
  · cases h2
end
end Go.Ab

namespace Go.Ab
section
variable {P : Program} {μ : Mp} {H : Hp} {w : World}
def sbC [Val] (l : List SP) : Blk := .cells (putCells .nil 0 (ofBytes (exps l))) (ofBytes (exps l)).length false
theorem sb_conc [Val] {s N : Nat} {l : List SP} {o : Option Obj} (h : BR μ s N (.sbytes l) o) : BR μ s N (sbC l) o := by
  obtain ⟨arr, e, lo, hi, a1, a2, a3, a4, a5, a6⟩ := h
  have hl : (ofBytes (exps l)).length = (exps l).length := by simp [ofBytes]
  refine ⟨arr, e, lo, hi, a1, a2, by omega, a4, by simp, fun j hj => ?_⟩
  rw [hl] at hj
  refine ⟨.int .u8 (Int.ofNat ((exps l).getD j 0)), .int .u8 (Int.ofNat ((exps l).getD j 0)), ?_, a6 j hj, .int _ _, rfl⟩
  rw [get_putCells, if_pos (by omega)]
  simp [ofBytes, List.getD, hj]
theorem sb_sym [Val] {s N : Nat} {l : List SP} {o : Option Obj} (hb : ∀ x ∈ exps l, x < 256) (h : BR μ s N (sbC l) o) : BR μ s N (.sbytes l) o := by
  obtain ⟨arr, e, lo, hi, a1, a2, a3, a4, _, a6⟩ := h
  have hl : (ofBytes (exps l)).length = (exps l).length := by simp [ofBytes]
  refine ⟨arr, e, lo, hi, a1, a2, by omega, a4, hb, fun j hj => ?_⟩
  obtain ⟨av, v, b1, b2, b3, _⟩ := a6 j (by omega)
  rw [get_putCells, if_pos (by omega)] at b1
  simp [ofBytes, hj] at b1
  subst b1
  cases b3
  rw [b2]
  simp [List.getD, hj]
def Eqv [Val] (B B' : HT) : Prop := ∀ i, B.get i = B'.get i ∨ ∃ l, B.get i = some (sbC l) ∧ B'.get i = some (.sbytes l) ∧ ∀ x ∈ exps l, x < 256
theorem Eqv.live [Val] {B B' : HT} (h : Eqv B B') {n n' : Nat} {i : Nat} : Live ⟨n, B⟩ i ↔ Live ⟨n', B'⟩ i := by
  unfold Live
  rcases h i with e | ⟨l, e1, e2, _⟩
  · simp only [e]
  · simp only [e1, e2]
    exact ⟨fun _ => ⟨_, rfl, by simp⟩, fun _ => ⟨_, rfl, by simp [sbC]⟩⟩
theorem HR.toSym [Val] {B B' : HT} {n : Nat} (h : Eqv B B') (hH : HR μ ⟨n, B⟩ w) : HR μ ⟨n, B'⟩ w where
  dom := hH.dom
  low := fun i b hb => by
    rcases h i with e | ⟨l, e1, e2, _⟩
    · exact hH.low i b (e.trans hb)
    · exact hH.low i _ e1
  blk := fun i b c s N hb hm => by
    rcases h i with e | ⟨l, e1, e2, e3⟩
    · exact hH.blk i b c s N (e.trans hb) hm
    · rw [show B'.get i = some b from hb] at e2; cases e2
      exact sb_sym e3 (hH.blk i _ c s N e1 hm)
  inj := fun i j c s N s' N' hi hj => hH.inj i j c s N s' N' (h.live.2 hi) (h.live.2 hj)
theorem HR.toConc [Val] {B B' : HT} {n : Nat} (h : Eqv B B') (hH : HR μ ⟨n, B'⟩ w) : HR μ ⟨n, B⟩ w where
  dom := hH.dom
  low := fun i b hb => by
    rcases h i with e | ⟨l, e1, e2, _⟩
    · exact hH.low i b (e.symm.trans hb)
    · exact hH.low i _ e2
  blk := fun i b c s N hb hm => by
    rcases h i with e | ⟨l, e1, e2, e3⟩
    · exact hH.blk i b c s N (e.symm.trans hb) hm
    · rw [show B.get i = some b from hb] at e1; cases e1
      exact sb_conc (hH.blk i _ c s N e2 hm)
  inj := fun i j c s N s' N' hi hj => hH.inj i j c s N s' N' (h.live.1 hi) (h.live.1 hj)
theorem Ext.toSym [Val] {B B' B1 B1' : HT} {n n1 : Nat} {μ' : Mp} {w' : World} (h : Eqv B B') (h1 : Eqv B1 B1') (ho : ∀ i, i < n → B1'.get i = B'.get i ∨ B1'.get i = some .dead) (x : Ext μ ⟨n, B⟩ w μ' ⟨n1, B1⟩ w') :
    Ext μ ⟨n, B'⟩ w μ' ⟨n1, B1'⟩ w' where
  sub := x.sub
  fresh := x.fresh
  n := x.n
  old := fun i hi _ => ho i hi
  alive := fun i hi hl => h.live.1 (x.alive i hi (h1.live.2 hl))
  size := x.size
  newc := fun i c s N a1 a2 => (x.newc i c s N a1 a2).imp id fun ⟨j, s', N', g1, g2⟩ => ⟨j, s', N', h.live.1 g1, g2⟩
  frame := fun k hk hno => x.frame k hk fun i c s N hl => hno i c s N (h.live.1 hl)
  os := x.os
  tape := x.tape
  output := x.output
theorem toBytes_inv : ∀ (cs : List AV) (l : List Nat), toBytes cs = .ok l → cs = ofBytes l ∧ ∀ x ∈ l, x < 256
  | [], l, h => by simp only [toBytes, Res.ok.injEq] at h; subst h; exact ⟨rfl, by simp⟩
  | a :: cs, l, h => by
    unfold toBytes at h
    split at h
    · rename_i he; cases he
    · rename_i n vs he
      cases he
      obtain ⟨r, h1, h2⟩ := Res.bind_ok h
      split at h2
      · rename_i hn
        simp only [Res.ok.injEq] at h2; subst h2
        obtain ⟨e1, e2⟩ := toBytes_inv cs r h1
        refine ⟨?_, ?_⟩
        · rw [e1]
          show _ = AV.int .u8 (Int.ofNat n.toNat) :: ofBytes r
          rw [show Int.ofNat n.toNat = n from by simp; omega]
        · intro x hx
          rcases List.mem_cons.1 hx with rfl | hx
          · omega
          · exact e2 x hx
      · cases h2
    · cases h
theorem str_low [Val] {l : List Nat} {v : Value} (h : VR μ (.str l) v) : ∀ x ∈ l, x < 256 := by
  cases h with
  | str _ b hb =>
    intro x hx
    rw [← hb] at hx
    obtain ⟨y, _, rfl⟩ := List.mem_map.1 hx
    exact y.toNat_lt
theorem readN_put (vs : List AV) : ∀ (k i : Nat), i + k ≤ vs.length → readN (putCells .nil 0 vs) vs.length i k = .ok ((vs.drop i).take k)
  | 0, i, _ => by simp [readN]
  | k + 1, i, h => by
    have hi : i < vs.length := by omega
    have hg : (putCells .nil 0 vs).get i = some vs[i] := by
      rw [get_putCells, if_pos (by omega)]
      simp [hi]
    unfold readN
    rw [if_pos hi, hg]
    simp only []
    rw [readN_put vs k (i + 1) (by omega), List.drop_eq_getElem_cons hi]
    rfl
theorem slice_whole [Val] {B : HT} {n b : Nat} {l : List SP} (hb : B.get b = some (sbC l)) : sliceCells ⟨n, B⟩ 1 (.slice b 0 (exps l).length none 1) = .ok (ofBytes (exps l)) := by
  have hl : (ofBytes (exps l)).length = (exps l).length := by simp [ofBytes]
  show (if (exps l).length = 0 then Res.ok [] else readCells ⟨n, B⟩ b 0 ((exps l).length * 1)) = _
  split
  · rename_i h0
    have : exps l = [] := List.eq_nil_of_length_eq_zero h0
    rw [this]; rfl
  · unfold readCells getBlk
    rw [show (⟨n, B⟩ : Hp).b.get b = some (sbC l) from hb]
    show readN (putCells .nil 0 (ofBytes (exps l))) (ofBytes (exps l)).length 0 ((exps l).length * 1) = _
    rw [Nat.mul_one, ← hl, readN_put _ _ _ (by omega)]
    simp
theorem ofBytes_append (a b : List Nat) : ofBytes (a ++ b) = ofBytes a ++ ofBytes b := by simp [ofBytes]
theorem ofBytes_one (a : List Nat) : (ofBytes a).all oneCell = true := by simp [ofBytes, oneCell]
theorem Eqv.refl [Val] (B : HT) : Eqv B B := fun _ => .inl rfl
theorem appendA_str {t elem : TypeId} {inf : TypeInfo} {S : List Nat} (h1 : tunder P t = .ok (.slice elem)) (h3 : zeroFits P elem = .ok 1) (h5 : tinfo P elem = .ok inf) (hn : S.length ≠ 0) {h : Hp} {s : AV} {old : List AV}
    (hs : (s = .nilslice ∧ old = []) ∨ ∃ b off len, s = .slice b off len none 1 ∧ isCells h b = true ∧ sliceCells h 1 s = .ok old ∧ old.length = len)
    (hz : (old.length + S.length) * inf.bytes ≤ small ∧ old.length + S.length ≤ small) :
    appendA P h t s (.str S) = .ok (.slice h.n 0 (old.length + S.length) none 1, match s with
      | .slice b _ _ _ _ => ⟨h.n + 1, (h.b.set h.n (.cells (putCells .nil 0 (old ++ ofBytes S)) (old ++ ofBytes S).length false)).set b .dead⟩
      | _ => ⟨h.n + 1, h.b.set h.n (.cells (putCells .nil 0 (old ++ ofBytes S)) (old ++ ofBytes S).length false)⟩) := by
  unfold appendA
  rw [h1]
  simp only [Res.bind, h3, h5, lenOfA, srcCells]
  rw [if_pos (by rfl)]
  simp only [ofBytes_one, if_true]
  rcases hs with ⟨rfl, rfl⟩ | ⟨b, off, len, rfl, e1, e2, e3⟩
  · simp only [List.length_nil, Nat.zero_add] at hz
    simp only [hn, if_false]
    rw [if_pos hz]
    simp [newCells]
  · subst e3
    have hb : Nat.beq 1 1 = true := rfl
    simp only [hb, if_true, hz, and_self, hn, if_false, e1, e2]
    rfl
theorem appendA_none {t elem : TypeId} {inf : TypeInfo} (h1 : tunder P t = .ok (.slice elem)) (h3 : zeroFits P elem = .ok 1) (h5 : tinfo P elem = .ok inf) {h : Hp} {s : AV}
    (hs : s = .nilslice ∨ ∃ b off len, s = .slice b off len none 1 ∧ len * inf.bytes ≤ small ∧ len ≤ small) : appendA P h t s (.str []) = .ok (s, h) := by
  unfold appendA
  rw [h1]
  have hb : Nat.beq 1 1 = true := rfl
  have ho : ([] : List AV).all oneCell = true := rfl
  simp only [Res.bind, h3, h5, lenOfA, srcCells, hb, if_true, ofBytes, List.map_nil, ho]
  rcases hs with rfl | ⟨b, off, len, rfl, e1, e2⟩
  · rfl
  · simp only [List.length_nil, Nat.add_zero, e1, e2, and_self, if_true, hb]
theorem appendS_sim [Val] (hH : HR μ H w) {t tx ty : TypeId} {s x : AV} {s' x' : Value} (hs : VR μ s s') (hx : VR μ x x') (hk : (∃ e', P.underlying tx = some (.slice e')) ∨ P.underlying tx = some .string)
    {r : AV × Hp} (h : appendS P H t s x = .ok r) : Sim P (Builtin.append_ #[t, tx] ty #[s', x']) μ H w r.1 r.2 := by
  unfold appendS at h
  obtain ⟨d, h1, h2⟩ := Res.bind_ok h
  split at h2
  · rename_i elem
    obtain ⟨sz, h3, h4⟩ := Res.bind_ok h2
    obtain ⟨inf, h5, h6⟩ := Res.bind_ok h4
    unfold appS at h6
    obtain ⟨⟨old, ob⟩, h7, h8⟩ := Res.bind_ok h6
    obtain ⟨sx, h9, h10⟩ := Res.bind_ok h8
    have hx1 := (toSy_ok h9 hx).2
    split at h10
    · -- an empty text
      split at h10
      · rename_i hc
        obtain ⟨rfl, hz1, hz2⟩ := hc
        simp only [Res.ok.injEq] at h10; subst h10
        have hx2 : VR μ (.str []) x' := hx1
        have hleo := exps_le old
        unfold oldS at h7
        split at h7
        · exact append_sim (P := P) (tx := tx) (ty := ty) hH hs hx2 hk (appendA_none (P := P) h1 h3 h5 (.inl rfl))
        · rename_i b l
          obtain ⟨blk, g1, g2⟩ := Res.bind_ok h7
          have hb := Res.ofOpt_ok g1
          split at g2
          · rename_i l2
            split at g2
            · rename_i hl
              obtain rfl := eqSPs_ok hl
              simp only [Res.ok.injEq, Prod.mk.injEq] at g2
              obtain ⟨rfl, _⟩ := g2
              have hs2 : VR μ (.slice b 0 (exps l).length none 1) s' := hs.symI.2
              obtain ⟨cb, sh, N, hm⟩ : ∃ cb sh N, μ b = some (cb, sh, N) := by cases hs2 with | slice _ _ _ _ _ a c cb s N hl hc hz hm hh => exact ⟨_, _, _, hm⟩
              obtain ⟨_, _, _, _, _, _, _, _, hlo, _⟩ := hH.blk b _ cb sh N hb hm
              have q0 : Eqv (H.b.set b (sbC l)) H.b := fun i => by
                rw [HT.get_set]
                by_cases e : b = i
                · subst e; rw [if_pos rfl]; exact .inr ⟨l, rfl, hb, hlo⟩
                · rw [if_neg e]; exact .inl rfl
              have hHc : HR μ ⟨H.n, H.b.set b (sbC l)⟩ w := HR.toConc q0 hH
              obtain ⟨v', μ', w', r1, r2, r3, r4⟩ := append_sim (P := P) (tx := tx) (ty := ty) hHc hs2 hx2 hk
                (appendA_none (P := P) h1 h3 h5 (.inr ⟨b, 0, (exps l).length, rfl, Nat.le_trans (Nat.mul_le_mul_right _ hleo) hz1, by omega⟩))
              exact ⟨v', μ', w', r1, Ext.toSym q0 q0 (fun i _ => .inl rfl) r2, HR.toSym q0 r3, .sym (.bytes b l) _ trivial r4⟩
            · cases g2
          · cases g2
        · rename_i b off len
          split at h7
          · obtain ⟨cs, g1, g2⟩ := Res.bind_ok h7
            obtain ⟨l0, g3, g4⟩ := Res.bind_ok g2
            simp only [Res.ok.injEq, Prod.mk.injEq] at g4
            obtain ⟨rfl, _⟩ := g4
            obtain ⟨rfl, hlo⟩ := toBytes_inv cs l0 g3
            rw [exps_ch] at hleo
            obtain ⟨a', len', c', ea', e1, e2, l', e3, e4, e5⟩ := sliceCells_ok hH hs g1
            have hlen : l0.length = len := by
              cases hs with
              | slice => cases ea'; simpa [ofBytes] using e1
            exact append_sim (P := P) (tx := tx) (ty := ty) hH hs hx2 hk (appendA_none (P := P) h1 h3 h5 (.inr ⟨b, off, len, rfl, Nat.le_trans (Nat.mul_le_mul_right _ (by omega)) hz1, by omega⟩))
          · cases h7
        · cases h7
      · cases h10
    · rename_i new hne
      have hx2 : VR μ (.str (exps new)) x' := hx1
      have hlow := str_low hx2
      split at h10
      · rename_i hc
        obtain ⟨rfl, hz1, hz2⟩ := hc
        have hpos : (exps new).length ≠ 0 := by
          cases new with
          | nil => exact absurd rfl hne
          | cons p l => have := exps_pos (p := p) (l := l); omega
        have hle := exps_le new
        have hleo := exps_le old
        have hz : ((exps old).length + (exps new).length) * inf.bytes ≤ small ∧ (exps old).length + (exps new).length ≤ small :=
          ⟨Nat.le_trans (Nat.mul_le_mul_right _ (by omega)) hz1, by omega⟩
        unfold oldS at h7
        split at h7
        · -- nothing
          simp only [Res.ok.injEq, Prod.mk.injEq] at h7
          obtain ⟨rfl, rfl⟩ := h7
          simp only [Res.ok.injEq] at h10; subst h10
          have hA := appendA_str (P := P) h1 h3 h5 hpos (h := H) (s := .nilslice) (old := []) (.inl ⟨rfl, rfl⟩) (by simpa [exps] using hz)
          obtain ⟨v', μ', w', r1, r2, r3, r4⟩ := append_sim (P := P) (tx := tx) (ty := ty) hH hs hx2 hk hA
          have q1 : Eqv (H.b.set H.n (sbC new)) (H.b.set H.n (.sbytes new)) := fun i => by
            rw [HT.get_set, HT.get_set]
            by_cases e : H.n = i
            · rw [if_pos e, if_pos e]; exact .inr ⟨new, rfl, rfl, hlow⟩
            · rw [if_neg e, if_neg e]; exact .inl rfl
          refine ⟨v', μ', w', r1, Ext.toSym (Eqv.refl _) q1 (fun i hi => .inl ?_) r2, HR.toSym q1 r3, .sym (.bytes H.n ([] ++ new)) _ trivial ?_⟩
          · show (H.b.set H.n (.sbytes new)).get i = H.b.get i
            rw [HT.get_set, if_neg (by omega)]
          · have r4 : VR μ' (.slice H.n 0 (0 + (exps new).length) none 1) v' := r4
            rw [Nat.zero_add] at r4
            exact r4
        · -- a row that is known but for two numbers
          rename_i b l
          obtain ⟨blk, g1, g2⟩ := Res.bind_ok h7
          have hb := Res.ofOpt_ok g1
          split at g2
          · rename_i l2
            split at g2
            · rename_i hl
              obtain rfl := eqSPs_ok hl
              simp only [Res.ok.injEq, Prod.mk.injEq] at g2
              obtain ⟨rfl, rfl⟩ := g2
              simp only [Res.ok.injEq] at h10; subst h10
              have hs2 : VR μ (.slice b 0 (exps l).length none 1) s' := hs.symI.2
              obtain ⟨cb, sh, N, hm⟩ : ∃ cb sh N, μ b = some (cb, sh, N) := by cases hs2 with | slice _ _ _ _ _ a c cb s N hl hc hz hm hh => exact ⟨_, _, _, hm⟩
              have hbn : b < H.n := (hH.dom b cb sh N hm).1
              obtain ⟨_, _, _, _, _, _, _, _, hlo, _⟩ := hH.blk b _ cb sh N hb hm
              have q0 : Eqv (H.b.set b (sbC l)) H.b := fun i => by
                rw [HT.get_set]
                by_cases e : b = i
                · subst e; rw [if_pos rfl]; exact .inr ⟨l, rfl, hb, hlo⟩
                · rw [if_neg e]; exact .inl rfl
              have hHc : HR μ ⟨H.n, H.b.set b (sbC l)⟩ w := HR.toConc q0 hH
              have hA := appendA_str (P := P) h1 h3 h5 hpos (h := ⟨H.n, H.b.set b (sbC l)⟩) (s := .slice b 0 (exps l).length none 1) (old := ofBytes (exps l))
                (.inr ⟨b, 0, (exps l).length, rfl, by unfold isCells; rw [HT.get_set_self]; rfl, slice_whole (HT.get_set_self _ _ _), by simp [ofBytes]⟩) (by simpa [ofBytes] using hz)
              obtain ⟨v', μ', w', r1, r2, r3, r4⟩ := append_sim (P := P) (tx := tx) (ty := ty) hHc hs2 hx2 hk hA
              have ea : ofBytes (exps l) ++ ofBytes (exps new) = ofBytes (exps (l ++ new)) := by rw [exps_append, ofBytes_append]
              have q1 : Eqv (((H.b.set b (sbC l)).set H.n (.cells (putCells .nil 0 (ofBytes (exps l) ++ ofBytes (exps new))) (ofBytes (exps l) ++ ofBytes (exps new)).length false)).set b .dead) ((H.b.set H.n (.sbytes (l ++ new))).set b .dead) := fun i => by
                rw [HT.get_set, HT.get_set, HT.get_set, HT.get_set, HT.get_set]
                by_cases e : b = i
                · rw [if_pos e, if_pos e]; exact .inl rfl
                · rw [if_neg e, if_neg e, if_neg e]
                  by_cases e2 : H.n = i
                  · rw [if_pos e2, if_pos e2, ea]
                    refine .inr ⟨l ++ new, rfl, rfl, fun x hx => ?_⟩
                    rw [exps_append] at hx
                    exact (List.mem_append.1 hx).elim (hlo x) (hlow x)
                  · rw [if_neg e2, if_neg e2]; exact .inl rfl
              refine ⟨v', μ', w', r1, Ext.toSym q0 q1 (fun i hi => ?_) r2, HR.toSym q1 r3, .sym (.bytes H.n (l ++ new)) _ trivial ?_⟩
              · rw [HT.get_set, HT.get_set]
                by_cases e : b = i
                · rw [if_pos e]; exact .inr rfl
                · rw [if_neg e, if_neg (by omega)]; exact .inl rfl
              · have r4 : VR μ' (.slice H.n 0 ((ofBytes (exps l)).length + (exps new).length) none 1) v' := r4
                show VR μ' (.slice H.n 0 (exps (l ++ new)).length none 1) v'
                rw [exps_append, List.length_append]
                rw [show (ofBytes (exps l)).length = (exps l).length by simp [ofBytes]] at r4
                exact r4
            · cases g2
          · cases g2
        · -- a row of plain bytes
          rename_i b off len
          split at h7
          · rename_i hcell
            obtain ⟨cs, g1, g2⟩ := Res.bind_ok h7
            obtain ⟨l0, g3, g4⟩ := Res.bind_ok g2
            simp only [Res.ok.injEq, Prod.mk.injEq] at g4
            obtain ⟨rfl, rfl⟩ := g4
            simp only [Res.ok.injEq] at h10; subst h10
            obtain ⟨rfl, hlo⟩ := toBytes_inv cs l0 g3
            rw [exps_ch] at hz
            obtain ⟨a', len', c', ea', e1, e2, l', e3, e4, e5⟩ := sliceCells_ok hH hs g1
            have hlen : l0.length = len := by
              cases hs with
              | slice => cases ea'; simpa [ofBytes] using e1
            obtain ⟨cb, sh, N, hm⟩ : ∃ cb sh N, μ b = some (cb, sh, N) := by cases hs with | slice _ _ _ _ _ a c cb s N hl hc hz hm hh => exact ⟨_, _, _, hm⟩
            have hbn : b < H.n := (hH.dom b cb sh N hm).1
            have hA := appendA_str (P := P) h1 h3 h5 hpos (h := H) (s := .slice b off len none 1) (old := ofBytes l0)
              (.inr ⟨b, off, len, rfl, hcell, g1, by simpa [ofBytes] using hlen⟩) (by simpa [ofBytes] using hz)
            obtain ⟨v', μ', w', r1, r2, r3, r4⟩ := append_sim (P := P) (tx := tx) (ty := ty) hH hs hx2 hk hA
            have ea : ofBytes l0 ++ ofBytes (exps new) = ofBytes (exps (l0.map .ch ++ new)) := by rw [exps_append, exps_ch, ofBytes_append]
            have q1 : Eqv ((H.b.set H.n (.cells (putCells .nil 0 (ofBytes l0 ++ ofBytes (exps new))) (ofBytes l0 ++ ofBytes (exps new)).length false)).set b .dead) ((H.b.set H.n (.sbytes (l0.map .ch ++ new))).set b .dead) := fun i => by
              rw [HT.get_set, HT.get_set, HT.get_set, HT.get_set]
              by_cases e : b = i
              · rw [if_pos e, if_pos e]; exact .inl rfl
              · rw [if_neg e, if_neg e]
                by_cases e2 : H.n = i
                · rw [if_pos e2, if_pos e2, ea]
                  refine .inr ⟨l0.map .ch ++ new, rfl, rfl, fun x hx => ?_⟩
                  rw [exps_append, exps_ch] at hx
                  exact (List.mem_append.1 hx).elim (hlo x) (hlow x)
                · rw [if_neg e2, if_neg e2]; exact .inl rfl
            refine ⟨v', μ', w', r1, Ext.toSym (Eqv.refl _) q1 (fun i hi => ?_) r2, HR.toSym q1 r3, .sym (.bytes H.n (l0.map .ch ++ new)) _ trivial ?_⟩
            · rw [HT.get_set, HT.get_set]
              by_cases e : b = i
              · rw [if_pos e]; exact .inr rfl
              · rw [if_neg e, if_neg (by omega)]; exact .inl rfl
            · have r4 : VR μ' (.slice H.n 0 ((ofBytes l0).length + (exps new).length) none 1) v' := r4
              show VR μ' (.slice H.n 0 (exps (l0.map .ch ++ new)).length none 1) v'
              rw [exps_append, exps_ch, List.length_append]
              rw [show (ofBytes l0).length = l0.length by simp [ofBytes]] at r4
              exact r4
          · cases h7
        · cases h7
      · cases h10
    · cases h10
  · cases h2
end
end Go.Ab

namespace Go.Ab
section
variable {P : Program} {μ : Mp} {H : Hp} {w : World}
theorem zero_first [Val] {x : AV} {x' : Value} (hx : VR μ x x') {n : Nat} (hn : lenOfA x = .ok n) (sz : Nat) : (Builtin.lenOf x').run P w = .ok n w ∧ (Builtin.firstCells sz 0 x').run P w = .ok #[] w := by
  cases hx <;> simp [lenOfA] at hn
  · rename_i s b hb
    have : b.size = n := by rw [← hn, ← hb]; simp
    subst this
    refine ⟨rfl, ?_⟩
    simp [Builtin.firstCells]
  · subst hn; exact ⟨rfl, rfl⟩
  · subst hn; exact ⟨rfl, by simp [Builtin.firstCells, loadCells, loadCellsFrom]⟩
theorem some_first [Val] (hH : HR μ H w) {sz : Nat} {x : AV} {x' : Value} (hx : VR μ x x') {l : List AV} (h : srcCells H sz x = .ok l) (h1 : l.all oneCell = true) {n k : Nat} (hn : lenOfA x = .ok n) (hk : k ≤ n) :
    (Builtin.lenOf x').run P w = .ok n w ∧ ∃ l' : List Value, VRs μ (l.take (k * sz)) l' ∧ (Builtin.firstCells sz k x').run P w = .ok l'.toArray w ∧ l.length = n * sz := by
  refine ⟨(zero_first hx hn 0).1, ?_⟩
  unfold srcCells at h
  split at h
  · rename_i s
    split at h
    · rename_i hs
      have hs := Nat.eq_of_beq_eq_true hs
      subst hs
      simp only [Res.ok.injEq] at h; subst h
      simp only [lenOfA, Res.ok.injEq] at hn; subst hn
      cases hx with
      | str _ b hb =>
        have hv := (ofBytes_VRs (μ := μ) b hb).take k
        refine ⟨_, by rw [Nat.mul_one]; exact hv, ?_, by simp [ofBytes]⟩
        simp [Builtin.firstCells]
        apply Array.ext'
        simp
    · cases h
  · obtain ⟨a, len, c, rfl, e1, e2, l', e3, e4, e5⟩ := sliceCells_ok hH hx h
    have hln : n = len := by cases hx <;> simp [lenOfA] at hn <;> exact hn.symm
    subst hln
    cases a with
    | none =>
      have := e5 rfl
      subst this
      have : k = 0 := by omega
      subst this
      refine ⟨[], ?_, by rw [run_firstCells_none], e1⟩
      simp; exact .nil μ
    | some ad =>
      refine ⟨l'.take (k * sz), e3.take _, ?_, e1⟩
      have hl' : l'.length = n * sz := by rw [← e3.1, e1]
      have hks : k * sz ≤ n * sz := Nat.mul_le_mul_right _ hk
      exact run_firstCells_some w sz k ad n c _ (by simp; omega) (fun j v hv => by
        rw [List.getElem?_take] at hv
        split at hv
        · exact e4 ad rfl j v hv
        · cases hv)
theorem copy_sim [Val] (hH : HR μ H w) {t tx ty : TypeId} {d s : AV} {d' s' : Value} (hd : VR μ d d') (hs : VR μ s s') {r : AV × Hp} (h : copyA P H t d s = .ok r) :
    Sim P (Builtin.copy_ #[t, tx] ty #[d', s']) μ H w r.1 r.2 := by
  unfold copyA at h
  obtain ⟨dd, h1, h2⟩ := Res.bind_ok h
  have hu := tunder_ok h1
  split at h2
  · rename_i e
    obtain ⟨sz, h3, h4⟩ := Res.bind_ok h2
    obtain ⟨n, h5, h6⟩ := Res.bind_ok h4
    split at h6
    · simp only [Res.ok.injEq] at h6; subst h6
      cases hd
      obtain ⟨e1, e2⟩ := zero_first (P := P) (w := w) hs h5 sz
      refine Sim.still hH (v' := .int .i64 0) ?_ (.int _ _)
      simp [Builtin.copy_, run_underlying hu, e1, run_sizeOf h3 w, e2, goInt]
    · rename_i b off m cap sz'
      dsimp only at h6
      split at h6
      · rename_i hk
        simp only [Res.ok.injEq] at h6; subst h6
        cases hd with
        | slice _ _ _ _ _ a c cb s N hl hc hz hm hh =>
          obtain ⟨e1, e2⟩ := zero_first (P := P) (w := w) hs h5 sz
          refine Sim.still hH (v' := .int .i64 0) ?_ (.int _ _)
          simp [Builtin.copy_, run_underlying hu, e1, run_sizeOf h3 w, hk, e2, goInt, storeCells]
      · rename_i hk
        obtain ⟨xs, h7, h8⟩ := Res.bind_ok h6
        split at h8
        · rename_i hc1
          simp only [Bool.and_eq_true] at hc1
          have hse := Nat.eq_of_beq_eq_true hc1.1
          subst hse
          obtain ⟨H', g1, g2⟩ := Res.bind_ok h8
          simp only [Res.ok.injEq] at g2; subst g2
          cases hd with
          | slice _ _ _ _ _ a c cb s N hl hc hz hm hh =>
            have hmin : Nat.min n m ≤ n := Nat.min_le_left _ _
            have hmin2 : Nat.min n m ≤ m := Nat.min_le_right _ _
            obtain ⟨e1, l', e2, e3, e4⟩ := some_first (P := P) hH hs h7 hc1.2 h5 hmin
            obtain ⟨ha, hN⟩ := hh (by omega)
            obtain ⟨w', r1, r2, r3⟩ := writeCells_ok (P := P) hH hm g1 (by
              rw [List.all_eq_true]
              intro x hx
              exact (List.all_eq_true.1 hc1.2) x (List.mem_of_mem_take hx)) e2
            refine ⟨.int .i64 (Nat.min n m : Nat), μ, w', ?_, r2, r3, .int _ _⟩
            subst ha
            simp [Builtin.copy_, run_underlying hu, e1, run_sizeOf h3 w, e3, goInt, r1]
        · cases h8
    · cases h6
  · cases h2
theorem clear_sim [Val] (hH : HR μ H w) {t ty : TypeId} {d : AV} {d' : Value} (hd : VR μ d d') {H' : Hp} (h : clearA P H t d = .ok H') : Sim P (Builtin.clear_ #[t] ty #[d']) μ H w (.tuple []) H' := by
  have hun : ∀ μ', VR μ' (.tuple []) (.tuple #[]) := fun μ' => .tuple [] #[] rfl fun i v v' h => by simp at h
  unfold clearA at h
  obtain ⟨dd, h1, h2⟩ := Res.bind_ok h
  have hu := tunder_ok h1
  split at h2
  · rename_i e
    split at h2
    · simp only [Res.ok.injEq] at h2; subst h2
      cases hd
      exact Sim.still hH (v' := .tuple #[]) (by simp [Builtin.clear_, run_underlying hu]) (hun _)
    · rename_i b off len cap sz
      split at h2
      · rename_i hl0
        simp only [Res.ok.injEq] at h2; subst h2
        subst hl0
        cases hd
        exact Sim.still hH (v' := .tuple #[]) (by simp [Builtin.clear_, run_underlying hu]) (hun _)
      · rename_i hl0
        obtain ⟨sz', h3, h4⟩ := Res.bind_ok h2
        obtain ⟨z, h5, h6⟩ := Res.bind_ok h4
        obtain ⟨zs, h7, h8⟩ := Res.bind_ok h6
        split at h8
        · rename_i hc1
          simp only [Bool.and_eq_true] at hc1
          have hse := Nat.eq_of_beq_eq_true hc1.1.1
          subst hse
          have hzl := Nat.eq_of_beq_eq_true hc1.1.2
          cases hd with
          | slice _ _ _ _ _ a c cb s N hl hc hz hm hh =>
            obtain ⟨ha, hN⟩ := hh (by omega)
            obtain ⟨it, zv, g1, g2, g3⟩ := tzero_ok μ h5
            have hz2 := g3.cells h7
            have hzz : zs.length = zv.cells.size := by simpa using hz2.1
            have hrep := repl_VRs hz2 (by omega) len
            obtain ⟨w', r1, r2, r3⟩ := writeCells_ok (P := P) hH hm h8 (allOne_repl hc1.2 _) hrep
            refine ⟨.tuple #[], μ, w', ?_, r2, r3, hun _⟩
            have hz3 : Builtin.zeroCells zv.cells len = (Array.range (len * zs.length)).map (fun i => zv.cells[i % zv.cells.size]!) := by simp [Builtin.zeroCells, hzz]
            have : (Builtin.clear_ #[t] ty #[.slice (some a) len c]).run P w = ((storeCells a (Builtin.zeroCells zv.cells len).toList).run P w).andThen fun _ w' => .ok (.tuple #[]) w' := by
              obtain ⟨m, rfl⟩ : ∃ m, len = m + 1 := ⟨len - 1, by omega⟩
              simp [Builtin.clear_, run_underlying hu, run_zero g1 g2]
            rw [this, hz3, ha, r1]
            rfl
        · cases h8
    · cases h2
  · cases h2
theorem getMap_ok [Val] (hH : HR μ H w) {b c s N : Nat} (hm : μ b = some (c, s, N)) {es : List (AV × AV)} (h : getMap H b = .ok es) :
    ∃ ces, w.heap[c]? = some (.map ces ces.size) ∧ es.length = ces.size ∧ (∀ (i : Nat) k v e, es[i]? = some (k, v) → ces[i]? = some e → VR μ k e.key ∧ VR μ v e.val ∧ e.born = i) ∧ H.b.get b = some (.map es) := by
  obtain ⟨blk, h1, h2⟩ := Res.bind_ok h
  have hb := Res.ofOpt_ok h1
  have hB := hH.blk b blk c s N hb hm
  split at h2
  · simp only [Res.ok.injEq] at h2; subst h2
    obtain ⟨ces, e1, e2, e3⟩ := hB
    exact ⟨ces, e1, e2, e3, hb⟩
  · cases h2
theorem len_sim [Val] (hH : HR μ H w) {t ty : TypeId} {x : AV} {x' : Value} (hx : VR μ x x') {v : AV} (h : lenA P H t x = .ok v) : Sim P (Builtin.len_ #[t] ty #[x']) μ H w v H := by
  unfold lenA at h
  obtain ⟨d, h1, h2⟩ := Res.bind_ok h
  have hu := tunder_ok h1
  split at h2
  · rename_i s
    simp only [Res.ok.injEq] at h2; subst h2
    cases hx with
    | str _ b hb =>
      have : s.length = b.size := by rw [← hb]; simp
      exact Sim.still hH (v' := .int .i64 s.length) (by simp [Builtin.len_, run_underlying hu, goInt, this]) (.int _ _)
  · rename_i l
    simp only [Res.ok.injEq] at h2; subst h2
    have hx2 : VR μ (.str (exps l)) x' := hx.symI.2
    cases hx2 with
    | str _ b hb =>
      have : (exps l).length = b.size := by rw [← hb]; simp
      exact Sim.still hH (v' := .int .i64 (0 + ((exps l).length : Int))) (by simp [Builtin.len_, run_underlying hu, goInt, this]) (.sym (.len 0 false l) _ trivial (.int _ _))
  · rename_i b l
    simp only [Res.ok.injEq] at h2; subst h2
    have hx2 : VR μ (.slice b 0 (exps l).length none 1) x' := hx.symI.2
    cases hx2
    exact Sim.still hH (v' := .int .i64 (0 + ((exps l).length : Int))) (by simp [Builtin.len_, run_underlying hu, goInt]) (.sym (.len 0 false l) _ trivial (.int _ _))
  · simp only [Res.ok.injEq] at h2; subst h2
    cases hx
    exact Sim.still hH (v' := .int .i64 0) (by simp [Builtin.len_, run_underlying hu, goInt]) (.int _ _)
  · simp only [Res.ok.injEq] at h2; subst h2
    cases hx
    exact Sim.still hH (v' := .int .i64 _) (by simp [Builtin.len_, run_underlying hu, goInt]) (.int _ _)
  · simp only [Res.ok.injEq] at h2; subst h2
    exact Sim.still hH (v' := .int .i64 _) (by simp [Builtin.len_, run_underlying hu, goInt]) (.int _ _)
  · simp only [Res.ok.injEq] at h2; subst h2
    cases hx
    exact Sim.still hH (v' := .int .i64 0) (by simp [Builtin.len_, run_underlying hu, goInt]) (.int _ _)
  · obtain ⟨es, h3, h4⟩ := Res.bind_ok h2
    simp only [Res.ok.injEq] at h4; subst h4
    cases hx with
    | map _ c s N hm =>
      obtain ⟨ces, e1, e2, e3, e4⟩ := getMap_ok hH hm h3
      refine Sim.still hH (v' := .int .i64 (es.length : Nat)) ?_ (.int _ _)
      have hg : (getObj c).run P w = .ok (.map ces ces.size) w := by simp [getObj, Sem.run, e1]
      simp [Builtin.len_, run_underlying hu, hg, goInt, e2]
  · cases h2
theorem rngMm_VR [Val] {mx : Bool} {lo hi c x z : Int} (h0 : lo ≤ x) (h1 : x ≤ hi) (hz : z = if mx then max x c else min x c) : VR μ (rngMm mx lo hi c) (.int .i64 z) := by
  cases mx
  · simp only [Bool.false_eq_true, if_false] at hz
    show VR μ (if hi ≤ c then .rng 0 lo hi else if c ≤ lo then .int .i64 c else .rng 0 lo c) _
    split
    · exact .rng 0 _ _ _ (by simp; omega) (by simp; omega)
    · split
      · have : z = c := by omega
        rw [this]; exact .int _ _
      · exact .rng 0 _ _ _ (by simp; omega) (by simp; omega)
  · simp only [if_true] at hz
    show VR μ (if c ≤ lo then .rng 0 lo hi else if hi ≤ c then .int .i64 c else .rng 0 c hi) _
    split
    · exact .rng 0 _ _ _ (by simp; omega) (by simp; omega)
    · split
      · have : z = c := by omega
        rw [this]; exact .int _ _
      · exact .rng 0 _ _ _ (by simp; omega) (by simp; omega)
theorem symMin_run [Val] {a b : Sy} {v : AV} {x y : Value} (h : symMin a b = .ok v) (ha : VR μ a.conc x) (hb : VR μ b.conc y) : ∃ v', (Builtin.min2 x y).run P w = .ok v' w ∧ VR μ v v' := by
  unfold symMin at h
  split at h
  · rename_i c n l c' n' l'
    split at h
    · rename_i hc
      obtain ⟨rfl, rfl, rfl, hc⟩ := hc
      simp only [Res.ok.injEq] at h; subst h
      have ha : VR μ (.int .i64 (0 + ((exps l).length : Int))) x := ha
      have hb : VR μ (.int .i64 (c' - ((exps l').length : Int))) y := hb
      cases ha; cases hb
      have h1 := exps_le l
      have h2 := exps_le l'
      refine ⟨.int .i64 (if c' - ((exps l').length : Int) < 0 + ((exps l).length : Int) then c' - ((exps l').length : Int) else 0 + ((exps l).length : Int)), rfl, ?_⟩
      rw [if_neg (by omega)]
      exact .sym (.len 0 false l) _ trivial (.int _ _)
    · cases h
  · rename_i k c p q lo hi c' n' l'
    split at h
    · rename_i hc
      obtain ⟨rfl, rfl, rfl, rfl, hc, c1, c2⟩ := hc
      unfold lo64 at c1
      unfold hi64 at c2
      simp only [Res.ok.injEq] at h; subst h
      have ha : VR μ (.int .i64 (IntKind.i64.wrap (valE c 0 0))) x := ha
      rw [valE_const, wrap_i64 c c1 c2] at ha
      have hb : VR μ (.int .i64 (c' - ((exps l').length : Int))) y := hb
      cases ha; cases hb
      have h2 := exps_le l'
      refine ⟨.int .i64 (if c' - ((exps l').length : Int) < c then c' - ((exps l').length : Int) else c), rfl, ?_⟩
      rw [if_neg (by omega)]
      exact .int _ _
    · cases h
  · rename_i c n l k c' p q lo hi
    split at h
    · rename_i hc
      obtain ⟨rfl, rfl, rfl, rfl, rfl, hc, c2⟩ := hc
      unfold hi64 at c2
      simp only [Res.ok.injEq] at h; subst h
      have ha : VR μ (.int .i64 (0 + ((exps l).length : Int))) x := ha
      have hb : VR μ (.int .i64 (IntKind.i64.wrap (valE c' 0 0))) y := hb
      rw [valE_const, wrap_i64 c' (by omega) c2] at hb
      cases ha; cases hb
      have h1 := exps_le l
      refine ⟨.int .i64 (if c' < 0 + ((exps l).length : Int) then c' else 0 + ((exps l).length : Int)), rfl, ?_⟩
      rw [if_neg (by omega)]
      exact .sym (.len 0 false l) _ trivial (.int _ _)
    · cases h
  · cases h
theorem minmax_run [Val] {mx : Bool} {a b v : AV} {x y : Value} (ha : VR μ a x) (hb : VR μ b y) (h : minmaxA mx a b = .ok v) :
    ∃ v', (if mx then Builtin.max2 x y else Builtin.min2 x y).run P w = .ok v' w ∧ VR μ v v' := by
  unfold minmaxA at h
  split at h
  · simp only [Res.ok.injEq] at h; subst h
    cases ha; cases hb
    cases mx
    · exact ⟨_, rfl, .int _ _⟩
    · exact ⟨_, rfl, .int _ _⟩
  · rename_i m lo hi c
    split at h
    · rename_i hm0
      subst hm0
      simp only [Res.ok.injEq] at h; subst h
      cases ha with
      | rng _ _ _ x h0 h1 =>
        cases hb
        simp only [if_true] at h0 h1
        cases mx
        · exact ⟨.int .i64 (if c < x then c else x), rfl, rngMm_VR h0 h1 (by simp only [Bool.false_eq_true, if_false]; split <;> omega)⟩
        · exact ⟨.int .i64 (if c > x then c else x), rfl, rngMm_VR h0 h1 (by simp only [if_true]; split <;> omega)⟩
    · cases h
  · rename_i c m lo hi
    split at h
    · rename_i hm0
      subst hm0
      simp only [Res.ok.injEq] at h; subst h
      cases hb with
      | rng _ _ _ x h0 h1 =>
        cases ha
        simp only [if_true] at h0 h1
        cases mx
        · exact ⟨.int .i64 (if x < c then x else c), rfl, rngMm_VR h0 h1 (by simp only [Bool.false_eq_true, if_false]; split <;> omega)⟩
        · exact ⟨.int .i64 (if x > c then x else c), rfl, rngMm_VR h0 h1 (by simp only [if_true]; split <;> omega)⟩
    · cases h
  · split at h
    · cases h
    · rename_i hm
      obtain ⟨sb, e1, e2⟩ := Res.bind_ok h
      rw [Bool.not_eq_true] at hm
      subst hm
      exact symMin_run e2 ha.symI.2 (toSy_ok e1 hb).2
  · split at h
    · cases h
    · rename_i hm
      obtain ⟨sa, e1, e2⟩ := Res.bind_ok h
      rw [Bool.not_eq_true] at hm
      subst hm
      exact symMin_run e2 (toSy_ok e1 ha).2 hb.symI.2
  · cases h
theorem fold_run [Val] {f : AV → AV → Res AV} {g : Value → Value → Sem Value} (hfg : ∀ a b v x y, VR μ a x → VR μ b y → f a b = .ok v → ∃ v', (g x y).run P w = .ok v' w ∧ VR μ v v') :
    ∀ (l : List AV) (l' : List Value) (a : AV) (x : Value) (v : AV), VRs μ l l' → VR μ a x → foldA f a l = .ok v → ∃ v', (l'.foldlM g x).run P w = .ok v' w ∧ VR μ v v'
  | [], l', a, x, v, hl, ha, h => by
    have := hl.1
    match l', this with
    | [], _ =>
      simp only [foldA, Res.ok.injEq] at h; subst h
      exact ⟨x, rfl, ha⟩
  | b :: l, l', a, x, v, hl, ha, h => by
    match l', hl with
    | [], hl => have := hl.1; simp at this
    | y :: l', hl =>
      obtain ⟨z, h1, h2⟩ := Res.bind_ok h
      obtain ⟨z', r1, r2⟩ := hfg a b z x y ha hl.head h1
      obtain ⟨v', q1, q2⟩ := fold_run hfg l l' z z' v hl.tail r2 h2
      exact ⟨v', by rw [List.foldlM_cons]; simp [r1, q1], q2⟩
end
end Go.Ab

namespace Go.Ab
section
variable {P : Program} {μ : Mp} {H : Hp} {w : World}
theorem strEq_map : ∀ (u v : List UInt8), strEq (u.map (·.toNat)) (v.map (·.toNat)) = (u == v)
  | [], [] => rfl
  | [], _ :: _ => rfl
  | _ :: _, [] => rfl
  | c :: u, e :: v => by
    simp only [List.map_cons, strEq, List.cons_beq_cons, strEq_map u v]
    congr 1
    rw [Bool.eq_iff_iff]
    simp [UInt8.toNat_inj]
theorem eqPlain_same [Val] {a b : AV} {x y : Value} (ha : VR μ a x) (hb : VR μ b y) (h : eqPlain a b = some true) : x = y := by
  cases ha <;> cases hb <;> simp [eqPlain] at h
  · rw [h]
  · rw [h.1, h.2]
  · rename_i s b hs s' b' hs'
    subst hs; subst hs'
    rw [strEq_map] at h
    simp at h
    congr 1
    apply ByteArray.ext
    exact h
theorem eqLeaves_same [Val] : ∀ (l : List TypeDesc) (xs ys : List AV) (cs cs' : List Value), VRs μ xs cs → VRs μ ys cs' → eqLeaves l xs ys = some true → cs = cs'
  | [], [], [], cs, cs', h1, h2, _ => by
    have := h1.1; have := h2.1
    match cs, cs' with
    | [], [] => rfl
    | _ :: _, _ => simp_all
    | [], _ :: _ => simp_all
  | d :: l, a :: xs, b :: ys, cs, cs', h1, h2, h => by
    match cs, cs', h1, h2 with
    | [], _, h1, _ => have := h1.1; simp at this
    | _ :: _, [], _, h2 => have := h2.1; simp at this
    | x :: cs, y :: cs', h1, h2 =>
      simp only [eqLeaves] at h
      split at h
      · split at h
        · rename_i hp
          rw [eqPlain_same h1.head h2.head hp, eqLeaves_same l xs ys cs cs' h1.tail h2.tail h]
        · cases h
        · cases h
      · cases h
  | [], _ :: _, _, _, _, _, _, h => by simp [eqLeaves] at h
  | [], [], _ :: _, _, _, _, _, h => by simp [eqLeaves] at h
  | _ :: _, [], _, _, _, _, _, h => by simp [eqLeaves] at h
  | _ :: _, _ :: _, [], _, _, _, _, h => by simp [eqLeaves] at h
theorem Whole.same {t : TypeId} {v v' : Value} {cs : List Value} (h : Whole P t v cs) (h' : Whole P t v' cs) : v = v' := by
  rcases h with ⟨h1, arr, rfl, rfl⟩ | ⟨h1, rfl⟩
  · obtain ⟨arr', rfl, e⟩ := h'.agg h1
    rw [Array.toList_inj.1 e]
  · have := h'.one h1
    simpa using this
theorem eqFlat_same [Val] {t : TypeId} {a b : AV} (h : eqFlat P t a b = some true) {x y : Value} (ha : VR μ a x) (hb : VR μ b y) : x = y := by
  unfold eqFlat at h
  split at h
  · rename_i l hl
    split at h
    · rename_i xs ys h1 h2
      obtain ⟨e1, cs, v1, w1⟩ := wholeOf_ok h1 ha
      obtain ⟨e2, cs', v2, w2⟩ := wholeOf_ok h2 hb
      have := eqLeaves_same l xs ys cs cs' v1 v2 h
      subst this
      exact w1.same w2
    · cases h
  · cases h
def IsPlain : Value → Prop
  | .bool _ | .int _ _ | .string _ => True
  | _ => False
theorem sameBits_plain (n : Nat) {v : Value} (h : IsPlain v) : Instr.sameBits n v v = true := by
  cases v <;> simp [IsPlain] at h <;> simp [Instr.sameBits, beq_toListBytes]
theorem allFit_plain [Val] : ∀ (l : List TypeDesc) (xs : List AV) (cs : List Value), VRs μ xs cs → allFit l xs = true → ∀ v ∈ cs, IsPlain v
  | [], [], cs, h1, _ => by
    have := h1.1
    match cs with
    | [] => intro v hv; cases hv
    | _ :: _ => simp at this
  | d :: l, a :: xs, cs, h1, h => by
    match cs, h1 with
    | [], h1 => have := h1.1; simp at this
    | x :: cs, h1 =>
      simp only [allFit, Bool.and_eq_true] at h
      intro v hv
      rcases List.mem_cons.1 hv with rfl | hv
      · have h0 := h1.head
        have hf := h.1
        cases h0 <;> cases d <;> simp [plainFits] at hf <;> trivial
      · exact allFit_plain l xs cs h1.tail h.2 v hv
  | [], _ :: _, _, _, h => by simp [allFit] at h
  | _ :: _, [], _, _, h => by simp [allFit] at h
theorem keyOk_ok [Val] {t : TypeId} {a : AV} (h : keyOk P t a = true) {v : Value} (hv : VR μ a v) : ∃ l xs cs, leaves P 6 t = some l ∧ xs.length = l.length ∧ VRs μ xs cs ∧ Whole P t v cs ∧ allFit l xs = true := by
  unfold keyOk at h
  split at h
  · rename_i l hl
    split at h
    · rename_i xs h1
      obtain ⟨e1, cs, v1, w1⟩ := wholeOf_ok h1 hv
      exact ⟨l, xs, cs, hl, e1, v1, w1, h⟩
    · cases h
  · cases h
theorem run_keyStays [Val] {t : TypeId} {a : AV} (h : keyOk P t a = true) {v : Value} (hv : VR μ a v) (w : World) : (Instr.keyThatStays v v).run P w = .ok v w := by
  obtain ⟨l, xs, cs, hl, e1, v1, w1, hf⟩ := keyOk_ok h hv
  have hp := allFit_plain l xs cs v1 hf
  have : Instr.sameBits 10000 v v = true := by
    rcases w1 with ⟨_, arr, rfl, rfl⟩ | ⟨_, rfl⟩
    · have : ∀ (L : List Value), (∀ v ∈ L, IsPlain v) → ((L.zip L).all fun (x, y) => Instr.sameBits 9999 x y) = true := by
        intro L
        induction L with
        | nil => intro _; rfl
        | cons x L ih => intro hL; simp [sameBits_plain 9999 (hL x (by simp)), ih (fun y hy => hL y (by simp [hy]))]
      simp only [Instr.sameBits, beq_self_eq_true, Bool.true_and]
      exact this _ hp
    · exact sameBits_plain _ (hp v (by simp))
  simp [Instr.keyThatStays, this]
theorem allFit_append : ∀ (l1 l2 : List TypeDesc) (x1 x2 : List AV), x1.length = l1.length → allFit (l1 ++ l2) (x1 ++ x2) = (allFit l1 x1 && allFit l2 x2)
  | [], l2, x1, x2, h => by have := List.eq_nil_of_length_eq_zero h; subst this; simp [allFit]
  | d :: l1, l2, [], x2, h => by simp at h
  | d :: l1, l2, a :: x1, x2, h => by simp [allFit, allFit_append l1 l2 x1 x2 (by simpa using h), Bool.and_assoc]
def CheckA [Val] (P : Program) (μ : Mp) (em : Bool) (D : Nat) (t : TypeId) (l : List TypeDesc) : Prop :=
  ∀ (xs : List AV) (cs : List Value) (v : Value) (w : World), xs.length = l.length → VRs μ xs cs → Whole P t v cs → allFit l xs = true → (Instr.checkKey em D t v).run P w = .ok () w
theorem check_fields [Val] {em : Bool} {D d : Nat} (ih : ∀ t l, leaves P d t = some l → CheckA P μ em D t l) {arr : Array Value} {xs : List AV} (hx : VRs μ xs arr.toList) :
    ∀ (fs : List Field) (acc l : List TypeDesc) (w : World), fs.foldl (fieldLeaves (leaves P d)) (some acc) = some l → xs.length = l.length → allFit (l.drop acc.length) (xs.drop acc.length) = true →
      (forIn (m := Sem) fs PUnit.unit fun f _ => (if f.name ≠ "_" then do Instr.checkKey em D f.type (← part f.type arr f.offset); pure (ForInStep.yield PUnit.unit) else pure (ForInStep.yield PUnit.unit) : Sem (ForInStep PUnit))).run P w = .ok PUnit.unit w
  | [], acc, l, w, h, h1, h3 => by simp
  | f :: fs, acc, l, w, h, h1, h3 => by
    obtain ⟨g1, g2, k, g3, g4⟩ := fieldLeaves_cons h
    obtain ⟨rest, hrest⟩ := fieldLeaves_prefix fs _ _ g4
    have hl : l.length = acc.length + k.length + rest.length := by rw [hrest]; simp [Nat.add_assoc]
    have hax : xs.length = arr.size := by have := hx.1; simpa using this
    obtain ⟨va, p1, p2⟩ := part_whole g3 (xs := arr) (off := f.offset) (by omega) w
    have hd : l.drop acc.length = k ++ rest := by rw [hrest]; simp
    have hxs : xs.drop acc.length = (xs.drop acc.length).take k.length ++ xs.drop (acc ++ k).length := by
      rw [List.length_append, ← List.drop_drop, List.take_append_drop]
    rw [hd, hxs, allFit_append _ _ _ _ (by simp; omega), Bool.and_eq_true] at h3
    have hrd : l.drop (acc ++ k).length = rest := by rw [hrest, List.drop_left]
    have hq := ih f.type k g3 ((xs.drop acc.length).take k.length) _ va w (by simp; omega) ((hx.drop acc.length).take k.length) (g2 ▸ p2) h3.1
    have := check_fields ih hx fs (acc ++ k) l w g4 h1 (by rw [hrd]; exact h3.2)
    simp only [List.forIn_cons, Sem.run_bind, g1, ne_eq, not_false_eq_true, if_true, p1, hq, Result.andThen_ok, Sem.run_pure]
    exact this
theorem check_items [Val] {em : Bool} {D : Nat} {e : TypeId} {k : List TypeDesc} {d : Nat} (hk : leaves P d e = some k) (ih : CheckA P μ em D e k) {arr : Array Value} {xs : List AV} (hx : VRs μ xs arr.toList) :
    ∀ (m j : Nat) (w : World), xs.length = (j + m) * k.length → allFit (List.replicate m k).flatten (xs.drop (j * k.length)) = true →
      (forIn (m := Sem) (List.range' j m) PUnit.unit fun i _ => (do Instr.checkKey em D e (← part e arr (i * (← sizeOf e))); pure (ForInStep.yield PUnit.unit) : Sem (ForInStep PUnit))).run P w = .ok PUnit.unit w
  | 0, j, w, h1, h3 => by simp
  | m + 1, j, w, h1, h3 => by
    have hax : xs.length = arr.size := by have := hx.1; simpa using this
    have hm : j * k.length + k.length ≤ (j + (m + 1)) * k.length := by
      have : (j + (m + 1)) * k.length = j * k.length + k.length + m * k.length := by rw [Nat.add_mul, Nat.add_mul]; omega
      omega
    obtain ⟨va, p1, p2⟩ := part_whole hk (xs := arr) (off := j * k.length) (by omega) w
    have hxs : xs.drop (j * k.length) = (xs.drop (j * k.length)).take k.length ++ xs.drop ((j + 1) * k.length) := by
      rw [Nat.add_mul, Nat.one_mul, ← List.drop_drop, List.take_append_drop]
    rw [List.replicate_succ, List.flatten_cons, hxs, allFit_append _ _ _ _ (by simp; omega), Bool.and_eq_true] at h3
    have hq := ih ((xs.drop (j * k.length)).take k.length) _ va w (by simp; omega) ((hx.drop _).take _) p2 h3.1
    have := check_items hk ih hx m (j + 1) w (by rw [h1]; congr 1; omega) h3.2
    simp only [List.range'_succ, List.forIn_cons, Sem.run_bind, run_sizeOf (leaves_size hk) w, p1, hq, Result.andThen_ok, Sem.run_pure]
    exact this
theorem check_leaves [Val] (em : Bool) : ∀ (d : Nat) (t : TypeId) (l : List TypeDesc), leaves P d t = some l → ∀ D, d ≤ D → CheckA P μ em D t l
  | 0, t, l, h, _, _ => by simp [leaves] at h
  | d + 1, t, l, h, D, hD => by
    obtain ⟨D, rfl⟩ : ∃ m, D = m + 1 := ⟨D - 1, by omega⟩
    intro xs cs v w h1 hx wa hf
    have hb := leaves_body h
    cases hu : P.underlying t with
    | none => simp [hu] at hb
    | some dd =>
      cases dd with
      | bool => unfold Instr.checkKey; simp [run_underlying hu]
      | int k => unfold Instr.checkKey; simp [run_underlying hu]
      | string => unfold Instr.checkKey; simp [run_underlying hu]
      | struct fs =>
        simp only [hu] at hb
        split at hb
        · cases hb
        · obtain ⟨arr, rfl, ha⟩ := wa.agg (tagg_struct hu)
          subst ha
          unfold Instr.checkKey
          simp only [Sem.run_bind, run_underlying hu, Result.andThen_ok]
          rw [← Array.forIn_toList]
          have := check_fields (d := d) (fun t' l' h' => check_leaves em d t' l' h' D (by omega)) hx fs.toList [] l w hb h1 (by simpa using hf)
          exact (congrArg (fun r : Result PUnit => r.andThen fun _ w' => Sem.run P (pure ()) w') this).trans rfl
      | array n e =>
        simp only [hu] at hb
        cases hk : leaves P d e with
        | none => simp [hk] at hb
        | some k =>
          simp [hk] at hb
          subst hb
          obtain ⟨arr, rfl, ha⟩ := wa.agg (tagg_array hu)
          subst ha
          unfold Instr.checkKey
          simp only [Sem.run_bind, run_underlying hu, Result.andThen_ok]
          simp only [Std.Legacy.Range.forIn_eq_forIn_range', Std.Legacy.Range.size, Nat.sub_zero, Nat.add_one_sub_one, Nat.div_one]
          have := check_items hk (check_leaves em d e k hk D (by omega)) hx n 0 w (by rw [h1]; simp) (by simpa using hf)
          exact (congrArg (fun r : Result PUnit => r.andThen fun _ w' => Sem.run P (pure ()) w') this).trans rfl
      | _ => simp [hu] at hb
theorem run_checkKey_ok [Val] {t : TypeId} {a : AV} (h : keyOk P t a = true) {v : Value} (hv : VR μ a v) (em : Bool) (w : World) : (Instr.checkKey em 10000 t v).run P w = .ok () w := by
  obtain ⟨l, xs, cs, hl, e1, v1, w1, hf⟩ := keyOk_ok h hv
  exact check_leaves em 6 t l hl 10000 (by omega) xs cs v w e1 v1 w1 hf
end
end Go.Ab

namespace Go.Ab
section
variable {P : Program} {μ : Mp} {H : Hp} {w : World}
def ER [Val] (μ : Mp) (es : List (AV × AV)) (ces : List MapEntry) : Prop :=
  es.length = ces.length ∧ ∀ (i : Nat) k v e, es[i]? = some (k, v) → ces[i]? = some e → VR μ k e.key ∧ VR μ v e.val
theorem ER.tail [Val] {x : AV × AV} {e : MapEntry} {es : List (AV × AV)} {ces : List MapEntry} (h : ER μ (x :: es) (e :: ces)) : ER μ es ces :=
  ⟨by simpa using h.1, fun i k v e' h1 h2 => h.2 (i + 1) k v e' (by simpa using h1) (by simpa using h2)⟩
def Found (es : List (AV × AV)) (ces : List MapEntry) (key : Value) (i : Nat) (r : Option (Nat × AV)) (q : Option (Nat × Value)) : Prop :=
  (r = none ∧ q = none) ∨ ∃ j k' v e, r = some (i + j, v) ∧ q = some (i + j, e.val) ∧ es[j]? = some (k', v) ∧ ces[j]? = some e ∧ e.key = key
theorem Found.next {x : AV × AV} {e : MapEntry} {es : List (AV × AV)} {ces : List MapEntry} {key : Value} {i : Nat} {r : Option (Nat × AV)} {q : Option (Nat × Value)} (h : Found es ces key (i + 1) r q) : Found (x :: es) (e :: ces) key i r q := by
  rcases h with h | ⟨j, k', v, e', h1, h2, h3, h4, h5⟩
  · exact .inl h
  · exact .inr ⟨j + 1, k', v, e', by rw [h1]; congr 2; omega, by rw [h2]; congr 2; omega, by simpa using h3, by simpa using h4, h5⟩
theorem sameNow_run {t : TypeId} {d : TypeDesc} (hu : P.underlying t = some d) {x y : Value} {b : Bool} (h : Instr.sameNow d x y = some b) (w : World) : (Op.equal t x y).run P w = .ok b w := by
  unfold Instr.sameNow at h
  split at h
  · split at h
    · rename_i hk
      subst hk
      simp at h; subst h
      exact run_equalIn_int w 9999 t _ _ _ _ hu
    · cases h
  · simp at h; subst h
    rw [beq_toListBytes]
    exact run_equalIn_string w 9999 t _ _ hu
  · simp at h; subst h
    exact run_equalIn_bool w 9999 t _ _ hu
  · cases h
theorem equal_run [Val] {t : TypeId} {a b : AV} {r : Bool} (h : eqKey P t a b = .ok r) {x y : Value} (ha : VR μ a x) (hb : VR μ b y) (w : World) : (Op.equal t x y).run P w = .ok r w ∧ (r = true → x = y) := by
  unfold eqKey at h
  split at h
  · rename_i q hq
    simp only [Res.ok.injEq] at h; subst h
    exact ⟨eqFlat_run hq ha hb w 10000 (by omega), fun e => by subst e; exact eqFlat_same hq ha hb⟩
  · cases h
theorem findNow_found [Val] {t : TypeId} {d : TypeDesc} (hu : P.underlying t = some d) {k : AV} {key : Value} (hk : VR μ k key) :
    ∀ (es : List (AV × AV)) (ces : List MapEntry) (i : Nat) (r : Option (Nat × AV)) (q : Option (Nat × Value)), ER μ es ces → findA P t k es i = .ok r → Instr.findNow d key ces i = some q → Found es ces key i r q
  | [], [], i, r, q, _, h1, h2 => by simp [findA] at h1; simp [Instr.findNow] at h2; subst h1; subst h2; exact .inl ⟨rfl, rfl⟩
  | [], _ :: _, _, _, _, hE, _, _ => by have := hE.1; simp at this
  | _ :: _, [], _, _, _, hE, _, _ => by have := hE.1; simp at this
  | (k', v) :: es, e :: ces, i, r, q, hE, h1, h2 => by
    obtain ⟨hk', hv⟩ := hE.2 0 k' v e rfl rfl
    obtain ⟨b, h3, h4⟩ := Res.bind_ok h1
    obtain ⟨g1, g2⟩ := equal_run h3 hk hk' default
    unfold Instr.findNow at h2
    split at h2
    · rename_i hs
      have := sameNow_run hu hs default
      rw [this] at g1
      have hb : b = true := by simpa using g1.symm
      subst hb
      simp only [Res.ok.injEq] at h4; simp at h2
      subst h4; subst h2
      exact .inr ⟨0, k', v, e, rfl, rfl, rfl, rfl, (g2 rfl).symm⟩
    · rename_i hs
      have := sameNow_run hu hs default
      rw [this] at g1
      have hb : b = false := by simpa using g1.symm
      subst hb
      exact (findNow_found hu hk es ces (i + 1) r q hE.tail h4 h2).next
    · cases h2
theorem findAsking_found [Val] {t : TypeId} {k : AV} {key : Value} (hk : VR μ k key) (w : World) :
    ∀ (es : List (AV × AV)) (ces : List MapEntry) (i : Nat) (r : Option (Nat × AV)), ER μ es ces → findA P t k es i = .ok r → ∃ q, (Instr.findAsking t key ces i).run P w = .ok q w ∧ Found es ces key i r q
  | [], [], i, r, _, h1 => by simp [findA] at h1; subst h1; exact ⟨none, by simp [Instr.findAsking], .inl ⟨rfl, rfl⟩⟩
  | [], _ :: _, _, _, hE, _ => by have := hE.1; simp at this
  | _ :: _, [], _, _, hE, _ => by have := hE.1; simp at this
  | (k', v) :: es, e :: ces, i, r, hE, h1 => by
    obtain ⟨hk', hv⟩ := hE.2 0 k' v e rfl rfl
    obtain ⟨b, h3, h4⟩ := Res.bind_ok h1
    obtain ⟨g1, g2⟩ := equal_run h3 hk hk' w
    cases b with
    | true =>
      simp only [Res.ok.injEq] at h4; subst h4
      exact ⟨some (i, e.val), by simp [Instr.findAsking, g1], .inr ⟨0, k', v, e, rfl, rfl, rfl, rfl, (g2 rfl).symm⟩⟩
    | false =>
      obtain ⟨q, q1, q2⟩ := findAsking_found hk w es ces (i + 1) r hE.tail h4
      exact ⟨q, by simp [Instr.findAsking, g1, q1], q2.next⟩
theorem findKey_found [Val] {t : TypeId} {d : TypeDesc} (hu : P.underlying t = some d) {k : AV} {key : Value} (hk : VR μ k key) (w : World) {es : List (AV × AV)} {ces : List MapEntry} {r : Option (Nat × AV)} (hE : ER μ es ces) (h : findA P t k es 0 = .ok r) :
    ∃ q, (Instr.findKey t key ces).run P w = .ok q w ∧ Found es ces key 0 r q := by
  cases hn : Instr.findNow d key ces 0 with
  | some q => exact ⟨q, by simp [Instr.findKey, run_underlying hu, hn], findNow_found hu hk es ces 0 r q hE h hn⟩
  | none =>
    obtain ⟨q, q1, q2⟩ := findAsking_found hk w es ces 0 r hE h
    exact ⟨q, by simp [Instr.findKey, run_underlying hu, hn, q1], q2⟩
theorem keyOk_under {t : TypeId} {k : AV} (h : keyOk P t k = true) : ∃ d, P.underlying t = some d := by
  unfold keyOk at h
  split at h
  · rename_i l hl
    have := leaves_body hl
    cases hu : P.underlying t with
    | none => simp [hu] at this
    | some d => exact ⟨d, rfl⟩
  · cases h
theorem run_getMap {c : Nat} {es : Array MapEntry} {n : Nat} (h : w.heap[c]? = some (.map es n)) : (getObj c).run P w = .ok (.map es n) w := by simp [getObj, Sem.run, h]
theorem run_setMap {c : Nat} {es : Array MapEntry} {n : Nat} (h : w.heap[c]? = some (.map es n)) (o' : Obj) : (setObj c o').run P w = .ok () { w with heap := w.heap.set! c o' } := by
  simp [setObj, Sem.run, h]
def hitK (eq : AV → Res Bool) (e : AV × AV) : Bool := match eq e.1 with
  | .ok true => true
  | _ => false
def DecK (eq : AV → Res Bool) (es : List (AV × AV)) : Prop := ∀ e ∈ es, ∃ b, eq e.1 = .ok b
theorem DecK.tail {eq : AV → Res Bool} {e : AV × AV} {es : List (AV × AV)} (h : DecK eq (e :: es)) : DecK eq es := fun x hx => h x (List.mem_cons_of_mem _ hx)
theorem soleA_ok {eq : AV → Res Bool} : ∀ (es : List (AV × AV)) (seen : Bool), soleA eq es seen = true → DecK eq es ∧ (es.filter (hitK eq)).length + (if seen then 1 else 0) ≤ 1
  | [], seen, _ => ⟨fun _ h => (by cases h), by cases seen <;> simp⟩
  | (k, v) :: es, seen, h => by
    unfold soleA at h
    split at h
    · rename_i hk
      simp only [Bool.and_eq_true, Bool.not_eq_true'] at h
      obtain ⟨rfl, h⟩ := h
      obtain ⟨h1, h2⟩ := soleA_ok es true h
      refine ⟨fun e he => ?_, ?_⟩
      · rcases List.mem_cons.1 he with rfl | he
        · exact ⟨true, hk⟩
        · exact h1 e he
      · have : hitK eq (k, v) = true := by simp [hitK, hk]
        rw [List.filter_cons_of_pos this]
        simp at h2 ⊢
        omega
    · rename_i hk
      obtain ⟨h1, h2⟩ := soleA_ok es seen h
      refine ⟨fun e he => ?_, ?_⟩
      · rcases List.mem_cons.1 he with rfl | he
        · exact ⟨false, hk⟩
        · exact h1 e he
      · have : ¬ hitK eq (k, v) = true := by simp [hitK, hk]
        rw [List.filter_cons_of_neg this]
        exact h2
    · cases h
theorem findA_filter {t : TypeId} {k : AV} : ∀ (es : List (AV × AV)) (i : Nat), DecK (eqKey P t k) es → ∃ r, findA P t k es i = .ok r ∧ r.map (·.2) = (es.filter (hitK (eqKey P t k))).head?.map (·.2)
  | [], i, _ => ⟨none, rfl, rfl⟩
  | (k', v) :: es, i, h => by
    obtain ⟨b, hb⟩ := h (k', v) List.mem_cons_self
    have hb : eqKey P t k k' = .ok b := hb
    cases b with
    | true =>
      refine ⟨some (i, v), by simp [findA, hb, Res.bind], ?_⟩
      have : hitK (eqKey P t k) (k', v) = true := by simp [hitK, hb]
      rw [List.filter_cons_of_pos this]
      rfl
    | false =>
      obtain ⟨r, h1, h2⟩ := findA_filter es (i + 1) h.tail
      refine ⟨r, by simp [findA, hb, Res.bind, h1], ?_⟩
      have : ¬ hitK (eqKey P t k) (k', v) = true := by simp [hitK, hb]
      rw [List.filter_cons_of_neg this]
      exact h2
theorem findA_none {t : TypeId} {k : AV} : ∀ (es : List (AV × AV)) (i : Nat), findA P t k es i = .ok none → DecK (eqKey P t k) es ∧ es.filter (hitK (eqKey P t k)) = []
  | [], i, _ => ⟨fun _ h => (by cases h), rfl⟩
  | (k', v) :: es, i, h => by
    obtain ⟨b, h1, h2⟩ := Res.bind_ok h
    cases b with
    | true => simp at h2
    | false =>
      obtain ⟨g1, g2⟩ := findA_none es (i + 1) h2
      refine ⟨fun e he => ?_, ?_⟩
      · rcases List.mem_cons.1 he with rfl | he
        · exact ⟨false, h1⟩
        · exact g1 e he
      · have : ¬ hitK (eqKey P t k) (k', v) = true := by simp [hitK, h1]
        rw [List.filter_cons_of_neg this, g2]
theorem perm_one {α : Type} {a b : List α} (h : List.Perm a b) (hl : b.length ≤ 1) : a = b := by
  match b, hl with
  | [], _ => exact h.eq_nil
  | [x], _ => exact List.perm_singleton.1 h
theorem getU_ok {b : Nat} {es : List (AV × AV)} (h : getU H b = some es) : H.b.get b = some (.umap es) := by
  unfold getU at h
  split at h
  · rename_i e; cases h; exact e
  · cases h
theorem lookup_sim [Val] (hH : HR μ H w) {t : TypeId} {m k : AV} {m' k' : Value} (hm : VR μ m m') (hk : VR μ k k') {ok : Bool} {v : AV} (h : lookupA P H t m k ok = .ok v) : Sim P (Instr.lookup t m' k' ok) μ H w v H := by
  unfold lookupA at h
  obtain ⟨d, h1, h2⟩ := Res.bind_ok h
  have hu := tunder_ok h1
  split at h2
  · rename_i kt et
    split at h2
    · rename_i hko
      obtain ⟨kd, hkd⟩ := keyOk_under hko
      obtain ⟨es, h3, h4⟩ := Res.bind_ok h2
      obtain ⟨r, h5, h6⟩ := Res.bind_ok h4
      obtain ⟨p, h7, h8⟩ := Res.bind_ok h6
      simp only [Res.ok.injEq] at h8
      have hes : ∃ (ces : Array MapEntry) (clock : Nat) (es' : List (AV × AV)) (r' : Option (Nat × AV)), ER μ es' ces.toList ∧ findA P kt k es' 0 = .ok r' ∧ r'.map (·.2) = r.map (·.2) ∧
          ((m' = .map none ∧ ces = #[]) ∨ ∃ c, m' = .map (some c) ∧ w.heap[c]? = some (.map ces clock)) := by
        split at h3
        · simp only [Res.ok.injEq] at h3; subst h3
          cases hm
          exact ⟨#[], 0, [], r, ⟨rfl, fun i k v e h => by simp at h⟩, h5, rfl, .inl ⟨rfl, rfl⟩⟩
        · cases hm with
          | map _ c s N hm =>
            unfold getMapL at h3
            split at h3
            · rename_i es0 hu0
              split at h3
              · rename_i hsole
                simp only [Res.ok.injEq] at h3; subst h3
                obtain ⟨ces, clock, l, e1, e2, e3, e4⟩ := hH.blk _ _ c s N (getU_ok hu0) hm
                obtain ⟨d1, d2⟩ := soleA_ok es0 false hsole
                have dl : DecK (eqKey P kt k) l := fun e he => d1 e (e2.mem_iff.1 he)
                obtain ⟨r', q1, q2⟩ := findA_filter l 0 dl
                obtain ⟨r0, q3, q4⟩ := findA_filter es0 0 d1
                rw [h5] at q3; cases q3
                have hp := perm_one (e2.filter (hitK (eqKey P kt k))) (by simpa using d2)
                refine ⟨ces, clock, l, r', ⟨by simpa using e3, fun i k v e a1 a2 => e4 i k v e a1 (by simpa using a2)⟩, q1, by rw [q2, q4, hp], .inr ⟨c, rfl, e1⟩⟩
              · cases h3
            · obtain ⟨ces, e1, e2, e3, e4⟩ := getMap_ok hH hm h3
              refine ⟨ces, ces.size, es, r, ⟨by simpa using e2, fun i k v e a1 a2 => ?_⟩, h5, rfl, .inr ⟨c, rfl, e1⟩⟩
              have := e3 i k v e a1 (by simpa using a2)
              exact ⟨this.1, this.2.1⟩
        · cases h3
      obtain ⟨ces, clock, es', r', hE, h5', hrr, hces⟩ := hes
      obtain ⟨q, q1, q2⟩ := findKey_found hkd hk w hE h5'
      have hres : ∃ v', VR μ p.1 v' ∧ ((q = none ∧ p.2 = false ∧ (zeroValue et).run P w = .ok v' w) ∨ ∃ j, q = some (j, v') ∧ p.2 = true) := by
        rcases q2 with ⟨rfl, rfl⟩ | ⟨j, k0, v0, e, rfl, rfl, g3, g4, g5⟩
        · have hr : r = none := by
            cases r with
            | none => rfl
            | some x => simp at hrr
          subst hr
          obtain ⟨z, h9, h10⟩ := Res.bind_ok h7
          simp only [Res.ok.injEq] at h10; subst h10
          obtain ⟨it, zv, z1, z2, z3⟩ := tzero_ok μ h9
          exact ⟨zv, z3, .inl ⟨rfl, rfl, run_zero z1 z2 w⟩⟩
        · obtain ⟨i0, hr⟩ : ∃ i0, r = some (i0, v0) := by
            cases r with
            | none => simp at hrr
            | some x => simp at hrr; exact ⟨x.1, by rw [hrr]⟩
          subst hr
          simp only [Res.ok.injEq] at h7; subst h7
          exact ⟨e.val, (hE.2 j k0 v0 e g3 g4).2, .inr ⟨_, rfl, rfl⟩⟩
      obtain ⟨v', hv', hrun⟩ := hres
      subst h8
      have key : (Instr.lookup t m' k' ok).run P w = .ok (if ok then .tuple #[v', .bool p.2] else v') w := by
        unfold Instr.lookup
        rcases hces with ⟨rfl, rfl⟩ | ⟨c, rfl, hc⟩
        · rcases hrun with ⟨rfl, g1, g2⟩ | ⟨j, rfl, g1⟩
          · simp at q1
            simp [run_underlying hu, run_checkKey_ok hko hk, q1, g1, g2]
          · simp at q1
            simp [run_underlying hu, run_checkKey_ok hko hk, q1, g1]
        · rcases hrun with ⟨rfl, g1, g2⟩ | ⟨j, rfl, g1⟩
          · simp [run_underlying hu, run_getMap hc, run_checkKey_ok hko hk, q1, g1, g2]
          · simp [run_underlying hu, run_getMap hc, run_checkKey_ok hko hk, q1, g1]
      refine Sim.still hH key ?_
      split
      · exact .tuple _ _ rfl fun i a b h1 h2 => (VRs.cons hv' (.cons (.bool p.2) (.nil μ))).2 i a b h1 (by simpa using h2)
      · exact hv'
    · cases h2
  · cases h2
end
end Go.Ab

namespace Go.Ab
section
variable {P : Program} {μ : Mp} {H : Hp} {w : World}
theorem setAt_length (x : AV × AV) : ∀ (es : List (AV × AV)) (i : Nat), (setAt es i x).length = es.length
  | [], _ => rfl
  | _ :: _, 0 => rfl
  | _ :: es, i + 1 => by simp [setAt, setAt_length x es i]
theorem setAt_get (x : AV × AV) : ∀ (es : List (AV × AV)) (i j : Nat), i < es.length → (setAt es i x)[j]? = if i = j then some x else es[j]?
  | [], i, j, h => by simp at h
  | e :: es, 0, 0, _ => by simp [setAt]
  | e :: es, 0, j + 1, _ => by simp [setAt]
  | e :: es, i + 1, 0, _ => by simp [setAt]
  | e :: es, i + 1, j + 1, h => by
    have := setAt_get x es i j (by simpa using h)
    simp [setAt, this]
def EM [Val] (μ : Mp) (es : List (AV × AV)) (ces : Array MapEntry) : Prop :=
  es.length = ces.size ∧ ∀ (i : Nat) k v e, es[i]? = some (k, v) → ces[i]? = some e → VR μ k e.key ∧ VR μ v e.val ∧ e.born = i
theorem EM.er [Val] {es : List (AV × AV)} {ces : Array MapEntry} (h : EM μ es ces) : ER μ es ces.toList :=
  ⟨by simpa using h.1, fun i k v e a1 a2 => by have := h.2 i k v e a1 (by simpa using a2); exact ⟨this.1, this.2.1⟩⟩
theorem EM.push [Val] {es : List (AV × AV)} {ces : Array MapEntry} (h : EM μ es ces) {k v : AV} {k' v' : Value} (hk : VR μ k k') (hv : VR μ v v') : EM μ (es ++ [(k, v)]) (ces.push ⟨k', v', ces.size⟩) := by
  refine ⟨by simp [h.1], fun i a b e h1 h2 => ?_⟩
  rw [List.getElem?_append] at h1
  rw [Array.getElem?_push] at h2
  have hl := h.1
  split at h1
  · rename_i hlt
    rw [if_neg (by omega)] at h2
    exact h.2 i a b e h1 h2
  · rename_i hge
    have hi : i = es.length := by
      rcases Nat.lt_or_ge (i - es.length) 1 with h3 | h3
      · omega
      · rw [List.getElem?_eq_none (by simpa using h3)] at h1; cases h1
    rw [if_pos (by omega)] at h2
    subst hi
    simp at h1 h2
    obtain ⟨rfl, rfl⟩ := h1
    subst h2
    exact ⟨hk, hv, hl.symm⟩
theorem EM.setAt [Val] {es : List (AV × AV)} {ces : Array MapEntry} (h : EM μ es ces) {i : Nat} {k v : AV} {e : MapEntry} (he : ces[i]? = some e) (f : MapEntry → MapEntry) (hk : VR μ k (f e).key) (hv : VR μ v (f e).val) (hb : (f e).born = e.born) :
    EM μ (setAt es i (k, v)) (ces.modify i f) := by
  have hlt : i < ces.size := (Array.getElem?_eq_some_iff.1 he).1
  have hl := h.1
  refine ⟨by rw [setAt_length]; simp [hl], fun j a b e' h1 h2 => ?_⟩
  rw [setAt_get _ _ _ _ (by omega)] at h1
  rw [Array.getElem?_modify] at h2
  split at h1
  · rename_i hij
    subst hij
    rw [if_pos rfl, he] at h2
    simp at h1 h2
    obtain ⟨rfl, rfl⟩ := h1
    subst h2
    refine ⟨hk, hv, ?_⟩
    rw [hb]
    have hlt' : i < es.length := by omega
    exact (h.2 i es[i].1 es[i].2 e (by simp [hlt']) he).2.2
  · rename_i hij
    rw [if_neg hij] at h2
    exact h.2 j a b e' h1 h2
theorem set_map [Val] {i c s N : Nat} (hH : HR μ H w) {es : List (AV × AV)} (hl : H.b.get i = some (.map es)) (hm : μ i = some (c, s, N)) {es' : List (AV × AV)} {ces' : Array MapEntry} (hE : EM μ es' ces') {n : Nat} (hn : n = ces'.size) :
    Ext μ H w μ ⟨H.n, H.b.set i (.map es')⟩ { w with heap := w.heap.set! c (.map ces' n) } ∧ HR μ ⟨H.n, H.b.set i (.map es')⟩ { w with heap := w.heap.set! c (.map ces' n) } := by
  subst hn
  have hc := (hH.dom i c s N hm).2
  have h1 : (w.heap.set! c (.map ces' ces'.size))[c]? = some (.map ces' ces'.size) := by simp [hc]
  have h2 : ∀ k, k ≠ c → (w.heap.set! c (.map ces' ces'.size))[k]? = w.heap[k]? := fun k hk => by simp [Ne.symm hk]
  refine ⟨Ext.setBlk _ hl (by simp) hm (by simp) h2 rfl rfl rfl, HR.setBlk hH hl (by simp) hm (by simp) h2 ?_⟩
  rw [h1]
  exact ⟨ces', rfl, hE.1, hE.2⟩
theorem mapUpdate_sim [Val] (hH : HR μ H w) {t : TypeId} {m k v : AV} {m' k' v' : Value} (hm : VR μ m m') (hk : VR μ k k') (hv : VR μ v v') {H' : Hp} (h : mapUpdateA P H t m k v = .ok H') : SimU P (Instr.mapUpdate t m' k' v') μ H w H' := by
  unfold mapUpdateA at h
  obtain ⟨d, h1, h2⟩ := Res.bind_ok h
  have hu := tunder_ok h1
  split at h2
  · rename_i kt et
    split at h2
    · rename_i hko
      obtain ⟨kd, hkd⟩ := keyOk_under hko
      split at h2
      · rename_i b
        split at h2
        · rename_i es0 hu0
          obtain ⟨r, h5, h6⟩ := Res.bind_ok h2
          cases hm with
          | map _ c s N hm =>
            cases r with
            | some x => simp at h6
            | none =>
              simp only [Res.ok.injEq] at h6; subst h6
              obtain ⟨ces, clock, l, e1, e2, e3, e4⟩ := hH.blk _ _ c s N (getU_ok hu0) hm
              obtain ⟨d1, d2⟩ := findA_none es0 0 h5
              have dl : DecK (eqKey P kt k) l := fun e he => d1 e (e2.mem_iff.1 he)
              obtain ⟨r', p1, p2⟩ := findA_filter l 0 dl
              have hp := perm_one (e2.filter (hitK (eqKey P kt k))) (by rw [d2]; simp)
              have hr' : r' = none := by
                rw [hp, d2] at p2
                cases r' with
                | none => rfl
                | some x => simp at p2
              subst hr'
              have hE : ER μ l ces.toList := ⟨by simpa using e3, fun i k v e a1 a2 => e4 i k v e a1 (by simpa using a2)⟩
              obtain ⟨q, q1, q2⟩ := findKey_found hkd hk w hE p1
              have hq : q = none := by
                rcases q2 with ⟨_, h⟩ | ⟨j, k0, v0, e, h, _⟩
                · exact h
                · cases h
              subst hq
              have hc := (hH.dom b c s N hm).2
              have hBR : BR μ s N (.umap (es0 ++ [(k, v)])) (w.heap.set! c (.map (ces.push ⟨k', v', clock⟩) (clock + 1)))[c]? := by
                refine ⟨ces.push ⟨k', v', clock⟩, clock + 1, l ++ [(k, v)], by simp [hc], e2.append_right _, by simp [e3], fun i a b' e h1 h2 => ?_⟩
                rw [List.getElem?_append] at h1
                rw [Array.getElem?_push] at h2
                split at h1
                · rename_i hlt
                  rw [if_neg (by omega)] at h2
                  exact e4 i a b' e h1 h2
                · rename_i hge
                  have hi : i = l.length := by
                    rcases Nat.lt_or_ge (i - l.length) 1 with h3 | h3
                    · omega
                    · rw [List.getElem?_eq_none (by simpa using h3)] at h1; cases h1
                  rw [if_pos (by omega)] at h2
                  subst hi
                  simp at h1 h2
                  obtain ⟨rfl, rfl⟩ := h1
                  subst h2
                  exact ⟨hk, hv⟩
              have h2' : ∀ k2, k2 ≠ c → (w.heap.set! c (.map (ces.push ⟨k', v', clock⟩) (clock + 1)))[k2]? = w.heap[k2]? := fun k2 hk2 => by simp [Ne.symm hk2]
              refine ⟨μ, { w with heap := w.heap.set! c (.map (ces.push ⟨k', v', clock⟩) (clock + 1)) }, ?_, Ext.setBlk _ (getU_ok hu0) (by simp) hm (by simp) h2' rfl rfl rfl, HR.setBlk hH (getU_ok hu0) (by simp) hm (by simp) h2' hBR⟩
              simp [Instr.mapUpdate, run_underlying hu, run_getMap e1, run_checkKey_ok hko hk, q1, run_setMap e1]
        obtain ⟨es, h3, h4⟩ := Res.bind_ok h2
        obtain ⟨r, h5, h6⟩ := Res.bind_ok h4
        cases hm with
        | map _ c s N hm =>
          obtain ⟨ces, e1, e2, e3, e4⟩ := getMap_ok hH hm h3
          have hE : EM μ es ces := ⟨e2, e3⟩
          obtain ⟨q, q1, q2⟩ := findKey_found hkd hk w hE.er h5
          rcases q2 with ⟨rfl, rfl⟩ | ⟨j, k0, v0, e, rfl, rfl, g3, g4, g5⟩
          · simp only [Res.ok.injEq] at h6; subst h6
            obtain ⟨a1, a2⟩ := set_map hH e4 hm (hE.push hk hv) (n := ces.size + 1) (by simp)
            refine ⟨μ, _, ?_, a1, a2⟩
            simp [Instr.mapUpdate, run_underlying hu, run_getMap e1, run_checkKey_ok hko hk, q1, run_setMap e1]
          · simp only [Res.ok.injEq] at h6; subst h6
            simp only [Nat.zero_add] at q1
            have g4' : ces[j]? = some e := by simpa using g4
            obtain ⟨a1, a2⟩ := set_map hH e4 hm (hE.setAt g4' (fun e => { e with key := k', val := v' }) hk hv rfl) (n := ces.size) (by simp)
            refine ⟨μ, _, ?_, by rw [Nat.zero_add]; exact a1, by rw [Nat.zero_add]; exact a2⟩
            simp [Instr.mapUpdate, run_underlying hu, run_getMap e1, run_checkKey_ok hko hk, q1, g4', g5, run_keyStays hko hk, run_setMap e1]
      · cases h2
    · cases h2
  · cases h2
theorem mapEntry_sim [Val] (hH : HR μ H w) {t : TypeId} {m k : AV} {m' k' : Value} (hm : VR μ m m') (hk : VR μ k k') {r : AV × Hp} (h : mapEntryA P H t m k = .ok r) : Sim P (Instr.mapEntry t m' k') μ H w r.1 r.2 := by
  unfold mapEntryA at h
  obtain ⟨d, h1, h2⟩ := Res.bind_ok h
  have hu := tunder_ok h1
  split at h2
  · rename_i kt et
    split at h2
    · rename_i hko
      obtain ⟨kd, hkd⟩ := keyOk_under hko
      split at h2
      · rename_i b
        obtain ⟨es, h3, h4⟩ := Res.bind_ok h2
        obtain ⟨r, h5, h6⟩ := Res.bind_ok h4
        cases hm with
        | map _ c s N hm =>
          obtain ⟨ces, e1, e2, e3, e4⟩ := getMap_ok hH hm h3
          have hE : EM μ es ces := ⟨e2, e3⟩
          obtain ⟨q, q1, q2⟩ := findKey_found hkd hk w hE.er h5
          rcases q2 with ⟨rfl, rfl⟩ | ⟨j, k0, v0, e, rfl, rfl, g3, g4, g5⟩
          · obtain ⟨z, h7, h8⟩ := Res.bind_ok h6
            simp only [Res.ok.injEq] at h8; subst h8
            obtain ⟨it, zv, z1, z2, z3⟩ := tzero_ok μ h7
            obtain ⟨a1, a2⟩ := set_map hH e4 hm (hE.push hk z3) (n := ces.size + 1) (by simp)
            refine ⟨.tuple #[zv, .int .i64 es.length], μ, _, ?_, a1, a2, .tuple _ _ rfl fun i a b h1 h2 => (VRs.cons z3 (.cons (.int _ _) (.nil μ))).2 i a b h1 (by simpa using h2)⟩
            simp [Instr.mapEntry, run_underlying hu, run_getMap e1, run_checkKey_ok hko hk, q1, run_setMap e1, run_zero z1 z2, goInt, e2]
          · simp only [Res.ok.injEq] at h6; subst h6
            simp only [Nat.zero_add] at q1
            have g4' : ces[j]? = some e := by simpa using g4
            have hev := hE.2 j k0 v0 e g3 g4'
            obtain ⟨a1, a2⟩ := set_map hH e4 hm (hE.setAt (k := k) (v := v0) g4' (fun e => { e with key := k' }) hk hev.2.1 rfl) (n := ces.size) (by simp)
            refine ⟨.tuple #[e.val, .int .i64 j], μ, _, ?_, by rw [Nat.zero_add]; exact a1, by rw [Nat.zero_add]; exact a2, ?_⟩
            · simp [Instr.mapEntry, run_underlying hu, run_getMap e1, run_checkKey_ok hko hk, q1, g4', g5, run_keyStays hko hk, run_setMap e1, goInt, hev.2.2]
            · rw [Nat.zero_add]
              exact .tuple _ _ rfl fun i a b h1 h2 => (VRs.cons hev.2.1 (.cons (.int _ _) (.nil μ))).2 i a b h1 (by simpa using h2)
      · cases h2
    · cases h2
  · cases h2
theorem findIdx_born [Val] {es : List (AV × AV)} {ces : Array MapEntry} (hE : EM μ es ces) {j : Nat} (hj : j < ces.size) : ces.findIdx? (fun e => (e.born : Int) == (j : Int)) = some j := by
  rw [Array.findIdx?_eq_some_iff_getElem]
  have hl := hE.1
  have hb : ∀ i (h : i < ces.size), ces[i].born = i := fun i h => (hE.2 i (es[i]'(by omega)).1 (es[i]'(by omega)).2 ces[i] (by simp [show i < es.length by omega]) (by simp [h])).2.2
  refine ⟨hj, by simp [hb j hj], fun i hi => ?_⟩
  simp [hb i (by omega)]
  omega
theorem entryStore_sim [Val] (hH : HR μ H w) {t : TypeId} {m st v : AV} {m' st' v' : Value} (hm : VR μ m m') (hs : VR μ st st') (hv : VR μ v v') {H' : Hp} (h : entryStoreA H m st v = .ok H') : SimU P (Instr.entryStore t m' st' v') μ H w H' := by
  unfold entryStoreA at h
  split at h
  · rename_i b kk i
    obtain ⟨es, h3, h4⟩ := Res.bind_ok h
    split at h4
    · rename_i hi0
      split at h4
      · rename_i k0 v0 he
        simp only [Res.ok.injEq] at h4; subst h4
        cases hs
        cases hm with
        | map _ c s N hm =>
          obtain ⟨ces, e1, e2, e3, e4⟩ := getMap_ok hH hm h3
          have hE : EM μ es ces := ⟨e2, e3⟩
          have hlt : i.toNat < ces.size := by rw [← e2]; exact (List.getElem?_eq_some_iff.1 he).1
          have hce : ces[i.toNat]? = some ces[i.toNat] := by simp [hlt]
          have hev := hE.2 i.toNat k0 v0 _ he hce
          obtain ⟨a1, a2⟩ := set_map hH e4 hm (hE.setAt (k := k0) (v := v) hce (fun e => { e with val := v' }) hev.1 hv rfl) (n := ces.size) (by simp)
          refine ⟨μ, _, ?_, a1, a2⟩
          have hfi := findIdx_born hE hlt
          rw [Int.toNat_of_nonneg hi0] at hfi
          simp [Instr.entryStore, run_getMap e1, asInt, asIntOf, hfi, run_setMap e1]
      · cases h4
    · cases h4
  · cases h
end
end Go.Ab

namespace Go.Ab
section
variable {P : Program} {μ : Mp} {H : Hp} {w : World}
theorem newBlk_sim [Val] (hH : HR μ H w) (b : Blk) (o : Obj) (hbr : ∀ μ', Sub μ μ' → BR μ' 0 0 b (some o)) :
    Ext μ H w (μ.put H.n (w.heap.size, 0, 0)) (newBlk H b).2 (w.alloc o) ∧ HR (μ.put H.n (w.heap.size, 0, 0)) (newBlk H b).2 (w.alloc o) := by
  have hm := hH.none_n (Nat.le_refl H.n)
  exact ⟨Ext.alloc μ H w (Nat.le_refl _) hm o 0 b _ rfl, (hH.grow b).alloc (i := H.n) (by simp) hm (HT.get_set_self _ _ _) o 0 (hbr _ (Mp.sub_put _ hm))⟩
theorem range_sim [Val] (hH : HR μ H w) {t : TypeId} {x : AV} {x' : Value} (hx : VR μ x x') {r : AV × Hp} (h : rangeA P H t x = .ok r) : Sim P (Instr.range t x') μ H w r.1 r.2 := by
  unfold rangeA at h
  obtain ⟨d, h1, h2⟩ := Res.bind_ok h
  have hu := tunder_ok h1
  have hp : ∀ o : Nat, VR (μ.put H.n (w.heap.size, 0, 0)) (.ptr H.n 0) (.pointer (some ⟨w.heap.size, 0, none⟩)) := fun _ => .ptr _ _ _ 0 0 (Mp.put_self _ _ _)
  split at h2
  · rename_i s
    simp only [Res.ok.injEq] at h2; subst h2
    cases hx with
    | str _ b hb =>
      obtain ⟨a1, a2⟩ := newBlk_sim hH (.iter s 0) (.stringIter b 0) (fun μ' _ => ⟨rfl, b, rfl, hb⟩)
      exact ⟨_, _, _, by simp [Instr.range, run_underlying hu], a1, a2, hp 0⟩
  · simp only [Res.ok.injEq] at h2; subst h2
    cases hx
    obtain ⟨a1, a2⟩ := newBlk_sim hH (.miter none 0 0) (.mapIter none 0 #[] 0) (fun μ' _ => ⟨rfl, _, _, _, rfl⟩)
    exact ⟨_, _, _, by simp [Instr.range, run_underlying hu], a1, a2, hp 0⟩
  · rename_i m
    obtain ⟨es, h3, h4⟩ := Res.bind_ok h2
    simp only [Res.ok.injEq] at h4; subst h4
    cases hx with
    | map _ c s N hm =>
      obtain ⟨ces, e1, e2, e3, e4⟩ := getMap_ok hH hm h3
      obtain ⟨a1, a2⟩ := newBlk_sim hH (.miter (some m) es.length es.length) (.mapIter (some c) ces.size #[] ces.size) (fun μ' hs => ⟨rfl, c, s, N, hs _ _ hm, #[], by simp, by simp, by simp, by rw [e2]⟩)
      exact ⟨_, _, _, by simp [Instr.range, run_underlying hu, run_getMap e1], a1, a2, hp 0⟩
  · cases h2
theorem run_getIter {c : Nat} {b : ByteArray} {pos : Nat} (h : w.heap[c]? = some (.stringIter b pos)) : (getObj c).run P w = .ok (.stringIter b pos) w := by simp [getObj, Sem.run, h]
theorem run_setIter {c : Nat} {b : ByteArray} {pos : Nat} (h : w.heap[c]? = some (.stringIter b pos)) (o' : Obj) : (setObj c o').run P w = .ok () { w with heap := w.heap.set! c o' } := by
  simp [setObj, Sem.run, h]
theorem run_getMIter {c : Nat} {m : Option Nat} {a x : Nat} {y : Array Nat} (h : w.heap[c]? = some (.mapIter m a y x)) : (getObj c).run P w = .ok (.mapIter m a y x) w := by simp [getObj, Sem.run, h]
theorem run_setMIter {c : Nat} {m : Option Nat} {a x : Nat} {y : Array Nat} (h : w.heap[c]? = some (.mapIter m a y x)) (o' : Obj) : (setObj c o').run P w = .ok () { w with heap := w.heap.set! c o' } := by
  simp [setObj, Sem.run, h]
theorem set_obj [Val] {i c s N : Nat} (hH : HR μ H w) {b : Blk} (hl : H.b.get i = some b) (hd : b ≠ .dead) (hm : μ i = some (c, s, N)) (b' : Blk) (o' : Obj) (hB : BR μ s N b' (some o')) :
    Ext μ H w μ ⟨H.n, H.b.set i b'⟩ { w with heap := w.heap.set! c o' } ∧ HR μ ⟨H.n, H.b.set i b'⟩ { w with heap := w.heap.set! c o' } := by
  have hc := (hH.dom i c s N hm).2
  have h1 : (w.heap.set! c o')[c]? = some o' := by simp [hc]
  have h2 : ∀ k, k ≠ c → (w.heap.set! c o')[k]? = w.heap[k]? := fun k hk => by simp [Ne.symm hk]
  refine ⟨Ext.setBlk _ hl hd hm (by simp) h2 rfl rfl rfl, HR.setBlk hH hl hd hm (by simp) h2 ?_⟩
  rw [h1]
  exact hB
theorem nodup_full : ∀ (n : Nat) (l : List Nat), l.Nodup → (∀ x ∈ l, x < n) → l.length ≤ n ∧ (l.length = n → ∀ i, i < n → i ∈ l)
  | 0, l, _, h => by
    have : l = [] := by
      cases l with
      | nil => rfl
      | cons a l => have := h a List.mem_cons_self; omega
    subst this
    exact ⟨Nat.le_refl _, fun _ i hi => by omega⟩
  | n + 1, l, hd, h => by
    by_cases hn : n ∈ l
    · have h1 : (l.erase n).length = l.length - 1 := List.length_erase_of_mem hn
      have hpos : 0 < l.length := List.length_pos_of_mem hn
      obtain ⟨a1, a2⟩ := nodup_full n (l.erase n) (hd.erase n) (fun x hx => by
        have hx' := (List.Nodup.mem_erase_iff hd).1 hx
        have := h x hx'.2
        have := hx'.1
        omega)
      refine ⟨by omega, fun hl i hi => ?_⟩
      by_cases e : i = n
      · subst e; exact hn
      · exact List.mem_of_mem_erase (a2 (by omega) i (by omega))
    · obtain ⟨a1, _⟩ := nodup_full n l hd (fun x hx => by
        have := h x hx
        have : x ≠ n := fun e => hn (e ▸ hx)
        omega)
      exact ⟨by omega, fun hl => by omega⟩
theorem all_in : ∀ (n : Nat) (l : List Nat), (∀ i, i < n → i ∈ l) → n ≤ l.length
  | 0, _, _ => Nat.zero_le _
  | n + 1, l, h => by
    have hn := h n (by omega)
    have h1 : (l.erase n).length = l.length - 1 := List.length_erase_of_mem hn
    have hpos : 0 < l.length := List.length_pos_of_mem hn
    have := all_in n (l.erase n) (fun i hi => (List.mem_erase_of_ne (by omega)).2 (h i (by omega)))
    omega
theorem next_sim [Val] (hH : HR μ H w) {it : AV} {it' : Value} (hi : VR μ it it') {isString : Bool} {ty : TypeId} {r : AV × Hp} (h : nextA H it isString = .ok r) : Sim P (Instr.next it' isString ty) μ H w r.1 r.2 := by
  have hover : ∀ μ', VR μ' (.tuple [.bool false]) (.tuple #[.bool false]) := fun μ' => .tuple _ _ rfl fun i a b h1 h2 => (VRs.cons (.bool false) (.nil μ')).2 i a b h1 (by simpa using h2)
  unfold nextA at h
  split at h
  · rename_i b
    obtain ⟨blk, h1, h2⟩ := Res.bind_ok h
    have hb := Res.ofOpt_ok h1
    cases hi with
    | ptr _ _ c s N hm =>
      have hB := hH.blk b blk c s N hb hm
      split at h2
      · rename_i str pos
        obtain ⟨rfl, ba, g1, g2⟩ := hB
        split at h2
        · rename_i ch hch
          split at h2
          · rename_i hlt
            simp only [Res.ok.injEq] at h2; subst h2
            rw [← g2] at hch
            have hpos : pos < ba.size := by
              have := (List.getElem?_eq_some_iff.1 hch).1
              simpa using this
            have hc1 : (ba[pos]'hpos).toNat = ch := by
              have := (List.getElem?_eq_some_iff.1 hch).2
              simp at this
              exact this
            obtain ⟨a1, a2⟩ := set_obj hH hb (by simp) hm (.iter str (pos + 1)) (.stringIter ba (pos + 1)) ⟨rfl, ba, rfl, g2⟩
            refine ⟨.tuple #[.bool true, .int .i64 pos, .int .i32 ch], μ, _, ?_, a1, a2, .tuple _ _ rfl fun i a b h1 h2 => (VRs.cons (.bool true) (.cons (.int .i64 pos) (.cons (.int .i32 ch) (.nil μ)))).2 i a b h1 (by simpa using h2)⟩
            have hd := decode_ascii ba pos hpos (by omega)
            simp [Instr.next, run_getIter g1, hpos, hd, run_setIter g1, goInt, hc1]
          · cases h2
        · rename_i hch
          simp only [Res.ok.injEq] at h2; subst h2
          have hpos : ¬ pos < ba.size := by
            intro hp
            rw [← g2] at hch
            rw [List.getElem?_eq_none_iff] at hch
            simp at hch
            omega
          exact Sim.still hH (v' := .tuple #[.bool false]) (by simp [Instr.next, run_getIter g1, hpos]) (hover μ)
      · cases h2
  · rename_i b
    obtain ⟨blk, h1, h2⟩ := Res.bind_ok h
    have hb := Res.ofOpt_ok h1
    cases hi with
    | ptr _ _ c s N hm =>
      have hB := hH.blk b blk c s N hb hm
      split at h2
      · obtain ⟨rfl, a, x, y, g1⟩ := hB
        simp only [Res.ok.injEq] at h2; subst h2
        exact Sim.still hH (v' := .tuple #[.bool false]) (by simp [Instr.next, run_getMIter g1]) (hover μ)
      · rename_i m n left
        obtain ⟨rfl, cm, s', N', g1, seen, k1, k2, k3, k4⟩ := hB
        obtain ⟨es, h3, h4⟩ := Res.bind_ok h2
        obtain ⟨ces, e1, e2, e3, e4⟩ := getMap_ok hH g1 h3
        split at h4
        · rename_i hn
          have hcs : ces.size = n := by omega
          have hborn : ∀ i (hi : i < ces.size), (ces[i]'hi).born = i := fun i hi =>
            (e3 i _ _ (ces[i]'hi) (List.getElem?_eq_getElem (by omega)) (by simp [hi])).2.2
          have hold : ∀ x ∈ ces.toList, x.born < n := by
            intro x hx
            obtain ⟨i, hi, rfl⟩ := Array.getElem_of_mem (Array.mem_toList_iff.1 hx)
            rw [hborn i hi]; omega
          have hsl : seen.toList.length = seen.size := by simp
          have hstep := run_next_at (P := P) w ty c cm n n seen ces ces.size k4 e1 hold (Nat.le_refl _)
          -- a step onward, whichever entry comes
          have onward : ∀ l v, left = l + 1 → (∀ e ∈ ces.toList, VR μ v (.tuple #[.bool true, e.key, e.val])) → Sim P (Instr.next (.pointer (some ⟨c, 0 + 0, none⟩)) false ty) μ H w v ⟨H.n, H.b.set b (.miter (some m) n l)⟩ := by
            intro l v hl hv
            rcases hstep with ⟨h0, _⟩ | ⟨e, he, w1, hal, hrun⟩
            · exfalso
              have hall : ∀ i, i < n → i ∈ seen.toList := by
                intro i hi
                have := all_seen ces seen h0 (ces[i]'(by omega)) (by simp)
                rw [hborn i (by omega)] at this
                simpa using this
              have := all_in n seen.toList hall
              omega
            · obtain ⟨hem, hes⟩ := mem_left he
              have hnew : e.born ∉ seen.toList := by
                intro hc
                have : seen.contains e.born = true := by simpa using hc
                rw [hes] at this; cases this
              have hBR : BR μ 0 N (.miter (some m) n l) (some (.mapIter (some cm) n (seen.push e.born) n)) := by
                refine ⟨rfl, cm, s', N', g1, seen.push e.born, ?_, ?_, by simp; omega, rfl⟩
                · rw [Array.toList_push, List.nodup_append]
                  refine ⟨k1, by simp, fun a ha b' hb' => ?_⟩
                  simp at hb'
                  subst hb'
                  exact fun e => hnew (e ▸ ha)
                · intro x hx
                  rw [Array.toList_push] at hx
                  rcases List.mem_append.1 hx with hx | hx
                  · exact k2 x hx
                  · simp at hx; subst hx; exact hold e hem
              rcases hal with rfl | rfl
              · obtain ⟨q1, q2⟩ := set_obj hH hb (by simp) hm _ _ hBR
                exact ⟨_, μ, _, by rw [← hcs]; rw [← hcs] at hrun; exact hrun, q1, q2, hv e hem⟩
              · obtain ⟨q1, q2⟩ := set_obj hH.drew hb (by simp) hm _ _ hBR
                exact ⟨_, μ, _, by rw [← hcs]; rw [← hcs] at hrun; exact hrun, (Ext.drew μ H w).trans hH.dom' q1, q2, hv e hem⟩
          split at h4
          · simp only [Res.ok.injEq] at h4; subst h4
            rcases hstep with ⟨_, hrun⟩ | ⟨e, he, _⟩
            · exact Sim.still hH (v' := .tuple #[.bool false]) hrun (hover μ)
            · exfalso
              obtain ⟨hem, hes⟩ := mem_left he
              have := (nodup_full n seen.toList k1 k2).2 (by omega) e.born (hold e hem)
              have : seen.contains e.born = true := by simpa using this
              rw [hes] at this; cases this
          · rename_i l k v
            simp only [Res.ok.injEq] at h4; subst h4
            have hsz : ces.size = 1 := by rw [← e2]; rfl
            have hl0 : l = 0 := by omega
            subst hl0
            obtain ⟨e, rfl⟩ : ∃ e, ces = #[e] := Array.size_eq_one_iff.1 hsz
            have h30 := e3 0 k v e rfl rfl
            refine onward 0 _ rfl fun e' he' => ?_
            simp at he'
            subst he'
            exact .tuple _ _ rfl fun i a b h1 h2 => (VRs.cons (.bool true) (.cons h30.1 (.cons h30.2.1 (.nil μ)))).2 i a b h1 (by simpa using h2)
          · rename_i l _
            simp only [Res.ok.injEq] at h4; subst h4
            exact onward l _ rfl fun e' _ => .tuple _ _ rfl fun i a b h1 h2 => (VRs.cons (.bool true) (.cons (.bad e'.key) (.cons (.bad e'.val) (.nil μ)))).2 i a b h1 (by simpa using h2)
        · cases h4
      · cases h2
  · cases h
theorem entry_sim [Val] (hH : HR μ H w) {it : AV} {it' : Value} (hi : VR μ it it') {v : AV} (h : entryA H it = .ok v) : Sim P (Instr.entry it') μ H w v H := by
  unfold entryA at h
  split at h
  · rename_i b
    obtain ⟨blk, h1, h2⟩ := Res.bind_ok h
    have hb := Res.ofOpt_ok h1
    cases hi with
    | ptr _ _ c s N hm =>
      have hB := hH.blk b blk c s N hb hm
      split at h2
      · rename_i m n left
        obtain ⟨rfl, cm, s', N', g1, seen, k1, k2, k3, k4⟩ := hB
        obtain ⟨es, h3, h4⟩ := Res.bind_ok h2
        obtain ⟨ces, e1, e2, e3, e4⟩ := getMap_ok hH g1 h3
        split at h4
        · rename_i hn
          split at h4
          · rename_i k v
            simp only [Res.ok.injEq] at h4; subst h4
            have hsz : ces.size = 1 := by rw [← e2]; rfl
            have hn1 : n = 1 := by simpa using hn.symm
            subst hn1
            obtain ⟨e, rfl⟩ : ∃ e, ces = #[e] := Array.size_eq_one_iff.1 hsz
            have h30 := e3 0 k v e rfl rfl
            have hs1 : seen.size = 1 := by omega
            obtain ⟨x, rfl⟩ : ∃ x, seen = #[x] := Array.size_eq_one_iff.1 hs1
            have hx0 : x = 0 := by have := k2 x (by simp); omega
            subst hx0
            have g3 := k4
            · refine Sim.still hH (v' := .tuple #[e.key, e.val]) ?_ (.tuple _ _ rfl fun i a b h1 h2 => (VRs.cons h30.1 (.cons h30.2.1 (.nil μ))).2 i a b h1 (by simpa using h2))
              simp [Instr.entry, run_getMIter g3, run_getMap e1, h30.2.2, Array.back?]
          · cases h4
        · cases h4
      · rename_i m n seen
        obtain ⟨rfl, cm, s', N', g1, k1, k2, k4⟩ := hB
        obtain ⟨es, h3, h4⟩ := Res.bind_ok h2
        obtain ⟨ces, e1, e2, e3, e4⟩ := getMap_ok hH g1 h3
        split at h4
        · rename_i hn
          split at h4
          · rename_i i hi
            split at h4
            · rename_i k v hkv
              simp only [Res.ok.injEq] at h4; subst h4
              have hil : i < es.length := (List.getElem?_eq_some_iff.1 hkv).1
              have hborn : ∀ j (hj : j < ces.size), (ces[j]'hj).born = j := fun j hj =>
                (e3 j _ _ (ces[j]'hj) (List.getElem?_eq_getElem (by omega)) (by simp [hj])).2.2
              have hic : i < ces.size := by omega
              have h30 := e3 i k v (ces[i]'hic) hkv (by simp [hic])
              have hfind : ces.find? (fun e => e.born == i) = some (ces[i]'hic) := by
                rw [← Array.find?_toList]
                have := find_born (ces[i]'hic) ces.toList ?_ (by simp)
                · rw [hborn i hic] at this; exact this
                · rw [List.nodup_iff_pairwise_ne, List.pairwise_map]
                  rw [List.pairwise_iff_getElem]
                  intro a b ha hb hab
                  have ha' : a < ces.size := by simpa using ha
                  have hb' : b < ces.size := by simpa using hb
                  have p := hborn a ha'
                  have q := hborn b hb'
                  simp only [Array.getElem_toList]
                  omega
              have hsz : ces.size = n := by omega
              have hback : seen.toArray.back? = some i := by simpa using hi
              refine Sim.still hH (v' := .tuple #[(ces[i]'hic).key, (ces[i]'hic).val]) ?_ (.tuple _ _ rfl fun i a b h1 h2 => (VRs.cons h30.1 (.cons h30.2.1 (.nil μ))).2 i a b h1 (by simpa using h2))
              unfold Instr.entry
              simp only [Sem.run_bind, run_getMIter k4, Result.andThen_ok, hback, run_getMap e1, hsz, bne_self_eq_false, Bool.false_eq_true, if_false, hfind]
              rfl
            · cases h4
          · cases h4
        · cases h4
      · cases h2
  · cases h
end
end Go.Ab

namespace Go.Ab
section
variable {P : Program} {μ : Mp} {H : Hp} {w : World}
def Yld [Val] (P : Program) (s : Sem Next) (μ : Mp) (H : Hp) (w : World) (v : AV) (H' : Hp) : Prop :=
  ∃ v' μ' w', (s.run P w = .ok (.value v') w' ∨ (s.run P w = .ok .skip w' ∧ v' = undef)) ∧ Ext μ H w μ' H' w' ∧ HR μ' H' w' ∧ VR μ' v v'
theorem Sim.yld [Val] {s : Sem Value} {v : AV} {H' : Hp} (h : Sim P s μ H w v H') : Yld P (do pure (.value (← s))) μ H w v H' := by
  obtain ⟨v', μ', w', h1, h2, h3, h4⟩ := h
  exact ⟨v', μ', w', .inl (by simp [h1]), h2, h3, h4⟩
theorem SimU.yld [Val] {s : Sem Unit} {H' : Hp} (h : SimU P s μ H w H') : Yld P (do s; pure .skip) μ H w aundef H' := by
  obtain ⟨μ', w', h1, h2, h3⟩ := h
  exact ⟨undef, μ', w', .inr ⟨by simp [h1], rfl⟩, h2, h3, undef_VR μ'⟩
theorem Yld.pure [Val] (hH : HR μ H w) {v : AV} {v' : Value} (h : VR μ v v') : Yld P (Pure.pure (.value v')) μ H w v H := ⟨v', μ, w, .inl rfl, .refl μ H w, hH, h⟩
def OpdR [Val] (μ : Mp) (ρA : Operand → Res AV) (ρ : Operand → Value) : Prop := ∀ x a, ρA x = .ok a → VR μ a (ρ x)
theorem mapA_VRs [Val] {ρA : Operand → Res AV} {ρ : Operand → Value} (hρ : OpdR μ ρA ρ) : ∀ (l : List Operand) (r : List AV), mapA ρA l = .ok r → VRs μ r (l.map ρ)
  | [], r, h => by simp [mapA] at h; subst h; exact .nil μ
  | x :: l, r, h => by
    obtain ⟨b, h1, h2⟩ := Res.bind_ok h
    obtain ⟨bs, h3, h4⟩ := Res.bind_ok h2
    simp only [Res.ok.injEq] at h4; subst h4
    exact .cons (hρ x b h1) (mapA_VRs hρ l bs h3)
theorem mapA_parts [Val] {ρA : Operand → Res AV} {ρ : Operand → Value} (hρ : OpdR μ ρA ρ) : ∀ (l : List (Nat × Operand)) (r : List (Nat × AV)), mapA (fun p : Nat × Operand => (ρA p.2).bind fun x => .ok (p.1, x)) l = .ok r →
    r.length = l.length ∧ ∀ (k : Nat) p p', r[k]? = some p → (l.map fun p => (p.1, ρ p.2))[k]? = some p' → p.1 = p'.1 ∧ VR μ p.2 p'.2
  | [], r, h => by simp [mapA] at h; subst h; exact ⟨rfl, fun k p p' h => by simp at h⟩
  | x :: l, r, h => by
    obtain ⟨b, h1, h2⟩ := Res.bind_ok h
    obtain ⟨bs, h3, h4⟩ := Res.bind_ok h2
    simp only [Res.ok.injEq] at h4; subst h4
    obtain ⟨a, h5, h6⟩ := Res.bind_ok h1
    simp only [Res.ok.injEq] at h6; subst h6
    obtain ⟨g1, g2⟩ := mapA_parts hρ l bs h3
    refine ⟨by simp [g1], fun k p p' e1 e2 => ?_⟩
    cases k with
    | zero => simp at e1 e2; subst e1; subst e2; exact ⟨rfl, hρ _ _ h5⟩
    | succ k => exact g2 k p p' (by simpa using e1) (by simpa using e2)
theorem optOp_VRo [Val] {ρA : Operand → Res AV} {ρ : Operand → Value} (hρ : OpdR μ ρA ρ) {o : Option Operand} {r : Option AV} (h : optOp ρA o = .ok r) : VRo μ r (o.map ρ) := by
  cases o with
  | none => simp [optOp] at h; subst h; trivial
  | some x =>
    obtain ⟨v, h1, h2⟩ := Res.bind_ok h
    simp only [Res.ok.injEq] at h2; subst h2
    exact hρ x v h1
theorem VRs.two [Val] {a b : AV} {l : List Value} (h : VRs μ [a, b] l) : ∃ x y, l = [x, y] ∧ VR μ a x ∧ VR μ b y := by
  match l, h with
  | [x, y], h => exact ⟨x, y, rfl, h.head, h.tail.head⟩
  | [], h => have := h.1; simp at this
  | [_], h => have := h.1; simp at this
  | _ :: _ :: _ :: _, h => have := h.1; simp at this
theorem VRs.single [Val] {a : AV} {l : List Value} (h : VRs μ [a] l) : ∃ x, l = [x] ∧ VR μ a x := by
  match l, h with
  | [x], h => exact ⟨x, rfl, h.head⟩
  | [], h => have := h.1; simp at this
  | _ :: _ :: _, h => have := h.1; simp at this
theorem VRs.more [Val] {a : AV} {l : List AV} {l' : List Value} (h : VRs μ (a :: l) l') : ∃ x xs, l' = x :: xs ∧ VR μ a x ∧ VRs μ l xs := by
  match l', h with
  | x :: xs, h => exact ⟨x, xs, rfl, h.head, h.tail⟩
  | [], h => have := h.1; simp at this
theorem builtin_sim [Val] (hH : HR μ H w) {b : Builtin} {ts : Array TypeId} {ty : TypeId} {cs : Array Bool} {args : List AV} {args' : Array Value} (ha : VRs μ args args'.toList) {r : AV × Hp} (h : builtinA P b ts args H = .ok r) :
    Yld P (builtin b ts ty cs args') μ H w r.1 r.2 := by
  obtain ⟨args'⟩ := args'
  obtain ⟨ts⟩ := ts
  simp only at ha
  unfold builtinA at h
  split at h
  · rename_i t tl x hts
    simp only at hts
    subst hts
    obtain ⟨v, h1, h2⟩ := Res.bind_ok h
    simp only [Res.ok.injEq] at h2; subst h2
    obtain ⟨x', rfl, hx⟩ := ha.single
    have := len_sim (P := P) hH (t := t) (ty := ty) hx h1
    have e : Builtin.len_ ⟨t :: tl⟩ ty ⟨[x']⟩ = Builtin.len_ #[t] ty #[x'] := by simp [Builtin.len_]
    simp only [builtin, e]
    exact this.yld
  · rename_i t t' s x hts
    simp only at hts
    subst hts
    obtain ⟨d, h1, h2⟩ := Res.bind_ok h
    obtain ⟨s', x', rfl, hs, hx⟩ := ha.two
    have hu := tunder_ok h1
    split at h2
    · split at h2
      · exact (appendS_sim hH hs hx (.inl ⟨_, hu⟩) h2).yld
      · exact (append_sim hH hs hx (.inl ⟨_, hu⟩) h2).yld
    · split at h2
      · exact (appendS_sim hH hs hx (.inr hu) h2).yld
      · exact (append_sim hH hs hx (.inr hu) h2).yld
    · cases h2
  · rename_i t tl d s hts
    simp only at hts
    subst hts
    obtain ⟨s', x', rfl, hs, hx⟩ := ha.two
    have := copy_sim (P := P) hH (t := t) (tx := t) (ty := ty) hs hx h
    have e : Builtin.copy_ ⟨t :: tl⟩ ty ⟨[s', x']⟩ = Builtin.copy_ #[t, t] ty #[s', x'] := by simp [Builtin.copy_]
    simp only [builtin, e]
    exact this.yld
  · rename_i t tl d hts
    simp only at hts
    subst hts
    obtain ⟨H', h1, h2⟩ := Res.bind_ok h
    simp only [Res.ok.injEq] at h2; subst h2
    obtain ⟨x', rfl, hx⟩ := ha.single
    have := clear_sim (P := P) hH (t := t) (ty := ty) hx h1
    have e : Builtin.clear_ ⟨t :: tl⟩ ty ⟨[x']⟩ = Builtin.clear_ #[t] ty #[x'] := by simp [Builtin.clear_]
    simp only [builtin, e]
    exact this.yld
  · obtain ⟨v, h1, h2⟩ := Res.bind_ok h
    simp only [Res.ok.injEq] at h2; subst h2
    obtain ⟨x', xs, rfl, hx, hxs⟩ := ha.more
    obtain ⟨v', q1, q2⟩ := fold_run (P := P) (w := w) (f := minmaxA false) (g := Builtin.min2) (fun a b v x y ha hb hv => minmax_run (mx := false) ha hb hv) _ _ _ _ _ hxs hx h1
    exact (Sim.still hH (s := Builtin.min_ ⟨ts⟩ ty ⟨x' :: xs⟩) (by simpa [Builtin.min_] using q1) q2).yld
  · obtain ⟨v, h1, h2⟩ := Res.bind_ok h
    simp only [Res.ok.injEq] at h2; subst h2
    obtain ⟨x', xs, rfl, hx, hxs⟩ := ha.more
    obtain ⟨v', q1, q2⟩ := fold_run (P := P) (w := w) (f := minmaxA true) (g := Builtin.max2) (fun a b v x y ha hb hv => minmax_run (mx := true) ha hb hv) _ _ _ _ _ hxs hx h1
    exact (Sim.still hH (s := Builtin.max_ ⟨ts⟩ ty ⟨x' :: xs⟩) (by simpa [Builtin.max_] using q1) q2).yld
  · cases h
theorem op_sim [Val] (hH : HR μ H w) {cf : CallF} {ρA : Operand → Res AV} {ρ : Operand → Value} (hρ : OpdR μ ρA ρ) {o : Oper} (hc : ∀ c f, o.op = .call c → c.callee ≠ .value f) {r : AV × Hp} (h : opA P cf ρA o H = .ok r) :
    Yld P (execOp ρ o) μ H w r.1 r.2 := by
  obtain ⟨dst, op, ty, pos, after, guard⟩ := o
  cases op <;> simp only [opA] at h <;> simp only [execOp]
  case move x =>
    obtain ⟨a, h1, h2⟩ := Res.bind_ok h
    simp only [Res.ok.injEq] at h2; subst h2
    exact .pure hH (hρ _ _ h1)
  case assign x =>
    obtain ⟨a, h1, h2⟩ := Res.bind_ok h
    simp only [Res.ok.injEq] at h2; subst h2
    exact .pure hH (hρ _ _ h1)
  case pick c a b =>
    obtain ⟨q, h1, h2⟩ := Res.bind_ok h
    have hq := hρ _ _ h1
    split at h2
    · obtain ⟨x, h3, h4⟩ := Res.bind_ok h2
      simp only [Res.ok.injEq] at h4; subst h4
      have hcv : ρ c = .bool true := by generalize ρ c = y at hq; cases hq; rfl
      exact ⟨ρ a, μ, w, .inl (by simp [hcv, asBool]), .refl μ H w, hH, hρ _ _ h3⟩
    · obtain ⟨x, h3, h4⟩ := Res.bind_ok h2
      simp only [Res.ok.injEq] at h4; subst h4
      have hcv : ρ c = .bool false := by generalize ρ c = y at hq; cases hq; rfl
      exact ⟨ρ b, μ, w, .inl (by simp [hcv, asBool]), .refl μ H w, hH, hρ _ _ h3⟩
    · cases h2
  case alloc t =>
    obtain ⟨z, h1, h2⟩ := Res.bind_ok h
    obtain ⟨cs, h3, h4⟩ := Res.bind_ok h2
    split at h4
    · rename_i h5
      simp only [Res.ok.injEq] at h4; subst h4
      exact (alloc_sim hH h1 h3 h5).yld
    · cases h4
  case box t x =>
    obtain ⟨a, h1, h2⟩ := Res.bind_ok h
    obtain ⟨cs, h3, h4⟩ := Res.bind_ok h2
    split at h4
    · rename_i h5
      simp only [Res.ok.injEq] at h4; subst h4
      exact (box_sim hH (hρ _ _ h1) h3 h5 t).yld
    · cases h4
  case build t parts =>
    obtain ⟨ps, h1, h2⟩ := Res.bind_ok h
    obtain ⟨v, h3, h4⟩ := Res.bind_ok h2
    simp only [Res.ok.injEq] at h4; subst h4
    obtain ⟨g1, g2⟩ := mapA_parts hρ _ _ h1
    exact (build_sim hH (by simpa using g1) (fun k p p' e1 e2 => g2 k p p' e1 (by simpa [Array.getElem?_map] using e2)) h3).yld
  case buildSlice t len parts =>
    obtain ⟨ps, h1, h2⟩ := Res.bind_ok h
    obtain ⟨g1, g2⟩ := mapA_parts hρ _ _ h1
    exact (buildSlice_sim hH (by simpa using g1) (fun k p p' e1 e2 => g2 k p p' e1 (by simpa [Array.getElem?_map] using e2)) h2).yld
  case insert t m k x =>
    obtain ⟨a, h1, h2⟩ := Res.bind_ok h
    obtain ⟨b, h3, h4⟩ := Res.bind_ok h2
    obtain ⟨c, h5, h6⟩ := Res.bind_ok h4
    obtain ⟨H', h7, h8⟩ := Res.bind_ok h6
    simp only [Res.ok.injEq] at h8; subst h8
    exact (mapUpdate_sim hH (hρ _ _ h1) (hρ _ _ h3) (hρ _ _ h5) h7).yld
  case mapUpdate t m k x =>
    obtain ⟨a, h1, h2⟩ := Res.bind_ok h
    obtain ⟨b, h3, h4⟩ := Res.bind_ok h2
    obtain ⟨c, h5, h6⟩ := Res.bind_ok h4
    obtain ⟨H', h7, h8⟩ := Res.bind_ok h6
    simp only [Res.ok.injEq] at h8; subst h8
    exact (mapUpdate_sim hH (hρ _ _ h1) (hρ _ _ h3) (hρ _ _ h5) h7).yld
  case load t a =>
    obtain ⟨x, h1, h2⟩ := Res.bind_ok h
    obtain ⟨v, h3, h4⟩ := Res.bind_ok h2
    simp only [Res.ok.injEq] at h4; subst h4
    exact (load_sim hH (hρ _ _ h1) h3).yld
  case store t a x =>
    obtain ⟨p, h1, h2⟩ := Res.bind_ok h
    obtain ⟨q, h3, h4⟩ := Res.bind_ok h2
    obtain ⟨H', h7, h8⟩ := Res.bind_ok h4
    simp only [Res.ok.injEq] at h8; subst h8
    exact (store_sim hH (hρ _ _ h1) (hρ _ _ h3) h7).yld
  case nilCheck x =>
    obtain ⟨q, h1, h2⟩ := Res.bind_ok h
    have hq := hρ _ _ h1
    split at h2
    · simp only [Res.ok.injEq] at h2; subst h2
      generalize ρ x = v' at hq
      cases hq with
      | ptr _ _ c s N hm => exact .pure hH (.ptr _ _ c s N hm)
    · simp only [Res.ok.injEq] at h2; subst h2
      generalize ρ x = v' at hq
      cases hq with
      | func fn xs ys xs' ys' e1 e2 e3 e4 => exact .pure hH (.func _ _ _ xs' ys' e1 e2 e3 e4)
    · simp only [Res.ok.injEq] at h2; subst h2
      generalize ρ x = v' at hq
      cases hq with
      | yield _ c N h => exact .pure hH (.yield _ c N h)
    · cases h2
  case binOp op t x y ty =>
    obtain ⟨p, h1, h2⟩ := Res.bind_ok h
    obtain ⟨q, h3, h4⟩ := Res.bind_ok h2
    obtain ⟨v, h7, h8⟩ := Res.bind_ok h4
    simp only [Res.ok.injEq] at h8; subst h8
    exact (bin_sim hH (hρ _ _ h1) (hρ _ _ h3) h7).yld
  case unOp op t x =>
    obtain ⟨p, h1, h2⟩ := Res.bind_ok h
    obtain ⟨v, h7, h8⟩ := Res.bind_ok h2
    simp only [Res.ok.injEq] at h8; subst h8
    exact (un_sim hH (hρ _ _ h1) h7).yld
  case convert s d x =>
    obtain ⟨p, h1, h2⟩ := Res.bind_ok h
    exact (conv_sim hH (hρ _ _ h1) h2).yld
  case makeInterface t x =>
    obtain ⟨p, h1, h2⟩ := Res.bind_ok h
    obtain ⟨d, h3, h4⟩ := Res.bind_ok h2
    have hu := tunder_ok h3
    split at h4
    · cases h4
    · rename_i hd
      simp only [Res.ok.injEq] at h4; subst h4
      refine (Sim.still hH (v' := .iface t (ρ x)) ?_ (.iface t _ _ (hρ _ _ h1))).yld
      simp only [Instr.makeInterface, Sem.run_bind, run_underlying hu, Result.andThen_ok]
      try rfl
  case makeFunc fn a b =>
    obtain ⟨p, h1, h2⟩ := Res.bind_ok h
    obtain ⟨q, h3, h4⟩ := Res.bind_ok h2
    simp only [Res.ok.injEq] at h4; subst h4
    have e1 := mapA_VRs hρ _ _ h1
    have e2 := mapA_VRs hρ _ _ h3
    refine (Sim.still hH (v' := .func fn (a.map ρ) (b.map ρ)) ?_ (.func _ _ _ _ _ (by simpa using e1.1) (by simpa using e2.1) (fun i v v' g1 g2 => e1.2 i v v' g1 (by simpa using g2)) (fun i v v' g1 g2 => e2.2 i v v' g1 (by simpa using g2)))).yld
    rfl
  case makeMap t r =>
    obtain ⟨u, h1, h2⟩ := Res.bind_ok h
    simp only [Res.ok.injEq] at h2; subst h2
    obtain ⟨a1, a2⟩ := newBlk_sim hH (.map []) (.map #[] 0) (fun μ' _ => ⟨#[], rfl, rfl, fun i k v e h => by simp at h⟩)
    refine ⟨.map (some w.heap.size), _, _, .inl ?_, a1, a2, .map _ _ 0 0 (Mp.put_self _ _ _)⟩
    cases r with
    | none => simp [Instr.makeMap]
    | some x =>
      obtain ⟨q, h3, h4⟩ := Res.bind_ok h1
      obtain ⟨d, h5, h6⟩ := Res.bind_ok h4
      have hu := tunder_ok h5
      have hx := hρ _ _ h3
      split at h6
      · generalize hy : ρ x = y at hx
        cases hx
        simp [Instr.makeMap, hy, run_underlying hu, asInt, asIntOf]
      · cases h6
  case makeSlice t l c =>
    obtain ⟨p, h1, h2⟩ := Res.bind_ok h
    obtain ⟨q, h3, h4⟩ := Res.bind_ok h2
    exact (makeSlice_sim hH (hρ _ _ h1) (hρ _ _ h3) h4).yld
  case slice t x lo hi mx =>
    obtain ⟨p, h1, h2⟩ := Res.bind_ok h
    obtain ⟨lo', h3, h4⟩ := Res.bind_ok h2
    obtain ⟨hi', h5, h6⟩ := Res.bind_ok h4
    obtain ⟨mx', h7, h8⟩ := Res.bind_ok h6
    obtain ⟨v, h9, h10⟩ := Res.bind_ok h8
    simp only [Res.ok.injEq] at h10; subst h10
    exact (slice_sim hH (hρ _ _ h1) (optOp_VRo hρ h3) (optOp_VRo hρ h5) (optOp_VRo hρ h7) h9).yld
  case fieldAddr t x f =>
    obtain ⟨p, h1, h2⟩ := Res.bind_ok h
    split at h2
    · obtain ⟨⟨o, n, a⟩, h3, h4⟩ := Res.bind_ok h2
      simp only at h4
      split at h4
      · cases h4
      · rename_i hn
        simp only [Res.ok.injEq] at h4; subst h4
        exact (fieldAddr_sim hH (hρ _ _ h1) h3 hn).yld
    · cases h2
  case field t x f =>
    obtain ⟨p, h1, h2⟩ := Res.bind_ok h
    obtain ⟨v, h7, h8⟩ := Res.bind_ok h2
    simp only [Res.ok.injEq] at h8; subst h8
    exact (field_sim hH (hρ _ _ h1) h7).yld
  case indexAddr t x i =>
    obtain ⟨p, h1, h2⟩ := Res.bind_ok h
    obtain ⟨q, h3, h4⟩ := Res.bind_ok h2
    obtain ⟨v, h7, h8⟩ := Res.bind_ok h4
    simp only [Res.ok.injEq] at h8; subst h8
    exact (indexAddr_sim hH (hρ _ _ h1) (hρ _ _ h3) h7).yld
  case index t x i =>
    obtain ⟨p, h1, h2⟩ := Res.bind_ok h
    obtain ⟨q, h3, h4⟩ := Res.bind_ok h2
    obtain ⟨v, h7, h8⟩ := Res.bind_ok h4
    simp only [Res.ok.injEq] at h8; subst h8
    exact (index_sim hH (hρ _ _ h1) (hρ _ _ h3) h7).yld
  case lookup t m k ok =>
    obtain ⟨p, h1, h2⟩ := Res.bind_ok h
    obtain ⟨q, h3, h4⟩ := Res.bind_ok h2
    obtain ⟨v, h7, h8⟩ := Res.bind_ok h4
    simp only [Res.ok.injEq] at h8; subst h8
    exact (lookup_sim hH (hρ _ _ h1) (hρ _ _ h3) h7).yld
  case mapEntry t m k =>
    obtain ⟨p, h1, h2⟩ := Res.bind_ok h
    obtain ⟨q, h3, h4⟩ := Res.bind_ok h2
    exact (mapEntry_sim hH (hρ _ _ h1) (hρ _ _ h3) h4).yld
  case entryStore t m s x =>
    obtain ⟨p, h1, h2⟩ := Res.bind_ok h
    obtain ⟨q, h3, h4⟩ := Res.bind_ok h2
    obtain ⟨z, h5, h6⟩ := Res.bind_ok h4
    obtain ⟨H', h7, h8⟩ := Res.bind_ok h6
    simp only [Res.ok.injEq] at h8; subst h8
    exact (entryStore_sim hH (hρ _ _ h1) (hρ _ _ h3) (hρ _ _ h5) h7).yld
  case range t x =>
    obtain ⟨p, h1, h2⟩ := Res.bind_ok h
    exact (range_sim hH (hρ _ _ h1) h2).yld
  case next it s =>
    obtain ⟨p, h1, h2⟩ := Res.bind_ok h
    exact (next_sim hH (hρ _ _ h1) h2).yld
  case entry it =>
    obtain ⟨p, h1, h2⟩ := Res.bind_ok h
    obtain ⟨v, h7, h8⟩ := Res.bind_ok h2
    simp only [Res.ok.injEq] at h8; subst h8
    exact (entry_sim hH (hρ _ _ h1) h7).yld
  case extract x i =>
    obtain ⟨p, h1, h2⟩ := Res.bind_ok h
    have hp := hρ _ _ h1
    split at h2
    · rename_i vs
      have h3 := Res.ofOpt_ok h2
      simp only [Option.map_eq_some_iff] at h3
      obtain ⟨v, h4, h5⟩ := h3
      subst h5
      generalize hy : ρ x = y at hp
      cases hp with
      | tuple _ cs' hl hcs =>
        have hi : i < cs'.size := by rw [← hl]; exact (List.getElem?_eq_some_iff.1 h4).1
        exact (Sim.still hH (v' := cs'[i]) (by simp [Instr.extract, hi]) (hcs i v cs'[i] h4 (by simp [hi]))).yld
    · cases h2
  case call c =>
    unfold callA at h
    obtain ⟨args, h1, h2⟩ := Res.bind_ok h
    have ha := mapA_VRs hρ _ _ h1
    split at h2
    · rename_i b hb
      have := builtin_sim (P := P) hH (ty := ty) (cs := c.args.map fun | .const _ => true | _ => false) (args' := c.args.map ρ) (by simpa using ha) h2
      obtain ⟨v', μ', w', g1, g2⟩ := this
      refine ⟨v', μ', w', ?_, g2⟩
      have e : ∀ w, (do let d ← resolve ρ c ty; invoke d.target d.args : Sem Next).run P w = (builtin b c.argTypes ty (c.args.map fun | .const _ => true | _ => false) (c.args.map ρ)).run P w := fun w => by
        simp only [resolve, hb, Sem.run_bind, Sem.run_pure, Result.andThen_ok, invoke]
        rfl
      rw [e]
      exact g1
    · rename_i f hf
      exact absurd hf (hc c f rfl)
    · cases h2
  all_goals cases h
end
end Go.Ab

namespace Go.Ab
section
variable {P : Program} {μ : Mp} {H : Hp} {w : World}
def GSim [Val] (P : Program) (s : Sem Value) (μ : Mp) (w : World) (i : Nat) (cs : List AV) (v : AV) : Prop :=
  ∃ v' cs' e, s.run P w = .ok v' (w.alloc (.cells cs' e (0, 0))) ∧ VRs μ cs (cs'.toList.take cs.length) ∧ cs.all oneCell = true ∧
    ∀ μ', Sub μ μ' → μ' i = some (w.heap.size, 0, cs'.size) → VR μ' v v'
def LateN [Val] (P : Program) (s : Sem Next) (μ : Mp) (G : Hp) (w : World) (i : Nat) (v : AV) : Prop :=
  ∃ v' o N, s.run P w = .ok (.value v') (w.alloc o) ∧ HR (μ.put i (w.heap.size, 0, N)) G (w.alloc o) ∧ VR (μ.put i (w.heap.size, 0, N)) v v'
theorem GSim.late [Val] {s : Sem Value} {i : Nat} {cs : List AV} {v : AV} (h : GSim P s μ w i cs v) {G : Hp} (hG : HR μ G w) (hi : i < G.n) (hm : μ i = none) (hb : G.b.get i = some (.cells (putCells .nil 0 cs) cs.length true)) :
    LateN P (do pure (.value (← s))) μ G w i v := by
  obtain ⟨v', cs', e, h1, h2, h3, h4⟩ := h
  exact ⟨v', _, cs'.size, by simp [h1], newCells_gen hG hi hm hb h2 h3 e 0 0 (.inl rfl) (fun _ => rfl), h4 _ (Mp.sub_put _ hm) (Mp.put_self _ _ _)⟩
theorem box_g [Val] {x : AV} {x' : Value} (hx : VR μ x x') {cs : List AV} (hc : x.cells = .ok cs) (h1 : cs.all oneCell = true) (t : TypeId) (i : Nat) : GSim P (Instr.box t x') μ w i cs (.ptr i 0) := by
  have hv := hx.cells hc
  exact ⟨_, x'.cells, t, by simp [Instr.box, newVar, newRow], by rw [List.take_of_length_le (by rw [hv.1]; exact Nat.le_refl _)]; exact hv, h1, fun μ' _ hm => .ptr _ 0 _ 0 _ hm⟩
theorem alloc_g [Val] {t : TypeId} {z : AV} (hz : tzero P t = .ok z) {cs : List AV} (hc : z.cells = .ok cs) (h1 : cs.all oneCell = true) (i : Nat) : GSim P (Instr.alloc t true (.tuple #[])) μ w i cs (.ptr i 0) := by
  obtain ⟨it, zv, g1, g2, g3⟩ := tzero_ok μ hz
  have hv := g3.cells hc
  exact ⟨_, zv.cells, t, by simp [Instr.alloc, run_zero g1 g2, newVar, newRow], by rw [List.take_of_length_le (by rw [hv.1]; exact Nat.le_refl _)]; exact hv, h1, fun μ' _ hm => .ptr _ 0 _ 0 _ hm⟩
theorem buildSlice_g [Val] {t : TypeId} {len : Nat} {parts : List (Nat × AV)} {r : AV × Hp} (h : buildSliceA P H t len parts = .ok r) :
    ∃ cs, r.2 = (newCells H cs).2 ∧ ∀ (μ : Mp) (w : World) (parts' : Array (Nat × Value)), parts.length = parts'.size → (∀ (k : Nat) p p', parts[k]? = some p → parts'[k]? = some p' → p.1 = p'.1 ∧ VR μ p.2 p'.2) →
      GSim P (Instr.buildSlice t len parts') μ w H.n cs r.1 := by
  unfold buildSliceA at h
  obtain ⟨d, h1, h2⟩ := Res.bind_ok h
  have hu := tunder_ok h1
  split at h2
  · rename_i e
    obtain ⟨sz, h3, h4⟩ := Res.bind_ok h2
    obtain ⟨z, h5, h6⟩ := Res.bind_ok h4
    obtain ⟨zs, h7, h8⟩ := Res.bind_ok h6
    split at h8
    · rename_i hc
      obtain ⟨cs, h9, h10⟩ := Res.bind_ok h8
      split at h10
      · rename_i hone
        simp only [Res.ok.injEq] at h10; subst h10
        refine ⟨cs, rfl, fun μ w parts' hl hpp => ?_⟩
        obtain ⟨it, zv, g1, g2, g3⟩ := tzero_ok μ h5
        obtain ⟨ie, e1, e2⟩ := tsize_ok h3
        rw [g1] at e1; cases e1
        have hz := g3.cells h7
        have hzl : zs.length = zv.cells.size := by simpa using hz.1
        have hrep := repl_VRs hz (by omega) len
        obtain ⟨r', k1, k2⟩ := fill_sim (place' := fun i => some (i * sz, sz)) (fun i x hx => by simpa using hx) parts parts'.toList (repl len zs) _ cs (by simpa using hl)
          (fun k p p' q1 q2 => hpp k p p' q1 (by simpa using q2)) hrep h9
        have hrl : cs.length = r'.size := by simpa using k2.1
        have hfill : ∀ (ps : List (Nat × AV)) (a b : List AV), fillA (fun i => .ok (i * sz, sz)) a ps = .ok b → b.length = a.length := by
          intro ps
          induction ps with
          | nil => intro a b hb; simp [fillA] at hb; rw [hb]
          | cons p ps ih =>
            intro a b hb
            obtain ⟨i, v⟩ := p
            unfold fillA at hb
            obtain ⟨⟨o, s⟩, q1, q2⟩ := Res.bind_ok hb
            obtain ⟨vs, q3, q4⟩ := Res.bind_ok q2
            split at q4
            · rename_i hq
              rw [ih _ _ q4]
              simp [setRange]; omega
            · cases q4
        have hcl : cs.length = len * sz := by rw [hfill _ _ _ h9, repl_length, hc.1]
        by_cases hlen : len = 0
        · subst hlen
          have : cs = [] := List.eq_nil_of_length_eq_zero (by rw [hcl, Nat.zero_mul])
          subst this
          have : parts = [] := by
            cases parts with
            | nil => rfl
            | cons p ps =>
              exfalso
              obtain ⟨i, v⟩ := p
              unfold fillA at h9
              obtain ⟨⟨o, s⟩, q1, q2⟩ := Res.bind_ok h9
              obtain ⟨vs, q3, q4⟩ := Res.bind_ok q2
              simp only [Res.ok.injEq, Prod.mk.injEq] at q1
              split at q4
              · rename_i hq
                have h0 : (repl 0 zs).length = 0 := rfl
                rw [h0] at hq
                have := hc.2.1
                omega
              · cases q4
          subst this
          have hp0 : parts' = #[] := by
            apply Array.eq_empty_of_size_eq_zero
            simpa using hl.symm
          subst hp0
          refine ⟨.slice (some ⟨w.heap.size, 0, none⟩) 0 0, #[], e, ?_, (by exact .nil μ), rfl, fun μ' _ hm' => .slice _ _ _ _ _ _ _ _ _ _ (Nat.le_refl _) (by simp) (by omega) hm' (fun hne => absurd rfl hne)⟩
          have hr0 : Array.range 0 = #[] := Array.eq_empty_of_size_eq_zero (by simp)
          simp [Instr.buildSlice, run_underlying hu, run_sizeOf h3 w, Instr.fill, newRow, hr0]
        · refine ⟨.slice (some ⟨w.heap.size, 0, none⟩) len len, r', e, run_buildSlice w t e len parts' r' it zv hu g1 g2 ?_ ?_ ?_, (by rw [List.take_of_length_le (by simp [hrl])]; exact k2), hone,
            fun μ' _ hm' => .slice _ _ _ _ _ _ _ _ _ _ (Nat.le_refl _) (by simp) (by omega) hm' fun _ => ⟨rfl, by rw [← hrl, hcl]; omega⟩⟩
          · rw [e2]; have := hc.2.2; unfold small at this; omega
          · rw [e2]; intro h0; rcases Nat.mul_eq_zero.1 h0 with h0 | h0 <;> omega
          · rw [e2]
            rw [hc.1] at k1
            exact k1
      · cases h10
    · cases h8
  · cases h2
theorem makeSlice_g [Val] {t : TypeId} {l c : AV} {r : AV × Hp} (h : makeSliceA P H t l c = .ok r) :
    ∃ cs, r.2 = (newCells H cs).2 ∧ ∀ (μ : Mp) (w : World) (l' c' : Value), VR μ l l' → VR μ c c' → GSim P (Instr.makeSlice t l' c') μ w H.n cs r.1 := by
  unfold makeSliceA at h
  obtain ⟨d, h1, h2⟩ := Res.bind_ok h
  have hu := tunder_ok h1
  split at h2
  · rename_i e
    split at h2
    · rename_i l c
      obtain ⟨inf, h3, h4⟩ := Res.bind_ok h2
      obtain ⟨z, h5, h6⟩ := Res.bind_ok h4
      obtain ⟨zs, h7, h8⟩ := Res.bind_ok h6
      split at h8
      · rename_i hk
        obtain ⟨k1, k2, k3, k4, k5, k6, k7⟩ := hk
        simp only [Res.ok.injEq] at h8; subst h8
        refine ⟨repl c.toNat zs, rfl, fun μ w l' c' hl hc => ?_⟩
        cases hl; cases hc
        obtain ⟨it, zv, g1, g2, g3⟩ := tzero_ok μ h5
        have hi := tinfo_ok h3
        rw [g1] at hi; cases hi
        have hz := g3.cells h7
        have hrep := repl_VRs hz (by omega) c.toNat
        have hzl : zs.length = zv.cells.size := by simpa using hz.1
        unfold small at k3 k4
        have hb : (inf.bytes : Int) * c ≤ 281474976710656 := by
          obtain ⟨n, rfl⟩ := Int.eq_ofNat_of_zero_le (Int.le_trans k1 k2)
          simp only [Int.toNat_natCast] at k3
          rw [← Int.natCast_mul, Nat.mul_comm]
          omega
        have hr := run_makeSlice (P := P) w t e inf zv hu g1 g2 .i64 .i64 l c k1 k2 (by
          have : c.toNat * inf.size = c.toNat * inf.size := rfl
          exact k7) hb (by omega)
        refine ⟨.slice (some ⟨w.heap.size, 0, none⟩) l.toNat c.toNat, (Array.range (c.toNat * zs.length)).map (fun i => zv.cells[i % zv.cells.size]!), e, ?_, by rw [List.take_of_length_le (by simp [repl_length])]; exact hrep, allOne_repl k6.2 _, ?_⟩
        · rw [hr]; unfold madeCells; rw [← k5]
        · intro μ' _ hm'
          refine .slice _ _ _ _ _ _ _ _ _ _ (by omega) (by simp) (by omega) hm' fun _ => ⟨rfl, ?_⟩
          simp [k5]
      · cases h8
    · cases h2
  · cases h2
end
end Go.Ab

namespace Go.Ab
section
variable {P : Program} {cf : CallF} {ρ : Operand → Res AV}
def HLe (h h2 : Hp) : Prop := ∀ i b, h.b.get i = some b → h2.b.get i = some b
theorem HLe.refl (h : Hp) : HLe h h := fun _ _ e => e
theorem HLe.trans {a b c : Hp} (h : HLe a b) (k : HLe b c) : HLe a c := fun i x e => k i x (h i x e)
theorem bind_ok_of {α β : Type} {r : Res α} {f : α → Res β} {a : α} (h : r = .ok a) : r.bind f = f a := by rw [h]; rfl
theorem plain_any {o : Oper} (hk : kindOf P o = .plain) {h h1 : Hp} {v : AV} (he : opA P cf ρ o h = .ok (v, h1)) : h1 = h ∧ ∀ h2, opA P cf ρ o h2 = .ok (v, h2) := by
  obtain ⟨dst, op, ty, pos, after, guard⟩ := o
  cases op <;> simp only [kindOf] at hk <;> simp only [opA] at he ⊢
  case move x => obtain ⟨a, h3, h4⟩ := Res.bind_ok he; cases h4; exact ⟨rfl, fun h2 => by rw [bind_ok_of h3]⟩
  case assign x => obtain ⟨a, h3, h4⟩ := Res.bind_ok he; cases h4; exact ⟨rfl, fun h2 => by rw [bind_ok_of h3]⟩
  case pick c a b =>
    obtain ⟨q, h3, h4⟩ := Res.bind_ok he
    rw [h3] at he
    split at h4
    · obtain ⟨x, h5, h6⟩ := Res.bind_ok h4; cases h6; exact ⟨rfl, fun h2 => by rw [bind_ok_of h3]; simp only [bind_ok_of h5]⟩
    · obtain ⟨x, h5, h6⟩ := Res.bind_ok h4; cases h6; exact ⟨rfl, fun h2 => by rw [bind_ok_of h3]; simp only [bind_ok_of h5]⟩
    · cases h4
  case build t parts =>
    obtain ⟨ps, h3, h4⟩ := Res.bind_ok he
    obtain ⟨a, h5, h6⟩ := Res.bind_ok h4; cases h6
    exact ⟨rfl, fun h2 => by rw [bind_ok_of h3, bind_ok_of h5]⟩
  case nilCheck x =>
    obtain ⟨q, h3, h4⟩ := Res.bind_ok he
    split at h4
    · cases h4; exact ⟨rfl, fun h2 => by rw [bind_ok_of h3]⟩
    · cases h4; exact ⟨rfl, fun h2 => by rw [bind_ok_of h3]⟩
    · cases h4; exact ⟨rfl, fun h2 => by rw [bind_ok_of h3]⟩
    · cases h4
  case binOp op t x y ty' =>
    obtain ⟨a, h3, h4⟩ := Res.bind_ok he
    obtain ⟨b, h5, h6⟩ := Res.bind_ok h4
    obtain ⟨r, h7, h8⟩ := Res.bind_ok h6; cases h8
    exact ⟨rfl, fun h2 => by rw [bind_ok_of h3, bind_ok_of h5, bind_ok_of h7]⟩
  case unOp op t x =>
    obtain ⟨a, h3, h4⟩ := Res.bind_ok he
    obtain ⟨r, h7, h8⟩ := Res.bind_ok h4; cases h8
    exact ⟨rfl, fun h2 => by rw [bind_ok_of h3, bind_ok_of h7]⟩
  case makeInterface t x =>
    obtain ⟨a, h3, h4⟩ := Res.bind_ok he
    obtain ⟨d, h5, h6⟩ := Res.bind_ok h4
    cases d <;> simp only at h6 <;> first
      | (cases h6; done)
      | (cases h6; exact ⟨rfl, fun h2 => by rw [bind_ok_of h3, bind_ok_of h5]⟩)
  case makeFunc fn a b =>
    obtain ⟨x, h3, h4⟩ := Res.bind_ok he
    obtain ⟨y, h5, h6⟩ := Res.bind_ok h4; cases h6
    exact ⟨rfl, fun h2 => by rw [bind_ok_of h3, bind_ok_of h5]⟩
  case fieldAddr t x f =>
    obtain ⟨q, h3, h4⟩ := Res.bind_ok he
    split at h4
    · obtain ⟨⟨o, n, a⟩, h5, h6⟩ := Res.bind_ok h4
      simp only at h6
      split at h6
      · cases h6
      · rename_i hn
        cases h6
        exact ⟨rfl, fun h2 => by rw [bind_ok_of h3]; simp only [bind_ok_of h5]; rw [if_neg hn]⟩
    · cases h4
  case field t x f =>
    obtain ⟨a, h3, h4⟩ := Res.bind_ok he
    obtain ⟨r, h7, h8⟩ := Res.bind_ok h4; cases h8
    exact ⟨rfl, fun h2 => by rw [bind_ok_of h3, bind_ok_of h7]⟩
  case indexAddr t x i =>
    obtain ⟨a, h3, h4⟩ := Res.bind_ok he
    obtain ⟨b, h5, h6⟩ := Res.bind_ok h4
    obtain ⟨r, h7, h8⟩ := Res.bind_ok h6; cases h8
    exact ⟨rfl, fun h2 => by rw [bind_ok_of h3, bind_ok_of h5, bind_ok_of h7]⟩
  case index t x i =>
    obtain ⟨a, h3, h4⟩ := Res.bind_ok he
    obtain ⟨b, h5, h6⟩ := Res.bind_ok h4
    obtain ⟨r, h7, h8⟩ := Res.bind_ok h6; cases h8
    exact ⟨rfl, fun h2 => by rw [bind_ok_of h3, bind_ok_of h5, bind_ok_of h7]⟩
  case extract x i =>
    obtain ⟨a, h3, h4⟩ := Res.bind_ok he
    split at h4
    · have h5 := Res.ofOpt_ok h4
      simp only [Option.map_eq_some_iff] at h5
      obtain ⟨q, h6, h7⟩ := h5
      cases h7
      exact ⟨rfl, fun h2 => by rw [bind_ok_of h3]; simp [h6, Res.ofOpt]⟩
    · cases h4
  case call c =>
    unfold callA at he ⊢
    obtain ⟨args, h3, h4⟩ := Res.bind_ok he
    cases hb : c.callee with
    | value f => simp [hb] at hk
    | invoke r m => simp [hb] at hk
    | builtin b =>
      cases b <;> simp [hb] at hk
      all_goals
        rw [hb] at h4
        simp only [builtinA] at h4
        split at h4
        all_goals first
          | contradiction
          | (cases h4; done)
          | (rename_i h _ _; cases h; done)
          | (rename_i h _; cases h; done)
          | (obtain ⟨r, h5, h6⟩ := Res.bind_ok h4
             cases h6
             exact ⟨rfl, fun h2 => by rw [bind_ok_of h3]; simp only [builtinA]; rw [bind_ok_of h5]⟩)
  all_goals (first | cases hk | (split at hk <;> cases hk))
theorem getBlk_le {h h2 : Hp} (hl : HLe h h2) {b : Nat} {x : Blk} (e : getBlk h b = .ok x) : getBlk h2 b = .ok x := by
  have := Res.ofOpt_ok e
  simp [getBlk, hl _ _ this, Res.ofOpt]
theorem readCells_le {h h2 : Hp} (hl : HLe h h2) {b off k : Nat} {l : List AV} (e : readCells h b off k = .ok l) : readCells h2 b off k = .ok l := by
  unfold readCells at e ⊢
  obtain ⟨x, h1, h3⟩ := Res.bind_ok e
  rw [bind_ok_of (getBlk_le hl h1)]
  exact h3
theorem getMap_le {h h2 : Hp} (hl : HLe h h2) {b : Nat} {l : List (AV × AV)} (e : getMap h b = .ok l) : getMap h2 b = .ok l := by
  unfold getMap at e ⊢
  obtain ⟨x, h1, h3⟩ := Res.bind_ok e
  rw [bind_ok_of (getBlk_le hl h1)]
  exact h3
theorem loadVarA_le {h h2 : Hp} (hl : HLe h h2) {t : TypeId} {a v : AV} (e : loadVarA P h t a = .ok v) : loadVarA P h2 t a = .ok v := by
  unfold loadVarA at e ⊢
  split at e
  · obtain ⟨g, h1, h3⟩ := Res.bind_ok e
    simp only [bind_ok_of h1]
    cases g with
    | true =>
      obtain ⟨n, h4, h5⟩ := Res.bind_ok h3
      obtain ⟨cs, h6, h7⟩ := Res.bind_ok h5
      simp only [bind_ok_of h4, bind_ok_of (readCells_le hl h6)]
      exact h7
    | false =>
      obtain ⟨cs, h6, h7⟩ := Res.bind_ok h3
      simp only [bind_ok_of (readCells_le hl h6)]
      exact h7
  · cases e
theorem getMapL_le {eq : AV → Res Bool} {h h2 : Hp} (hl : HLe h h2) {b : Nat} {l : List (AV × AV)} (e : getMapL eq h b = .ok l) : getMapL eq h2 b = .ok l := by
  unfold getMapL at e ⊢
  split at e
  · rename_i es hu
    have : getU h2 b = some es := by unfold getU; rw [hl _ _ (getU_ok hu)]
    rw [this]
    exact e
  · have h1 := getMap_le hl e
    have : getU h2 b = none := by
      obtain ⟨x, h3, h4⟩ := Res.bind_ok h1
      have := Res.ofOpt_ok h3
      unfold getU
      rw [this]
      cases x <;> first | rfl | cases h4
    rw [this]
    exact h1
theorem lookupA_le {h h2 : Hp} (hl : HLe h h2) {t : TypeId} {m k v : AV} {ok : Bool} (e : lookupA P h t m k ok = .ok v) : lookupA P h2 t m k ok = .ok v := by
  unfold lookupA at e ⊢
  obtain ⟨d, h1, h3⟩ := Res.bind_ok e
  rw [bind_ok_of h1]
  split at h3
  · simp only at h3 ⊢
    split at h3
    · rename_i hk
      rw [if_pos hk]
      obtain ⟨es, h4, h5⟩ := Res.bind_ok h3
      split at h4
      · cases h4; exact h5
      · simp only [bind_ok_of (getMapL_le hl h4)]; exact h5
      · cases h4
    · cases h3
  · cases h3
theorem entryA_le {h h2 : Hp} (hl : HLe h h2) {it v : AV} (e : entryA h it = .ok v) : entryA h2 it = .ok v := by
  unfold entryA at e ⊢
  split at e
  · obtain ⟨x, h1, h3⟩ := Res.bind_ok e
    simp only [bind_ok_of (getBlk_le hl h1)]
    split at h3
    · obtain ⟨es, h4, h5⟩ := Res.bind_ok h3
      simp only [bind_ok_of (getMap_le hl h4)]
      exact h5
    · obtain ⟨es, h4, h5⟩ := Res.bind_ok h3
      simp only [bind_ok_of (getMap_le hl h4)]
      exact h5
    · cases h3
  · cases e
theorem sliceCells_le {h h2 : Hp} (hl : HLe h h2) {sz : Nat} {x : AV} {l : List AV} (e : sliceCells h sz x = .ok l) : sliceCells h2 sz x = .ok l := by
  unfold sliceCells at e ⊢
  split at e
  · exact e
  · split at e
    · rename_i hb
      simp only [hb, if_true] at e ⊢
      split at e
      · rename_i h0
        simp only [h0, if_true]
        exact e
      · rename_i h0
        simp only [h0, if_false]
        exact readCells_le hl e
    · cases e
  · cases e
theorem sliceA_le {h h2 : Hp} (hl : HLe h h2) {t : TypeId} {x v : AV} {lo hi mx : Option AV} (e : sliceA P h t x lo hi mx = .ok v) : sliceA P h2 t x lo hi mx = .ok v := by
  unfold sliceA at e ⊢
  obtain ⟨d, h1, h3⟩ := Res.bind_ok e
  rw [bind_ok_of h1]
  split at h3 <;> try simp only at h3 ⊢
  · exact h3
  · exact h3
  · split at h3
    · cases h3
    · obtain ⟨r, h4, h5⟩ := Res.bind_ok h3
      obtain ⟨sz, h6, h7⟩ := Res.bind_ok h5
      obtain ⟨b, h8, h9⟩ := Res.bind_ok h7
      simp only [bind_ok_of h4, bind_ok_of h6, bind_ok_of (getBlk_le hl h8)]
      exact h9
  · exact h3
  · exact h3
  · cases h3
theorem lenA_le {h h2 : Hp} (hl : HLe h h2) {t : TypeId} {x v : AV} (e : lenA P h t x = .ok v) : lenA P h2 t x = .ok v := by
  unfold lenA at e ⊢
  obtain ⟨d, h1, h3⟩ := Res.bind_ok e
  rw [bind_ok_of h1]
  split at h3 <;> try simp only at h3 ⊢
  · exact h3
  · exact h3
  · exact h3
  · exact h3
  · exact h3
  · exact h3
  · exact h3
  · obtain ⟨es, h4, h5⟩ := Res.bind_ok h3
    simp only [bind_ok_of (getMap_le hl h4)]
    exact h5
  · cases h3
theorem look_any {o : Oper} (hk : kindOf P o = .look) {h h1 : Hp} {v : AV} (he : opA P cf ρ o h = .ok (v, h1)) : h1 = h ∧ ∀ h2, HLe h h2 → opA P cf ρ o h2 = .ok (v, h2) := by
  obtain ⟨dst, op, ty, pos, after, guard⟩ := o
  cases op <;> simp only [kindOf] at hk <;> simp only [opA] at he ⊢
  case load t a =>
    obtain ⟨x, h3, h4⟩ := Res.bind_ok he
    obtain ⟨r, h7, h8⟩ := Res.bind_ok h4; cases h8
    exact ⟨rfl, fun h2 hl => by rw [bind_ok_of h3, bind_ok_of (loadVarA_le hl h7)]⟩
  case lookup t m k ok =>
    obtain ⟨a, h3, h4⟩ := Res.bind_ok he
    obtain ⟨b, h5, h6⟩ := Res.bind_ok h4
    obtain ⟨r, h7, h8⟩ := Res.bind_ok h6; cases h8
    exact ⟨rfl, fun h2 hl => by rw [bind_ok_of h3, bind_ok_of h5, bind_ok_of (lookupA_le hl h7)]⟩
  case entry it =>
    obtain ⟨x, h3, h4⟩ := Res.bind_ok he
    obtain ⟨r, h7, h8⟩ := Res.bind_ok h4; cases h8
    exact ⟨rfl, fun h2 hl => by rw [bind_ok_of h3, bind_ok_of (entryA_le hl h7)]⟩
  case slice t x lo hi mx =>
    obtain ⟨p, h3, h4⟩ := Res.bind_ok he
    obtain ⟨lo', h5, h6⟩ := Res.bind_ok h4
    obtain ⟨hi', h7, h8⟩ := Res.bind_ok h6
    obtain ⟨mx', h9, h10⟩ := Res.bind_ok h8
    obtain ⟨r, h11, h12⟩ := Res.bind_ok h10; cases h12
    exact ⟨rfl, fun h2 hl => by rw [bind_ok_of h3, bind_ok_of h5, bind_ok_of h7, bind_ok_of h9, bind_ok_of (sliceA_le hl h11)]⟩
  case convert s d x =>
    obtain ⟨p, h3, h4⟩ := Res.bind_ok he
    have hgo : (h1 = h ∧ ∀ h2, HLe h h2 → convA P h2 s d p = .ok (v, h2)) → h1 = h ∧ ∀ h2, HLe h h2 → ((ρ x).bind fun x => convA P h2 s d x) = .ok (v, h2) := fun hh => ⟨hh.1, fun h2 hl => by rw [bind_ok_of h3]; exact hh.2 h2 hl⟩
    apply hgo
    unfold convA at h4 ⊢
    obtain ⟨ds, h5, h6⟩ := Res.bind_ok h4
    obtain ⟨dd, h7, h8⟩ := Res.bind_ok h6
    rw [h7] at hk
    simp only [bind_ok_of h5, bind_ok_of h7]
    split at h8
    · cases h8; exact ⟨rfl, fun h2 _ => rfl⟩
    · split at h8
      · rename_i hc
        cases h8; exact ⟨rfl, fun h2 _ => by simp only [hc, if_true]⟩
      · cases h8
    · cases h8
      refine ⟨rfl, fun h2 _ => ?_⟩
      cases ds <;> rfl
    · cases h8
      refine ⟨rfl, fun h2 _ => ?_⟩
      cases ds <;> rfl
    · obtain ⟨e, h9, h10⟩ := Res.bind_ok h8
      split at h10
      · obtain ⟨blk, h11, h12⟩ := Res.bind_ok h10
        split at h12
        · split at h12
          · rename_i hc
            cases h12
            refine ⟨rfl, fun h2 hl => ?_⟩
            simp only [bind_ok_of h9, bind_ok_of (getBlk_le hl h11), hc, if_true]
          · cases h12
        · cases h12
      · cases h10
    · simp at hk
    · obtain ⟨e, h9, h10⟩ := Res.bind_ok h8
      split at h10
      · obtain ⟨cs, h11, h12⟩ := Res.bind_ok h10
        obtain ⟨l, h13, h14⟩ := Res.bind_ok h12
        cases h14
        refine ⟨rfl, fun h2 hl => ?_⟩
        cases p <;> first
          | (simp only [bind_ok_of h9, bind_ok_of (sliceCells_le hl h11), bind_ok_of h13]; done)
          | (simp [sliceCells] at h11; done)
      · cases h10
    · cases h8
  case call c =>
    unfold callA at he ⊢
    obtain ⟨args, h3, h4⟩ := Res.bind_ok he
    cases hb : c.callee with
    | value f => simp [hb] at hk
    | invoke r m => simp [hb] at hk
    | builtin b =>
      cases b <;> simp [hb] at hk
      rw [hb] at h4
      simp only [builtinA] at h4
      split at h4
      all_goals first
        | contradiction
        | (cases h4; done)
        | (rename_i h _ _; cases h; done)
        | (rename_i h _; cases h; done)
        | skip
      rename_i t tl x hts
      obtain ⟨r, h5, h6⟩ := Res.bind_ok h4
      cases h6
      exact ⟨rfl, fun h2 hl => by rw [bind_ok_of h3]; simp only [builtinA, hts]; rw [bind_ok_of (lenA_le hl h5)]⟩
  all_goals (first | cases hk | (split at hk <;> cases hk))
theorem LateN.dead [Val] {s : Sem Next} {μ : Mp} {G : Hp} {w : World} {i : Nat} {v : AV} {v' : Value} {o : Obj} {N : Nat} (hr : s.run P w = .ok (.value v') (w.alloc o)) (hG : HR μ G w) (hi : i < G.n) (hm : μ i = none) (hb : G.b.get i = some .dead)
    (hv : VR (μ.put i (w.heap.size, 0, N)) v v') : LateN P s μ G w i v :=
  ⟨v', o, N, hr, hG.alloc hi hm hb o N trivial, hv⟩
theorem GSim.lateD [Val] {s : Sem Value} {μ : Mp} {w : World} {i : Nat} {cs : List AV} {v : AV} (h : GSim P s μ w i cs v) {G : Hp} (hG : HR μ G w) (hi : i < G.n) (hm : μ i = none)
    (hb : G.b.get i = some (.cells (putCells .nil 0 cs) cs.length true) ∨ G.b.get i = some .dead) : LateN P (do pure (.value (← s))) μ G w i v := by
  rcases hb with hb | hb
  · exact h.late hG hi hm hb
  · obtain ⟨v', cs', e, h1, h2, h3, h4⟩ := h
    exact LateN.dead (v' := v') (N := cs'.size) (by simp [h1]; rfl) hG hi hm hb (h4 _ (Mp.sub_put _ hm) (Mp.put_self _ _ _))
theorem new_late [Val] {o : Oper} (hk : kindOf P o = .new) {h h1 : Hp} {v : AV} (he : opA P cf ρ o h = .ok (v, h1)) :
    ∃ blk, blk ≠ .dead ∧ h1 = ⟨h.n + 1, h.b.set h.n blk⟩ ∧ ∀ (μ : Mp) (ρ' : Operand → Value) (G : Hp) (w : World), OpdR μ ρ ρ' → HR μ G w → h.n < G.n → μ h.n = none → (G.b.get h.n = some blk ∨ G.b.get h.n = some .dead) →
      LateN P (execOp ρ' o) μ G w h.n v := by
  obtain ⟨dst, op, ty, pos, after, guard⟩ := o
  cases op <;> simp only [kindOf] at hk <;> simp only [opA] at he <;> simp only [execOp]
  case alloc t =>
    obtain ⟨z, h2, h3⟩ := Res.bind_ok he
    obtain ⟨cs, h4, h5⟩ := Res.bind_ok h3
    split at h5
    · rename_i h6
      cases h5
      exact ⟨_, by simp, rfl, fun μ ρ' G w hρ hG hi hm hb => (alloc_g h2 h4 h6 h.n).lateD hG hi hm hb⟩
    · cases h5
  case box t x =>
    obtain ⟨a, h2, h3⟩ := Res.bind_ok he
    obtain ⟨cs, h4, h5⟩ := Res.bind_ok h3
    split at h5
    · rename_i h6
      cases h5
      exact ⟨_, by simp, rfl, fun μ ρ' G w hρ hG hi hm hb => (box_g (hρ _ _ h2) h4 h6 t h.n).lateD hG hi hm hb⟩
    · cases h5
  case buildSlice t len parts =>
    obtain ⟨ps, h2, h3⟩ := Res.bind_ok he
    obtain ⟨cs, h4, h5⟩ := buildSlice_g h3
    refine ⟨.cells (putCells .nil 0 cs) cs.length true, by simp, by rw [show h1 = (v, h1).2 from rfl, h4]; rfl, fun μ ρ' G w hρ hG hi hm hb => ?_⟩
    obtain ⟨g1, g2⟩ := mapA_parts hρ _ _ h2
    exact (h5 μ w _ (by simpa using g1) (fun k p p' e1 e2 => g2 k p p' e1 (by simpa [Array.getElem?_map] using e2))).lateD hG hi hm hb
  case makeMap t r =>
    obtain ⟨u, h2, h3⟩ := Res.bind_ok he
    simp only [Res.ok.injEq] at h3
    cases h3
    refine ⟨.map [], by simp, rfl, fun μ ρ' G w hρ hG hi hm hb => ?_⟩
    have hrun : (Instr.makeMap t (r.map ρ')).run P w = .ok (.map (some w.heap.size)) (w.alloc (.map #[] 0)) := by
      cases r with
      | none => simp [Instr.makeMap]
      | some x =>
        obtain ⟨q, h4, h5⟩ := Res.bind_ok h2
        obtain ⟨d, h6, h7⟩ := Res.bind_ok h5
        have hu := tunder_ok h6
        have hx := hρ _ _ h4
        split at h7
        · generalize hy : ρ' x = y at hx
          cases hx
          simp [Instr.makeMap, hy, run_underlying hu, asInt, asIntOf]
        · cases h7
    refine ⟨.map (some w.heap.size), .map #[] 0, 0, by simp [hrun], ?_, .map _ _ 0 0 (Mp.put_self _ _ _)⟩
    rcases hb with hb | hb
    · exact hG.alloc hi hm hb _ 0 ⟨#[], rfl, rfl, fun i k v e h => by simp at h⟩
    · exact hG.alloc hi hm hb _ 0 trivial
  case makeSlice t l c =>
    obtain ⟨p, h2, h3⟩ := Res.bind_ok he
    obtain ⟨q, h4, h5⟩ := Res.bind_ok h3
    obtain ⟨cs, h6, h7⟩ := makeSlice_g h5
    exact ⟨.cells (putCells .nil 0 cs) cs.length true, by simp, by rw [show h1 = (v, h1).2 from rfl, h6]; rfl, fun μ ρ' G w hρ hG hi hm hb => (h7 μ w _ _ (hρ _ _ h2) (hρ _ _ h4)).lateD hG hi hm hb⟩
  all_goals (first | cases hk | (split at hk <;> cases hk))
theorem eqList_ok {α : Type} {f : α → α → Bool} (hf : ∀ a b, f a b = true → a = b) : ∀ (x y : List α), eqList f x y = true → x = y
  | [], [], _ => rfl
  | a :: x, b :: y, h => by
    simp only [eqList, Bool.and_eq_true] at h
    rw [hf a b h.1, eqList_ok hf x y h.2]
  | [], _ :: _, h => by simp [eqList] at h
  | _ :: _, [], h => by simp [eqList] at h
theorem strEq_ok : ∀ (x y : List Nat), strEq x y = true → x = y
  | [], [], _ => rfl
  | a :: x, b :: y, h => by
    simp only [strEq, Bool.and_eq_true] at h
    rw [Nat.eq_of_beq_eq_true h.1, strEq_ok x y h.2]
  | [], _ :: _, h => by simp [strEq] at h
  | _ :: _, [], h => by simp [strEq] at h
theorem eqAV_ok : ∀ (f : Nat) (a b : AV), eqAV f a b = true → a = b
  | 0, a, b, h => by simp [eqAV] at h
  | f + 1, a, b, h => by
    unfold eqAV at h
    split at h <;> try simp only [Bool.and_eq_true, beq_iff_eq, decide_eq_true_eq] at h
    · rw [h]
    · rfl
    · rw [h.1, h.2]
    · rw [h]
    · rw [Nat.eq_of_beq_eq_true h.1, Nat.eq_of_beq_eq_true h.2]
    · rw [Nat.eq_of_beq_eq_true h.1, h.2.1, h.2.2]
    · rw [strEq_ok _ _ h]
    · rfl
    · rw [Nat.eq_of_beq_eq_true h.1, Nat.eq_of_beq_eq_true h.2]
    · rfl
    · rename_i b o l c s b' o' l' c' s'
      have hc : c = c' := by
        have := h.1.2
        cases c <;> cases c' <;> simp [eqON] at this ⊢ <;> try exact this
      rw [Nat.eq_of_beq_eq_true h.1.1.1.1, Nat.eq_of_beq_eq_true h.1.1.1.2, Nat.eq_of_beq_eq_true h.1.1.2, hc, Nat.eq_of_beq_eq_true h.2]
    · rfl
    · rw [Nat.eq_of_beq_eq_true h]
    · rfl
    · rfl
    · rw [eqList_ok (eqAV_ok f) _ _ h]
    · rw [eqList_ok (eqAV_ok f) _ _ h]
    · rw [Nat.eq_of_beq_eq_true h.1.1, eqList_ok (eqAV_ok f) _ _ h.1.2, eqList_ok (eqAV_ok f) _ _ h.2]
    · rw [eqSy_ok h]
    · cases h
end
end Go.Ab

namespace Go.Ab
def FR (ro : Option Nat) : Fence := { fn := fun _ => True, depth := none, alive := false, round := ro }
section
variable {P : Program} {ro : Option Nat} {o : Oper} {a : Act} {w w' : World} {K : Act → World → Prop} {Q : Exit → Act → World → Prop} {ops : Array Oper} {i : Nat}
def wpI (ro : Option Nat) (P : Program) (o : Oper) (a : Act) (w : World) (K : Act → World → Prop) (Q : Exit → Act → World → Prop) : Prop := o.wpIn (FR ro) 0 P a w K Q
def NoDefer (o : Oper) : Prop := ∀ c, o.op ≠ .defer c
theorem opA_noDefer {cf : CallF} {ρ : Operand → Res AV} {H : Hp} {r : AV × Hp} (h : opA P cf ρ o H = .ok r) : NoDefer o := fun c hc => by
  obtain ⟨dst, op, ty, pos, after, guard⟩ := o
  simp only at hc
  subst hc
  simp [opA] at h
theorem wpI_value (hn : NoDefer o) {v : Value} (hr : (execOp a.eval o).run P w = .ok (.value v) w') (h : K (a.put o.dst v) w') : wpI ro P o a w K Q := by
  refine ⟨fun _ _ => trivial, ?_⟩
  rw [Oper.semAt_eq _ _ _ hn, hr]
  exact h
theorem wpI_skip (hn : NoDefer o) (hr : (execOp a.eval o).run P w = .ok .skip w') (h : K (a.put o.dst undef) w') : wpI ro P o a w K Q := by
  refine ⟨fun _ _ => trivial, ?_⟩
  rw [Oper.semAt_eq _ _ _ hn, hr]
  exact h
theorem wpI_enter (hn : NoDefer o) {f : FuncId} {args : Array Value} (hr : (execOp a.eval o).run P w = .ok (.enter f args) w') (h : Calls P f args w' fun e w'' => ∃ v, e = .returned v ∧ K (a.put o.dst v) w'') : wpI ro P o a w K Q := by
  refine ⟨fun _ _ => trivial, ?_⟩
  rw [Oper.semAt_eq _ _ _ hn, hr]
  refine ⟨fun hd => by simp [FR] at hd, ?_⟩
  have h1 : CallsIn Fence.wide 0 P f args w' fun e w'' => ∃ v, e = .returned v ∧ K (a.put o.dst v) w'' := callsIn_wide.2 h
  have h2 : CallsIn (FR ro) 0 P f args w' fun e w'' => ∃ v, e = .returned v ∧ K (a.put o.dst v) w'' := h1
  refine h2.mono fun e w'' he => ?_
  obtain ⟨v, rfl, hk⟩ := he
  exact hk
theorem wpI_round (hn : NoDefer o) {l : Nat} {f : FuncId} {tmps : Array Value} {assign body : Code} (hr : (execOp a.eval o).run P w = .ok (.round l f tmps assign body) w')
    (h : RoundIn (FR ro) 0 P l f tmps assign body w' fun e w'' => ∃ v, e = .returned v ∧ K (a.put o.dst v) w'') : wpI ro P o a w K Q := by
  refine ⟨fun _ _ => trivial, ?_⟩
  rw [Oper.semAt_eq _ _ _ hn, hr]
  refine ⟨fun hd => by simp [FR] at hd, h.mono fun e w'' he => ?_⟩
  obtain ⟨v, rfl, hk⟩ := he
  exact hk
def wpO (ro : Option Nat) (P : Program) (ops : Array Oper) (Q : Exit → Act → World → Prop) (i : Nat) (K : Act → World → Prop) (a : Act) (w : World) : Prop := wpOpIn (FR ro) 0 P ops Q i K a w
theorem wpO_run (ho : ops[i]? = some o) (hw : Region.wanted o (yielded ops a.tmps) = true) (h : wpI ro P o a w K Q) : wpO ro P ops Q i K a w := by
  unfold wpO wpOpIn
  simp only [ho, hw, if_true]
  exact h
theorem wpO_idle (ho : ops[i]? = some o) (hw : Region.wanted o (yielded ops a.tmps) = false) (h : K (a.put o.dst undef) w) : wpO ro P ops Q i K a w := by
  unfold wpO wpOpIn
  simp only [ho, hw, Bool.false_eq_true, if_false]
  exact ⟨fun _ _ => trivial, h⟩
def wpC (ro : Option Nat) (P : Program) (c : Code) (Q : Exit → Act → World → Prop) (a : Act) (w : World) : Prop := c.wpIn (FR ro) 0 P Q a w
theorem wpC_top {c : Code} : wpC none P c Q a w ↔ c.wp P Q a w := wpIn_wide
end
section
variable {P : Program} {F : Fence} {n : Nat}
theorem stepR_scope {c : Code} {b : Frame} {a : Act} {k : List Item} {cs : List Frame} {w : World} : step P (lone (b.atR a (.code (.scope c) :: k)) cs w) = .next (lone (b.atR a (.code c :: .inScope c :: k)) cs w) :=
  step_lone_go (by simp [stepG, stepG.exec, Frame.atR])
theorem stepR_inScope {c : Code} {b : Frame} {a : Act} {k : List Item} {cs : List Frame} {w : World} : step P (lone (b.atR a (.inScope c :: k)) cs w) = .next (lone (b.atR a k) cs w) :=
  step_lone_go (by simp [stepG, stepG.exec, Frame.atR])
def LoopN (ro : Option Nat) (P : Program) (c : Code) (Q : Exit → Act → World → Prop) : Nat → Act → World → Prop
  | 0, _, _ => False
  | n + 1, a, w => wpC ro P c (Exit.then (LoopN ro P c Q n) Q) a w
theorem wpC_loopN {ro : Option Nat} {c : Code} {Q : Exit → Act → World → Prop} {n : Nat} {a : Act} {w : World} (h : LoopN ro P c Q n a w) : wpC ro P (Code.loop c) Q a w := by
  intro b k cs hro hb hr
  have key : ∀ n a w, LoopN ro P c Q n a w → ∃ e a' w', Q e a' w' ∧ ArrivesIn (Machine.fenced P (FR ro)) P (lone (b.atR a (.code c :: .inLoop c :: k)) cs w) b k cs e a' w' := by
    intro n
    induction n with
    | zero => intro a w h; exact h.elim
    | succ n ih =>
      intro a w h
      obtain ⟨e, a₁, w₁, hq, harr⟩ := h b (.inLoop c :: k) cs hro hb hr
      cases e with
      | normal =>
        obtain ⟨e₂, a₂, w₂, hq₂, harr₂⟩ := ih a₁ w₁ hq
        exact ⟨e₂, a₂, w₂, hq₂, .of_steps (StepsIn.trans harr (.one (fenced_calm hb hr rfl) stepR_inLoop)) harr₂⟩
      | exit id => exact ⟨_, a₁, w₁, hq, .pass (x := .inLoop c) rfl (fun _ _ => .inl (by simp)) harr⟩
      | goto l => exact ⟨_, a₁, w₁, hq, .pass (x := .inLoop c) rfl (fun _ _ => .inl (by simp)) harr⟩
      | ret => exact ⟨_, a₁, w₁, hq, .pass (x := .inLoop c) rfl (fun _ _ => .inl (by simp)) harr⟩
      | panic ch => exact ⟨_, a₁, w₁, hq, .pass (x := .inLoop c) rfl (fun _ _ => .inl (by simp)) harr⟩
      | outgrown => exact ⟨_, a₁, w₁, hq, .pass (x := .inLoop c) rfl (fun _ _ => .inl (by simp)) harr⟩
  obtain ⟨e, a', w', hq, harr⟩ := key n a w h
  exact ⟨e, a', w', hq, .of_steps (.one (fenced_calm hb hr rfl) stepR_loop) harr⟩
def ScopeN (ro : Option Nat) (P : Program) (c : Code) (Q : Exit → Act → World → Prop) : Nat → Code → Act → World → Prop
  | 0, _, _, _ => False
  | n + 1, cur, a, w => wpC ro P cur (fun e a w => match e with
    | .goto l => match findLabel c l with
      | some rest => ScopeN ro P c Q n rest a w
      | none => Q (.goto l) a w
    | e => Q e a w) a w
theorem wpC_scopeN {ro : Option Nat} {c : Code} {Q : Exit → Act → World → Prop} {n : Nat} {a : Act} {w : World} (h : ScopeN ro P c Q n c a w) : wpC ro P (Code.scope c) Q a w := by
  intro b k cs hro hb hr
  have key : ∀ n cur a w, ScopeN ro P c Q n cur a w → ∃ e a' w', Q e a' w' ∧ ArrivesIn (Machine.fenced P (FR ro)) P (lone (b.atR a (.code cur :: .inScope c :: k)) cs w) b k cs e a' w' := by
    intro n
    induction n with
    | zero => intro cur a w h; exact h.elim
    | succ n ih =>
      intro cur a w h
      obtain ⟨e, a₁, w₁, hq, harr⟩ := h b (.inScope c :: k) cs hro hb hr
      cases e with
      | normal => exact ⟨.normal, a₁, w₁, hq, StepsIn.trans harr (.one (fenced_calm hb hr rfl) stepR_inScope)⟩
      | exit id =>
        have hx : exitTo id (.inScope c :: k) = exitTo id k := by simp [exitTo]
        exact ⟨.exit id, a₁, w₁, hq, fun k' hk => harr.1 k' (by rw [hx]; exact hk), fun hr' hk => harr.2 hr' (by rw [hx]; exact hk)⟩
      | goto l =>
        simp only at hq
        cases hf : findLabel c l with
        | some rest =>
          rw [hf] at hq
          obtain ⟨e₂, a₂, w₂, hq₂, harr₂⟩ := ih rest a₁ w₁ hq
          have hg : gotoIn l (.inScope c :: k) = some (.code rest :: .inScope c :: k) := by simp [gotoIn, hf]
          exact ⟨e₂, a₂, w₂, hq₂, .of_steps (harr.1 _ hg) harr₂⟩
        | none =>
          rw [hf] at hq
          have hx : gotoIn l (.inScope c :: k) = gotoIn l k := by simp [gotoIn, hf]
          exact ⟨.goto l, a₁, w₁, hq, fun k' hk => harr.1 k' (by rw [hx]; exact hk), fun hr' hk => harr.2 hr' (by rw [hx]; exact hk)⟩
      | ret => exact ⟨_, a₁, w₁, hq, harr⟩
      | panic ch => exact ⟨_, a₁, w₁, hq, harr⟩
      | outgrown => exact ⟨_, a₁, w₁, hq, harr⟩
  obtain ⟨e, a', w', hq, harr⟩ := key n c a w h
  exact ⟨e, a', w', hq, .of_steps (.one (fenced_calm hb hr rfl) stepR_scope) harr⟩
end
end Go.Ab

namespace Go.Ab
structure Gam where
  l : List Nat
  rl : List Nat
  w0 : World
instance : Coe Gam (List Nat) := ⟨Gam.l⟩
section
variable {P : Program} {gl : Gam} {cf : CallF} {μ : Mp} {w : World}
structure GR (gl : Gam) (μ : Mp) (H : Hp) (w : World) : Prop where
  own : ∀ g ∈ gl.l, ∃ N, μ g = some (g, 0, N)
  lt : ∀ k ∈ gl.rl, k < w.heap.size
  same : ∀ k ∈ gl.rl, w.heap[k]? = gl.w0.heap[k]?
  far : ∀ k ∈ gl.rl, ∀ i c s N, Live H i → μ i = some (c, s, N) → c ≠ k
theorem GR.mono [Val] {μ' : Mp} {H H' : Hp} {w' : World} (h : GR gl μ H w) (hH : HR μ H w) (x : Ext μ H w μ' H' w') : GR gl μ' H' w' where
  own := fun g hg => (h.own g hg).imp fun _ e => x.sub _ _ e
  lt := fun k hk => Nat.lt_of_lt_of_le (h.lt k hk) x.size
  same := fun k hk => (x.frame k (h.lt k hk) (h.far k hk)).trans (h.same k hk)
  far := fun k hk i c s N hl hm => by
    cases hi : μ i with
    | none =>
      rcases x.newc i c s N hm hi with g | ⟨j, s', N', g1, g2⟩
      · have := h.lt k hk
        omega
      · exact h.far k hk j c s' N' g1 g2
    | some y =>
      have := x.sub i y hi
      rw [hm] at this
      cases this
      exact h.far k hk i c s N (x.alive i (hH.dom i c s N hi).1 hl) hi
theorem GR.drew {H : Hp} (h : GR gl μ H w) : GR gl μ H w.drew := ⟨h.own, h.lt, h.same, h.far⟩
def TV [Val] (μ : Mp) (t : PT AV) (a : Act) : Prop := ∀ i, VR μ (St.get t i) (a.tmps.getD i undef)
def DR (μ : Mp) (md : Md) (ds : List Deferred) : Prop :=
  match md with
  | .top => ds = []
  | .marked b => ∃ c N, μ b = some (c, 0, N) ∧ ds = [{ target := .collected c, args := #[] }]
  | .round => True
theorem DR.mono {μ μ' : Mp} {md : Md} {ds : List Deferred} (h : DR μ md ds) (hs : Sub μ μ') : DR μ' md ds := by
  cases md with
  | top => exact h
  | marked b => obtain ⟨c, N, h1, h2⟩ := h; exact ⟨c, N, hs _ _ h1, h2⟩
  | round => trivial
structure TR [Val] (μ : Mp) (st : St) (a : Act) : Prop where
  sz : st.sz ≤ a.tmps.size
  defers : DR μ st.md a.defers
  tmps : TV μ st.t a
theorem TV.mono [Val] {t : PT AV} {a : Act} {μ' : Mp} (h : TV μ t a) (hs : Sub μ μ') : TV μ' t a := fun i => (h i).mono hs
theorem TR.mono [Val] {st : St} {a : Act} {μ' : Mp} (h : TR μ st a) (hs : Sub μ μ') : TR μ' st a := ⟨h.sz, h.defers.mono hs, h.tmps.mono hs⟩
theorem evalO_R [Val] {t : PT AV} {a : Act} {H : Hp} {w : World} (hG : GR gl μ H w) (x : Operand) (ht : ∀ i, x = .tmp i → VR μ (St.get t i) (a.tmps.getD i undef)) {v : AV} (h : evalO gl t x = .ok v) : VR μ v (a.eval x) := by
  cases x with
  | tmp i => simp only [evalO, Res.ok.injEq] at h; subst h; exact ht i rfl
  | const c => exact ofConst_VR μ h
  | global g =>
    simp only [evalO] at h
    split at h
    · rename_i hg
      simp only [Res.ok.injEq] at h; subst h
      obtain ⟨N, hm⟩ := hG.own g (by simpa using hg)
      exact .ptr g 0 g 0 N hm
    · cases h
  | func f =>
    simp only [evalO, Res.ok.injEq] at h; subst h
    exact .func _ [] [] #[] #[] rfl rfl (fun i v v' h => by simp at h) (fun i v v' h => by simp at h)
theorem TV.opd [Val] {t : PT AV} {a : Act} {H : Hp} {w : World} (h : TV μ t a) (hG : GR gl μ H w) : OpdR μ (evalO gl t) a.eval := fun x _ e => evalO_R hG x (fun i _ => h i) e
theorem getD_put {a : Act} {d : Tmp} {v : Value} (hd : d < a.tmps.size) (i : Nat) : (a.put (some d) v).tmps.getD i undef = if d = i then v else a.tmps.getD i undef := by
  simp only [Act.put, Array.getD_eq_getD_getElem?, Array.getElem?_setIfInBounds]
  by_cases e : d = i
  · subst e; simp [hd]
  · simp [e]
theorem get_setSt {t : PT AV} {d : Nat} {v : AV} (i : Nat) : St.get (t.set d v) i = if d = i then v else St.get t i := by
  unfold St.get
  rw [PT.get_set]
  by_cases e : d = i <;> simp [e]
theorem TR.put [Val] {st st' : St} {a : Act} (h : TR μ st a) {hp : Hp} {dst : Option Tmp} {v : AV} {v' : Value} (hp' : putA st hp dst v = .ok st') (hv : VR μ v v') : TR μ st' (a.put dst v') := by
  cases dst with
  | none =>
    simp only [putA, Res.ok.injEq] at hp'; subst hp'
    exact ⟨h.sz, h.defers, h.tmps⟩
  | some d =>
    simp only [putA] at hp'
    split at hp'
    · rename_i hd
      simp only [Res.ok.injEq] at hp'; subst hp'
      have hlt : d < a.tmps.size := Nat.lt_of_lt_of_le (by simpa [Nat.blt_eq] using hd) h.sz
      refine ⟨by simp [Act.put]; exact h.sz, h.defers, fun i => ?_⟩
      rw [getD_put hlt, get_setSt]
      split
      · exact hv
      · exact h.tmps i
    · cases hp'
theorem putA_h {st st' : St} {hp : Hp} {dst : Option Tmp} {v : AV} (h : putA st hp dst v = .ok st') : st'.h = hp ∧ st'.sz = st.sz ∧ st'.md = st.md := by
  cases dst with
  | none => simp only [putA, Res.ok.injEq] at h; subst h; exact ⟨rfl, rfl, rfl⟩
  | some d =>
    simp only [putA] at h
    split at h
    · simp only [Res.ok.injEq] at h; subst h; exact ⟨rfl, rfl, rfl⟩
    · cases h
theorem wanted_R [Val] {ops : Array Oper} {t : PT AV} {o : Oper} {b : Bool} {a : Act} (ht : ∀ j wt d, o.guard = some (j, wt) → (ops[j]?).bind (·.dst) = some d → VR μ (St.get t d) (a.tmps.getD d undef)) (h : wantedA ops t o = .ok b) :
    Region.wanted o (yielded ops a.tmps) = b := by
  unfold wantedA at h
  unfold Region.wanted
  split at h
  · rename_i hg
    simp only [Res.ok.injEq] at h; subst h
    simp [hg]
  · rename_i j wt hg
    simp only [hg]
    split at h
    · rename_i d hd
      have hv := ht j wt d hg hd
      unfold yielded
      rw [hd]
      simp only [Option.bind_some]
      split at h
      · rename_i q hq
        simp only [Res.ok.injEq] at h
        rw [hq] at hv
        have : a.tmps[d]? = some (.bool q) := by
          rw [Array.getD_eq_getD_getElem?] at hv
          cases hx : a.tmps[d]? with
          | none => rw [hx] at hv; simp [undef] at hv; cases hv
          | some y => rw [hx] at hv; simp at hv; cases hv; rfl
        rw [this]
        simp [← h]
      · rename_i hq
        simp only [Res.ok.injEq] at h; subst h
        rw [hq] at hv
        rw [Array.getD_eq_getD_getElem?] at hv
        cases hx : a.tmps[d]? with
        | none => simp
        | some y =>
          rw [hx] at hv
          simp only [Option.getD_some] at hv
          cases hv
          rfl
      · cases h
    · cases h
def Goes (P : Program) (s : Sem Next) (w : World) (R : Value → World → Prop) : Prop :=
  (∃ v w', s.run P w = .ok (.value v) w' ∧ R v w') ∨ ∃ f args, s.run P w = .ok (.enter f args) w ∧ Calls P f args w fun e w' => ∃ v, e = .returned v ∧ R v w'
structure CallOK [Val] (P : Program) (gl : Gam) (cf : CallF) : Prop where
  fn : ∀ (f : FuncId) (args : List AV) (H : Hp) (v : AV) (H' : Hp), cf (.fn f) args H = .ok (v, H') → ∀ (μ : Mp) (w : World) (args' : Array Value), VRs μ args args'.toList → HR μ H w → GR gl μ H w →
    Goes P (callFunc f args') w fun v' w' => ∃ μ', Ext μ H w μ' H' w' ∧ HR μ' H' w' ∧ VR μ' v v'
  yield : ∀ (b : Nat) (args : List AV) (H : Hp) (v : AV) (H' : Hp), cf (.yield b) args H = .ok (v, H') → ∀ (μ : Mp) (w : World) (args' : Array Value) (c N : Nat) (ro : Option Nat), VRs μ args args'.toList → HR μ H w → GR gl μ H w → μ b = some (c, 0, N) →
    ∃ f tmps assign body, (Instr.yield c args').run P w = .ok (.round c f tmps assign body) w ∧ RoundIn (FR ro) 0 P c f tmps assign body w fun e w' => ∃ v', e = .returned v' ∧ ∃ μ', Ext μ H w μ' H' w' ∧ HR μ' H' w' ∧ VR μ' v v'
theorem op_wp [Val] {ro : Option Nat} (hcf : CallOK P gl cf) {H H' : Hp} (hG : GR gl μ H w) {ρA : Operand → Res AV} {a : Act} (hρ : OpdR μ ρA a.eval) {o : Oper} {v : AV} (h : opA P cf ρA o H = .ok (v, H')) (hH : HR μ H w) {K : Act → World → Prop} {Q : Exit → Act → World → Prop}
    (hK : ∀ μ' w' v', Ext μ H w μ' H' w' → HR μ' H' w' → VR μ' v v' → K (a.put o.dst v') w') : wpI ro P o a w K Q := by
  by_cases hc : ∃ c f, o.op = .call c ∧ c.callee = .value f
  · obtain ⟨c, f, h1, h2⟩ := hc
    have ho : execOp a.eval o = (do let d ← resolve a.eval c o.type; invoke d.target d.args) := by
      obtain ⟨dst, op, ty, pos, after, guard⟩ := o
      simp only at h1; subst h1; rfl
    have h' : callA P cf ρA c H = .ok (v, H') := by
      obtain ⟨dst, op, ty, pos, after, guard⟩ := o
      simp only at h1; subst h1; exact h
    unfold callA at h'
    obtain ⟨args, h3, h4⟩ := Res.bind_ok h'
    rw [h2] at h4
    simp only at h4
    obtain ⟨fv, h5, h6⟩ := Res.bind_ok h4
    have hargs := mapA_VRs hρ _ _ h3
    have hfv := hρ _ _ h5
    split at h6
    · rename_i g first captured
      generalize hy : a.eval f = y at hfv
      cases hfv with
      | func _ _ _ xs' ys' hx hy' e1 e2 =>
        have hf1 : VRs μ first xs'.toList := ⟨by simpa using hx, fun i v v' g1 g2 => e1 i v v' g1 (by simpa using g2)⟩
        have hf2 : VRs μ captured ys'.toList := ⟨by simpa using hy', fun i v v' g1 g2 => e2 i v v' g1 (by simpa using g2)⟩
        have hall : VRs μ (first ++ args ++ captured) (xs' ++ c.args.map a.eval ++ ys').toList := by
          have := (hf1.append hargs).append hf2
          simpa using this
        have hgo := hcf.fn g _ H v H' h6 μ w _ hall hH hG
        have hrun : (execOp a.eval o).run P w = (callFunc g (xs' ++ c.args.map a.eval ++ ys')).run P w := by
          rw [ho]
          simp only [resolve, h2, Deferred.ofValue, hy, Sem.run_bind, Sem.run_pure, Result.andThen_ok, invoke]
        rcases hgo with ⟨v', w', g1, μ', g2, g3, g4⟩ | ⟨f', args', g1, g2⟩
        · exact wpI_value (opA_noDefer h) (hrun.trans g1) (hK μ' w' v' g2 g3 g4)
        · refine wpI_enter (opA_noDefer h) (hrun.trans g1) (Calls.mono g2 fun e w' he => ?_)
          obtain ⟨v', rfl, μ', q1, q2, q3⟩ := he
          exact ⟨v', rfl, hK μ' w' v' q1 q2 q3⟩
    · rename_i b
      generalize hy : a.eval f = y at hfv
      cases hfv with
      | yield _ c' N hm =>
        have hall : VRs μ args (c.args.map a.eval).toList := by simpa using hargs
        obtain ⟨f', tmps, assign, body, g1, g2⟩ := hcf.yield b _ H v H' h6 μ w _ c' N ro hall hH hG hm
        have hrun : (execOp a.eval o).run P w = (Instr.yield c' (c.args.map a.eval)).run P w := by
          rw [ho]
          simp only [resolve, h2, Deferred.ofValue, hy, Sem.run_bind, Sem.run_pure, Result.andThen_ok, invoke, Array.empty_append]
        refine wpI_round (opA_noDefer h) (hrun.trans g1) (g2.mono fun e w' he => ?_)
        obtain ⟨v', rfl, μ', q1, q2, q3⟩ := he
        exact ⟨v', rfl, hK μ' w' v' q1 q2 q3⟩
    · cases h6
  · have hc' : ∀ c f, o.op = .call c → c.callee ≠ .value f := fun c f h1 h2 => hc ⟨c, f, h1, h2⟩
    obtain ⟨v', μ', w', h1, h2, h3, h4⟩ := op_sim hH hρ hc' h
    rcases h1 with h1 | ⟨h1, rfl⟩
    · exact wpI_value (opA_noDefer h) h1 (hK μ' w' v' h2 h3 h4)
    · exact wpI_skip (opA_noDefer h) h1 (hK μ' w' undef h2 h3 h4)
end
end Go.Ab

namespace Go.Ab
section
variable {P : Program} {gl : Gam} {cf : CallF}
def Post [Val] (μ : Mp) (H : Hp) (w : World) (st' : St) (K : Act → World → Prop) : Prop :=
  ∀ μ' w' a', Ext μ H w μ' st'.h w' → HR μ' st'.h w' → TR μ' st' a' → K a' w'
theorem Post.trans [Val] {μ μ1 : Mp} {H H1 : Hp} {w w1 : World} {st' : St} {K : Act → World → Prop} (h : Post μ H w st' K) (hd : HR μ H w) (he : Ext μ H w μ1 H1 w1) : Post μ1 H1 w1 st' K :=
  fun μ' w' a' e1 e2 e3 => h μ' w' a' (he.trans hd.dom' e1) e2 e3
theorem oneA_ok {ops : Array Oper} {o : Oper} {st : St} {b : Bool} {v : AV} {h : Hp} (e : oneA P gl cf ops o st = .ok (b, v, h)) :
    wantedA ops st.t o = .ok b ∧ ((b = true ∧ opA P cf (evalO gl st.t) o st.h = .ok (v, h)) ∨ (b = false ∧ v = aundef ∧ h = st.h)) := by
  unfold oneA at e
  split at e
  · rename_i hw
    split at e
    · rename_i hv
      simp only [Res.ok.injEq, Prod.mk.injEq] at e
      obtain ⟨rfl, rfl, rfl⟩ := e
      exact ⟨hw, .inl ⟨rfl, hv⟩⟩
    · cases e
  · rename_i hw
    simp only [Res.ok.injEq, Prod.mk.injEq] at e
    obtain ⟨rfl, rfl, rfl⟩ := e
    exact ⟨hw, .inr ⟨rfl, rfl, rfl⟩⟩
  · cases e
theorem ops_wp [Val] {ro : Option Nat} (hcf : CallOK P gl cf) (ops : Array Oper) {Q : Exit → Act → World → Prop} : ∀ (rest : List Oper) (k : Nat), ops.toList.drop k = rest → ∀ (st st' : St) (μ : Mp) (a : Act) (w : World),
    opsA P gl cf ops rest st = .ok st' → TR μ st a → HR μ st.h w → GR gl μ st.h w → Post μ st.h w st' (Q .normal) → wpOpsIn (FR ro) 0 P ops Q (List.range' k rest.length) a w
  | [], k, _, st, st', μ, a, w, h, hT, hH, _, hQ => by
    simp only [opsA, Res.ok.injEq] at h; subst h
    exact hQ μ w a (.refl μ st.h w) hH hT
  | o :: rest, k, hk, st, st', μ, a, w, h, hT, hH, hG, hQ => by
    obtain ⟨⟨b, v, hp⟩, h1, h2⟩ := Res.bind_ok h
    obtain ⟨st1, h3, h4⟩ := Res.bind_ok h2
    obtain ⟨h5, h6⟩ := oneA_ok h1
    have ho : ops[k]? = some o := by
      have := congrArg (·[0]?) hk
      simpa using this
    have hk' : ops.toList.drop (k + 1) = rest := by
      rw [← List.drop_drop, hk]; rfl
    obtain ⟨e1, _, _⟩ := putA_h h3
    have hw := wanted_R (ops := ops) (o := o) (a := a) (fun j wt d _ _ => hT.tmps d) h5
    simp only [List.length_cons, List.range'_succ, wpOpsIn_cons]
    show wpO ro P ops Q k _ a w
    rcases h6 with ⟨rfl, h6⟩ | ⟨rfl, rfl, rfl⟩
    · refine wpO_run ho hw (op_wp hcf hG (hT.tmps.opd hG) h6 hH fun μ' w' v' x1 x2 x3 => ?_)
      subst e1
      exact ops_wp hcf ops rest (k + 1) hk' st1 st' μ' _ w' h4 ((hT.mono x1.sub).put h3 x3) x2 (hG.mono hH x1) (hQ.trans hH x1)
    · have hT' := hT.put h3 (undef_VR μ)
      have hH' : HR μ st1.h w := by rw [e1]; exact hH
      refine wpO_idle ho hw ?_
      exact ops_wp hcf ops rest (k + 1) hk' st1 st' μ _ w h4 hT' hH' (by rw [e1]; exact hG) (by rw [e1]; exact hQ)
theorem text_wp [Val] {ro : Option Nat} (hcf : CallOK P gl cf) {id : Nat} {ops : Array Oper} {Q : Exit → Act → World → Prop} {st st' : St} {μ : Mp} {a : Act} {w : World} (h : opsA P gl cf ops ops.toList st = .ok st') (hT : TR μ st a) (hH : HR μ st.h w) (hG : GR gl μ st.h w)
    (hQ : Post μ st.h w st' (Q .normal)) : wpC ro P (Code.region id ops false) Q a w := by
  apply wpIn_region
  have := ops_wp (ro := ro) hcf ops ops.toList 0 rfl st st' μ a w h hT hH hG hQ
  rw [List.range_eq_range']
  simpa using this
end
end Go.Ab
