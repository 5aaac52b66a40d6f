/- From a quick run to a law's call; what the rows' conditions say of the package's variables; that nothing of the program starts a goroutine. -/
import Derived.Test.YtgegccpdegaccaaGreatDoorCards
import Derived.Test.YtgegccpdegaccaaGreatDoorSq
import Derived.Test.YtgegccpdegaccaaGreatDoorBx
import Derived.WalkKit
import Derived.ProofKit
import Derived.OpenShut
import Derived.Lay
import Derived.LaidMore
import Derived.Stop.Joined
import Derived.Stop.LaidErr
import Derived.Lib.LaidTab
import Derived.Shelf.Vars
import Derived.SevenTiedAt
open Go.Ab
namespace Go.Proofs.YtgegccpdegaccaaGreatDoor
open Go.ChangeShapes Go.WideShapes Go.ChangeAt Go.RowKit

noncomputable def isT (r : RO) : Bool := RO.rec (motive := fun _ => Bool) (fun v _ => bbV v) false r
def H0 : Hp := ⟨0, HT.nil⟩
def mu0 : Mp := fun _ => none

theorem isT_ok {r : RO} (h : isT r = true) : ∃ h', r = .ok (.bool true) h' := by
  cases r with
  | err => cases h
  | ok v h' =>
    have h : bbV v = true := h
    cases v with
    | bool b =>
      have h : b = true := h
      subst h
      exact ⟨h', rfl⟩
    | _ => cases h

theorem HT_nil_get (i : Nat) : HT.nil.get i = none := by
  unfold HT.nil HT.get
  cases Nat.ble i 32767 with
  | false => exact PT.get_nil i
  | true => exact H5.nil_all _ _ _ _ _ (by rw [land7]; omega) (by rw [dig7]; omega) (by rw [dig7]; omega) (by rw [dig7]; omega) (by rw [dig7]; omega)

theorem start_HR [Val] (w : World) : HR mu0 H0 w := ⟨fun _ _ _ _ h => (by cases h), fun i b h => (by rw [show H0.b.get i = none from HT_nil_get i] at h; cases h), fun _ _ _ _ _ _ h => (by cases h), fun _ _ _ _ _ _ _ _ _ h => (by cases h)⟩

theorem start_GR [Val] {w : World} (h0 : 0 < w.heap.size) (h2 : 1 < w.heap.size) : GR (gam w) mu0 H0 w := by
  refine ⟨fun g hg => (by cases hg), fun k hk => ?_, fun _ _ => rfl, fun _ _ _ _ _ _ _ h => (by cases h)⟩
  have : k = 0 ∨ k = 1 := by simpa [gam] using hk
  rcases this with rfl | rfl
  · exact h0
  · exact h2

theorem mixed : Tryz.prog.follows .mixedOrders = true := by kernel_rfl

/-- What a quick run answers, the call returns; nothing that was there is changed. -/
theorem calls_of_run [Val] {sp : Special} {f : Nat} {fn : Func} {c : Code} (hf : Tryz.prog.funcs[f]? = some fn) (hname : fn.name ≠ "runtime.NumGoroutine") (hb : fn.body = some c) {T : Tab} (hT : TabOK Tryz.prog [] sp T) {n : Nat} {args : List AV} (hr : isT (run T n f args H0) = true)
    {W : World} {m : Int} (hm : W.cell? ⟨1, 0, none⟩ = some (.int .i64 m)) (ht : Pow W)
    (hsp : SpecOK Tryz.prog (gam W) sp) {args' : Array Value} (ha : VRs mu0 args args'.toList) : Calls Tryz.prog f args' W fun e w' => e = .returned (.bool true) ∧ Below W.heap.size W w' := by
  obtain ⟨h', e⟩ := isT_ok hr
  obtain ⟨N, hN⟩ := run_evalF hT e
  have h0 := World.block_lt_of_cell? W _ hm
  have h2 := World.block_lt_of_cell? W _ (ht.cell gPow 0 (by rw [Lib.pow10Tab_length]; omega))
  have := evalF_calls (gl := gam W) mixed hsp (show evalF Tryz.prog (gam W).l sp N f args H0 = .ok (.bool true, h') from hN) hf hname hb ha (start_HR W) (start_GR h2 h0)
  refine this.mono fun e w' he => ?_
  obtain ⟨v', rfl, μ', x1, _, x3⟩ := he
  cases x3
  exact ⟨rfl, x1.os, x1.tape, x1.output, x1.size, fun k hk => x1.frame k hk fun _ _ _ _ _ h => by cases h⟩

/-- Runs of several rows of arguments. -/
noncomputable def isTs (T : Tab) (f : Nat) : List (List AV) → Bool
  | [] => true
  | a :: l => isT (run T 300 f a H0) && isTs T f l
theorem isTs_mem {T : Tab} {f : Nat} : ∀ {l : List (List AV)}, isTs T f l = true → ∀ a ∈ l, isT (run T 300 f a H0) = true
  | [], _, _, h => by cases h
  | a :: l, hl, b, h => by
    simp only [isTs, Bool.and_eq_true] at hl
    rcases List.mem_cons.1 h with rfl | h
    · exact hl.1
    · exact isTs_mem hl.2 b h
theorem isTs_at {T : Tab} {f n : Nat} {g : Nat → List AV} (h : isTs T f ((List.range n).map g) = true) (k : Nat) (hk : k < n) : isT (run T 300 f (g k) H0) = true :=
  isTs_mem h _ (List.mem_map.2 ⟨k, List.mem_range.2 hk, rfl⟩)

/-- The builder that hands on the world's shape as well. -/
theorem handed_of {H : Type} {enc : TypeId × Value → H} {a : Assume} {C : Checked} {os : Os} {f : FuncId} {fn : Func} {s : ChangeSpec} {conds : List PathCond} {apart fresh handsOn again : Bool} {X : World → Array Value → Prop}
    (hX : ∀ (w w' : World) (args : Array Value), w.heap = w'.heap → X w args → X w' args)
    (own : ownKnob C.prog.godebug = none) (started : os.Started) (noInit : C.prog.inits.idxOf? f = none) (hfn : C.prog.funcs[f]? = some fn)
    (witness : ∃ (w : World) (tape : Tape) (i : Input), w.os = os ∧ (w.forCall tape i).Shaped C.prog ∧ i.vars = [] ∧ Input.okWide C.prog (w.forCall tape i) .any w.heap.size f i ∧
      ((s.pre enc C.prog fn conds apart (w.forCall tape i).memory i.args ∧ X (w.forCall tape i).memory i.args) ∧ sizedMet enc C.prog fn (OpenSpec.ofChange s) apart (w.forCall tape i).memory i.args) ∧ a.holds C.prog (lone (Frame.enter C.prog f i.args .normal) [] (w.forCall tape i)))
    (contract : ∀ (W : World) (base : Nat) (args : Array Value) (ds gs : List (DataW H)) (before : List MemPlace),
      (∀ (j : Nat) t v, fn.params[j]? = some t → args[j]? = some v → Value.okWide C.prog W .any base t v) →
      DataW.Whole enc C.prog fn.params.toList s.vars apart W args.toList ds gs before →
      X W args → W.ShapedOpen C.prog →
      Calls C.prog f args W fun e W' => ∃ v, e = .returned v ∧ s.post enc C.prog fn apart fresh handsOn again W args v W') :
    ReturnsInHanded a C os f .any (fun w args => (s.pre enc C.prog fn conds apart w args ∧ X w args) ∧ sizedMet enc C.prog fn (OpenSpec.ofChange s) apart w args) (s.post enc C.prog fn apart fresh handsOn again) := by
  refine returnsInHanded_of_calls own started noInit witness ?_
  intro w tape i _ hsh _ hok hpre hholds
  obtain ⟨_, _, _, fn', hfn', _, _, _, _, hval⟩ := hok
  have e : fn' = fn := Option.some.inj (hfn'.symm.trans hfn)
  subst e
  obtain ⟨⟨⟨ds, gs, before, hw, hc⟩, hx⟩, hz⟩ := hpre
  have hw' := DataW.Whole.of_heap (w' := w.forCall tape i) (by rfl) hw
  refine (contract (w.forCall tape i) w.heap.size i.args ds gs before hval hw' (hX _ _ _ (by rfl) hx) hsh).mono fun e W' ⟨v, he, hp⟩ => ?_
  subst he
  exact ChangeSpec.post_blind hp

theorem own : ownKnob Tryz.prog.godebug = none := by kernel_rfl
theorem gPowType : (Tryz.prog.globals[0]?).map (·.type) = some 468 := by kernel_rfl

/-- MaxLen holds some number. -/
theorem maxLen_cell {W : World} (h : W.ShapedOpen Tryz.prog) : ∃ m, W.cell? ⟨1, 0, none⟩ = some (.int .i64 m) :=
  cell_of_shapedOpen_int (t := 3) (zero := #[.int .i64 0]) h (Nat.le_of_ble_eq_true (by kernel_rfl)) (by kernel_rfl) rfl (by kernel_rfl) (by kernel_rfl) Tryz.underlying3

/-- The table of the powers of ten. -/
theorem pow_laid {W : World} {x1 x2 : String × DataW Unit} {l : List (String × DataW Unit)} (h : laidMetH Tryz.prog (x1 :: x2 :: ("internal/strconv.uint64pow10", Rows.laid_internal_strconv_uint64pow10) :: l) W) (hp : ((x1 :: x2 :: ("internal/strconv.uint64pow10", (Rows.laid_internal_strconv_uint64pow10 : DataW Unit)) :: l).all fun x => x.2.handleName?.isNone) = true) : Pow W := by
  rw [MakeChecks.laidMetH_plain _ _ _ hp] at h
  have h := laidMet.tail (laidMet.tail h)
  have e : (Rows.laid_internal_strconv_uint64pow10 : DataW Unit) = Lib.tabData .u64 Lib.pow10Tab := by kernel_rfl
  rw [e] at h
  exact Lib.tabIs_of_head gPow gPowType Tryz.underlying468 Tryz.underlying155 (by kernel_rfl) (by kernel_rfl) h

theorem wrap64_id {n : Int} (h0 : -9223372036854775808 ≤ n) (h1 : n ≤ 9223372036854775807) : IntKind.i64.wrap n = n := by
  unfold IntKind.wrap
  simp only [IntKind.bits, IntKind.signed, Bool.true_and]
  split <;> rename_i h <;> simp at h <;> omega
theorem wf64 {n : Int} (w : (Lit.int .i64 n).wf = true) : -9223372036854775808 ≤ n ∧ n ≤ 9223372036854775807 := by
  simp [Lit.wf, IntKind.min, IntKind.max, IntKind.signed, IntKind.bits] at w
  omega
/-- A number that is one of the two. -/
theorem vr_lin [Val] {μ : Mp} {x y lo hi n : Int} (w : (Lit.int .i64 n).wf = true) (e : valE 0 x y = n) (l : lo ≤ n) (r : n ≤ hi) : VR μ (.sym (.lin .i64 0 x y lo hi)) (.int .i64 n) := by
  have e' : IntKind.i64.wrap (valE 0 x y) = n := by rw [e]; exact wrap64_id (wf64 w).1 (wf64 w).2
  refine .sym _ _ ⟨rfl, by rw [e']; exact l, by rw [e']; exact r⟩ ?_
  show VR μ (.int .i64 (IntKind.i64.wrap (valE 0 x y))) _
  rw [e']
  exact .int _ _
theorem val_a (a b : Int) : @valE ⟨a, b⟩ 0 1 0 = a := by simp [valE, Val.a, Val.b]
theorem val_b (a b : Int) : @valE ⟨a, b⟩ 0 0 1 = b := by simp [valE, Val.a, Val.b]

/-- Nothing of the program goes. -/
theorem none_goes : Tryz.prog.funcs.any Func.goes = false := by kernel_rfl
theorem goes_no (f : FuncId) : Tryz.prog.goes f = false := by
  unfold Program.goes
  rw [none_goes, Bool.and_false, Bool.or_false]
  rw [List.any_eq_false]
  intro g _
  cases hg : Tryz.prog.funcs[g]? with
  | none => simp
  | some fn =>
    have := Array.any_eq_false.1 none_goes
    obtain ⟨hlt, rfl⟩ := Array.getElem?_eq_some_iff.1 hg
    simpa using this g hlt
theorem goesBy_no {c : OpenClaim} (hs : c.start = .entering) : false = c.goesBy Tryz.prog := by
  unfold OpenClaim.goesBy Program.goesAt Program.goesFrom
  rw [hs]
  cases Tryz.prog.funcNamed c.func with
  | none => rfl
  | some f => simp [goes_no f]

/-- A tree of boxes, checked; a point of the box has a box of the tree whose runs are true. -/
theorem boxes_at {T : Tab} {f n : Nat} {g : List (Int × Int) → Nat → List AV} {B : Bx} {b : List (Int × Int)} (h : B.ok (fun b => isTs T f ((List.range n).map (g b))) b = true) {xs : List Int} (hx : InB xs b) (k : Nat) (hk : k < n) :
    ∃ b', isT (run T 300 f (g b' k) H0) = true ∧ InB xs b' := by
  obtain ⟨b', h1, h2⟩ := Bx.at _ B h hx
  exact ⟨b', isTs_at h1 k hk, h2⟩
end Go.Proofs.YtgegccpdegaccaaGreatDoor
