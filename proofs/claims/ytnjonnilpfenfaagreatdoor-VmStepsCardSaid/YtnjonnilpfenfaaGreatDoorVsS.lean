/- The specials hold. -/
import Derived.Test.YtnjonnilpfenfaaGreatDoorVsK0
import Derived.Test.YtnjonnilpfenfaaGreatDoorVsK1
import Derived.Test.YtnjonnilpfenfaaGreatDoorVsK2
import Derived.Test.YtnjonnilpfenfaaGreatDoorVsK3
import Derived.Test.YtnjonnilpfenfaaGreatDoorVsK4
import Derived.Test.YtnjonnilpfenfaaGreatDoorVsK5
import Derived.Test.YtnjonnilpfenfaaGreatDoorVsK6
import Derived.Test.YtnjonnilpfenfaaGreatDoorVsK7
import Derived.Test.YtnjonnilpfenfaaGreatDoorVsK8
import Derived.Test.YtnjonnilpfenfaaGreatDoorVsK9
import Derived.Test.YtnjonnilpfenfaaGreatDoorVsK10
import Derived.Test.YtnjonnilpfenfaaGreatDoorVsK11
import Derived.Test.YtnjonnilpfenfaaGreatDoorVsK12
import Derived.Test.YtnjonnilpfenfaaGreatDoorVsK13
import Derived.Test.YtnjonnilpfenfaaGreatDoorVsK14
import Derived.Test.YtnjonnilpfenfaaGreatDoorVsK15
import Derived.Test.YtnjonnilpfenfaaGreatDoorLw
open Go.Ab
set_option maxRecDepth 100000
namespace Go.Proofs.YtnjonnilpfenfaaGreatDoor.VmSteps
theorem app_all {α : Type} {p : α → Prop} {l l' : List α} (h : ∀ x ∈ l, p x) (h' : ∀ x ∈ l', p x) : ∀ x ∈ l ++ l', p x := fun x hx => (List.mem_append.1 hx).elim (h x) (h' x)
section
variable {P : Program} {gl : Gam} {sp : Special}
theorem fitAll_all (hmix : P.follows .mixedOrders = true) {T : Tab} (hT : TabOK P gl.l sp T) (hsp : SpecOK P gl sp) {f : Nat} : ∀ {l : List Cert}, fitAll T f l = true → ∀ c ∈ l, c.Holds P gl f
  | [], _ => all_nil
  | _ :: _, h => all_cons (cert_holds hmix hT hsp (fitAll_h h)) (fitAll_all hmix hT hsp (fitAll_t h))
theorem fitAllN_all {T : Tab} (hT : TabOK P gl.l sp T) (hsp : SpecOK P gl sp) {f : Nat} : ∀ {l : List CertN}, fitAllN T f l = true → ∀ c ∈ l, c.Holds P gl f
  | [], _ => all_nil
  | _ :: _, h => all_cons (certN_holds hT hsp (fitAllN_h h)) (fitAllN_all hT hsp (fitAllN_t h))
end
theorem spD_ok {w0 : World} {m : Int} (hm : w0.cell? ⟨0, 0, none⟩ = some (.int .i64 m)) (ht : Pow w0) : SpecOK Tryz.prog (gam w0) spD :=
  (memoSp_ok mixed (all_cons (Cert.holds_evN mixed (sp0_ok hm ht) k118_0) (all_cons (Cert.holds_evN mixed (sp0_ok hm ht) k118_1) all_nil)) (sp0_ok hm ht))
theorem spA_ok {w0 : World} {m : Int} (hm : w0.cell? ⟨0, 0, none⟩ = some (.int .i64 m)) (ht : Pow w0) : SpecOK Tryz.prog (gam w0) spA :=
  have h := spD_ok hm ht
  have t : TabOK Tryz.prog (gam w0).l spD tabZ := tabZ_ok
  (memoSp_ok mixed (app_all (fitAll_all mixed t h k53_0) (fitAll_all mixed t h k53_1)) h)
theorem sp1_ok {w0 : World} {m : Int} (hm : w0.cell? ⟨0, 0, none⟩ = some (.int .i64 m)) (ht : Pow w0) : SpecOK Tryz.prog (gam w0) sp1 :=
  have h := spA_ok hm ht
  have t : TabOK Tryz.prog (gam w0).l spA tab0 := tab0_ok
  have a8 : ∀ x ∈ l8, x.Holds Tryz.prog (gam w0) 8 := (fitAll_all mixed t h k8_0)
  have a16 : ∀ x ∈ l16, x.Holds Tryz.prog (gam w0) 16 := (fitAll_all mixed t h k16_0)
  have a17 : ∀ x ∈ l17, x.Holds Tryz.prog (gam w0) 17 := (fitAll_all mixed t h k17_0)
  have a18 : ∀ x ∈ l18, x.Holds Tryz.prog (gam w0) 18 := (fitAll_all mixed t h k18_0)
  have a19 : ∀ x ∈ l19, x.Holds Tryz.prog (gam w0) 19 := (fitAll_all mixed t h k19_0)
  have a21 : ∀ x ∈ l21, x.Holds Tryz.prog (gam w0) 21 := (app_all (fitAll_all mixed t h k21_0) (app_all (fitAll_all mixed t h k21_1) (app_all (fitAll_all mixed t h k21_2) (app_all (fitAll_all mixed t h k21_3) (app_all (fitAll_all mixed t h k21_4) (app_all (fitAll_all mixed t h k21_5) (app_all (fitAll_all mixed t h k21_6) (app_all (fitAll_all mixed t h k21_7) (app_all (fitAll_all mixed t h k21_8) (app_all (fitAll_all mixed t h k21_9) (app_all (fitAll_all mixed t h k21_10) (fitAll_all mixed t h k21_11))))))))))))
  have a22 : ∀ x ∈ l22, x.Holds Tryz.prog (gam w0) 22 := (fitAll_all mixed t h k22_0)
  have a23 : ∀ x ∈ l23, x.Holds Tryz.prog (gam w0) 23 := (fitAll_all mixed t h k23_0)
  have a24 : ∀ x ∈ l24, x.Holds Tryz.prog (gam w0) 24 := (fitAll_all mixed t h k24_0)
  have a25 : ∀ x ∈ l25, x.Holds Tryz.prog (gam w0) 25 := (fitAll_all mixed t h k25_0)
  have a27 : ∀ x ∈ l27, x.Holds Tryz.prog (gam w0) 27 := (app_all (fitAllN_all t h k27_0) (app_all (fitAllN_all t h k27_1) (app_all (fitAllN_all t h k27_2) (app_all (fitAllN_all t h k27_3) (app_all (fitAllN_all t h k27_4) (app_all (fitAllN_all t h k27_5) (app_all (fitAllN_all t h k27_6) (app_all (fitAllN_all t h k27_7) (app_all (fitAllN_all t h k27_8) (app_all (fitAllN_all t h k27_9) (app_all (fitAllN_all t h k27_10) (app_all (fitAllN_all t h k27_11) (app_all (fitAllN_all t h k27_12) (app_all (fitAllN_all t h k27_13) (app_all (fitAllN_all t h k27_14) (fitAllN_all t h k27_15))))))))))))))))
  have a28 : ∀ x ∈ l28, x.Holds Tryz.prog (gam w0) 28 := (fitAll_all mixed t h k28_0)
  have a29 : ∀ x ∈ l29, x.Holds Tryz.prog (gam w0) 29 := (app_all (fitAll_all mixed t h k29_0) (app_all (fitAll_all mixed t h k29_1) (app_all (fitAll_all mixed t h k29_2) (app_all (fitAll_all mixed t h k29_3) (app_all (fitAll_all mixed t h k29_4) (app_all (fitAll_all mixed t h k29_5) (app_all (fitAll_all mixed t h k29_6) (app_all (fitAll_all mixed t h k29_7) (fitAll_all mixed t h k29_8)))))))))
  (memoSp_ok mixed a29 (memoSp_ok mixed a28 (memoNSp_ok mixed a27 (memoSp_ok mixed a25 (memoSp_ok mixed a24 (memoSp_ok mixed a23 (memoSp_ok mixed a22 (memoSp_ok mixed a21 (memoSp_ok mixed a19 (memoSp_ok mixed a18 (memoSp_ok mixed a17 (memoSp_ok mixed a16 (memoSp_ok mixed a8 h)))))))))))))
end Go.Proofs.YtnjonnilpfenfaaGreatDoor.VmSteps
