/- The specials hold. -/
import Derived.Test.YtgegccpdegaccaaGreatDoorSdK0
import Derived.Test.YtgegccpdegaccaaGreatDoorSdK1
import Derived.Test.YtgegccpdegaccaaGreatDoorSdK2
import Derived.Test.YtgegccpdegaccaaGreatDoorSdK3
import Derived.Test.YtgegccpdegaccaaGreatDoorLw
open Go.Ab
set_option maxRecDepth 100000
namespace Go.Proofs.YtgegccpdegaccaaGreatDoor.VmSide
theorem app_all {α : Type} {p : α → Prop} {l l' : List α} (h : ∀ x ∈ l, p x) (h' : ∀ x ∈ l', p x) : ∀ x ∈ l ++ l', p x := fun x hx => (List.mem_append.1 hx).elim (h x) (h' x)
section
variable [Val] {P : Program} {gl : Gam} {sp : Special}
theorem fitAll_all (hmix : P.follows .mixedOrders = true) {T : Tab} (hT : TabOK P gl.l sp T) (hsp : SpecOK P gl sp) {f : Nat} : ∀ {l : List Cert}, fitAll T f l = true → ∀ c ∈ l, c.Holds P gl f
  | [], _ => all_nil
  | _ :: _, h => all_cons (cert_holds hmix hT hsp (fitAll_h h)) (fitAll_all hmix hT hsp (fitAll_t h))
theorem fitAllN_all {T : Tab} (hT : TabOK P gl.l sp T) (hsp : SpecOK P gl sp) {f : Nat} : ∀ {l : List CertN}, fitAllN T f l = true → ∀ c ∈ l, c.Holds P gl f
  | [], _ => all_nil
  | _ :: _, h => all_cons (certN_holds hT hsp (fitAllN_h h)) (fitAllN_all hT hsp (fitAllN_t h))
end
theorem spA_ok [Val] {w0 : World} {m : Int} (hm : w0.cell? ⟨1, 0, none⟩ = some (.int .i64 m)) (ht : Pow w0) : SpecOK Tryz.prog (gam w0) spA :=
  (memoSp_ok mixed (all_cons (Cert.holds_evN mixed (sp0_ok hm ht) k114_0) (all_cons (Cert.holds_evN mixed (sp0_ok hm ht) k114_1) (all_cons (Cert.holds_evN mixed (sp0_ok hm ht) k114_2) (all_cons (Cert.holds_evN mixed (sp0_ok hm ht) k114_3) all_nil)))) (sp0_ok hm ht))
theorem sp1_ok [Val] {w0 : World} {m : Int} (hm : w0.cell? ⟨1, 0, none⟩ = some (.int .i64 m)) (ht : Pow w0) : SpecOK Tryz.prog (gam w0) sp1 :=
  have h := spA_ok hm ht
  have t : TabOK Tryz.prog (gam w0).l spA tab0 := tab0_ok
  have a6 : ∀ x ∈ l6, x.Holds Tryz.prog (gam w0) 6 := (fitAll_all mixed t h k6_0)
  have a8 : ∀ x ∈ l8, x.Holds Tryz.prog (gam w0) 8 := (fitAll_all mixed t h k8_0)
  have a9 : ∀ x ∈ l9, x.Holds Tryz.prog (gam w0) 9 := (fitAll_all mixed t h k9_0)
  have a10 : ∀ x ∈ l10, x.Holds Tryz.prog (gam w0) 10 := (fitAll_all mixed t h k10_0)
  have a12 : ∀ x ∈ l12, x.Holds Tryz.prog (gam w0) 12 := (app_all (fitAllN_all t h k12_0) (app_all (fitAllN_all t h k12_1) (app_all (fitAllN_all t h k12_2) (app_all (fitAllN_all t h k12_3) (app_all (fitAllN_all t h k12_4) (app_all (fitAllN_all t h k12_5) (app_all (fitAllN_all t h k12_6) (app_all (fitAllN_all t h k12_7) (app_all (fitAllN_all t h k12_8) (app_all (fitAllN_all t h k12_9) (app_all (fitAllN_all t h k12_10) (app_all (fitAllN_all t h k12_11) (app_all (fitAllN_all t h k12_12) (app_all (fitAllN_all t h k12_13) (app_all (fitAllN_all t h k12_14) (fitAllN_all t h k12_15))))))))))))))))
  have a13 : ∀ x ∈ l13, x.Holds Tryz.prog (gam w0) 13 := (fitAll_all mixed t h k13_0)
  have a14 : ∀ x ∈ l14, x.Holds Tryz.prog (gam w0) 14 := (app_all (fitAll_all mixed t h k14_0) (fitAll_all mixed t h k14_1))
  have a15 : ∀ x ∈ l15, x.Holds Tryz.prog (gam w0) 15 := (app_all (fitAll_all mixed t h k15_0) (fitAll_all mixed t h k15_1))
  have a17 : ∀ x ∈ l17, x.Holds Tryz.prog (gam w0) 17 := (app_all (fitAll_all mixed t h k17_0) (app_all (fitAll_all mixed t h k17_1) (fitAll_all mixed t h k17_2)))
  (memoSp_ok mixed a17 (memoSp_ok mixed a15 (memoSp_ok mixed a14 (memoSp_ok mixed a13 (memoNSp_ok mixed a12 (memoSp_ok mixed a10 (memoSp_ok mixed a9 (memoSp_ok mixed a8 (memoSp_ok mixed a6 h)))))))))
end Go.Proofs.YtgegccpdegaccaaGreatDoor.VmSide
