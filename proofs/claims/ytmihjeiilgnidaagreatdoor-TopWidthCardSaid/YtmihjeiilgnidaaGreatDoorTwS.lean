/- The specials hold. -/
import Derived.Test.YtmihjeiilgnidaaGreatDoorTwK0
import Derived.Test.YtmihjeiilgnidaaGreatDoorTwK1
import Derived.Test.YtmihjeiilgnidaaGreatDoorTwK2
import Derived.Test.YtmihjeiilgnidaaGreatDoorTwK3
import Derived.Test.YtmihjeiilgnidaaGreatDoorTwK4
import Derived.Test.YtmihjeiilgnidaaGreatDoorTwK5
import Derived.Test.YtmihjeiilgnidaaGreatDoorTwK6
import Derived.Test.YtmihjeiilgnidaaGreatDoorTwK7
import Derived.Test.YtmihjeiilgnidaaGreatDoorTwK8
import Derived.Test.YtmihjeiilgnidaaGreatDoorTwK9
import Derived.Test.YtmihjeiilgnidaaGreatDoorTwK10
import Derived.Test.YtmihjeiilgnidaaGreatDoorTwK11
import Derived.Test.YtmihjeiilgnidaaGreatDoorTwK12
import Derived.Test.YtmihjeiilgnidaaGreatDoorTwK13
import Derived.Test.YtmihjeiilgnidaaGreatDoorTwK14
import Derived.Test.YtmihjeiilgnidaaGreatDoorTwK15
import Derived.Test.YtmihjeiilgnidaaGreatDoorTwK16
import Derived.Test.YtmihjeiilgnidaaGreatDoorTwK17
import Derived.Test.YtmihjeiilgnidaaGreatDoorTwK18
import Derived.Test.YtmihjeiilgnidaaGreatDoorLw
open Go.Ab
set_option maxRecDepth 100000
namespace Go.Proofs.YtmihjeiilgnidaaGreatDoor.TopWidth
theorem sp1_ok {w0 : World} {m : Int} (hm : w0.cell? ⟨0, 0, none⟩ = some (.int .i64 m)) (ht : ∀ c : Nat, c < 256 → w0.cell? ⟨2, c, none⟩ = some (.int .u8 (if Lib.isSp (UInt8.ofNat c) then 1 else 0))) : SpecOK Tryz.prog (gam w0) sp1 :=
  have h := sp0_ok hm ht
  have t : TabOK Tryz.prog (gam w0).l sp0 tab0 := tab0_ok
  (memoSp_ok mixed (all_cons (cert_holds t h (fitAll_h g36_0)) (all_cons (cert_holds t h (fitAll_h (fitAll_t g36_0))) (all_cons (cert_holds t h (fitAll_h g36_2)) (all_cons (cert_holds t h (fitAll_h (fitAll_t g36_2))) (all_cons (cert_holds t h (fitAll_h g36_4)) (all_cons (cert_holds t h (fitAll_h (fitAll_t g36_4))) (all_cons (cert_holds t h k36_6) all_nil))))))) (memoSp_ok mixed (all_cons (cert_holds t h (fitAll_h g34_0)) (all_cons (cert_holds t h (fitAll_h (fitAll_t g34_0))) (all_cons (cert_holds t h k34_2) all_nil))) (memoSp_ok mixed (all_cons (cert_holds t h k32_0) (all_cons (cert_holds t h k32_1) (all_cons (cert_holds t h k32_2) (all_cons (cert_holds t h k32_3) (all_cons (cert_holds t h k32_4) (all_cons (cert_holds t h k32_5) (all_cons (cert_holds t h k32_6) (all_cons (cert_holds t h k32_7) (all_cons (cert_holds t h k32_8) (all_cons (cert_holds t h k32_9) (all_cons (cert_holds t h k32_10) (all_cons (cert_holds t h k32_11) all_nil)))))))))))) (memoSp_ok mixed (all_cons (cert_holds t h (fitAll_h g13_0)) (all_cons (cert_holds t h (fitAll_h (fitAll_t g13_0))) (all_cons (cert_holds t h (fitAll_h g13_2)) (all_cons (cert_holds t h (fitAll_h (fitAll_t g13_2))) (all_cons (cert_holds t h (fitAll_h g13_4)) (all_cons (cert_holds t h (fitAll_h (fitAll_t g13_4))) (all_cons (cert_holds t h (fitAll_h g13_6)) (all_cons (cert_holds t h (fitAll_h (fitAll_t g13_6))) (all_cons (cert_holds t h (fitAll_h g13_8)) (all_cons (cert_holds t h (fitAll_h (fitAll_t g13_8))) (all_cons (cert_holds t h (fitAll_h g13_10)) (all_cons (cert_holds t h (fitAll_h (fitAll_t g13_10))) all_nil)))))))))))) (memoSp_ok mixed (all_cons (cert_holds t h k9_0) all_nil) h)))))
end Go.Proofs.YtmihjeiilgnidaaGreatDoor.TopWidth
