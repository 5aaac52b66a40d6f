/- The specials hold. -/
import Derived.Test.YtmihjeiilgnidaaGreatDoorTbK0
import Derived.Test.YtmihjeiilgnidaaGreatDoorTbK1
import Derived.Test.YtmihjeiilgnidaaGreatDoorTbK2
import Derived.Test.YtmihjeiilgnidaaGreatDoorTbK3
import Derived.Test.YtmihjeiilgnidaaGreatDoorTbK4
import Derived.Test.YtmihjeiilgnidaaGreatDoorTbK5
import Derived.Test.YtmihjeiilgnidaaGreatDoorTbK6
import Derived.Test.YtmihjeiilgnidaaGreatDoorTbK7
import Derived.Test.YtmihjeiilgnidaaGreatDoorTbK8
import Derived.Test.YtmihjeiilgnidaaGreatDoorTbK9
import Derived.Test.YtmihjeiilgnidaaGreatDoorTbK10
import Derived.Test.YtmihjeiilgnidaaGreatDoorTbK11
import Derived.Test.YtmihjeiilgnidaaGreatDoorTbK12
import Derived.Test.YtmihjeiilgnidaaGreatDoorTbK13
import Derived.Test.YtmihjeiilgnidaaGreatDoorTbK14
import Derived.Test.YtmihjeiilgnidaaGreatDoorTbK15
import Derived.Test.YtmihjeiilgnidaaGreatDoorTbK16
import Derived.Test.YtmihjeiilgnidaaGreatDoorTbK17
import Derived.Test.YtmihjeiilgnidaaGreatDoorTbK18
import Derived.Test.YtmihjeiilgnidaaGreatDoorLw
open Go.Ab
set_option maxRecDepth 100000
namespace Go.Proofs.YtmihjeiilgnidaaGreatDoor.TopBig
theorem sp1_ok {w0 : World} {m : Int} (hm : w0.cell? ⟨0, 0, none⟩ = some (.int .i64 m)) (ht : ∀ c : Nat, c < 256 → w0.cell? ⟨2, c, none⟩ = some (.int .u8 (if Lib.isSp (UInt8.ofNat c) then 1 else 0))) : SpecOK Tryz.prog (gam w0) sp1 :=
  have h := sp0_ok hm ht
  have t : TabOK Tryz.prog (gam w0).l sp0 tab0 := tab0_ok
  (memoSp_ok mixed (all_cons (cert_holds t h k13_0) (all_cons (cert_holds t h k13_1) (all_cons (cert_holds t h k13_2) (all_cons (cert_holds t h k13_3) (all_cons (cert_holds t h k13_4) (all_cons (cert_holds t h k13_5) (all_cons (cert_holds t h k13_6) (all_cons (cert_holds t h k13_7) (all_cons (cert_holds t h k13_8) (all_cons (cert_holds t h k13_9) (all_cons (cert_holds t h k13_10) (all_cons (cert_holds t h k13_11) all_nil)))))))))))) (memoSp_ok mixed (all_cons (cert_holds t h k11_0) (all_cons (cert_holds t h k11_1) (all_cons (cert_holds t h k11_2) (all_cons (cert_holds t h k11_3) (all_cons (cert_holds t h k11_4) (all_cons (cert_holds t h k11_5) all_nil)))))) (memoSp_ok mixed (all_cons (cert_holds t h k9_0) all_nil) h)))
end Go.Proofs.YtmihjeiilgnidaaGreatDoor.TopBig
