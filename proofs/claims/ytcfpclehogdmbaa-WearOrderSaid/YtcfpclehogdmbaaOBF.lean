/- WearOrder: for every skin and probes, probes in another order make the same skin, if they make one, and the input reads as it did. -/
import Derived.Test.YtcfpclehogdmbaaOB0
import Derived.Test.YtcfpclehogdmbaaOB4
namespace Go.Proofs.Ytcfpclehogdmbaa
open Go.Proofs.Ytcfpclehogdmbaa.Q
theorem wearOrder_holds : Rows.WearOrderSaid :=
  wearOrder.over fun A0 c0 l0 A1 c1 l1 st lo hi A5 c5 l5 A6 c6 l6 t w h0 h1 h2 h5 h6 h7 => by
    obtain ⟨k, hk⟩ := order_plain l0 l1 st lo hi l5 l6 t h7
    exact thatchlaw07_WearOrder.calls k A0 c0 l0 A1 c1 l1 st lo hi A5 c5 l5 A6 c6 l6 t true w h0.1 h0.2.1 h1.1 h1.2.1 h5.1 h5.2.1 h6.1 h6.2.1 hk
end Go.Proofs.Ytcfpclehogdmbaa
