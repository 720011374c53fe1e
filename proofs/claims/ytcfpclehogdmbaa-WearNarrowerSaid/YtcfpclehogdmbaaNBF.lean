/- WearNarrower: for every skin, probe and point, no probe makes the bounds of any point wider, at its own point they are within what it says, the same probe once more changes nothing, and the input reads as it did. -/
import Derived.Test.YtcfpclehogdmbaaNB0
import Derived.Test.YtcfpclehogdmbaaNB4
namespace Go.Proofs.Ytcfpclehogdmbaa
open Go.Proofs.Ytcfpclehogdmbaa.Q
theorem wearNarrower_holds : Rows.WearNarrowerSaid :=
  wearNarrower.over fun A0 c0 l0 A1 c1 l1 st lo hi A5 c5 l5 x y w h0 h1 h2 h5 h6 h7 => by
    obtain ⟨k, hk⟩ := narrower_plain l0 l1 st lo hi l5 x.f0.f0 x.f0.f1 x.f1 x.f2 y.f0 y.f1
    exact thatchlaw07_WearNarrower.calls k A0 c0 l0 A1 c1 l1 st lo hi A5 c5 l5 x.f0.f0 x.f0.f1 x.f1 x.f2 y.f0 y.f1 true w h0.1 h0.2.1 h1.1 h1.2.1 h5.1 h5.2.1 hk
end Go.Proofs.Ytcfpclehogdmbaa
