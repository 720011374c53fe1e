/- WearProbes: for every skin, point and numbers, what wear.Probe makes is told by the specification, and the input reads as it did. -/
import Derived.Test.YtcfpclehogdmbaaPB0
import Derived.Test.YtcfpclehogdmbaaPB5
namespace Go.Proofs.Ytcfpclehogdmbaa
open Go.Proofs.Ytcfpclehogdmbaa.Q
theorem wearProbes_holds : Rows.WearProbesSaid :=
  wearProbes.over fun A0 c0 l0 A1 c1 l1 st lo hi A5 c5 l5 p0 p1 rd wr w h0 h1 h2 h5 h6 h7 h8 => by
    obtain ⟨k, hk⟩ := probes_plain l0 l1 st lo hi l5 p0 p1 rd wr
    exact thatchlaw07_WearProbes.calls k A0 c0 l0 A1 c1 l1 st lo hi A5 c5 l5 p0 p1 rd wr true w h0.1 h0.2.1 h1.1 h1.2.1 h5.1 h5.2.1 hk
end Go.Proofs.Ytcfpclehogdmbaa
