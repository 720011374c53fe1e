/- WearTrue: for every skin, hills, probes and point, probes and seasons that tell the truth contradict nothing, each point is as thick as its bounds say, and the input reads as it did. -/
import Derived.Test.YtcfpclehogdmbaaTB0
import Derived.Test.YtcfpclehogdmbaaTB4
namespace Go.Proofs.Ytcfpclehogdmbaa
open Go.Proofs.Ytcfpclehogdmbaa.Q Go.Proofs.YtcfpclehogdmbaaW.PrintWords
theorem wearTrue_holds : Rows.WearTrueSaid :=
  wearTrue.over fun A0 c0 l0 A1 c1 l1 st lo hi A5 c5 l5 A6 c6 l6 A7 c7 l7 y w h0 h1 h2 h5 h6 h7 h8 => by
    have hn : (l6.length : Int) ≤ 9223372036854775807 := by have := h6.1.2.1; omega
    obtain ⟨k, hk⟩ := true_plain l0 l1 st lo hi l5 l6 l7 y.f0 y.f1 hn
    exact thatchlaw07_WearTrue.calls k (fun k_ => k_ < w.heap.size) A0 c0 l0 (fun k_ => k_ < w.heap.size) A1 c1 l1 st lo hi (fun k_ => k_ < w.heap.size) A5 c5 l5 A6 c6 l6 A7 c7 l7 y.f0 y.f1 true w (Kd.V_mk h0.2.1 (Kd.C_F k32_heap h0.1)) (Kd.V_mk h1.2.1 (Kd.C_F k55_heap h1.1)) (Kd.V_mk h5.2.1 (Kd.C_F k67_heap h5.1)) h6.1 h6.2.1 h7.1 h7.2.1 hk
end Go.Proofs.Ytcfpclehogdmbaa
