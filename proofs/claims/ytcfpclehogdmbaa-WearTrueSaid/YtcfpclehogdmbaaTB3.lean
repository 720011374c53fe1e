/- part 3 of a proof over the translation: walks that a program of ours has printed and shortened, and plain laws; each says what stands in it -/
import Derived.Test.YtcfpclehogdmbaaTB0
import Derived.Test.YtcfpclehogdmbaaTB1
import Derived.Test.YtcfpclehogdmbaaTB2
section
namespace Go.Proofs.Ytcfpclehogdmbaa.Q
open Go.RowKit Go.Proofs.YtcfpclehogdmbaaW.PrintWords Go.Proofs.YtcfpclehogdmbaaW.PrintLast Go.Proofs.YtcfpclehogdmbaaW.PrintMore
attribute [local go_sem] max2_int min2_int max_two min_two max_three min_three max_four min_four   -- for this text's walks alone
set_option linter.unusedVariables false
set_option linter.unusedSimpArgs false
attribute [local go_sem high] eqA27
def wear_Bounds.f (k : Nat) (l0_0 : List (S32)) (l0_1 : List (S55)) (a0_2 : Int) (a0_3 : Int) (a0_4 : Int) (l0_5 : List (S67)) (a1_0 : Int) (a1_1 : Int) : Option (Int × Int × Int) := (wear_Check.f k l0_0 l0_1 a0_2 a0_3 a0_4 l0_5).bind fun t159 => (if t159 = 0 then ((wear_has.f l0_0 l0_1 a1_0 a1_1).bind fun t160 => (if t160 = true then ((wear_bounds.f k l0_0 l0_1 a0_2 a0_3 a0_4 l0_5 a1_0 a1_1).bind fun bt161 => (some (bt161.1, bt161.2, 0))) else (some (0, 0, 7)))) else (some (0, 0, t159)))
theorem wear_Bounds.mono : ∀ a0 a1 a2 a3 a4 a5 a6 a7 k, LeO (wear_Bounds.f k a0 a1 a2 a3 a4 a5 a6 a7) (wear_Bounds.f (k + 1) a0 a1 a2 a3 a4 a5 a6 a7) := by
 intro a0 a1 a2 a3 a4 a5 a6 a7 k
 unfold wear_Bounds.f
 repeat' first
   | (with_reducible exact wear_Check.mono _ _ _ _ _ _ _)
   | (with_reducible exact wear_bounds.mono _ _ _ _ _ _ _ _ _)
   | (with_reducible exact LeO.refl _)
   | (with_reducible exact LeO.none _)
   | (with_reducible refine LeO.ite ?_ ?_)
   | (with_reducible refine LeO.bind ?_ (fun _ => ?_))
   | exact wear_Check.mono _ _ _ _ _ _ _
   | exact wear_bounds.mono _ _ _ _ _ _ _ _ _
   | exact LeO.none _
   | refine LeO.ite ?_ ?_
   | refine LeO.bind ?_ (fun _ => ?_)
set_option maxHeartbeats 8000000 in
set_option maxRecDepth 100000 in
theorem wear_Bounds.calls (k : Nat) (A0_0 : Option Addr) (c0_0 : Nat) (l0_0 : List (S32)) (A0_1 : Option Addr) (c0_1 : Nat) (l0_1 : List (S55)) (a0_2 : Int) (a0_3 : Int) (a0_4 : Int) (A0_5 : Option Addr) (c0_5 : Nat) (l0_5 : List (S67)) (a1_0 : Int) (a1_1 : Int) (r1 : Int) (r2 : Int) (r3 : Int) (w : World) (hr0_0 : Kd.C k32 w A0_0 l0_0.length l0_0) (hc0_0 : l0_0.length ≤ c0_0) (hr0_1 : Kd.C k55 w A0_1 l0_1.length l0_1) (hc0_1 : l0_1.length ≤ c0_1) (hr0_5 : Kd.C k67 w A0_5 l0_5.length l0_5) (hc0_5 : l0_5.length ≤ c0_5) (h : wear_Bounds.f k l0_0 l0_1 a0_2 a0_3 a0_4 l0_5 a1_0 a1_1 = some (r1, r2, r3)) :
  Calls Try.prog 13 #[.agg #[.slice A0_0 l0_0.length c0_0, .slice A0_1 l0_1.length c0_1, .int .i64 a0_2, .int .i64 a0_3, .int .i64 a0_4, .slice A0_5 l0_5.length c0_5], .agg #[.int .i64 a1_0, .int .i64 a1_1]] w fun e w' => e = .returned (.tuple #[.agg #[.int .i64 r1, .int .i64 r2], .int .i64 r3]) ∧ Below w.heap.size w w' := by
 have hu30 := Try.underlying30
 have hu32 := Try.underlying32
 have hu27 := Try.underlying27
 have hu25 := Try.underlying25
 have HR0_0 := Aside0.mk hr0_0
 have HC0_0 := Aside0.mk hc0_0
 clear hr0_0 hc0_0
 have HR0_1 := Aside0.mk hr0_1
 have HC0_1 := Aside0.mk hc0_1
 clear hr0_1 hc0_1
 have HR0_5 := Aside0.mk hr0_5
 have HC0_5 := Aside0.mk hc0_5
 clear hr0_5 hc0_5
 have HB := Aside0.mk (Below.refl w.heap.size w)
 have H : ((wear_Check.f k l0_0 l0_1 a0_2 a0_3 a0_4 l0_5).bind fun t159 => (if t159 = 0 then ((wear_has.f l0_0 l0_1 a1_0 a1_1).bind fun t160 => (if t160 = true then ((wear_bounds.f k l0_0 l0_1 a0_2 a0_3 a0_4 l0_5 a1_0 a1_1).bind fun bt161 => (some (bt161.1, bt161.2, 0))) else (some (0, 0, 7)))) else (some (0, 0, t159)))) = some (r1, r2, r3) := h
 clear h
 replace H := Option.bind_eq_some_iff.mp H
 obtain ⟨t159, A30, H⟩ := H
 replace H : (if t159 = 0 then ((wear_has.f l0_0 l0_1 a1_0 a1_1).bind fun t160 => (if t160 = true then ((wear_bounds.f k l0_0 l0_1 a0_2 a0_3 a0_4 l0_5 a1_0 a1_1).bind fun bt161 => (some (bt161.1, bt161.2, 0))) else (some (0, 0, 7)))) else (some (0, 0, t159))) = some (r1, r2, r3) := H
 have A3 := Aside0.mk A30
 clear A30
 by_cases c4 : t159 = 0
 ·rw [if_pos c4] at H
  have c4b0 : (t159 == 0) = true := beq_iff_eq.mpr c4
  have c4b1 : (t159 != 0) = false := bne_eq_false_iff_eq.mpr c4
  clear c4
  replace H := Option.bind_eq_some_iff.mp H
  obtain ⟨t160, A50, H⟩ := H
  replace H : (if t160 = true then ((wear_bounds.f k l0_0 l0_1 a0_2 a0_3 a0_4 l0_5 a1_0 a1_1).bind fun bt161 => (some (bt161.1, bt161.2, 0))) else (some (0, 0, 7))) = some (r1, r2, r3) := H
  have A5 := Aside0.mk A50
  clear A50
  by_cases c6 : t160 = true
  ·subst c6
   have H1 : ((wear_bounds.f k l0_0 l0_1 a0_2 a0_3 a0_4 l0_5 a1_0 a1_1).bind fun bt161 => (some (bt161.1, bt161.2, 0))) = some (r1, r2, r3) := by rw [if_pos rfl] at H; exact H
   clear H
   have H := H1
   clear H1
   replace H := Option.bind_eq_some_iff.mp H
   obtain ⟨⟨t161, t162⟩, A70, H⟩ := H
   replace H : (some (t161, t162, 0)) = some (r1, r2, r3) := H
   have A7 := Aside0.mk A70
   clear A70
   simp only [Option.some.injEq, Prod.mk.injEq] at H
   obtain ⟨rfl, rfl, rfl⟩ := H
   go_enter Try.func13, Try.ntmps13
   go_wp2_with (first | ((with_reducible refine gate_dst (N := 2) rfl ?_); refine zx 2 #[.slice A0_0 l0_0.length c0_0, .slice A0_1 l0_1.length c0_1, .int .i64 a0_2, .int .i64 a0_3, .int .i64 a0_4, .slice A0_5 l0_5.length c0_5] 30 ?_; intro gb156 hg w8 hbox hb; have n0_ := zY HB hb; have n1_ := Aside0.mk (hbox); have n2_ := zS hg HB; have n3_ := zS hg HB; clear HB; have HB := n0_; have BK156 := n1_; have GW156 := n2_; have GE156 := n3_; clear n0_ n1_ n2_ n3_; clear hb hbox hg) | ((with_reducible refine gate_dst (N := 3) rfl ?_); refine zx 3 #[.int .i64 a1_0, .int .i64 a1_1] 32 ?_; intro gb157 hg w9 hbox hb; have n0_ := zD BK156 hb; have n1_ := zY HB hb; have n2_ := Aside0.mk (hbox); have n3_ := zS hg HB; have n4_ := zS hg HB; have n5_ := zN hg BK156; have n6_ := zM hg BK156; clear BK156; clear HB; have BK156 := n0_; have HB := n1_; have BK157 := n2_; have GW157 := n3_; have GE157 := n4_; have NB156_157 := n5_; have NB157_156 := n6_; clear n0_ n1_ n2_ n3_ n4_ n5_ n6_; clear hb hbox hg) | ((with_reducible refine gate_dst (N := 4) rfl ?_); refine zx 4 #[.int .i64 0, .int .i64 0] 27 ?_; intro gb158 hg w10 hbox hb; have n0_ := zD BK156 hb; have n1_ := zD BK157 hb; have n2_ := zY HB hb; have n3_ := Aside0.mk (hbox); have n4_ := zS hg HB; have n5_ := zS hg HB; have n6_ := zN hg BK156; have n7_ := zM hg BK156; have n8_ := zN hg BK157; have n9_ := zM hg BK157; clear BK156; clear BK157; clear HB; have BK156 := n0_; have BK157 := n1_; have HB := n2_; have BK158 := n3_; have GW158 := n4_; have GE158 := n5_; have NB156_158 := n6_; have NB158_156 := n7_; have NB157_158 := n8_; have NB158_157 := n9_; clear n0_ n1_ n2_ n3_ n4_ n5_ n6_ n7_ n8_ n9_; clear hb hbox hg; have hnb11 := NB156_157.out; have hnc11 := NB157_156.out; have hnb12 := NB156_158.out; have hnc12 := NB158_156.out; obtain ⟨hcz13_0, hcz13_1, hcz13_2, hcz13_3, hcz13_4, hcz13_5, hfz13_0, hfz13_1, hfz13_2, hfz13_3, hfz13_4, hfz13_5⟩ := zk6 BK156) | ((with_reducible refine gate_callee (f := 15) rfl ?_); refine goesL_ (some 8) rfl rfl Try.func15 (by kernel_rfl) rfl #[.agg #[.slice A0_0 l0_0.length c0_0, .slice A0_1 l0_1.length c0_1, .int .i64 a0_2, .int .i64 a0_3, .int .i64 a0_4, .slice A0_5 l0_5.length c0_5]] rfl za ?_; (with_reducible refine (wear_Check.calls k _ _ l0_0 _ _ l0_1 a0_2 a0_3 a0_4 _ _ l0_5 t159 _ ?side1 ?side2 ?side3 ?side4 ?side5 ?side6 A3.out).mono ?_); (case side1 => exact zl HR0_0 HB); (case side2 => exact HC0_0.out); (case side3 => exact zl HR0_1 HB); (case side4 => exact HC0_1.out); (case side5 => exact zl HR0_5 HB); (case side6 => exact HC0_5.out); rintro e w14 ⟨rfl, hb⟩; refine ⟨_, rfl, ?_⟩; have n0_ := zD BK156 hb; have n1_ := zD BK157 hb; have n2_ := zD BK158 hb; have n3_ := zY HB hb; clear BK156; clear BK157; clear BK158; clear HB; have BK156 := n0_; have BK157 := n1_; have BK158 := n2_; have HB := n3_; clear n0_ n1_ n2_ n3_; (try clear hb); (try clear hb2); (try clear hk); (try clear hi); obtain ⟨hcz15_0, hcz15_1, hcz15_2, hcz15_3, hcz15_4, hcz15_5, hfz15_0, hfz15_1, hfz15_2, hfz15_3, hfz15_4, hfz15_5⟩ := zk6 BK156; have hnb16 := NB157_158.out; have hnc16 := NB158_157.out; obtain ⟨hcz17_0, hcz17_1, hfz17_0, hfz17_1⟩ := zk2 BK157) | ((with_reducible refine gate_callee (f := 21) rfl ?_); refine goesL_ (some 16) rfl rfl Try.func21 (by kernel_rfl) rfl #[.agg #[.slice A0_0 l0_0.length c0_0, .slice A0_1 l0_1.length c0_1], .agg #[.int .i64 a1_0, .int .i64 a1_1]] rfl za ?_; (with_reducible refine (wear_has.calls _ _ l0_0 _ _ l0_1 a1_0 a1_1 true _ ?side1 ?side2 ?side3 ?side4 A5.out).mono ?_); (case side1 => exact zl HR0_0 HB); (case side2 => exact HC0_0.out); (case side3 => exact zl HR0_1 HB); (case side4 => exact HC0_1.out); rintro e w18 ⟨rfl, hb⟩; refine ⟨_, rfl, ?_⟩; have n0_ := zD BK156 hb; have n1_ := zD BK157 hb; have n2_ := zD BK158 hb; have n3_ := zY HB hb; clear BK156; clear BK157; clear BK158; clear HB; have BK156 := n0_; have BK157 := n1_; have BK158 := n2_; have HB := n3_; clear n0_ n1_ n2_ n3_; (try clear hb); (try clear hb2); (try clear hk); (try clear hi); obtain ⟨hcz19_0, hcz19_1, hcz19_2, hcz19_3, hcz19_4, hcz19_5, hfz19_0, hfz19_1, hfz19_2, hfz19_3, hfz19_4, hfz19_5⟩ := zk6 BK156; obtain ⟨hcz20_0, hcz20_1, hfz20_0, hfz20_1⟩ := zk2 BK157) | ((with_reducible refine gate_callee (f := 33) rfl ?_); refine goesL_ (some 21) rfl rfl Try.func33 (by kernel_rfl) rfl #[.agg #[.slice A0_0 l0_0.length c0_0, .slice A0_1 l0_1.length c0_1, .int .i64 a0_2, .int .i64 a0_3, .int .i64 a0_4, .slice A0_5 l0_5.length c0_5], .agg #[.int .i64 a1_0, .int .i64 a1_1]] rfl za ?_; (with_reducible refine (wear_bounds.calls k _ _ l0_0 _ _ l0_1 a0_2 a0_3 a0_4 _ _ l0_5 a1_0 a1_1 t161 t162 _ ?side1 ?side2 ?side3 ?side4 ?side5 ?side6 A7.out).mono ?_); (case side1 => exact zl HR0_0 HB); (case side2 => exact HC0_0.out); (case side3 => exact zl HR0_1 HB); (case side4 => exact HC0_1.out); (case side5 => exact zl HR0_5 HB); (case side6 => exact HC0_5.out); rintro e w21 ⟨rfl, hb⟩; refine ⟨_, rfl, ?_⟩; have n0_ := zD BK156 hb; have n1_ := zD BK157 hb; have n2_ := zD BK158 hb; have n3_ := zY HB hb; clear BK156; clear BK157; clear BK158; clear HB; have BK156 := n0_; have BK157 := n1_; have BK158 := n2_; have HB := n3_; clear n0_ n1_ n2_ n3_; (try clear hb); (try clear hb2); (try clear hk); (try clear hi); obtain ⟨hcz22_0, hcz22_1, hfz22_0, hfz22_1⟩ := zk2 BK158))
   refine bodyPost_ret (results_ct rfl _ _ gb158 27 #[.int .i64 t161, .int .i64 t162] (0, 0) _ rfl (by refine zQ ?_; refine blk_put (cs := #[.int .i64 t161, .int .i64 0]) ?_ 1 _ rfl; refine zQ ?_; refine blk_put (cs := #[.int .i64 0, .int .i64 0]) ?_ 0 _ rfl; (with_reducible repeat (first | refine blk_drewN ?_ _ | refine blk_drew ?_ | refine blk_alloc ?_ _)); exact BK158.out) Try.underlying27 rfl (by kernel_rfl)) rfl ?_
   exact ⟨ze, zw HB⟩
  replace c6 := Bool.eq_false_iff.mpr c6
  subst c6
  have H1 : (some (0, 0, 7)) = some (r1, r2, r3) := by rw [if_neg (show ¬ (false = true) by decide)] at H; exact H
  clear H
  have H := H1
  clear H1
  simp only [Option.some.injEq, Prod.mk.injEq] at H
  obtain ⟨rfl, rfl, rfl⟩ := H
  go_enter Try.func13, Try.ntmps13
  go_wp2_with (first | ((with_reducible refine gate_dst (N := 2) rfl ?_); refine zx 2 #[.slice A0_0 l0_0.length c0_0, .slice A0_1 l0_1.length c0_1, .int .i64 a0_2, .int .i64 a0_3, .int .i64 a0_4, .slice A0_5 l0_5.length c0_5] 30 ?_; intro gb156 hg w23 hbox hb; have n0_ := zY HB hb; have n1_ := Aside0.mk (hbox); have n2_ := zS hg HB; have n3_ := zS hg HB; clear HB; have HB := n0_; have BK156 := n1_; have GW156 := n2_; have GE156 := n3_; clear n0_ n1_ n2_ n3_; clear hb hbox hg) | ((with_reducible refine gate_dst (N := 3) rfl ?_); refine zx 3 #[.int .i64 a1_0, .int .i64 a1_1] 32 ?_; intro gb157 hg w24 hbox hb; have n0_ := zD BK156 hb; have n1_ := zY HB hb; have n2_ := Aside0.mk (hbox); have n3_ := zS hg HB; have n4_ := zS hg HB; have n5_ := zN hg BK156; have n6_ := zM hg BK156; clear BK156; clear HB; have BK156 := n0_; have HB := n1_; have BK157 := n2_; have GW157 := n3_; have GE157 := n4_; have NB156_157 := n5_; have NB157_156 := n6_; clear n0_ n1_ n2_ n3_ n4_ n5_ n6_; clear hb hbox hg) | ((with_reducible refine gate_dst (N := 4) rfl ?_); refine zx 4 #[.int .i64 0, .int .i64 0] 27 ?_; intro gb158 hg w25 hbox hb; have n0_ := zD BK156 hb; have n1_ := zD BK157 hb; have n2_ := zY HB hb; have n3_ := Aside0.mk (hbox); have n4_ := zS hg HB; have n5_ := zS hg HB; have n6_ := zN hg BK156; have n7_ := zM hg BK156; have n8_ := zN hg BK157; have n9_ := zM hg BK157; clear BK156; clear BK157; clear HB; have BK156 := n0_; have BK157 := n1_; have HB := n2_; have BK158 := n3_; have GW158 := n4_; have GE158 := n5_; have NB156_158 := n6_; have NB158_156 := n7_; have NB157_158 := n8_; have NB158_157 := n9_; clear n0_ n1_ n2_ n3_ n4_ n5_ n6_ n7_ n8_ n9_; clear hb hbox hg; have hnb26 := NB156_157.out; have hnc26 := NB157_156.out; have hnb27 := NB156_158.out; have hnc27 := NB158_156.out; obtain ⟨hcz28_0, hcz28_1, hcz28_2, hcz28_3, hcz28_4, hcz28_5, hfz28_0, hfz28_1, hfz28_2, hfz28_3, hfz28_4, hfz28_5⟩ := zk6 BK156) | ((with_reducible refine gate_callee (f := 15) rfl ?_); refine goesL_ (some 8) rfl rfl Try.func15 (by kernel_rfl) rfl #[.agg #[.slice A0_0 l0_0.length c0_0, .slice A0_1 l0_1.length c0_1, .int .i64 a0_2, .int .i64 a0_3, .int .i64 a0_4, .slice A0_5 l0_5.length c0_5]] rfl za ?_; (with_reducible refine (wear_Check.calls k _ _ l0_0 _ _ l0_1 a0_2 a0_3 a0_4 _ _ l0_5 t159 _ ?side1 ?side2 ?side3 ?side4 ?side5 ?side6 A3.out).mono ?_); (case side1 => exact zl HR0_0 HB); (case side2 => exact HC0_0.out); (case side3 => exact zl HR0_1 HB); (case side4 => exact HC0_1.out); (case side5 => exact zl HR0_5 HB); (case side6 => exact HC0_5.out); rintro e w29 ⟨rfl, hb⟩; refine ⟨_, rfl, ?_⟩; have n0_ := zD BK156 hb; have n1_ := zD BK157 hb; have n2_ := zD BK158 hb; have n3_ := zY HB hb; clear BK156; clear BK157; clear BK158; clear HB; have BK156 := n0_; have BK157 := n1_; have BK158 := n2_; have HB := n3_; clear n0_ n1_ n2_ n3_; (try clear hb); (try clear hb2); (try clear hk); (try clear hi); obtain ⟨hcz30_0, hcz30_1, hcz30_2, hcz30_3, hcz30_4, hcz30_5, hfz30_0, hfz30_1, hfz30_2, hfz30_3, hfz30_4, hfz30_5⟩ := zk6 BK156; have hnb31 := NB157_158.out; have hnc31 := NB158_157.out; obtain ⟨hcz32_0, hcz32_1, hfz32_0, hfz32_1⟩ := zk2 BK157) | ((with_reducible refine gate_callee (f := 21) rfl ?_); refine goesL_ (some 16) rfl rfl Try.func21 (by kernel_rfl) rfl #[.agg #[.slice A0_0 l0_0.length c0_0, .slice A0_1 l0_1.length c0_1], .agg #[.int .i64 a1_0, .int .i64 a1_1]] rfl za ?_; (with_reducible refine (wear_has.calls _ _ l0_0 _ _ l0_1 a1_0 a1_1 false _ ?side1 ?side2 ?side3 ?side4 A5.out).mono ?_); (case side1 => exact zl HR0_0 HB); (case side2 => exact HC0_0.out); (case side3 => exact zl HR0_1 HB); (case side4 => exact HC0_1.out); rintro e w33 ⟨rfl, hb⟩; refine ⟨_, rfl, ?_⟩; have n0_ := zD BK156 hb; have n1_ := zD BK157 hb; have n2_ := zD BK158 hb; have n3_ := zY HB hb; clear BK156; clear BK157; clear BK158; clear HB; have BK156 := n0_; have BK157 := n1_; have BK158 := n2_; have HB := n3_; clear n0_ n1_ n2_ n3_; (try clear hb); (try clear hb2); (try clear hk); (try clear hi); obtain ⟨hcz34_0, hcz34_1, hfz34_0, hfz34_1⟩ := zk2 BK158))
  refine bodyPost_ret (results_ct rfl _ _ gb158 27 #[.int .i64 0, .int .i64 0] (0, 0) _ rfl (by refine zQ ?_; refine blk_put (cs := #[.int .i64 0, .int .i64 0]) ?_ 1 _ rfl; refine zQ ?_; refine blk_put (cs := #[.int .i64 0, .int .i64 0]) ?_ 0 _ rfl; (with_reducible repeat (first | refine blk_drewN ?_ _ | refine blk_drew ?_ | refine blk_alloc ?_ _)); exact BK158.out) Try.underlying27 rfl (by kernel_rfl)) rfl ?_
  exact ⟨ze, zw HB⟩
 rw [if_neg c4] at H
 have c4b0 : (t159 == 0) = false := beq_eq_false_iff_ne.mpr c4
 have c4b1 : (t159 != 0) = true := bne_iff_ne.mpr c4
 simp only [Option.some.injEq, Prod.mk.injEq] at H
 obtain ⟨rfl, rfl, rfl⟩ := H
 go_enter Try.func13, Try.ntmps13
 go_wp2_with (first | ((with_reducible refine gate_dst (N := 2) rfl ?_); refine zx 2 #[.slice A0_0 l0_0.length c0_0, .slice A0_1 l0_1.length c0_1, .int .i64 a0_2, .int .i64 a0_3, .int .i64 a0_4, .slice A0_5 l0_5.length c0_5] 30 ?_; intro gb156 hg w35 hbox hb; have n0_ := zY HB hb; have n1_ := Aside0.mk (hbox); have n2_ := zS hg HB; have n3_ := zS hg HB; clear HB; have HB := n0_; have BK156 := n1_; have GW156 := n2_; have GE156 := n3_; clear n0_ n1_ n2_ n3_; clear hb hbox hg) | ((with_reducible refine gate_dst (N := 3) rfl ?_); refine zx 3 #[.int .i64 a1_0, .int .i64 a1_1] 32 ?_; intro gb157 hg w36 hbox hb; have n0_ := zD BK156 hb; have n1_ := zY HB hb; have n2_ := Aside0.mk (hbox); have n3_ := zS hg HB; have n4_ := zS hg HB; have n5_ := zN hg BK156; have n6_ := zM hg BK156; clear BK156; clear HB; have BK156 := n0_; have HB := n1_; have BK157 := n2_; have GW157 := n3_; have GE157 := n4_; have NB156_157 := n5_; have NB157_156 := n6_; clear n0_ n1_ n2_ n3_ n4_ n5_ n6_; clear hb hbox hg) | ((with_reducible refine gate_dst (N := 4) rfl ?_); refine zx 4 #[.int .i64 0, .int .i64 0] 27 ?_; intro gb158 hg w37 hbox hb; have n0_ := zD BK156 hb; have n1_ := zD BK157 hb; have n2_ := zY HB hb; have n3_ := Aside0.mk (hbox); have n4_ := zS hg HB; have n5_ := zS hg HB; have n6_ := zN hg BK156; have n7_ := zM hg BK156; have n8_ := zN hg BK157; have n9_ := zM hg BK157; clear BK156; clear BK157; clear HB; have BK156 := n0_; have BK157 := n1_; have HB := n2_; have BK158 := n3_; have GW158 := n4_; have GE158 := n5_; have NB156_158 := n6_; have NB158_156 := n7_; have NB157_158 := n8_; have NB158_157 := n9_; clear n0_ n1_ n2_ n3_ n4_ n5_ n6_ n7_ n8_ n9_; clear hb hbox hg; have hnb38 := NB156_157.out; have hnc38 := NB157_156.out; have hnb39 := NB156_158.out; have hnc39 := NB158_156.out; obtain ⟨hcz40_0, hcz40_1, hcz40_2, hcz40_3, hcz40_4, hcz40_5, hfz40_0, hfz40_1, hfz40_2, hfz40_3, hfz40_4, hfz40_5⟩ := zk6 BK156) | ((with_reducible refine gate_callee (f := 15) rfl ?_); refine goesL_ (some 8) rfl rfl Try.func15 (by kernel_rfl) rfl #[.agg #[.slice A0_0 l0_0.length c0_0, .slice A0_1 l0_1.length c0_1, .int .i64 a0_2, .int .i64 a0_3, .int .i64 a0_4, .slice A0_5 l0_5.length c0_5]] rfl za ?_; (with_reducible refine (wear_Check.calls k _ _ l0_0 _ _ l0_1 a0_2 a0_3 a0_4 _ _ l0_5 t159 _ ?side1 ?side2 ?side3 ?side4 ?side5 ?side6 A3.out).mono ?_); (case side1 => exact zl HR0_0 HB); (case side2 => exact HC0_0.out); (case side3 => exact zl HR0_1 HB); (case side4 => exact HC0_1.out); (case side5 => exact zl HR0_5 HB); (case side6 => exact HC0_5.out); rintro e w41 ⟨rfl, hb⟩; refine ⟨_, rfl, ?_⟩; have n0_ := zD BK156 hb; have n1_ := zD BK157 hb; have n2_ := zD BK158 hb; have n3_ := zY HB hb; clear BK156; clear BK157; clear BK158; clear HB; have BK156 := n0_; have BK157 := n1_; have BK158 := n2_; have HB := n3_; clear n0_ n1_ n2_ n3_; (try clear hb); (try clear hb2); (try clear hk); (try clear hi); have hnb42 := NB158_157.out; have hnc42 := NB157_158.out; obtain ⟨hcz43_0, hcz43_1, hfz43_0, hfz43_1⟩ := zk2 BK158))
 refine bodyPost_ret (results_ct rfl _ _ gb158 27 #[.int .i64 0, .int .i64 0] (0, 0) _ rfl (by refine zQ ?_; refine blk_put (cs := #[.int .i64 0, .int .i64 0]) ?_ 1 _ rfl; refine zQ ?_; refine blk_put (cs := #[.int .i64 0, .int .i64 0]) ?_ 0 _ rfl; (with_reducible repeat (first | refine blk_drewN ?_ _ | refine blk_drew ?_ | refine blk_alloc ?_ _)); exact BK158.out) Try.underlying27 rfl (by kernel_rfl)) rfl ?_
 exact ⟨ze, zw HB⟩
def thatchlaw07_Example.f  : Option ((List (S32)) × (List (S55)) × Int × Int × Int × (List (S67))) := some ((([(⟨0, 0⟩ : S32), (⟨20, 0⟩ : S32), (⟨20, 10⟩ : S32), (⟨0, 10⟩ : S32)] : List (S32))), (([(⟨(⟨5, 2⟩ : S32), (⟨9, 6⟩ : S32)⟩ : S55)] : List (S55))), 2, 100, 300, (([(⟨(⟨0, 0⟩ : S32), (⟨180, 200⟩ : S27)⟩ : S67)] : List (S67))))
set_option maxHeartbeats 8000000 in
set_option maxRecDepth 100000 in
theorem thatchlaw07_Example.calls  (r1 : List (S32)) (r2 : List (S55)) (r3 : Int) (r4 : Int) (r5 : Int) (r6 : List (S67)) (w : World) (h : thatchlaw07_Example.f  = some (r1, r2, r3, r4, r5, r6)) :
  Calls Try.prog 19 #[] w fun e w' => ∃ v0_ v1_ v5_ : Value, e = .returned (.agg #[v0_, v1_, .int .i64 r3, .int .i64 r4, .int .i64 r5, v5_]) ∧ Kd.R k32 32 w' w.heap.size (fun _ => True) v0_ r1 ∧ Kd.R k55 55 w' w.heap.size (fun _ => True) v1_ r2 ∧ Kd.R k67 67 w' w.heap.size (fun _ => True) v5_ r6 ∧ Below w.heap.size w w' := by
 have hu30 := Try.underlying30
 have hu32 := Try.underlying32
 have hu55 := Try.underlying55
 have hu25 := Try.underlying25
 have hu27 := Try.underlying27
 have hu67 := Try.underlying67
 have HB := Aside0.mk (Below.refl w.heap.size w)
 have H : (some ((([(⟨0, 0⟩ : S32), (⟨20, 0⟩ : S32), (⟨20, 10⟩ : S32), (⟨0, 10⟩ : S32)] : List (S32))), (([(⟨(⟨5, 2⟩ : S32), (⟨9, 6⟩ : S32)⟩ : S55)] : List (S55))), 2, 100, 300, (([(⟨(⟨0, 0⟩ : S32), (⟨180, 200⟩ : S27)⟩ : S67)] : List (S67))))) = some (r1, r2, r3, r4, r5, r6) := h
 clear h
 obtain ⟨y164, hy164⟩ : ∃ y_ : List (S32), y_ = (([(⟨0, 0⟩ : S32), (⟨20, 0⟩ : S32), (⟨20, 10⟩ : S32), (⟨0, 10⟩ : S32)] : List (S32))) := ⟨_, rfl⟩
 replace H : (some (y164, (([(⟨(⟨5, 2⟩ : S32), (⟨9, 6⟩ : S32)⟩ : S55)] : List (S55))), 2, 100, 300, (([(⟨(⟨0, 0⟩ : S32), (⟨180, 200⟩ : S27)⟩ : S67)] : List (S67))))) = some (r1, r2, r3, r4, r5, r6) := by first | (rw [hy164]; with_reducible exact H) | (have H2_ := (Option.bind_some _ _).symm.trans H; rw [hy164]; with_reducible exact H2_) | (have H2_ := (Option.bind_some _ _).symm.trans H; with_reducible exact H2_) | with_reducible exact H | (rw [hy164]; exact H) | exact H
 have Ny164 := Aside0.mk hy164
 clear hy164
 obtain ⟨y167, hy167⟩ : ∃ y_ : List (S55), y_ = (([(⟨(⟨5, 2⟩ : S32), (⟨9, 6⟩ : S32)⟩ : S55)] : List (S55))) := ⟨_, rfl⟩
 replace H : (some (y164, y167, 2, 100, 300, (([(⟨(⟨0, 0⟩ : S32), (⟨180, 200⟩ : S27)⟩ : S67)] : List (S67))))) = some (r1, r2, r3, r4, r5, r6) := by first | (rw [hy167]; with_reducible exact H) | (have H2_ := (Option.bind_some _ _).symm.trans H; rw [hy167]; with_reducible exact H2_) | (have H2_ := (Option.bind_some _ _).symm.trans H; with_reducible exact H2_) | with_reducible exact H | (rw [hy167]; exact H) | exact H
 have Ny167 := Aside0.mk hy167
 clear hy167
 obtain ⟨y170, hy170⟩ : ∃ y_ : List (S67), y_ = (([(⟨(⟨0, 0⟩ : S32), (⟨180, 200⟩ : S27)⟩ : S67)] : List (S67))) := ⟨_, rfl⟩
 replace H : (some (y164, y167, 2, 100, 300, y170)) = some (r1, r2, r3, r4, r5, r6) := by first | (rw [hy170]; with_reducible exact H) | (have H2_ := (Option.bind_some _ _).symm.trans H; rw [hy170]; with_reducible exact H2_) | (have H2_ := (Option.bind_some _ _).symm.trans H; with_reducible exact H2_) | with_reducible exact H | (rw [hy170]; exact H) | exact H
 have Ny170 := Aside0.mk hy170
 clear hy170
 simp only [Option.some.injEq, Prod.mk.injEq] at H
 obtain ⟨rfl, rfl, rfl, rfl, rfl, rfl⟩ := H
 go_enter Try.func19, Try.ntmps19
 go_wp2_with (first | ((with_reducible refine gate_dst (N := 0) rfl ?_); refine zx 0 #[.slice none 0 0, .slice none 0 0, .int .i64 0, .int .i64 0, .int .i64 0, .slice none 0 0] 30 ?_; intro gb163 hg w1 hbox hb; have n0_ := zY HB hb; have n1_ := Aside0.mk (hbox); have n2_ := zS hg HB; have n3_ := zS hg HB; clear HB; have HB := n0_; have BK163 := n1_; have GW163 := n2_; have GE163 := n3_; clear n0_ n1_ n2_ n3_; clear hb hbox hg) | ((with_reducible refine gate_dst (N := 5) rfl ?_); refine Kd.R_lit k32 _ 32 ?hg (N := 5) ?hd (xs := ([(⟨0, 0⟩ : S32), (⟨20, 0⟩ : S32), (⟨20, 10⟩ : S32), (⟨0, 10⟩ : S32)] : List (S32))) (inner := [.int .i64 0, .int .i64 0, .int .i64 20, .int .i64 0, .int .i64 20, .int .i64 10, .int .i64 0, .int .i64 10]) (ok := fun _ => True) (okp := fun _ => True) ?hr ?hp (fun _ hk => hk) trivial (Below.refl _ _) (Nat.le_refl _) (by simp) ?_; (case hd => rfl); (case hg => rfl); (case hr => first | (go_simp; done) | (go_simp; rfl)); (case hp => exact (Reps.c2 (show Kd.M k32 _ _ _ (⟨0, 0⟩ : S32) [.int .i64 0, .int .i64 0] from (k32_mkM _ _ _ (⟨0, 0⟩ : S32) )) (Reps.c2 (show Kd.M k32 _ _ _ (⟨20, 0⟩ : S32) [.int .i64 20, .int .i64 0] from (k32_mkM _ _ _ (⟨20, 0⟩ : S32) )) (Reps.c2 (show Kd.M k32 _ _ _ (⟨20, 10⟩ : S32) [.int .i64 20, .int .i64 10] from (k32_mkM _ _ _ (⟨20, 10⟩ : S32) )) (Reps.c2 (show Kd.M k32 _ _ _ (⟨0, 10⟩ : S32) [.int .i64 0, .int .i64 10] from (k32_mkM _ _ _ (⟨0, 10⟩ : S32) )) (Reps.none _ _)))))); intro v165 w2 ho3 hb hg_ hnew_; clear hg_ hnew_; (first | rw [← Ny164.out] at ho3 | (simp only [Int.reduceToNat] at ho3; rw [← Ny164.out] at ho3)); have n0_ := Aside0.mk (Kd.R_lower ho3 (below_size (zw HB))); have n1_ := zD BK163 hb; have n2_ := zY HB hb; clear BK163; clear HB; have HO166 := n0_; have BK163 := n1_; have HB := n2_; clear n0_ n1_ n2_; clear hb ho3) | ((with_reducible refine gate_dst (N := 9) rfl ?_); refine Kd.R_lit k55 _ 55 ?hg (N := 9) ?hd (xs := ([(⟨(⟨5, 2⟩ : S32), (⟨9, 6⟩ : S32)⟩ : S55)] : List (S55))) (inner := [.int .i64 5, .int .i64 2, .int .i64 9, .int .i64 6]) (ok := fun _ => True) (okp := fun _ => True) ?hr ?hp (fun _ hk => hk) trivial (Below.refl _ _) (Nat.le_refl _) (by simp) ?_; (case hd => rfl); (case hg => rfl); (case hr => first | (go_simp; done) | (go_simp; rfl)); (case hp => exact (Reps.c4 (show Kd.M k55 _ _ _ (⟨(⟨5, 2⟩ : S32), (⟨9, 6⟩ : S32)⟩ : S55) [.int .i64 5, .int .i64 2, .int .i64 9, .int .i64 6] from (k55_mkM _ _ _ (⟨(⟨5, 2⟩ : S32), (⟨9, 6⟩ : S32)⟩ : S55) )) (Reps.none _ _))); intro v168 w4 ho5 hb hg_ hnew_; clear hg_ hnew_; (first | rw [← Ny167.out] at ho5 | (simp only [Int.reduceToNat] at ho5; rw [← Ny167.out] at ho5)); have n0_ := Aside0.mk (Kd.R_below (zt HO166) hb); have n1_ := Aside0.mk (Kd.R_lower ho5 (below_size (zw HB))); have n2_ := zD BK163 hb; have n3_ := zY HB hb; clear HO166; clear BK163; clear HB; have HO166 := n0_; have HO169 := n1_; have BK163 := n2_; have HB := n3_; clear n0_ n1_ n2_ n3_; clear hb ho5; obtain ⟨Ao6, co6, eo6⟩ := Kd.R_slice HO169.out; subst eo6; obtain ⟨Ao7, co7, eo7⟩ := Kd.R_slice HO166.out; subst eo7) | ((with_reducible refine gate_dst (N := 14) rfl ?_); refine Kd.R_lit k67 _ 67 ?hg (N := 14) ?hd (xs := ([(⟨(⟨0, 0⟩ : S32), (⟨180, 200⟩ : S27)⟩ : S67)] : List (S67))) (inner := [.int .i64 0, .int .i64 0, .int .i64 180, .int .i64 200]) (ok := fun _ => True) (okp := fun _ => True) ?hr ?hp (fun _ hk => hk) trivial (Below.refl _ _) (Nat.le_refl _) (by simp) ?_; (case hd => rfl); (case hg => rfl); (case hr => first | (go_simp; done) | (go_simp; rfl)); (case hp => exact (Reps.c4 (show Kd.M k67 _ _ _ (⟨(⟨0, 0⟩ : S32), (⟨180, 200⟩ : S27)⟩ : S67) [.int .i64 0, .int .i64 0, .int .i64 180, .int .i64 200] from (k67_mkM _ _ _ (⟨(⟨0, 0⟩ : S32), (⟨180, 200⟩ : S27)⟩ : S67) )) (Reps.none _ _))); intro v171 w8 ho9 hb hg_ hnew_; clear hg_ hnew_; (first | rw [← Ny170.out] at ho9 | (simp only [Int.reduceToNat] at ho9; rw [← Ny170.out] at ho9)); have n0_ := Aside0.mk (Kd.R_below (zt HO166) hb); have n1_ := Aside0.mk (Kd.R_below (zt HO169) hb); have n2_ := Aside0.mk (Kd.R_lower ho9 (below_size (zw HB))); have n3_ := zD BK163 hb; have n4_ := zY HB hb; clear HO166; clear HO169; clear BK163; clear HB; have HO166 := n0_; have HO169 := n1_; have HO172 := n2_; have BK163 := n3_; have HB := n4_; clear n0_ n1_ n2_ n3_ n4_; clear hb ho9; obtain ⟨Ao10, co10, eo10⟩ := Kd.R_slice HO172.out; subst eo10; obtain ⟨hcz11_0, hcz11_1, hcz11_2, hcz11_3, hcz11_4, hcz11_5, hfz11_0, hfz11_1, hfz11_2, hfz11_3, hfz11_4, hfz11_5⟩ := zk6 BK163))
 refine bodyPost_ret (results_cell_row rfl _ _ gb163 30 #[.slice Ao7 y164.length co7, .slice Ao6 y167.length co6, .int .i64 2, .int .i64 100, .int .i64 300, .slice Ao10 y170.length co10] (0, 0) _ rfl (by refine zQ ?_; refine blk_put (cs := #[.slice Ao7 y164.length co7, .slice Ao6 y167.length co6, .int .i64 2, .int .i64 100, .int .i64 300, .slice none 0 0]) ?_ 5 _ rfl; refine zQ ?_; refine blk_put (cs := #[.slice Ao7 y164.length co7, .slice Ao6 y167.length co6, .int .i64 2, .int .i64 100, .int .i64 0, .slice none 0 0]) ?_ 4 _ rfl; refine zQ ?_; refine blk_put (cs := #[.slice Ao7 y164.length co7, .slice Ao6 y167.length co6, .int .i64 2, .int .i64 0, .int .i64 0, .slice none 0 0]) ?_ 3 _ rfl; refine zQ ?_; refine blk_put (cs := #[.slice Ao7 y164.length co7, .slice Ao6 y167.length co6, .int .i64 0, .int .i64 0, .int .i64 0, .slice none 0 0]) ?_ 2 _ rfl; refine zQ ?_; refine blk_put (cs := #[.slice Ao7 y164.length co7, .slice none 0 0, .int .i64 0, .int .i64 0, .int .i64 0, .slice none 0 0]) ?_ 1 _ rfl; refine zQ ?_; refine blk_put (cs := #[.slice none 0 0, .slice none 0 0, .int .i64 0, .int .i64 0, .int .i64 0, .slice none 0 0]) ?_ 0 _ rfl; (with_reducible repeat (first | refine blk_drewN ?_ _ | refine blk_drew ?_ | refine blk_alloc ?_ _)); exact BK163.out) Try.underlying30 rfl (by kernel_rfl)) rfl ?_
 exact ⟨_, _, _, ze, by (with_reducible repeat (first | apply Kd.R_alloc | apply Kd.R_drewN | apply Kd.R_drew)); exact Kd.R_mono (Kd.R_far (p := ⟨gb163, 5, none⟩) (Kd.R_far (p := ⟨gb163, 4, none⟩) (Kd.R_far (p := ⟨gb163, 3, none⟩) (Kd.R_far (p := ⟨gb163, 2, none⟩) (Kd.R_far (p := ⟨gb163, 1, none⟩) (Kd.R_far (p := ⟨gb163, 0, none⟩) (Kd.R_types HO166.out BK163.out (by decide)) (fun _ hk => hk.2) (.slice Ao7 y164.length co7)) (fun _ hk => hk.2) (.slice Ao6 y167.length co6)) (fun _ hk => hk.2) (.int .i64 2)) (fun _ hk => hk.2) (.int .i64 100)) (fun _ hk => hk.2) (.int .i64 300)) (fun _ hk => hk.2) (.slice Ao10 y170.length co10)) (fun _ hk => trivial), by (with_reducible repeat (first | apply Kd.R_alloc | apply Kd.R_drewN | apply Kd.R_drew)); exact Kd.R_mono (Kd.R_far (p := ⟨gb163, 5, none⟩) (Kd.R_far (p := ⟨gb163, 4, none⟩) (Kd.R_far (p := ⟨gb163, 3, none⟩) (Kd.R_far (p := ⟨gb163, 2, none⟩) (Kd.R_far (p := ⟨gb163, 1, none⟩) (Kd.R_far (p := ⟨gb163, 0, none⟩) (Kd.R_types HO169.out BK163.out (by decide)) (fun _ hk => hk.2) (.slice Ao7 y164.length co7)) (fun _ hk => hk.2) (.slice Ao6 y167.length co6)) (fun _ hk => hk.2) (.int .i64 2)) (fun _ hk => hk.2) (.int .i64 100)) (fun _ hk => hk.2) (.int .i64 300)) (fun _ hk => hk.2) (.slice Ao10 y170.length co10)) (fun _ hk => trivial), by (with_reducible repeat (first | apply Kd.R_alloc | apply Kd.R_drewN | apply Kd.R_drew)); exact Kd.R_mono (Kd.R_far (p := ⟨gb163, 5, none⟩) (Kd.R_far (p := ⟨gb163, 4, none⟩) (Kd.R_far (p := ⟨gb163, 3, none⟩) (Kd.R_far (p := ⟨gb163, 2, none⟩) (Kd.R_far (p := ⟨gb163, 1, none⟩) (Kd.R_far (p := ⟨gb163, 0, none⟩) (Kd.R_types HO172.out BK163.out (by decide)) (fun _ hk => hk.2) (.slice Ao7 y164.length co7)) (fun _ hk => hk.2) (.slice Ao6 y167.length co6)) (fun _ hk => hk.2) (.int .i64 2)) (fun _ hk => hk.2) (.int .i64 100)) (fun _ hk => hk.2) (.int .i64 300)) (fun _ hk => hk.2) (.slice Ao10 y170.length co10)) (fun _ hk => trivial), zw HB⟩
def wear_Rate.f (a0_0 : Int) (a0_1 : Int) (a1 : Int) (a2 : Int) (a3 : Int) (a4 : Int) : Option (Int × Int × Int) := (wear_spans.f a0_0 a0_1 10000).bind fun t175 => (if t175 = true then ((wear_in.f a1 1 100).bind fun t176 => (if t176 = true then ((wear_in.f a2 1 100).bind fun t177 => (if t177 = true then ((wear_in.f a3 0 100).bind fun t178 => (if t178 = true then ((wear_in.f a4 0 100).bind fun t179 => (if t179 = true then (if (wrap64 (200 * a1)) = 0 then (none) else (if (wrap64 (20000 * a1)) = 0 then (none) else (some (wrap64 (Int.tdiv (wrap64 (a0_0 * (wrap64 ((wrap64 (100 + a3)) * (wrap64 (a1 + a2)))))) (wrap64 (200 * a1))), wrap64 (Int.tdiv (wrap64 ((wrap64 ((wrap64 ((wrap64 (a0_1 * (wrap64 ((wrap64 (100 + a3)) * (wrap64 (a1 + a2)))))) * (wrap64 (100 + a4)))) + (wrap64 (20000 * a1)))) - 1)) (wrap64 (20000 * a1))), 0)))) else (some (0, 0, 1)))) else (some (0, 0, 1)))) else (some (0, 0, 1)))) else (some (0, 0, 1)))) else (some (0, 0, 1)))
def wear_Rate.T5 : Bool × List (List Nat × List Nat) := (true, [([], []), ([0], [0]), ([1], [1]), ([], []), ([2, 3], [2, 3]), ([], []), ([5], [5]), ([4, 6], [4, 6]), ([], []), ([8], [8]), ([9], [9]), ([], []), ([10, 11], [10, 11]), ([], []), ([13], [13]), ([12, 14], [12, 14]), ([], []), ([15, 16], [15, 16]), ([17], [17]), ([], []), ([18, 19], [18, 19]), ([7, 20], [7, 20]), ([21, 0, 1, 2, 3, 4, 5, 6, 7, 8, 9, 10, 11, 12, 13, 14, 15, 16, 17, 18, 19, 20, 21], [21]), ([22, 0, 1, 2, 3, 4, 5, 6, 7, 8, 9, 10, 11, 12, 13, 14, 15, 16, 17, 18, 19, 20, 21, 22], [])])
def wear_Rate.B5 : List Nat := [0, 1, 3, 0, 15, 0, 32, 127, 0, 256, 768, 0, 3840, 0, 8192, 32512, 0, 130816, 261888, 0, 1048320, 2097151, 4194303, 8388607]
theorem wear_Rate.tab5 : rtab .any (opsOf Try.f20 5) = wear_Rate.T5 := by kernel_rfl
theorem wear_Rate.bits5 : waitsOk wear_Rate.T5.2 wear_Rate.B5 = true := by kernel_rfl
set_option maxHeartbeats 8000000 in
set_option maxRecDepth 100000 in
theorem wear_Rate.calls (a0_0 : Int) (a0_1 : Int) (a1 : Int) (a2 : Int) (a3 : Int) (a4 : Int) (r1 : Int) (r2 : Int) (r3 : Int) (w : World) (h : wear_Rate.f a0_0 a0_1 a1 a2 a3 a4 = some (r1, r2, r3)) :
  Calls Try.prog 20 #[.agg #[.int .i64 a0_0, .int .i64 a0_1], .int .i64 a1, .int .i64 a2, .int .i64 a3, .int .i64 a4] w fun e w' => e = .returned (.tuple #[.agg #[.int .i64 r1, .int .i64 r2], .int .i64 r3]) ∧ Below w.heap.size w w' := by
 have hu60 := Try.underlying60
 have hu27 := Try.underlying27
 have HB := Aside0.mk (Below.refl w.heap.size w)
 have H : ((wear_spans.f a0_0 a0_1 10000).bind fun t175 => (if t175 = true then ((wear_in.f a1 1 100).bind fun t176 => (if t176 = true then ((wear_in.f a2 1 100).bind fun t177 => (if t177 = true then ((wear_in.f a3 0 100).bind fun t178 => (if t178 = true then ((wear_in.f a4 0 100).bind fun t179 => (if t179 = true then (if (wrap64 (200 * a1)) = 0 then (none) else (if (wrap64 (20000 * a1)) = 0 then (none) else (some (wrap64 (Int.tdiv (wrap64 (a0_0 * (wrap64 ((wrap64 (100 + a3)) * (wrap64 (a1 + a2)))))) (wrap64 (200 * a1))), wrap64 (Int.tdiv (wrap64 ((wrap64 ((wrap64 ((wrap64 (a0_1 * (wrap64 ((wrap64 (100 + a3)) * (wrap64 (a1 + a2)))))) * (wrap64 (100 + a4)))) + (wrap64 (20000 * a1)))) - 1)) (wrap64 (20000 * a1))), 0)))) else (some (0, 0, 1)))) else (some (0, 0, 1)))) else (some (0, 0, 1)))) else (some (0, 0, 1)))) else (some (0, 0, 1)))) = some (r1, r2, r3) := h
 clear h
 replace H := Option.bind_eq_some_iff.mp H
 obtain ⟨t175, A60, H⟩ := H
 replace H : (if t175 = true then ((wear_in.f a1 1 100).bind fun t176 => (if t176 = true then ((wear_in.f a2 1 100).bind fun t177 => (if t177 = true then ((wear_in.f a3 0 100).bind fun t178 => (if t178 = true then ((wear_in.f a4 0 100).bind fun t179 => (if t179 = true then (if (wrap64 (200 * a1)) = 0 then (none) else (if (wrap64 (20000 * a1)) = 0 then (none) else (some (wrap64 (Int.tdiv (wrap64 (a0_0 * (wrap64 ((wrap64 (100 + a3)) * (wrap64 (a1 + a2)))))) (wrap64 (200 * a1))), wrap64 (Int.tdiv (wrap64 ((wrap64 ((wrap64 ((wrap64 (a0_1 * (wrap64 ((wrap64 (100 + a3)) * (wrap64 (a1 + a2)))))) * (wrap64 (100 + a4)))) + (wrap64 (20000 * a1)))) - 1)) (wrap64 (20000 * a1))), 0)))) else (some (0, 0, 1)))) else (some (0, 0, 1)))) else (some (0, 0, 1)))) else (some (0, 0, 1)))) else (some (0, 0, 1))) = some (r1, r2, r3) := H
 have A6 := Aside0.mk A60
 clear A60
 by_cases c7 : t175 = true
 ·subst c7
  have H1 : ((wear_in.f a1 1 100).bind fun t176 => (if t176 = true then ((wear_in.f a2 1 100).bind fun t177 => (if t177 = true then ((wear_in.f a3 0 100).bind fun t178 => (if t178 = true then ((wear_in.f a4 0 100).bind fun t179 => (if t179 = true then (if (wrap64 (200 * a1)) = 0 then (none) else (if (wrap64 (20000 * a1)) = 0 then (none) else (some (wrap64 (Int.tdiv (wrap64 (a0_0 * (wrap64 ((wrap64 (100 + a3)) * (wrap64 (a1 + a2)))))) (wrap64 (200 * a1))), wrap64 (Int.tdiv (wrap64 ((wrap64 ((wrap64 ((wrap64 (a0_1 * (wrap64 ((wrap64 (100 + a3)) * (wrap64 (a1 + a2)))))) * (wrap64 (100 + a4)))) + (wrap64 (20000 * a1)))) - 1)) (wrap64 (20000 * a1))), 0)))) else (some (0, 0, 1)))) else (some (0, 0, 1)))) else (some (0, 0, 1)))) else (some (0, 0, 1)))) = some (r1, r2, r3) := by rw [if_pos rfl] at H; exact H
  clear H
  have H := H1
  clear H1
  replace H := Option.bind_eq_some_iff.mp H
  obtain ⟨t176, A80, H⟩ := H
  replace H : (if t176 = true then ((wear_in.f a2 1 100).bind fun t177 => (if t177 = true then ((wear_in.f a3 0 100).bind fun t178 => (if t178 = true then ((wear_in.f a4 0 100).bind fun t179 => (if t179 = true then (if (wrap64 (200 * a1)) = 0 then (none) else (if (wrap64 (20000 * a1)) = 0 then (none) else (some (wrap64 (Int.tdiv (wrap64 (a0_0 * (wrap64 ((wrap64 (100 + a3)) * (wrap64 (a1 + a2)))))) (wrap64 (200 * a1))), wrap64 (Int.tdiv (wrap64 ((wrap64 ((wrap64 ((wrap64 (a0_1 * (wrap64 ((wrap64 (100 + a3)) * (wrap64 (a1 + a2)))))) * (wrap64 (100 + a4)))) + (wrap64 (20000 * a1)))) - 1)) (wrap64 (20000 * a1))), 0)))) else (some (0, 0, 1)))) else (some (0, 0, 1)))) else (some (0, 0, 1)))) else (some (0, 0, 1))) = some (r1, r2, r3) := H
  have A8 := Aside0.mk A80
  clear A80
  by_cases c9 : t176 = true
  ·subst c9
   have H1 : ((wear_in.f a2 1 100).bind fun t177 => (if t177 = true then ((wear_in.f a3 0 100).bind fun t178 => (if t178 = true then ((wear_in.f a4 0 100).bind fun t179 => (if t179 = true then (if (wrap64 (200 * a1)) = 0 then (none) else (if (wrap64 (20000 * a1)) = 0 then (none) else (some (wrap64 (Int.tdiv (wrap64 (a0_0 * (wrap64 ((wrap64 (100 + a3)) * (wrap64 (a1 + a2)))))) (wrap64 (200 * a1))), wrap64 (Int.tdiv (wrap64 ((wrap64 ((wrap64 ((wrap64 (a0_1 * (wrap64 ((wrap64 (100 + a3)) * (wrap64 (a1 + a2)))))) * (wrap64 (100 + a4)))) + (wrap64 (20000 * a1)))) - 1)) (wrap64 (20000 * a1))), 0)))) else (some (0, 0, 1)))) else (some (0, 0, 1)))) else (some (0, 0, 1)))) = some (r1, r2, r3) := by rw [if_pos rfl] at H; exact H
   clear H
   have H := H1
   clear H1
   replace H := Option.bind_eq_some_iff.mp H
   obtain ⟨t177, A100, H⟩ := H
   replace H : (if t177 = true then ((wear_in.f a3 0 100).bind fun t178 => (if t178 = true then ((wear_in.f a4 0 100).bind fun t179 => (if t179 = true then (if (wrap64 (200 * a1)) = 0 then (none) else (if (wrap64 (20000 * a1)) = 0 then (none) else (some (wrap64 (Int.tdiv (wrap64 (a0_0 * (wrap64 ((wrap64 (100 + a3)) * (wrap64 (a1 + a2)))))) (wrap64 (200 * a1))), wrap64 (Int.tdiv (wrap64 ((wrap64 ((wrap64 ((wrap64 (a0_1 * (wrap64 ((wrap64 (100 + a3)) * (wrap64 (a1 + a2)))))) * (wrap64 (100 + a4)))) + (wrap64 (20000 * a1)))) - 1)) (wrap64 (20000 * a1))), 0)))) else (some (0, 0, 1)))) else (some (0, 0, 1)))) else (some (0, 0, 1))) = some (r1, r2, r3) := H
   have A10 := Aside0.mk A100
   clear A100
   by_cases c11 : t177 = true
   ·subst c11
    have H1 : ((wear_in.f a3 0 100).bind fun t178 => (if t178 = true then ((wear_in.f a4 0 100).bind fun t179 => (if t179 = true then (if (wrap64 (200 * a1)) = 0 then (none) else (if (wrap64 (20000 * a1)) = 0 then (none) else (some (wrap64 (Int.tdiv (wrap64 (a0_0 * (wrap64 ((wrap64 (100 + a3)) * (wrap64 (a1 + a2)))))) (wrap64 (200 * a1))), wrap64 (Int.tdiv (wrap64 ((wrap64 ((wrap64 ((wrap64 (a0_1 * (wrap64 ((wrap64 (100 + a3)) * (wrap64 (a1 + a2)))))) * (wrap64 (100 + a4)))) + (wrap64 (20000 * a1)))) - 1)) (wrap64 (20000 * a1))), 0)))) else (some (0, 0, 1)))) else (some (0, 0, 1)))) = some (r1, r2, r3) := by rw [if_pos rfl] at H; exact H
    clear H
    have H := H1
    clear H1
    replace H := Option.bind_eq_some_iff.mp H
    obtain ⟨t178, A120, H⟩ := H
    replace H : (if t178 = true then ((wear_in.f a4 0 100).bind fun t179 => (if t179 = true then (if (wrap64 (200 * a1)) = 0 then (none) else (if (wrap64 (20000 * a1)) = 0 then (none) else (some (wrap64 (Int.tdiv (wrap64 (a0_0 * (wrap64 ((wrap64 (100 + a3)) * (wrap64 (a1 + a2)))))) (wrap64 (200 * a1))), wrap64 (Int.tdiv (wrap64 ((wrap64 ((wrap64 ((wrap64 (a0_1 * (wrap64 ((wrap64 (100 + a3)) * (wrap64 (a1 + a2)))))) * (wrap64 (100 + a4)))) + (wrap64 (20000 * a1)))) - 1)) (wrap64 (20000 * a1))), 0)))) else (some (0, 0, 1)))) else (some (0, 0, 1))) = some (r1, r2, r3) := H
    have A12 := Aside0.mk A120
    clear A120
    by_cases c13 : t178 = true
    ·subst c13
     have H1 : ((wear_in.f a4 0 100).bind fun t179 => (if t179 = true then (if (wrap64 (200 * a1)) = 0 then (none) else (if (wrap64 (20000 * a1)) = 0 then (none) else (some (wrap64 (Int.tdiv (wrap64 (a0_0 * (wrap64 ((wrap64 (100 + a3)) * (wrap64 (a1 + a2)))))) (wrap64 (200 * a1))), wrap64 (Int.tdiv (wrap64 ((wrap64 ((wrap64 ((wrap64 (a0_1 * (wrap64 ((wrap64 (100 + a3)) * (wrap64 (a1 + a2)))))) * (wrap64 (100 + a4)))) + (wrap64 (20000 * a1)))) - 1)) (wrap64 (20000 * a1))), 0)))) else (some (0, 0, 1)))) = some (r1, r2, r3) := by rw [if_pos rfl] at H; exact H
     clear H
     have H := H1
     clear H1
     replace H := Option.bind_eq_some_iff.mp H
     obtain ⟨t179, A140, H⟩ := H
     replace H : (if t179 = true then (if (wrap64 (200 * a1)) = 0 then (none) else (if (wrap64 (20000 * a1)) = 0 then (none) else (some (wrap64 (Int.tdiv (wrap64 (a0_0 * (wrap64 ((wrap64 (100 + a3)) * (wrap64 (a1 + a2)))))) (wrap64 (200 * a1))), wrap64 (Int.tdiv (wrap64 ((wrap64 ((wrap64 ((wrap64 (a0_1 * (wrap64 ((wrap64 (100 + a3)) * (wrap64 (a1 + a2)))))) * (wrap64 (100 + a4)))) + (wrap64 (20000 * a1)))) - 1)) (wrap64 (20000 * a1))), 0)))) else (some (0, 0, 1))) = some (r1, r2, r3) := H
     have A14 := Aside0.mk A140
     clear A140
     by_cases c15 : t179 = true
     ·subst c15
      have H1 : (if (wrap64 (200 * a1)) = 0 then (none) else (if (wrap64 (20000 * a1)) = 0 then (none) else (some (wrap64 (Int.tdiv (wrap64 (a0_0 * (wrap64 ((wrap64 (100 + a3)) * (wrap64 (a1 + a2)))))) (wrap64 (200 * a1))), wrap64 (Int.tdiv (wrap64 ((wrap64 ((wrap64 ((wrap64 (a0_1 * (wrap64 ((wrap64 (100 + a3)) * (wrap64 (a1 + a2)))))) * (wrap64 (100 + a4)))) + (wrap64 (20000 * a1)))) - 1)) (wrap64 (20000 * a1))), 0)))) = some (r1, r2, r3) := by rw [if_pos rfl] at H; exact H
      clear H
      have H := H1
      clear H1
      by_cases c16 : (wrap64 (200 * a1)) = 0
      ·rw [if_pos c16] at H
       exact absurd H (by simp)
      rw [if_neg c16] at H
      have c16b0 : ((wrap64 (200 * a1)) == 0) = false := beq_eq_false_iff_ne.mpr c16
      have c16b1 : ((wrap64 (200 * a1)) != 0) = true := bne_iff_ne.mpr c16
      by_cases c17 : (wrap64 (20000 * a1)) = 0
      ·rw [if_pos c17] at H
       exact absurd H (by simp)
      rw [if_neg c17] at H
      have c17b0 : ((wrap64 (20000 * a1)) == 0) = false := beq_eq_false_iff_ne.mpr c17
      have c17b1 : ((wrap64 (20000 * a1)) != 0) = true := bne_iff_ne.mpr c17
      simp only [Option.some.injEq, Prod.mk.injEq] at H
      obtain ⟨rfl, rfl, rfl⟩ := H
      go_enter Try.func20, Try.ntmps20
      try go_wp2_with (first | ((with_reducible refine gate_dst (N := 5) rfl ?_); refine zx 5 #[.int .i64 a0_0, .int .i64 a0_1] 60 ?_; intro gb173 hg w18 hbox hb; have n0_ := zY HB hb; have n1_ := Aside0.mk (hbox); have n2_ := zS hg HB; have n3_ := zS hg HB; clear HB; have HB := n0_; have BK173 := n1_; have GW173 := n2_; have GE173 := n3_; clear n0_ n1_ n2_ n3_; clear hb hbox hg) | ((with_reducible refine gate_dst (N := 10) rfl ?_); refine zx 10 #[.int .i64 0, .int .i64 0] 27 ?_; intro gb174 hg w19 hbox hb; have n0_ := zD BK173 hb; have n1_ := zY HB hb; have n2_ := Aside0.mk (hbox); have n3_ := zS hg HB; have n4_ := zS hg HB; have n5_ := zN hg BK173; have n6_ := zM hg BK173; clear BK173; clear HB; have BK173 := n0_; have HB := n1_; have BK174 := n2_; have GW174 := n3_; have GE174 := n4_; have NB173_174 := n5_; have NB174_173 := n6_; clear n0_ n1_ n2_ n3_ n4_ n5_ n6_; clear hb hbox hg; have hnb20 := NB173_174.out; have hnc20 := NB174_173.out; obtain ⟨hcz21_0, hcz21_1, hfz21_0, hfz21_1⟩ := zk2 BK173) | ((with_reducible refine gate_callee (f := 37) rfl ?_); refine goesL_ (some 16) rfl rfl Try.func37 (by kernel_rfl) rfl #[.agg #[.int .i64 a0_0, .int .i64 a0_1], .int .i64 10000] rfl za ?_; (with_reducible refine (wear_spans.calls a0_0 a0_1 10000 true _ A6.out).mono ?_); rintro e w22 ⟨rfl, hb⟩; refine ⟨_, rfl, ?_⟩; have n0_ := zD BK173 hb; have n1_ := zD BK174 hb; have n2_ := zY HB hb; clear BK173; clear BK174; clear HB; have BK173 := n0_; have BK174 := n1_; have HB := n2_; clear n0_ n1_ n2_; (try clear hb); (try clear hb2); (try clear hk); (try clear hi)) | (go_at_call 22; (with_reducible refine (wear_in.calls a1 1 100 true _ A8.out).mono ?_); rintro e w' ⟨rfl, ⟨nd, rfl⟩⟩; (try (rw [drewN_self w22]; generalize hq_ : World.drewN w22 _ = w22; have n0_ : Aside0 (w22.heap[gb173]? = some (.cells #[.int .i64 a0_0, .int .i64 a0_1] 60 (0, 0))) := ⟨by rw [← hq_]; exact (zb BK173)⟩; have n1_ : Aside0 (w22.heap[gb174]? = some (.cells #[.int .i64 0, .int .i64 0] 27 (0, 0))) := ⟨by rw [← hq_]; exact (zb BK174)⟩; have n2_ : Aside0 (Below w.heap.size w w22) := ⟨by rw [← hq_]; exact (zw HB)⟩; clear BK173 BK174 HB hq_; have BK173 := n0_; have BK174 := n1_; have HB := n2_; clear n0_ n1_ n2_))) | (go_at_call 22; (with_reducible refine (wear_in.calls a2 1 100 true _ A10.out).mono ?_); rintro e w' ⟨rfl, ⟨nd, rfl⟩⟩; (try (rw [drewN_self w22]; generalize hq_ : World.drewN w22 _ = w22; have n0_ : Aside0 (w22.heap[gb173]? = some (.cells #[.int .i64 a0_0, .int .i64 a0_1] 60 (0, 0))) := ⟨by rw [← hq_]; exact (zb BK173)⟩; have n1_ : Aside0 (w22.heap[gb174]? = some (.cells #[.int .i64 0, .int .i64 0] 27 (0, 0))) := ⟨by rw [← hq_]; exact (zb BK174)⟩; have n2_ : Aside0 (Below w.heap.size w w22) := ⟨by rw [← hq_]; exact (zw HB)⟩; clear BK173 BK174 HB hq_; have BK173 := n0_; have BK174 := n1_; have HB := n2_; clear n0_ n1_ n2_))) | (go_at_call 22; (with_reducible refine (wear_in.calls a3 0 100 true _ A12.out).mono ?_); rintro e w' ⟨rfl, ⟨nd, rfl⟩⟩; (try (rw [drewN_self w22]; generalize hq_ : World.drewN w22 _ = w22; have n0_ : Aside0 (w22.heap[gb173]? = some (.cells #[.int .i64 a0_0, .int .i64 a0_1] 60 (0, 0))) := ⟨by rw [← hq_]; exact (zb BK173)⟩; have n1_ : Aside0 (w22.heap[gb174]? = some (.cells #[.int .i64 0, .int .i64 0] 27 (0, 0))) := ⟨by rw [← hq_]; exact (zb BK174)⟩; have n2_ : Aside0 (Below w.heap.size w w22) := ⟨by rw [← hq_]; exact (zw HB)⟩; clear BK173 BK174 HB hq_; have BK173 := n0_; have BK174 := n1_; have HB := n2_; clear n0_ n1_ n2_))) | (go_at_call 22; (with_reducible refine (wear_in.calls a4 0 100 true _ A14.out).mono ?_); rintro e w' ⟨rfl, ⟨nd, rfl⟩⟩; (try (rw [drewN_self w22]; generalize hq_ : World.drewN w22 _ = w22; have n0_ : Aside0 (w22.heap[gb173]? = some (.cells #[.int .i64 a0_0, .int .i64 a0_1] 60 (0, 0))) := ⟨by rw [← hq_]; exact (zb BK173)⟩; have n1_ : Aside0 (w22.heap[gb174]? = some (.cells #[.int .i64 0, .int .i64 0] 27 (0, 0))) := ⟨by rw [← hq_]; exact (zb BK174)⟩; have n2_ : Aside0 (Below w.heap.size w w22) := ⟨by rw [← hq_]; exact (zw HB)⟩; clear BK173 BK174 HB hq_; have BK173 := n0_; have BK174 := n1_; have HB := n2_; clear n0_ n1_ n2_))))
      have n0_ := Aside0.mk (blk_drew BK173.out)
      have n1_ := Aside0.mk (blk_drew BK174.out)
      have n2_ := Aside0.mk (below_drew1 HB.out)
      clear BK173; clear BK174; clear HB
      have BK173 := n0_
      have BK174 := n1_
      have HB := n2_
      clear n0_ n1_ n2_
      refine start_ (n := 24) (S := fun w' => w'.cell? ⟨gb173, 0, none⟩ = some (.int .i64 a0_0) ∧ w'.cell? ⟨gb173, 1, none⟩ = some (.int .i64 a0_1)) (ds := []) #[Z0, Z0, Z0, Z0, Z0, Z0, Z0, Z0, Z0, Z0, Z0, Z0, Z0, Z0, Z0, Z0, Z0, Z0, Z0, Z0, Z0, Z0, Z0, Z0] (by kernel_rfl) rfl rfl ⟨(blk_cell BK173.out 0).trans rfl, (blk_cell BK173.out 1).trans rfl⟩ (fun hHeld => ?_); refine with_tabW wear_Rate.tab5 wear_Rate.bits5 (fun HT_ HW_ => ?_)
      generalize w22.drew = w23 at BK173 BK174 HB hHeld ⊢
      refine zp 0 (some 47) #[Z1, Z0, Z0, Z0, Z0, Z0, Z0, Z0, Z0, Z0, Z0, Z0, Z0, Z0, Z0, Z0, Z0, Z0, Z0, Z0, Z0, Z0, Z0, Z0] rfl rfl (any_of HT_.out (by kernel_rfl)) ?_
      refine zp 1 (some 48) #[Z1, Z1, Z0, Z0, Z0, Z0, Z0, Z0, Z0, Z0, Z0, Z0, Z0, Z0, Z0, Z0, Z0, Z0, Z0, Z0, Z0, Z0, Z0, Z0] rfl rfl (any_of HT_.out (by kernel_rfl)) ?_
      refine zp 3 (some 50) #[Z1, Z1, Z0, Z1, Z0, Z0, Z0, Z0, Z0, Z0, Z0, Z0, Z0, Z0, Z0, Z0, Z0, Z0, Z0, Z0, Z0, Z0, Z0, Z0] rfl rfl (any_of HT_.out (by kernel_rfl)) ?_
      refine zp 5 (some 52) #[Z1, Z1, Z0, Z1, Z0, Z1, Z0, Z0, Z0, Z0, Z0, Z0, Z0, Z0, Z0, Z0, Z0, Z0, Z0, Z0, Z0, Z0, Z0, Z0] rfl rfl (any_of HT_.out (by kernel_rfl)) ?_
      refine zp 6 (some 53) #[Z1, Z1, Z0, Z1, Z0, Z1, Z1, Z0, Z0, Z0, Z0, Z0, Z0, Z0, Z0, Z0, Z0, Z0, Z0, Z0, Z0, Z0, Z0, Z0] rfl rfl (any_of HT_.out (by kernel_rfl)) ?_
      refine zp 8 (some 55) #[Z1, Z1, Z0, Z1, Z0, Z1, Z1, Z0, Z1, Z0, Z0, Z0, Z0, Z0, Z0, Z0, Z0, Z0, Z0, Z0, Z0, Z0, Z0, Z0] rfl rfl (any_of HT_.out (by kernel_rfl)) ?_
      refine zp 9 (some 56) #[Z1, Z1, Z0, Z1, Z0, Z1, Z1, Z0, Z1, Z1, Z0, Z0, Z0, Z0, Z0, Z0, Z0, Z0, Z0, Z0, Z0, Z0, Z0, Z0] rfl rfl (any_of HT_.out (by kernel_rfl)) ?_
      refine zp 11 (some 58) #[Z1, Z1, Z0, Z1, Z0, Z1, Z1, Z0, Z1, Z1, Z0, Z1, Z0, Z0, Z0, Z0, Z0, Z0, Z0, Z0, Z0, Z0, Z0, Z0] rfl rfl (any_of HT_.out (by kernel_rfl)) ?_
      refine zp 13 (some 60) #[Z1, Z1, Z0, Z1, Z0, Z1, Z1, Z0, Z1, Z1, Z0, Z1, Z0, Z1, Z0, Z0, Z0, Z0, Z0, Z0, Z0, Z0, Z0, Z0] rfl rfl (any_of HT_.out (by kernel_rfl)) ?_
      refine zp 14 (some 61) #[Z1, Z1, Z0, Z1, Z0, Z1, Z1, Z0, Z1, Z1, Z0, Z1, Z0, Z1, Z1, Z0, Z0, Z0, Z0, Z0, Z0, Z0, Z0, Z0] rfl rfl (any_of HT_.out (by kernel_rfl)) ?_
      refine zp 16 (some 63) #[Z1, Z1, Z0, Z1, Z0, Z1, Z1, Z0, Z1, Z1, Z0, Z1, Z0, Z1, Z1, Z0, Z1, Z0, Z0, Z0, Z0, Z0, Z0, Z0] rfl rfl (any_of HT_.out (by kernel_rfl)) ?_
      refine zp 19 (some 66) #[Z1, Z1, Z0, Z1, Z0, Z1, Z1, Z0, Z1, Z1, Z0, Z1, Z0, Z1, Z1, Z0, Z1, Z0, Z0, Z1, Z0, Z0, Z0, Z0] rfl rfl (any_of HT_.out (by kernel_rfl)) ?_
      refine take_ (i := 2) (N := some 49) (v := ?_) (a' := ?_) #[Z1, Z1, Z1, Z1, Z0, Z1, Z1, Z0, Z1, Z1, Z0, Z1, Z0, Z1, Z1, Z0, Z1, Z0, Z0, Z1, Z0, Z0, Z0, Z0] rfl rfl (take_ofW HT_.out HW_.out (by kernel_rfl)) (fun _ _ _ h => h) (Or.inl ⟨by rfl, ?_⟩) hHeld ?_ ?_
      rotate_left; · rintro w' ⟨s0, s1⟩; go_simp; with_reducible rfl
      rotate_left; · simp only [Act.put, List.setIfInBounds_toArray, List.set_cons_zero, List.set_cons_succ, i64_w, i32_w]; rfl
      refine zp 4 (some 51) #[Z1, Z1, Z1, Z1, Z1, Z1, Z1, Z0, Z1, Z1, Z0, Z1, Z0, Z1, Z1, Z0, Z1, Z0, Z0, Z1, Z0, Z0, Z0, Z0] rfl rfl (any_of HT_.out (by kernel_rfl)) ?_
      refine zp 7 (some 54) #[Z1, Z1, Z1, Z1, Z1, Z1, Z1, Z1, Z1, Z1, Z0, Z1, Z0, Z1, Z1, Z0, Z1, Z0, Z0, Z1, Z0, Z0, Z0, Z0] rfl rfl (any_of HT_.out (by kernel_rfl)) ?_
      refine take_ (i := 10) (N := some 57) (v := ?_) (a' := ?_) #[Z1, Z1, Z1, Z1, Z1, Z1, Z1, Z1, Z1, Z1, Z1, Z1, Z0, Z1, Z1, Z0, Z1, Z0, Z0, Z1, Z0, Z0, Z0, Z0] rfl rfl (take_ofW HT_.out HW_.out (by kernel_rfl)) (fun _ _ _ h => h) (Or.inl ⟨by rfl, ?_⟩) hHeld ?_ ?_
      rotate_left; · rintro w' ⟨s0, s1⟩; go_simp; with_reducible rfl
      rotate_left; · simp only [Act.put, List.setIfInBounds_toArray, List.set_cons_zero, List.set_cons_succ, i64_w, i32_w]; rfl
      refine zp 12 (some 59) #[Z1, Z1, Z1, Z1, Z1, Z1, Z1, Z1, Z1, Z1, Z1, Z1, Z1, Z1, Z1, Z0, Z1, Z0, Z0, Z1, Z0, Z0, Z0, Z0] rfl rfl (any_of HT_.out (by kernel_rfl)) ?_
      refine zp 15 (some 62) #[Z1, Z1, Z1, Z1, Z1, Z1, Z1, Z1, Z1, Z1, Z1, Z1, Z1, Z1, Z1, Z1, Z1, Z0, Z0, Z1, Z0, Z0, Z0, Z0] rfl rfl (any_of HT_.out (by kernel_rfl)) ?_
      refine zp 17 (some 64) #[Z1, Z1, Z1, Z1, Z1, Z1, Z1, Z1, Z1, Z1, Z1, Z1, Z1, Z1, Z1, Z1, Z1, Z1, Z0, Z1, Z0, Z0, Z0, Z0] rfl rfl (any_of HT_.out (by kernel_rfl)) ?_
      refine zp 18 (some 65) #[Z1, Z1, Z1, Z1, Z1, Z1, Z1, Z1, Z1, Z1, Z1, Z1, Z1, Z1, Z1, Z1, Z1, Z1, Z1, Z1, Z0, Z0, Z0, Z0] rfl rfl (any_of HT_.out (by kernel_rfl)) ?_
      refine zp 20 (some 67) #[Z1, Z1, Z1, Z1, Z1, Z1, Z1, Z1, Z1, Z1, Z1, Z1, Z1, Z1, Z1, Z1, Z1, Z1, Z1, Z1, Z1, Z0, Z0, Z0] rfl rfl (any_of HT_.out (by kernel_rfl)) ?_
      refine zp 21 (some 68) #[Z1, Z1, Z1, Z1, Z1, Z1, Z1, Z1, Z1, Z1, Z1, Z1, Z1, Z1, Z1, Z1, Z1, Z1, Z1, Z1, Z1, Z1, Z0, Z0] rfl rfl (any_of HT_.out (by kernel_rfl)) ?_
      refine one_ (i := 22) (N := none) #[Z1, Z1, Z1, Z1, Z1, Z1, Z1, Z1, Z1, Z1, Z1, Z1, Z1, Z1, Z1, Z1, Z1, Z1, Z1, Z1, Z1, Z1, Z1, Z0] rfl rfl (one_of HT_.out (by kernel_rfl)) (by decide) (fun K hK => ?_)
      have hs24 : w23.cell? ⟨gb174, 0, none⟩ = some (.int .i64 0) := (blk_cell BK174.out 0).trans rfl
      have hfs24 := blk_frozen BK174.out 0
      have hns24_0 := NB173_174.out
      have hms24_0 := NB174_173.out
      have hs25 : w23.cell? ⟨gb174, 1, none⟩ = some (.int .i64 0) := (blk_cell BK174.out 1).trans rfl
      have hfs25 := blk_frozen BK174.out 1
      have hns25_0 := NB173_174.out
      have hms25_0 := NB174_173.out
      refine skip_ (w1 := ?_) (by rfl) rfl ?_ ?_
      rotate_left
      ·go_simp
       rfl
      refine hK.out _ _ ⟨((cell_far (p := ⟨gb174, _, none⟩) NB173_174.out _).trans (((cell_far (p := ⟨gb174, _, none⟩) NB173_174.out _).trans (hHeld.1)))), ((cell_far (p := ⟨gb174, _, none⟩) NB173_174.out _).trans (((cell_far (p := ⟨gb174, _, none⟩) NB173_174.out _).trans (hHeld.2))))⟩ (fun hHeld => ?_)
      clear hK K
      refine zp 23 (some 11) #[Z1, Z1, Z1, Z1, Z1, Z1, Z1, Z1, Z1, Z1, Z1, Z1, Z1, Z1, Z1, Z1, Z1, Z1, Z1, Z1, Z1, Z1, Z1, Z1] rfl rfl (any_of HT_.out (by kernel_rfl)) ?_
      refine done_ (done_of HT_.out (by kernel_rfl)) ?_
      try go_wp2
      refine bodyPost_ret (results_ct rfl _ _ gb174 27 #[.int .i64 (wrap64 (Int.tdiv (wrap64 (a0_0 * (wrap64 ((wrap64 (100 + a3)) * (wrap64 (a1 + a2)))))) (wrap64 (200 * a1)))), .int .i64 (wrap64 (Int.tdiv (wrap64 ((wrap64 ((wrap64 ((wrap64 (a0_1 * (wrap64 ((wrap64 (100 + a3)) * (wrap64 (a1 + a2)))))) * (wrap64 (100 + a4)))) + (wrap64 (20000 * a1)))) - 1)) (wrap64 (20000 * a1))))] (0, 0) _ rfl (by refine zQ ?_; refine blk_put (cs := #[.int .i64 (wrap64 (Int.tdiv (wrap64 (a0_0 * (wrap64 ((wrap64 (100 + a3)) * (wrap64 (a1 + a2)))))) (wrap64 (200 * a1)))), .int .i64 0]) ?_ 1 _ rfl; refine zQ ?_; refine blk_put (cs := #[.int .i64 0, .int .i64 0]) ?_ 0 _ rfl; (with_reducible repeat (first | refine blk_drewN ?_ _ | refine blk_drew ?_ | refine blk_alloc ?_ _)); exact BK174.out) Try.underlying27 rfl (by kernel_rfl)) rfl ?_
      exact ⟨ze, zw HB⟩
     replace c15 := Bool.eq_false_iff.mpr c15
     subst c15
     have H1 : (some (0, 0, 1)) = some (r1, r2, r3) := by rw [if_neg (show ¬ (false = true) by decide)] at H; exact H
     clear H
     have H := H1
     clear H1
     simp only [Option.some.injEq, Prod.mk.injEq] at H
     obtain ⟨rfl, rfl, rfl⟩ := H
     go_enter Try.func20, Try.ntmps20
     go_wp2_with (first | ((with_reducible refine gate_dst (N := 5) rfl ?_); refine zx 5 #[.int .i64 a0_0, .int .i64 a0_1] 60 ?_; intro gb173 hg w26 hbox hb; have n0_ := zY HB hb; have n1_ := Aside0.mk (hbox); have n2_ := zS hg HB; have n3_ := zS hg HB; clear HB; have HB := n0_; have BK173 := n1_; have GW173 := n2_; have GE173 := n3_; clear n0_ n1_ n2_ n3_; clear hb hbox hg) | ((with_reducible refine gate_dst (N := 10) rfl ?_); refine zx 10 #[.int .i64 0, .int .i64 0] 27 ?_; intro gb174 hg w27 hbox hb; have n0_ := zD BK173 hb; have n1_ := zY HB hb; have n2_ := Aside0.mk (hbox); have n3_ := zS hg HB; have n4_ := zS hg HB; have n5_ := zN hg BK173; have n6_ := zM hg BK173; clear BK173; clear HB; have BK173 := n0_; have HB := n1_; have BK174 := n2_; have GW174 := n3_; have GE174 := n4_; have NB173_174 := n5_; have NB174_173 := n6_; clear n0_ n1_ n2_ n3_ n4_ n5_ n6_; clear hb hbox hg; have hnb28 := NB173_174.out; have hnc28 := NB174_173.out; obtain ⟨hcz29_0, hcz29_1, hfz29_0, hfz29_1⟩ := zk2 BK173) | ((with_reducible refine gate_callee (f := 37) rfl ?_); refine goesL_ (some 16) rfl rfl Try.func37 (by kernel_rfl) rfl #[.agg #[.int .i64 a0_0, .int .i64 a0_1], .int .i64 10000] rfl za ?_; (with_reducible refine (wear_spans.calls a0_0 a0_1 10000 true _ A6.out).mono ?_); rintro e w30 ⟨rfl, hb⟩; refine ⟨_, rfl, ?_⟩; have n0_ := zD BK173 hb; have n1_ := zD BK174 hb; have n2_ := zY HB hb; clear BK173; clear BK174; clear HB; have BK173 := n0_; have BK174 := n1_; have HB := n2_; clear n0_ n1_ n2_; (try clear hb); (try clear hb2); (try clear hk); (try clear hi)) | (go_at_call 22; (with_reducible refine (wear_in.calls a1 1 100 true _ A8.out).mono ?_); rintro e w' ⟨rfl, ⟨nd, rfl⟩⟩; (try (rw [drewN_self w30]; generalize hq_ : World.drewN w30 _ = w30; have n0_ : Aside0 (w30.heap[gb173]? = some (.cells #[.int .i64 a0_0, .int .i64 a0_1] 60 (0, 0))) := ⟨by rw [← hq_]; exact (zb BK173)⟩; have n1_ : Aside0 (w30.heap[gb174]? = some (.cells #[.int .i64 0, .int .i64 0] 27 (0, 0))) := ⟨by rw [← hq_]; exact (zb BK174)⟩; have n2_ : Aside0 (Below w.heap.size w w30) := ⟨by rw [← hq_]; exact (zw HB)⟩; clear BK173 BK174 HB hq_; have BK173 := n0_; have BK174 := n1_; have HB := n2_; clear n0_ n1_ n2_))) | (go_at_call 22; (with_reducible refine (wear_in.calls a2 1 100 true _ A10.out).mono ?_); rintro e w' ⟨rfl, ⟨nd, rfl⟩⟩; (try (rw [drewN_self w30]; generalize hq_ : World.drewN w30 _ = w30; have n0_ : Aside0 (w30.heap[gb173]? = some (.cells #[.int .i64 a0_0, .int .i64 a0_1] 60 (0, 0))) := ⟨by rw [← hq_]; exact (zb BK173)⟩; have n1_ : Aside0 (w30.heap[gb174]? = some (.cells #[.int .i64 0, .int .i64 0] 27 (0, 0))) := ⟨by rw [← hq_]; exact (zb BK174)⟩; have n2_ : Aside0 (Below w.heap.size w w30) := ⟨by rw [← hq_]; exact (zw HB)⟩; clear BK173 BK174 HB hq_; have BK173 := n0_; have BK174 := n1_; have HB := n2_; clear n0_ n1_ n2_))) | (go_at_call 22; (with_reducible refine (wear_in.calls a3 0 100 true _ A12.out).mono ?_); rintro e w' ⟨rfl, ⟨nd, rfl⟩⟩; (try (rw [drewN_self w30]; generalize hq_ : World.drewN w30 _ = w30; have n0_ : Aside0 (w30.heap[gb173]? = some (.cells #[.int .i64 a0_0, .int .i64 a0_1] 60 (0, 0))) := ⟨by rw [← hq_]; exact (zb BK173)⟩; have n1_ : Aside0 (w30.heap[gb174]? = some (.cells #[.int .i64 0, .int .i64 0] 27 (0, 0))) := ⟨by rw [← hq_]; exact (zb BK174)⟩; have n2_ : Aside0 (Below w.heap.size w w30) := ⟨by rw [← hq_]; exact (zw HB)⟩; clear BK173 BK174 HB hq_; have BK173 := n0_; have BK174 := n1_; have HB := n2_; clear n0_ n1_ n2_))) | (go_at_call 22; (with_reducible refine (wear_in.calls a4 0 100 false _ A14.out).mono ?_); rintro e w' ⟨rfl, ⟨nd, rfl⟩⟩; (try (rw [drewN_self w30]; generalize hq_ : World.drewN w30 _ = w30; have n0_ : Aside0 (w30.heap[gb173]? = some (.cells #[.int .i64 a0_0, .int .i64 a0_1] 60 (0, 0))) := ⟨by rw [← hq_]; exact (zb BK173)⟩; have n1_ : Aside0 (w30.heap[gb174]? = some (.cells #[.int .i64 0, .int .i64 0] 27 (0, 0))) := ⟨by rw [← hq_]; exact (zb BK174)⟩; have n2_ : Aside0 (Below w.heap.size w w30) := ⟨by rw [← hq_]; exact (zw HB)⟩; clear BK173 BK174 HB hq_; have BK173 := n0_; have BK174 := n1_; have HB := n2_; clear n0_ n1_ n2_)); obtain ⟨hcz31_0, hcz31_1, hfz31_0, hfz31_1⟩ := zk2 BK174))
     refine bodyPost_ret (results_ct rfl _ _ gb174 27 #[.int .i64 0, .int .i64 0] (0, 0) _ rfl (by refine zQ ?_; refine blk_put (cs := #[.int .i64 0, .int .i64 0]) ?_ 1 _ rfl; refine zQ ?_; refine blk_put (cs := #[.int .i64 0, .int .i64 0]) ?_ 0 _ rfl; (with_reducible repeat (first | refine blk_drewN ?_ _ | refine blk_drew ?_ | refine blk_alloc ?_ _)); exact BK174.out) Try.underlying27 rfl (by kernel_rfl)) rfl ?_
     exact ⟨ze, zw HB⟩
    replace c13 := Bool.eq_false_iff.mpr c13
    subst c13
    have H1 : (some (0, 0, 1)) = some (r1, r2, r3) := by rw [if_neg (show ¬ (false = true) by decide)] at H; exact H
    clear H
    have H := H1
    clear H1
    simp only [Option.some.injEq, Prod.mk.injEq] at H
    obtain ⟨rfl, rfl, rfl⟩ := H
    go_enter Try.func20, Try.ntmps20
    go_wp2_with (first | ((with_reducible refine gate_dst (N := 5) rfl ?_); refine zx 5 #[.int .i64 a0_0, .int .i64 a0_1] 60 ?_; intro gb173 hg w32 hbox hb; have n0_ := zY HB hb; have n1_ := Aside0.mk (hbox); have n2_ := zS hg HB; have n3_ := zS hg HB; clear HB; have HB := n0_; have BK173 := n1_; have GW173 := n2_; have GE173 := n3_; clear n0_ n1_ n2_ n3_; clear hb hbox hg) | ((with_reducible refine gate_dst (N := 10) rfl ?_); refine zx 10 #[.int .i64 0, .int .i64 0] 27 ?_; intro gb174 hg w33 hbox hb; have n0_ := zD BK173 hb; have n1_ := zY HB hb; have n2_ := Aside0.mk (hbox); have n3_ := zS hg HB; have n4_ := zS hg HB; have n5_ := zN hg BK173; have n6_ := zM hg BK173; clear BK173; clear HB; have BK173 := n0_; have HB := n1_; have BK174 := n2_; have GW174 := n3_; have GE174 := n4_; have NB173_174 := n5_; have NB174_173 := n6_; clear n0_ n1_ n2_ n3_ n4_ n5_ n6_; clear hb hbox hg; have hnb34 := NB173_174.out; have hnc34 := NB174_173.out; obtain ⟨hcz35_0, hcz35_1, hfz35_0, hfz35_1⟩ := zk2 BK173) | ((with_reducible refine gate_callee (f := 37) rfl ?_); refine goesL_ (some 16) rfl rfl Try.func37 (by kernel_rfl) rfl #[.agg #[.int .i64 a0_0, .int .i64 a0_1], .int .i64 10000] rfl za ?_; (with_reducible refine (wear_spans.calls a0_0 a0_1 10000 true _ A6.out).mono ?_); rintro e w36 ⟨rfl, hb⟩; refine ⟨_, rfl, ?_⟩; have n0_ := zD BK173 hb; have n1_ := zD BK174 hb; have n2_ := zY HB hb; clear BK173; clear BK174; clear HB; have BK173 := n0_; have BK174 := n1_; have HB := n2_; clear n0_ n1_ n2_; (try clear hb); (try clear hb2); (try clear hk); (try clear hi)) | (go_at_call 22; (with_reducible refine (wear_in.calls a1 1 100 true _ A8.out).mono ?_); rintro e w' ⟨rfl, ⟨nd, rfl⟩⟩; (try (rw [drewN_self w36]; generalize hq_ : World.drewN w36 _ = w36; have n0_ : Aside0 (w36.heap[gb173]? = some (.cells #[.int .i64 a0_0, .int .i64 a0_1] 60 (0, 0))) := ⟨by rw [← hq_]; exact (zb BK173)⟩; have n1_ : Aside0 (w36.heap[gb174]? = some (.cells #[.int .i64 0, .int .i64 0] 27 (0, 0))) := ⟨by rw [← hq_]; exact (zb BK174)⟩; have n2_ : Aside0 (Below w.heap.size w w36) := ⟨by rw [← hq_]; exact (zw HB)⟩; clear BK173 BK174 HB hq_; have BK173 := n0_; have BK174 := n1_; have HB := n2_; clear n0_ n1_ n2_))) | (go_at_call 22; (with_reducible refine (wear_in.calls a2 1 100 true _ A10.out).mono ?_); rintro e w' ⟨rfl, ⟨nd, rfl⟩⟩; (try (rw [drewN_self w36]; generalize hq_ : World.drewN w36 _ = w36; have n0_ : Aside0 (w36.heap[gb173]? = some (.cells #[.int .i64 a0_0, .int .i64 a0_1] 60 (0, 0))) := ⟨by rw [← hq_]; exact (zb BK173)⟩; have n1_ : Aside0 (w36.heap[gb174]? = some (.cells #[.int .i64 0, .int .i64 0] 27 (0, 0))) := ⟨by rw [← hq_]; exact (zb BK174)⟩; have n2_ : Aside0 (Below w.heap.size w w36) := ⟨by rw [← hq_]; exact (zw HB)⟩; clear BK173 BK174 HB hq_; have BK173 := n0_; have BK174 := n1_; have HB := n2_; clear n0_ n1_ n2_))) | (go_at_call 22; (with_reducible refine (wear_in.calls a3 0 100 false _ A12.out).mono ?_); rintro e w' ⟨rfl, ⟨nd, rfl⟩⟩; (try (rw [drewN_self w36]; generalize hq_ : World.drewN w36 _ = w36; have n0_ : Aside0 (w36.heap[gb173]? = some (.cells #[.int .i64 a0_0, .int .i64 a0_1] 60 (0, 0))) := ⟨by rw [← hq_]; exact (zb BK173)⟩; have n1_ : Aside0 (w36.heap[gb174]? = some (.cells #[.int .i64 0, .int .i64 0] 27 (0, 0))) := ⟨by rw [← hq_]; exact (zb BK174)⟩; have n2_ : Aside0 (Below w.heap.size w w36) := ⟨by rw [← hq_]; exact (zw HB)⟩; clear BK173 BK174 HB hq_; have BK173 := n0_; have BK174 := n1_; have HB := n2_; clear n0_ n1_ n2_)); obtain ⟨hcz37_0, hcz37_1, hfz37_0, hfz37_1⟩ := zk2 BK174))
    refine bodyPost_ret (results_ct rfl _ _ gb174 27 #[.int .i64 0, .int .i64 0] (0, 0) _ rfl (by refine zQ ?_; refine blk_put (cs := #[.int .i64 0, .int .i64 0]) ?_ 1 _ rfl; refine zQ ?_; refine blk_put (cs := #[.int .i64 0, .int .i64 0]) ?_ 0 _ rfl; (with_reducible repeat (first | refine blk_drewN ?_ _ | refine blk_drew ?_ | refine blk_alloc ?_ _)); exact BK174.out) Try.underlying27 rfl (by kernel_rfl)) rfl ?_
    exact ⟨ze, zw HB⟩
   replace c11 := Bool.eq_false_iff.mpr c11
   subst c11
   have H1 : (some (0, 0, 1)) = some (r1, r2, r3) := by rw [if_neg (show ¬ (false = true) by decide)] at H; exact H
   clear H
   have H := H1
   clear H1
   simp only [Option.some.injEq, Prod.mk.injEq] at H
   obtain ⟨rfl, rfl, rfl⟩ := H
   go_enter Try.func20, Try.ntmps20
   go_wp2_with (first | ((with_reducible refine gate_dst (N := 5) rfl ?_); refine zx 5 #[.int .i64 a0_0, .int .i64 a0_1] 60 ?_; intro gb173 hg w38 hbox hb; have n0_ := zY HB hb; have n1_ := Aside0.mk (hbox); have n2_ := zS hg HB; have n3_ := zS hg HB; clear HB; have HB := n0_; have BK173 := n1_; have GW173 := n2_; have GE173 := n3_; clear n0_ n1_ n2_ n3_; clear hb hbox hg) | ((with_reducible refine gate_dst (N := 10) rfl ?_); refine zx 10 #[.int .i64 0, .int .i64 0] 27 ?_; intro gb174 hg w39 hbox hb; have n0_ := zD BK173 hb; have n1_ := zY HB hb; have n2_ := Aside0.mk (hbox); have n3_ := zS hg HB; have n4_ := zS hg HB; have n5_ := zN hg BK173; have n6_ := zM hg BK173; clear BK173; clear HB; have BK173 := n0_; have HB := n1_; have BK174 := n2_; have GW174 := n3_; have GE174 := n4_; have NB173_174 := n5_; have NB174_173 := n6_; clear n0_ n1_ n2_ n3_ n4_ n5_ n6_; clear hb hbox hg; have hnb40 := NB173_174.out; have hnc40 := NB174_173.out; obtain ⟨hcz41_0, hcz41_1, hfz41_0, hfz41_1⟩ := zk2 BK173) | ((with_reducible refine gate_callee (f := 37) rfl ?_); refine goesL_ (some 16) rfl rfl Try.func37 (by kernel_rfl) rfl #[.agg #[.int .i64 a0_0, .int .i64 a0_1], .int .i64 10000] rfl za ?_; (with_reducible refine (wear_spans.calls a0_0 a0_1 10000 true _ A6.out).mono ?_); rintro e w42 ⟨rfl, hb⟩; refine ⟨_, rfl, ?_⟩; have n0_ := zD BK173 hb; have n1_ := zD BK174 hb; have n2_ := zY HB hb; clear BK173; clear BK174; clear HB; have BK173 := n0_; have BK174 := n1_; have HB := n2_; clear n0_ n1_ n2_; (try clear hb); (try clear hb2); (try clear hk); (try clear hi)) | (go_at_call 22; (with_reducible refine (wear_in.calls a1 1 100 true _ A8.out).mono ?_); rintro e w' ⟨rfl, ⟨nd, rfl⟩⟩; (try (rw [drewN_self w42]; generalize hq_ : World.drewN w42 _ = w42; have n0_ : Aside0 (w42.heap[gb173]? = some (.cells #[.int .i64 a0_0, .int .i64 a0_1] 60 (0, 0))) := ⟨by rw [← hq_]; exact (zb BK173)⟩; have n1_ : Aside0 (w42.heap[gb174]? = some (.cells #[.int .i64 0, .int .i64 0] 27 (0, 0))) := ⟨by rw [← hq_]; exact (zb BK174)⟩; have n2_ : Aside0 (Below w.heap.size w w42) := ⟨by rw [← hq_]; exact (zw HB)⟩; clear BK173 BK174 HB hq_; have BK173 := n0_; have BK174 := n1_; have HB := n2_; clear n0_ n1_ n2_))) | (go_at_call 22; (with_reducible refine (wear_in.calls a2 1 100 false _ A10.out).mono ?_); rintro e w' ⟨rfl, ⟨nd, rfl⟩⟩; (try (rw [drewN_self w42]; generalize hq_ : World.drewN w42 _ = w42; have n0_ : Aside0 (w42.heap[gb173]? = some (.cells #[.int .i64 a0_0, .int .i64 a0_1] 60 (0, 0))) := ⟨by rw [← hq_]; exact (zb BK173)⟩; have n1_ : Aside0 (w42.heap[gb174]? = some (.cells #[.int .i64 0, .int .i64 0] 27 (0, 0))) := ⟨by rw [← hq_]; exact (zb BK174)⟩; have n2_ : Aside0 (Below w.heap.size w w42) := ⟨by rw [← hq_]; exact (zw HB)⟩; clear BK173 BK174 HB hq_; have BK173 := n0_; have BK174 := n1_; have HB := n2_; clear n0_ n1_ n2_)); obtain ⟨hcz43_0, hcz43_1, hfz43_0, hfz43_1⟩ := zk2 BK174))
   refine bodyPost_ret (results_ct rfl _ _ gb174 27 #[.int .i64 0, .int .i64 0] (0, 0) _ rfl (by refine zQ ?_; refine blk_put (cs := #[.int .i64 0, .int .i64 0]) ?_ 1 _ rfl; refine zQ ?_; refine blk_put (cs := #[.int .i64 0, .int .i64 0]) ?_ 0 _ rfl; (with_reducible repeat (first | refine blk_drewN ?_ _ | refine blk_drew ?_ | refine blk_alloc ?_ _)); exact BK174.out) Try.underlying27 rfl (by kernel_rfl)) rfl ?_
   exact ⟨ze, zw HB⟩
  replace c9 := Bool.eq_false_iff.mpr c9
  subst c9
  have H1 : (some (0, 0, 1)) = some (r1, r2, r3) := by rw [if_neg (show ¬ (false = true) by decide)] at H; exact H
  clear H
  have H := H1
  clear H1
  simp only [Option.some.injEq, Prod.mk.injEq] at H
  obtain ⟨rfl, rfl, rfl⟩ := H
  go_enter Try.func20, Try.ntmps20
  go_wp2_with (first | ((with_reducible refine gate_dst (N := 5) rfl ?_); refine zx 5 #[.int .i64 a0_0, .int .i64 a0_1] 60 ?_; intro gb173 hg w44 hbox hb; have n0_ := zY HB hb; have n1_ := Aside0.mk (hbox); have n2_ := zS hg HB; have n3_ := zS hg HB; clear HB; have HB := n0_; have BK173 := n1_; have GW173 := n2_; have GE173 := n3_; clear n0_ n1_ n2_ n3_; clear hb hbox hg) | ((with_reducible refine gate_dst (N := 10) rfl ?_); refine zx 10 #[.int .i64 0, .int .i64 0] 27 ?_; intro gb174 hg w45 hbox hb; have n0_ := zD BK173 hb; have n1_ := zY HB hb; have n2_ := Aside0.mk (hbox); have n3_ := zS hg HB; have n4_ := zS hg HB; have n5_ := zN hg BK173; have n6_ := zM hg BK173; clear BK173; clear HB; have BK173 := n0_; have HB := n1_; have BK174 := n2_; have GW174 := n3_; have GE174 := n4_; have NB173_174 := n5_; have NB174_173 := n6_; clear n0_ n1_ n2_ n3_ n4_ n5_ n6_; clear hb hbox hg; have hnb46 := NB173_174.out; have hnc46 := NB174_173.out; obtain ⟨hcz47_0, hcz47_1, hfz47_0, hfz47_1⟩ := zk2 BK173) | ((with_reducible refine gate_callee (f := 37) rfl ?_); refine goesL_ (some 16) rfl rfl Try.func37 (by kernel_rfl) rfl #[.agg #[.int .i64 a0_0, .int .i64 a0_1], .int .i64 10000] rfl za ?_; (with_reducible refine (wear_spans.calls a0_0 a0_1 10000 true _ A6.out).mono ?_); rintro e w48 ⟨rfl, hb⟩; refine ⟨_, rfl, ?_⟩; have n0_ := zD BK173 hb; have n1_ := zD BK174 hb; have n2_ := zY HB hb; clear BK173; clear BK174; clear HB; have BK173 := n0_; have BK174 := n1_; have HB := n2_; clear n0_ n1_ n2_; (try clear hb); (try clear hb2); (try clear hk); (try clear hi)) | (go_at_call 22; (with_reducible refine (wear_in.calls a1 1 100 false _ A8.out).mono ?_); rintro e w' ⟨rfl, ⟨nd, rfl⟩⟩; (try (rw [drewN_self w48]; generalize hq_ : World.drewN w48 _ = w48; have n0_ : Aside0 (w48.heap[gb173]? = some (.cells #[.int .i64 a0_0, .int .i64 a0_1] 60 (0, 0))) := ⟨by rw [← hq_]; exact (zb BK173)⟩; have n1_ : Aside0 (w48.heap[gb174]? = some (.cells #[.int .i64 0, .int .i64 0] 27 (0, 0))) := ⟨by rw [← hq_]; exact (zb BK174)⟩; have n2_ : Aside0 (Below w.heap.size w w48) := ⟨by rw [← hq_]; exact (zw HB)⟩; clear BK173 BK174 HB hq_; have BK173 := n0_; have BK174 := n1_; have HB := n2_; clear n0_ n1_ n2_)); obtain ⟨hcz49_0, hcz49_1, hfz49_0, hfz49_1⟩ := zk2 BK174))
  refine bodyPost_ret (results_ct rfl _ _ gb174 27 #[.int .i64 0, .int .i64 0] (0, 0) _ rfl (by refine zQ ?_; refine blk_put (cs := #[.int .i64 0, .int .i64 0]) ?_ 1 _ rfl; refine zQ ?_; refine blk_put (cs := #[.int .i64 0, .int .i64 0]) ?_ 0 _ rfl; (with_reducible repeat (first | refine blk_drewN ?_ _ | refine blk_drew ?_ | refine blk_alloc ?_ _)); exact BK174.out) Try.underlying27 rfl (by kernel_rfl)) rfl ?_
  exact ⟨ze, zw HB⟩
 replace c7 := Bool.eq_false_iff.mpr c7
 subst c7
 have H1 : (some (0, 0, 1)) = some (r1, r2, r3) := by rw [if_neg (show ¬ (false = true) by decide)] at H; exact H
 clear H
 have H := H1
 clear H1
 simp only [Option.some.injEq, Prod.mk.injEq] at H
 obtain ⟨rfl, rfl, rfl⟩ := H
 go_enter Try.func20, Try.ntmps20
 go_wp2_with (first | ((with_reducible refine gate_dst (N := 5) rfl ?_); refine zx 5 #[.int .i64 a0_0, .int .i64 a0_1] 60 ?_; intro gb173 hg w50 hbox hb; have n0_ := zY HB hb; have n1_ := Aside0.mk (hbox); have n2_ := zS hg HB; have n3_ := zS hg HB; clear HB; have HB := n0_; have BK173 := n1_; have GW173 := n2_; have GE173 := n3_; clear n0_ n1_ n2_ n3_; clear hb hbox hg) | ((with_reducible refine gate_dst (N := 10) rfl ?_); refine zx 10 #[.int .i64 0, .int .i64 0] 27 ?_; intro gb174 hg w51 hbox hb; have n0_ := zD BK173 hb; have n1_ := zY HB hb; have n2_ := Aside0.mk (hbox); have n3_ := zS hg HB; have n4_ := zS hg HB; have n5_ := zN hg BK173; have n6_ := zM hg BK173; clear BK173; clear HB; have BK173 := n0_; have HB := n1_; have BK174 := n2_; have GW174 := n3_; have GE174 := n4_; have NB173_174 := n5_; have NB174_173 := n6_; clear n0_ n1_ n2_ n3_ n4_ n5_ n6_; clear hb hbox hg; have hnb52 := NB173_174.out; have hnc52 := NB174_173.out; obtain ⟨hcz53_0, hcz53_1, hfz53_0, hfz53_1⟩ := zk2 BK173) | ((with_reducible refine gate_callee (f := 37) rfl ?_); refine goesL_ (some 16) rfl rfl Try.func37 (by kernel_rfl) rfl #[.agg #[.int .i64 a0_0, .int .i64 a0_1], .int .i64 10000] rfl za ?_; (with_reducible refine (wear_spans.calls a0_0 a0_1 10000 false _ A6.out).mono ?_); rintro e w54 ⟨rfl, hb⟩; refine ⟨_, rfl, ?_⟩; have n0_ := zD BK173 hb; have n1_ := zD BK174 hb; have n2_ := zY HB hb; clear BK173; clear BK174; clear HB; have BK173 := n0_; have BK174 := n1_; have HB := n2_; clear n0_ n1_ n2_; (try clear hb); (try clear hb2); (try clear hk); (try clear hi); obtain ⟨hcz55_0, hcz55_1, hfz55_0, hfz55_1⟩ := zk2 BK174))
 refine bodyPost_ret (results_ct rfl _ _ gb174 27 #[.int .i64 0, .int .i64 0] (0, 0) _ rfl (by refine zQ ?_; refine blk_put (cs := #[.int .i64 0, .int .i64 0]) ?_ 1 _ rfl; refine zQ ?_; refine blk_put (cs := #[.int .i64 0, .int .i64 0]) ?_ 0 _ rfl; (with_reducible repeat (first | refine blk_drewN ?_ _ | refine blk_drew ?_ | refine blk_alloc ?_ _)); exact BK174.out) Try.underlying27 rfl (by kernel_rfl)) rfl ?_
 exact ⟨ze, zw HB⟩
def thatchlaw07_lives.f (k : Nat)  : Option (Bool) := (thatchlaw07_Example.f).bind fun bt180 => ((wear_Bounds.f k bt180.1 bt180.2.1 bt180.2.2.1 bt180.2.2.2.1 bt180.2.2.2.2.1 bt180.2.2.2.2.2 20 10).bind fun bt192 => ((wear_Rate.f 100 200 1 2 10 50).bind fun bt196 => (if bt192.2.2 = 0 then (if (bt192.1 == 120 && (bt192.2.1 == 260)) = true then (if bt196.2.2 = 0 then (some (bt196.1 == 165 && (bt196.2.1 == 495))) else (some false)) else (some false)) else (some false))))
theorem thatchlaw07_lives.mono : ∀ k, LeO (thatchlaw07_lives.f k ) (thatchlaw07_lives.f (k + 1) ) := by
 intro  k
 unfold thatchlaw07_lives.f
 repeat' first
   | (with_reducible exact wear_Bounds.mono _ _ _ _ _ _ _ _ _)
   | (with_reducible exact LeO.refl _)
   | (with_reducible exact LeO.none _)
   | (with_reducible refine LeO.ite ?_ ?_)
   | (with_reducible refine LeO.bind ?_ (fun _ => ?_))
   | exact wear_Bounds.mono _ _ _ _ _ _ _ _ _
   | exact LeO.none _
   | refine LeO.ite ?_ ?_
   | refine LeO.bind ?_ (fun _ => ?_)
set_option maxHeartbeats 8000000 in
set_option maxRecDepth 100000 in
theorem thatchlaw07_lives.calls (k : Nat)  (r : Bool) (w : World) (h : thatchlaw07_lives.f k  = some r) :
  Calls Try.prog 8 #[] w fun e w' => e = .returned (.bool r) ∧ Below w.heap.size w w' := by
 have hu32 := Try.underlying32
 have hu27 := Try.underlying27
 have hu60 := Try.underlying60
 have HB := Aside0.mk (Below.refl w.heap.size w)
 have H : ((thatchlaw07_Example.f).bind fun bt180 => ((wear_Bounds.f k bt180.1 bt180.2.1 bt180.2.2.1 bt180.2.2.2.1 bt180.2.2.2.2.1 bt180.2.2.2.2.2 20 10).bind fun bt192 => ((wear_Rate.f 100 200 1 2 10 50).bind fun bt196 => (if bt192.2.2 = 0 then (if (bt192.1 == 120 && (bt192.2.1 == 260)) = true then (if bt196.2.2 = 0 then (some (bt196.1 == 165 && (bt196.2.1 == 495))) else (some false)) else (some false)) else (some false))))) = some r := h
 clear h
 replace H := Option.bind_eq_some_iff.mp H
 obtain ⟨⟨t180, t183, t186, t187, t188, t189⟩, A10, H⟩ := H
 replace H : ((wear_Bounds.f k t180 t183 t186 t187 t188 t189 20 10).bind fun bt192 => ((wear_Rate.f 100 200 1 2 10 50).bind fun bt196 => (if bt192.2.2 = 0 then (if (bt192.1 == 120 && (bt192.2.1 == 260)) = true then (if bt196.2.2 = 0 then (some (bt196.1 == 165 && (bt196.2.1 == 495))) else (some false)) else (some false)) else (some false)))) = some r := H
 have A1 := Aside0.mk A10
 clear A10
 replace H := Option.bind_eq_some_iff.mp H
 obtain ⟨⟨t192, t193, t194⟩, A20, H⟩ := H
 replace H : ((wear_Rate.f 100 200 1 2 10 50).bind fun bt196 => (if t194 = 0 then (if (t192 == 120 && (t193 == 260)) = true then (if bt196.2.2 = 0 then (some (bt196.1 == 165 && (bt196.2.1 == 495))) else (some false)) else (some false)) else (some false))) = some r := H
 have A2 := Aside0.mk A20
 clear A20
 replace H := Option.bind_eq_some_iff.mp H
 obtain ⟨⟨t196, t197, t198⟩, A30, H⟩ := H
 replace H : (if t194 = 0 then (if (t192 == 120 && (t193 == 260)) = true then (if t198 = 0 then (some (t196 == 165 && (t197 == 495))) else (some false)) else (some false)) else (some false)) = some r := H
 have A3 := Aside0.mk A30
 clear A30
 by_cases c4 : t194 = 0
 ·rw [if_pos c4] at H
  have c4b0 : (t194 == 0) = true := beq_iff_eq.mpr c4
  have c4b1 : (t194 != 0) = false := bne_eq_false_iff_eq.mpr c4
  clear c4
  by_cases c5 : (t192 == 120 && (t193 == 260)) = true
  ·rw [if_pos c5] at H
   have c5b0 : (t192 == 120 && (t193 == 260)) = true := c5
   (try (have c5b1 : decide (t192 = 120 && (t193 == 260)) = true := by simpa using c5))
   (try (have c5b2 : (t192 == 120 && (t193 == 260)) = true := by simpa using c5))
   clear c5
   by_cases c6 : t198 = 0
   ·rw [if_pos c6] at H
    have c6b0 : (t198 == 0) = true := beq_iff_eq.mpr c6
    have c6b1 : (t198 != 0) = false := bne_eq_false_iff_eq.mpr c6
    clear c6
    obtain rfl := Option.some.inj H
    go_enter Try.func8, Try.ntmps8
    go_wp2_with (first | ((with_reducible refine gate_callee (f := 19) rfl ?_); refine goesL_ (some 6) rfl rfl Try.func19 (by kernel_rfl) rfl #[] rfl za ?_; (with_reducible refine (thatchlaw07_Example.calls  t180 t183 t186 t187 t188 t189 _ A1.out).mono ?_); rintro e w7 ⟨v181, v184, v190, rfl, ho0, ho1, ho2, hb⟩; refine ⟨_, rfl, ?_⟩; have n0_ := Aside0.mk (Kd.R_lower ho0 (below_size (zw HB))); have n1_ := Aside0.mk (Kd.R_lower ho1 (below_size (zw HB))); have n2_ := Aside0.mk (Kd.R_lower ho2 (below_size (zw HB))); have n3_ := zY HB hb; clear HB; have HO182 := n0_; have HO185 := n1_; have HO191 := n2_; have HB := n3_; clear n0_ n1_ n2_ n3_; (try clear hb); (try clear hb2); (try clear hk); (try clear hi); (try clear ho0); (try clear ho1); (try clear ho2); obtain ⟨Ao8, co8, eo8⟩ := Kd.R_slice HO182.out; subst eo8; obtain ⟨Ao9, co9, eo9⟩ := Kd.R_slice HO185.out; subst eo9; obtain ⟨Ao10, co10, eo10⟩ := Kd.R_slice HO191.out; subst eo10) | ((with_reducible refine gate_callee (f := 13) rfl ?_); refine goesL_ (some 8) rfl rfl Try.func13 (by kernel_rfl) rfl #[.agg #[.slice Ao8 t180.length co8, .slice Ao9 t183.length co9, .int .i64 t186, .int .i64 t187, .int .i64 t188, .slice Ao10 t189.length co10], .agg #[.int .i64 20, .int .i64 10]] rfl za ?_; (with_reducible refine (wear_Bounds.calls k _ _ t180 _ _ t183 t186 t187 t188 _ _ t189 20 10 t192 t193 t194 _ ?side1 ?side2 ?side3 ?side4 ?side5 ?side6 A2.out).mono ?_); (case side1 => exact zr (Kd.R_reads' HO182.out).2.2); (case side2 => exact (Kd.R_reads' HO182.out).2.1); (case side3 => exact zr (Kd.R_reads' HO185.out).2.2); (case side4 => exact (Kd.R_reads' HO185.out).2.1); (case side5 => exact zr (Kd.R_reads' HO191.out).2.2); (case side6 => exact (Kd.R_reads' HO191.out).2.1); rintro e w11 ⟨rfl, hb⟩; refine ⟨_, rfl, ?_⟩; have n0_ := Aside0.mk (Kd.R_below (zt HO182) hb); have n1_ := Aside0.mk (Kd.R_below (zt HO185) hb); have n2_ := Aside0.mk (Kd.R_below (zt HO191) hb); have n3_ := zY HB hb; clear HO182; clear HO185; clear HO191; clear HB; have HO182 := n0_; have HO185 := n1_; have HO191 := n2_; have HB := n3_; clear n0_ n1_ n2_ n3_; (try clear hb); (try clear hb2); (try clear hk); (try clear hi)) | ((with_reducible refine gate_dst (N := 1) rfl ?_); refine zx 1 #[.int .i64 0, .int .i64 0] 27 ?_; intro gb195 hg w12 hbox hb; have n0_ := Aside0.mk (Kd.R_below (zt HO182) hb); have n1_ := Aside0.mk (Kd.R_below (zt HO185) hb); have n2_ := Aside0.mk (Kd.R_below (zt HO191) hb); have n3_ := zY HB hb; have n4_ := Aside0.mk (hbox); have n5_ := zS hg HB; have n6_ := zS hg HB; clear HO182; clear HO185; clear HO191; clear HB; have HO182 := n0_; have HO185 := n1_; have HO191 := n2_; have HB := n3_; have BK195 := n4_; have GW195 := n5_; have GE195 := n6_; clear n0_ n1_ n2_ n3_ n4_ n5_ n6_; clear hb hbox hg; obtain ⟨hcz13_0, hcz13_1, hfz13_0, hfz13_1⟩ := zk2 BK195) | ((with_reducible refine gate_callee (f := 20) rfl ?_); refine goesL_ (some 14) rfl rfl Try.func20 (by kernel_rfl) rfl #[.agg #[.int .i64 100, .int .i64 200], .int .i64 1, .int .i64 2, .int .i64 10, .int .i64 50] rfl za ?_; (with_reducible refine (wear_Rate.calls 100 200 1 2 10 50 t196 t197 t198 _ A3.out).mono ?_); rintro e w14 ⟨rfl, hb⟩; refine ⟨_, rfl, ?_⟩; have n0_ := Aside0.mk (Kd.R_below (zF HO182 BK195) hb); have n1_ := Aside0.mk (Kd.R_below (zF HO185 BK195) hb); have n2_ := Aside0.mk (Kd.R_below (zF HO191 BK195) hb); have n3_ := Aside0.mk (blk_below (g := gb195) (o := .cells #[.int .i64 t192, .int .i64 t193] 27 (0, 0)) (by refine zQ ?_; refine blk_put (cs := #[.int .i64 t192, .int .i64 0]) ?_ 1 _ rfl; refine zQ ?_; refine blk_put (cs := #[.int .i64 0, .int .i64 0]) ?_ 0 _ rfl; (with_reducible repeat (first | refine blk_drewN ?_ _ | refine blk_drew ?_ | refine blk_alloc ?_ _)); exact BK195.out) hb); have n4_ := zY HB hb; clear HO182; clear HO185; clear HO191; clear BK195; clear HB; have HO182 := n0_; have HO185 := n1_; have HO191 := n2_; have BK195 := n3_; have HB := n4_; clear n0_ n1_ n2_ n3_ n4_; (try clear hb); (try clear hb2); (try clear hk); (try clear hi)) | ((with_reducible refine gate_dst (N := 3) rfl ?_); refine zx 3 #[.int .i64 0, .int .i64 0] 27 ?_; intro gb199 hg w15 hbox hb; have n0_ := Aside0.mk (Kd.R_below (zt HO182) hb); have n1_ := Aside0.mk (Kd.R_below (zt HO185) hb); have n2_ := Aside0.mk (Kd.R_below (zt HO191) hb); have n3_ := zD BK195 hb; have n4_ := zY HB hb; have n5_ := Aside0.mk (hbox); have n6_ := zS hg HB; have n7_ := zS hg HB; have n8_ := zN hg BK195; have n9_ := zM hg BK195; clear HO182; clear HO185; clear HO191; clear BK195; clear HB; have HO182 := n0_; have HO185 := n1_; have HO191 := n2_; have BK195 := n3_; have HB := n4_; have BK199 := n5_; have GW199 := n6_; have GE199 := n7_; have NB195_199 := n8_; have NB199_195 := n9_; clear n0_ n1_ n2_ n3_ n4_ n5_ n6_ n7_ n8_ n9_; clear hb hbox hg; have hnb16 := NB199_195.out; have hnc16 := NB195_199.out; obtain ⟨hcz17_0, hcz17_1, hfz17_0, hfz17_1⟩ := zk2 BK199; obtain ⟨hcz18_0, hcz18_1, hfz18_0, hfz18_1⟩ := zk2 BK195))
    go_ret
    exact ⟨ze, zw HB⟩
   rw [if_neg c6] at H
   have c6b0 : (t198 == 0) = false := beq_eq_false_iff_ne.mpr c6
   have c6b1 : (t198 != 0) = true := bne_iff_ne.mpr c6
   obtain rfl := Option.some.inj H
   go_enter Try.func8, Try.ntmps8
   go_wp2_with (first | ((with_reducible refine gate_callee (f := 19) rfl ?_); refine goesL_ (some 6) rfl rfl Try.func19 (by kernel_rfl) rfl #[] rfl za ?_; (with_reducible refine (thatchlaw07_Example.calls  t180 t183 t186 t187 t188 t189 _ A1.out).mono ?_); rintro e w19 ⟨v181, v184, v190, rfl, ho0, ho1, ho2, hb⟩; refine ⟨_, rfl, ?_⟩; have n0_ := Aside0.mk (Kd.R_lower ho0 (below_size (zw HB))); have n1_ := Aside0.mk (Kd.R_lower ho1 (below_size (zw HB))); have n2_ := Aside0.mk (Kd.R_lower ho2 (below_size (zw HB))); have n3_ := zY HB hb; clear HB; have HO182 := n0_; have HO185 := n1_; have HO191 := n2_; have HB := n3_; clear n0_ n1_ n2_ n3_; (try clear hb); (try clear hb2); (try clear hk); (try clear hi); (try clear ho0); (try clear ho1); (try clear ho2); obtain ⟨Ao20, co20, eo20⟩ := Kd.R_slice HO182.out; subst eo20; obtain ⟨Ao21, co21, eo21⟩ := Kd.R_slice HO185.out; subst eo21; obtain ⟨Ao22, co22, eo22⟩ := Kd.R_slice HO191.out; subst eo22) | ((with_reducible refine gate_callee (f := 13) rfl ?_); refine goesL_ (some 8) rfl rfl Try.func13 (by kernel_rfl) rfl #[.agg #[.slice Ao20 t180.length co20, .slice Ao21 t183.length co21, .int .i64 t186, .int .i64 t187, .int .i64 t188, .slice Ao22 t189.length co22], .agg #[.int .i64 20, .int .i64 10]] rfl za ?_; (with_reducible refine (wear_Bounds.calls k _ _ t180 _ _ t183 t186 t187 t188 _ _ t189 20 10 t192 t193 t194 _ ?side1 ?side2 ?side3 ?side4 ?side5 ?side6 A2.out).mono ?_); (case side1 => exact zr (Kd.R_reads' HO182.out).2.2); (case side2 => exact (Kd.R_reads' HO182.out).2.1); (case side3 => exact zr (Kd.R_reads' HO185.out).2.2); (case side4 => exact (Kd.R_reads' HO185.out).2.1); (case side5 => exact zr (Kd.R_reads' HO191.out).2.2); (case side6 => exact (Kd.R_reads' HO191.out).2.1); rintro e w23 ⟨rfl, hb⟩; refine ⟨_, rfl, ?_⟩; have n0_ := Aside0.mk (Kd.R_below (zt HO182) hb); have n1_ := Aside0.mk (Kd.R_below (zt HO185) hb); have n2_ := Aside0.mk (Kd.R_below (zt HO191) hb); have n3_ := zY HB hb; clear HO182; clear HO185; clear HO191; clear HB; have HO182 := n0_; have HO185 := n1_; have HO191 := n2_; have HB := n3_; clear n0_ n1_ n2_ n3_; (try clear hb); (try clear hb2); (try clear hk); (try clear hi)) | ((with_reducible refine gate_dst (N := 1) rfl ?_); refine zx 1 #[.int .i64 0, .int .i64 0] 27 ?_; intro gb195 hg w24 hbox hb; have n0_ := Aside0.mk (Kd.R_below (zt HO182) hb); have n1_ := Aside0.mk (Kd.R_below (zt HO185) hb); have n2_ := Aside0.mk (Kd.R_below (zt HO191) hb); have n3_ := zY HB hb; have n4_ := Aside0.mk (hbox); have n5_ := zS hg HB; have n6_ := zS hg HB; clear HO182; clear HO185; clear HO191; clear HB; have HO182 := n0_; have HO185 := n1_; have HO191 := n2_; have HB := n3_; have BK195 := n4_; have GW195 := n5_; have GE195 := n6_; clear n0_ n1_ n2_ n3_ n4_ n5_ n6_; clear hb hbox hg; obtain ⟨hcz25_0, hcz25_1, hfz25_0, hfz25_1⟩ := zk2 BK195) | ((with_reducible refine gate_callee (f := 20) rfl ?_); refine goesL_ (some 14) rfl rfl Try.func20 (by kernel_rfl) rfl #[.agg #[.int .i64 100, .int .i64 200], .int .i64 1, .int .i64 2, .int .i64 10, .int .i64 50] rfl za ?_; (with_reducible refine (wear_Rate.calls 100 200 1 2 10 50 t196 t197 t198 _ A3.out).mono ?_); rintro e w26 ⟨rfl, hb⟩; refine ⟨_, rfl, ?_⟩; have n0_ := Aside0.mk (Kd.R_below (zF HO182 BK195) hb); have n1_ := Aside0.mk (Kd.R_below (zF HO185 BK195) hb); have n2_ := Aside0.mk (Kd.R_below (zF HO191 BK195) hb); have n3_ := Aside0.mk (blk_below (g := gb195) (o := .cells #[.int .i64 t192, .int .i64 t193] 27 (0, 0)) (by refine zQ ?_; refine blk_put (cs := #[.int .i64 t192, .int .i64 0]) ?_ 1 _ rfl; refine zQ ?_; refine blk_put (cs := #[.int .i64 0, .int .i64 0]) ?_ 0 _ rfl; (with_reducible repeat (first | refine blk_drewN ?_ _ | refine blk_drew ?_ | refine blk_alloc ?_ _)); exact BK195.out) hb); have n4_ := zY HB hb; clear HO182; clear HO185; clear HO191; clear BK195; clear HB; have HO182 := n0_; have HO185 := n1_; have HO191 := n2_; have BK195 := n3_; have HB := n4_; clear n0_ n1_ n2_ n3_ n4_; (try clear hb); (try clear hb2); (try clear hk); (try clear hi)) | ((with_reducible refine gate_dst (N := 3) rfl ?_); refine zx 3 #[.int .i64 0, .int .i64 0] 27 ?_; intro gb199 hg w27 hbox hb; have n0_ := Aside0.mk (Kd.R_below (zt HO182) hb); have n1_ := Aside0.mk (Kd.R_below (zt HO185) hb); have n2_ := Aside0.mk (Kd.R_below (zt HO191) hb); have n3_ := zD BK195 hb; have n4_ := zY HB hb; have n5_ := Aside0.mk (hbox); have n6_ := zS hg HB; have n7_ := zS hg HB; have n8_ := zN hg BK195; have n9_ := zM hg BK195; clear HO182; clear HO185; clear HO191; clear BK195; clear HB; have HO182 := n0_; have HO185 := n1_; have HO191 := n2_; have BK195 := n3_; have HB := n4_; have BK199 := n5_; have GW199 := n6_; have GE199 := n7_; have NB195_199 := n8_; have NB199_195 := n9_; clear n0_ n1_ n2_ n3_ n4_ n5_ n6_ n7_ n8_ n9_; clear hb hbox hg; have hnb28 := NB199_195.out; have hnc28 := NB195_199.out; obtain ⟨hcz29_0, hcz29_1, hfz29_0, hfz29_1⟩ := zk2 BK199; obtain ⟨hcz30_0, hcz30_1, hfz30_0, hfz30_1⟩ := zk2 BK195))
   go_ret
   exact ⟨ze, zw HB⟩
  rw [if_neg c5] at H
  have c5b0 : (t192 == 120 && (t193 == 260)) = false := by simpa using c5
  (try (have c5b1 : decide (t192 = 120 && (t193 == 260)) = false := by simpa using c5))
  (try (have c5b2 : (t192 == 120 && (t193 == 260)) = false := by simpa using c5))
  (try (have c5b3 : ¬ (t192 = 120 && (t193 == 260)) := by simpa using c5))
  clear c5
  obtain rfl := Option.some.inj H
  go_enter Try.func8, Try.ntmps8
  go_wp2_with (first | ((with_reducible refine gate_callee (f := 19) rfl ?_); refine goesL_ (some 6) rfl rfl Try.func19 (by kernel_rfl) rfl #[] rfl za ?_; (with_reducible refine (thatchlaw07_Example.calls  t180 t183 t186 t187 t188 t189 _ A1.out).mono ?_); rintro e w31 ⟨v181, v184, v190, rfl, ho0, ho1, ho2, hb⟩; refine ⟨_, rfl, ?_⟩; have n0_ := Aside0.mk (Kd.R_lower ho0 (below_size (zw HB))); have n1_ := Aside0.mk (Kd.R_lower ho1 (below_size (zw HB))); have n2_ := Aside0.mk (Kd.R_lower ho2 (below_size (zw HB))); have n3_ := zY HB hb; clear HB; have HO182 := n0_; have HO185 := n1_; have HO191 := n2_; have HB := n3_; clear n0_ n1_ n2_ n3_; (try clear hb); (try clear hb2); (try clear hk); (try clear hi); (try clear ho0); (try clear ho1); (try clear ho2); obtain ⟨Ao32, co32, eo32⟩ := Kd.R_slice HO182.out; subst eo32; obtain ⟨Ao33, co33, eo33⟩ := Kd.R_slice HO185.out; subst eo33; obtain ⟨Ao34, co34, eo34⟩ := Kd.R_slice HO191.out; subst eo34) | ((with_reducible refine gate_callee (f := 13) rfl ?_); refine goesL_ (some 8) rfl rfl Try.func13 (by kernel_rfl) rfl #[.agg #[.slice Ao32 t180.length co32, .slice Ao33 t183.length co33, .int .i64 t186, .int .i64 t187, .int .i64 t188, .slice Ao34 t189.length co34], .agg #[.int .i64 20, .int .i64 10]] rfl za ?_; (with_reducible refine (wear_Bounds.calls k _ _ t180 _ _ t183 t186 t187 t188 _ _ t189 20 10 t192 t193 t194 _ ?side1 ?side2 ?side3 ?side4 ?side5 ?side6 A2.out).mono ?_); (case side1 => exact zr (Kd.R_reads' HO182.out).2.2); (case side2 => exact (Kd.R_reads' HO182.out).2.1); (case side3 => exact zr (Kd.R_reads' HO185.out).2.2); (case side4 => exact (Kd.R_reads' HO185.out).2.1); (case side5 => exact zr (Kd.R_reads' HO191.out).2.2); (case side6 => exact (Kd.R_reads' HO191.out).2.1); rintro e w35 ⟨rfl, hb⟩; refine ⟨_, rfl, ?_⟩; have n0_ := Aside0.mk (Kd.R_below (zt HO182) hb); have n1_ := Aside0.mk (Kd.R_below (zt HO185) hb); have n2_ := Aside0.mk (Kd.R_below (zt HO191) hb); have n3_ := zY HB hb; clear HO182; clear HO185; clear HO191; clear HB; have HO182 := n0_; have HO185 := n1_; have HO191 := n2_; have HB := n3_; clear n0_ n1_ n2_ n3_; (try clear hb); (try clear hb2); (try clear hk); (try clear hi)) | ((with_reducible refine gate_dst (N := 1) rfl ?_); refine zx 1 #[.int .i64 0, .int .i64 0] 27 ?_; intro gb195 hg w36 hbox hb; have n0_ := Aside0.mk (Kd.R_below (zt HO182) hb); have n1_ := Aside0.mk (Kd.R_below (zt HO185) hb); have n2_ := Aside0.mk (Kd.R_below (zt HO191) hb); have n3_ := zY HB hb; have n4_ := Aside0.mk (hbox); have n5_ := zS hg HB; have n6_ := zS hg HB; clear HO182; clear HO185; clear HO191; clear HB; have HO182 := n0_; have HO185 := n1_; have HO191 := n2_; have HB := n3_; have BK195 := n4_; have GW195 := n5_; have GE195 := n6_; clear n0_ n1_ n2_ n3_ n4_ n5_ n6_; clear hb hbox hg; obtain ⟨hcz37_0, hcz37_1, hfz37_0, hfz37_1⟩ := zk2 BK195) | ((with_reducible refine gate_callee (f := 20) rfl ?_); refine goesL_ (some 14) rfl rfl Try.func20 (by kernel_rfl) rfl #[.agg #[.int .i64 100, .int .i64 200], .int .i64 1, .int .i64 2, .int .i64 10, .int .i64 50] rfl za ?_; (with_reducible refine (wear_Rate.calls 100 200 1 2 10 50 t196 t197 t198 _ A3.out).mono ?_); rintro e w38 ⟨rfl, hb⟩; refine ⟨_, rfl, ?_⟩; have n0_ := Aside0.mk (Kd.R_below (zF HO182 BK195) hb); have n1_ := Aside0.mk (Kd.R_below (zF HO185 BK195) hb); have n2_ := Aside0.mk (Kd.R_below (zF HO191 BK195) hb); have n3_ := Aside0.mk (blk_below (g := gb195) (o := .cells #[.int .i64 t192, .int .i64 t193] 27 (0, 0)) (by refine zQ ?_; refine blk_put (cs := #[.int .i64 t192, .int .i64 0]) ?_ 1 _ rfl; refine zQ ?_; refine blk_put (cs := #[.int .i64 0, .int .i64 0]) ?_ 0 _ rfl; (with_reducible repeat (first | refine blk_drewN ?_ _ | refine blk_drew ?_ | refine blk_alloc ?_ _)); exact BK195.out) hb); have n4_ := zY HB hb; clear HO182; clear HO185; clear HO191; clear BK195; clear HB; have HO182 := n0_; have HO185 := n1_; have HO191 := n2_; have BK195 := n3_; have HB := n4_; clear n0_ n1_ n2_ n3_ n4_; (try clear hb); (try clear hb2); (try clear hk); (try clear hi)) | ((with_reducible refine gate_dst (N := 3) rfl ?_); refine zx 3 #[.int .i64 0, .int .i64 0] 27 ?_; intro gb199 hg w39 hbox hb; have n0_ := Aside0.mk (Kd.R_below (zt HO182) hb); have n1_ := Aside0.mk (Kd.R_below (zt HO185) hb); have n2_ := Aside0.mk (Kd.R_below (zt HO191) hb); have n3_ := zD BK195 hb; have n4_ := zY HB hb; have n5_ := Aside0.mk (hbox); have n6_ := zS hg HB; have n7_ := zS hg HB; have n8_ := zN hg BK195; have n9_ := zM hg BK195; clear HO182; clear HO185; clear HO191; clear BK195; clear HB; have HO182 := n0_; have HO185 := n1_; have HO191 := n2_; have BK195 := n3_; have HB := n4_; have BK199 := n5_; have GW199 := n6_; have GE199 := n7_; have NB195_199 := n8_; have NB199_195 := n9_; clear n0_ n1_ n2_ n3_ n4_ n5_ n6_ n7_ n8_ n9_; clear hb hbox hg; have hnb40 := NB199_195.out; have hnc40 := NB195_199.out; obtain ⟨hcz41_0, hcz41_1, hfz41_0, hfz41_1⟩ := zk2 BK199; obtain ⟨hcz42_0, hcz42_1, hfz42_0, hfz42_1⟩ := zk2 BK195))
  go_ret
  exact ⟨ze, zw HB⟩
 rw [if_neg c4] at H
 have c4b0 : (t194 == 0) = false := beq_eq_false_iff_ne.mpr c4
 have c4b1 : (t194 != 0) = true := bne_iff_ne.mpr c4
 obtain rfl := Option.some.inj H
 go_enter Try.func8, Try.ntmps8
 go_wp2_with (first | ((with_reducible refine gate_callee (f := 19) rfl ?_); refine goesL_ (some 6) rfl rfl Try.func19 (by kernel_rfl) rfl #[] rfl za ?_; (with_reducible refine (thatchlaw07_Example.calls  t180 t183 t186 t187 t188 t189 _ A1.out).mono ?_); rintro e w43 ⟨v181, v184, v190, rfl, ho0, ho1, ho2, hb⟩; refine ⟨_, rfl, ?_⟩; have n0_ := Aside0.mk (Kd.R_lower ho0 (below_size (zw HB))); have n1_ := Aside0.mk (Kd.R_lower ho1 (below_size (zw HB))); have n2_ := Aside0.mk (Kd.R_lower ho2 (below_size (zw HB))); have n3_ := zY HB hb; clear HB; have HO182 := n0_; have HO185 := n1_; have HO191 := n2_; have HB := n3_; clear n0_ n1_ n2_ n3_; (try clear hb); (try clear hb2); (try clear hk); (try clear hi); (try clear ho0); (try clear ho1); (try clear ho2); obtain ⟨Ao44, co44, eo44⟩ := Kd.R_slice HO182.out; subst eo44; obtain ⟨Ao45, co45, eo45⟩ := Kd.R_slice HO185.out; subst eo45; obtain ⟨Ao46, co46, eo46⟩ := Kd.R_slice HO191.out; subst eo46) | ((with_reducible refine gate_callee (f := 13) rfl ?_); refine goesL_ (some 8) rfl rfl Try.func13 (by kernel_rfl) rfl #[.agg #[.slice Ao44 t180.length co44, .slice Ao45 t183.length co45, .int .i64 t186, .int .i64 t187, .int .i64 t188, .slice Ao46 t189.length co46], .agg #[.int .i64 20, .int .i64 10]] rfl za ?_; (with_reducible refine (wear_Bounds.calls k _ _ t180 _ _ t183 t186 t187 t188 _ _ t189 20 10 t192 t193 t194 _ ?side1 ?side2 ?side3 ?side4 ?side5 ?side6 A2.out).mono ?_); (case side1 => exact zr (Kd.R_reads' HO182.out).2.2); (case side2 => exact (Kd.R_reads' HO182.out).2.1); (case side3 => exact zr (Kd.R_reads' HO185.out).2.2); (case side4 => exact (Kd.R_reads' HO185.out).2.1); (case side5 => exact zr (Kd.R_reads' HO191.out).2.2); (case side6 => exact (Kd.R_reads' HO191.out).2.1); rintro e w47 ⟨rfl, hb⟩; refine ⟨_, rfl, ?_⟩; have n0_ := Aside0.mk (Kd.R_below (zt HO182) hb); have n1_ := Aside0.mk (Kd.R_below (zt HO185) hb); have n2_ := Aside0.mk (Kd.R_below (zt HO191) hb); have n3_ := zY HB hb; clear HO182; clear HO185; clear HO191; clear HB; have HO182 := n0_; have HO185 := n1_; have HO191 := n2_; have HB := n3_; clear n0_ n1_ n2_ n3_; (try clear hb); (try clear hb2); (try clear hk); (try clear hi)) | ((with_reducible refine gate_dst (N := 1) rfl ?_); refine zx 1 #[.int .i64 0, .int .i64 0] 27 ?_; intro gb195 hg w48 hbox hb; have n0_ := Aside0.mk (Kd.R_below (zt HO182) hb); have n1_ := Aside0.mk (Kd.R_below (zt HO185) hb); have n2_ := Aside0.mk (Kd.R_below (zt HO191) hb); have n3_ := zY HB hb; have n4_ := Aside0.mk (hbox); have n5_ := zS hg HB; have n6_ := zS hg HB; clear HO182; clear HO185; clear HO191; clear HB; have HO182 := n0_; have HO185 := n1_; have HO191 := n2_; have HB := n3_; have BK195 := n4_; have GW195 := n5_; have GE195 := n6_; clear n0_ n1_ n2_ n3_ n4_ n5_ n6_; clear hb hbox hg; obtain ⟨hcz49_0, hcz49_1, hfz49_0, hfz49_1⟩ := zk2 BK195) | ((with_reducible refine gate_callee (f := 20) rfl ?_); refine goesL_ (some 14) rfl rfl Try.func20 (by kernel_rfl) rfl #[.agg #[.int .i64 100, .int .i64 200], .int .i64 1, .int .i64 2, .int .i64 10, .int .i64 50] rfl za ?_; (with_reducible refine (wear_Rate.calls 100 200 1 2 10 50 t196 t197 t198 _ A3.out).mono ?_); rintro e w50 ⟨rfl, hb⟩; refine ⟨_, rfl, ?_⟩; have n0_ := Aside0.mk (Kd.R_below (zF HO182 BK195) hb); have n1_ := Aside0.mk (Kd.R_below (zF HO185 BK195) hb); have n2_ := Aside0.mk (Kd.R_below (zF HO191 BK195) hb); have n3_ := Aside0.mk (blk_below (g := gb195) (o := .cells #[.int .i64 t192, .int .i64 t193] 27 (0, 0)) (by refine zQ ?_; refine blk_put (cs := #[.int .i64 t192, .int .i64 0]) ?_ 1 _ rfl; refine zQ ?_; refine blk_put (cs := #[.int .i64 0, .int .i64 0]) ?_ 0 _ rfl; (with_reducible repeat (first | refine blk_drewN ?_ _ | refine blk_drew ?_ | refine blk_alloc ?_ _)); exact BK195.out) hb); have n4_ := zY HB hb; clear HO182; clear HO185; clear HO191; clear BK195; clear HB; have HO182 := n0_; have HO185 := n1_; have HO191 := n2_; have BK195 := n3_; have HB := n4_; clear n0_ n1_ n2_ n3_ n4_; (try clear hb); (try clear hb2); (try clear hk); (try clear hi)) | ((with_reducible refine gate_dst (N := 3) rfl ?_); refine zx 3 #[.int .i64 0, .int .i64 0] 27 ?_; intro gb199 hg w51 hbox hb; have n0_ := Aside0.mk (Kd.R_below (zt HO182) hb); have n1_ := Aside0.mk (Kd.R_below (zt HO185) hb); have n2_ := Aside0.mk (Kd.R_below (zt HO191) hb); have n3_ := zD BK195 hb; have n4_ := zY HB hb; have n5_ := Aside0.mk (hbox); have n6_ := zS hg HB; have n7_ := zS hg HB; have n8_ := zN hg BK195; have n9_ := zM hg BK195; clear HO182; clear HO185; clear HO191; clear BK195; clear HB; have HO182 := n0_; have HO185 := n1_; have HO191 := n2_; have BK195 := n3_; have HB := n4_; have BK199 := n5_; have GW199 := n6_; have GE199 := n7_; have NB195_199 := n8_; have NB199_195 := n9_; clear n0_ n1_ n2_ n3_ n4_ n5_ n6_ n7_ n8_ n9_; clear hb hbox hg; have hnb52 := NB199_195.out; have hnc52 := NB195_199.out; obtain ⟨hcz53_0, hcz53_1, hfz53_0, hfz53_1⟩ := zk2 BK199))
 go_ret
 exact ⟨ze, zw HB⟩
end Go.Proofs.Ytcfpclehogdmbaa.Q
end
section
namespace Go.Proofs.Ytcfpclehogdmbaa.Q
open Go.RowKit Go.Proofs.YtcfpclehogdmbaaW.PrintWords Go.Proofs.YtcfpclehogdmbaaW.PrintLast Go.Proofs.YtcfpclehogdmbaaW.PrintMore
attribute [local go_sem] max2_int min2_int max_two min_two max_three min_three max_four min_four   -- for this text's walks alone
set_option linter.unusedVariables false
set_option linter.unusedSimpArgs false
theorem eqA55 (d : Nat) (w : World) (x0 y0 : Int) (x1 y1 : Int) (x2 y2 : Int) (x3 y3 : Int) :
  (Op.equalIn (d + 3) 55 (.agg #[.int .i64 x0, .int .i64 x1, .int .i64 x2, .int .i64 x3]) (.agg #[.int .i64 y0, .int .i64 y1, .int .i64 y2, .int .i64 y3])).run Try.prog w = .ok ((x0 == y0 && (x1 == y1)) && ((x2 == y2 && (x3 == y3)))) w := by
 refine eqA_of Try.underlying55 (by kernel_rfl) ?_
 refine eqf_cons (by rfl) (by go_simp) (by go_simp) (eqA32 (d + 0) w _ _ _ _) ?_
 exact eqf_last (by rfl) (by go_simp) (by go_simp) (eqA32 (d + 0) w _ _ _ _)
end Go.Proofs.Ytcfpclehogdmbaa.Q
end
section
namespace Go.Proofs.Ytcfpclehogdmbaa.Q
open Go.RowKit Go.Proofs.YtcfpclehogdmbaaW.PrintWords Go.Proofs.YtcfpclehogdmbaaW.PrintLast Go.Proofs.YtcfpclehogdmbaaW.PrintMore
attribute [local go_sem] max2_int min2_int max_two min_two max_three min_three max_four min_four   -- for this text's walks alone
set_option linter.unusedVariables false
set_option linter.unusedSimpArgs false
theorem eqA67 (d : Nat) (w : World) (x0 y0 : Int) (x1 y1 : Int) (x2 y2 : Int) (x3 y3 : Int) :
  (Op.equalIn (d + 3) 67 (.agg #[.int .i64 x0, .int .i64 x1, .int .i64 x2, .int .i64 x3]) (.agg #[.int .i64 y0, .int .i64 y1, .int .i64 y2, .int .i64 y3])).run Try.prog w = .ok ((x0 == y0 && (x1 == y1)) && ((x2 == y2 && (x3 == y3)))) w := by
 refine eqA_of Try.underlying67 (by kernel_rfl) ?_
 refine eqf_cons (by rfl) (by go_simp) (by go_simp) (eqA32 (d + 0) w _ _ _ _) ?_
 exact eqf_last (by rfl) (by go_simp) (by go_simp) (eqA27 (d + 0) w _ _ _ _)
end Go.Proofs.Ytcfpclehogdmbaa.Q
end
section
namespace Go.Proofs.Ytcfpclehogdmbaa.Q
open Go.RowKit Go.Proofs.YtcfpclehogdmbaaW.PrintWords Go.Proofs.YtcfpclehogdmbaaW.PrintLast Go.Proofs.YtcfpclehogdmbaaW.PrintMore
attribute [local go_sem] max2_int min2_int max_two min_two max_three min_three max_four min_four   -- for this text's walks alone
set_option linter.unusedVariables false
set_option linter.unusedSimpArgs false
attribute [local go_sem high] eqA27 eqA32 eqA55 eqA67
end Go.Proofs.Ytcfpclehogdmbaa.Q
end
section
namespace Go.Proofs.Ytcfpclehogdmbaa.Q
open Go.RowKit Go.Proofs.YtcfpclehogdmbaaW.PrintWords Go.Proofs.YtcfpclehogdmbaaW.PrintLast Go.Proofs.YtcfpclehogdmbaaW.PrintMore
set_option linter.unusedVariables false
set_option linter.unusedSimpArgs false
theorem great_l0 (l0 : List S32) (l1 : List S55) (st lo hi : Int) (l : List S67) (hl : l1.length < 1000000) : ∀ (d i : Nat), l1.length - i = d → i ≤ l1.length → ∃ b, Tells (fun k => thatchlaw07_Great.l0 k (i : Int) l0 l1 st lo hi l) b := by
  intro d
  induction d with
  | zero =>
    intro i hd hi2
    exact ⟨false, Tells.succ (h := fun _ => some false) (Tells.const fun _ => rfl) (fun k => by rw [thatchlaw07_Great.l0, if_neg (by omega)])⟩
  | succ d ih =>
    intro i hd hi2
    have hlt : i < l1.length := by omega
    obtain ⟨b, hb⟩ := ih (i + 1) (by omega) (by omega)
    have hs : ∀ k, thatchlaw07_Great.l0 (k + 1) (i : Int) l0 l1 st lo hi l = ((thatchlaw07_long.f ((rd_T55 l1 (i : Int)).f0.f0)).bind fun t104 => (if t104 = true then (some true) else ((thatchlaw07_long.f ((rd_T55 l1 (i : Int)).f0.f1)).bind fun t105 => (if t105 = true then (some true) else ((thatchlaw07_long.f ((rd_T55 l1 (i : Int)).f1.f0)).bind fun t106 => (if t106 = true then (some true) else ((thatchlaw07_long.f ((rd_T55 l1 (i : Int)).f1.f1)).bind fun t107 => (if t107 = true then (some true) else (thatchlaw07_Great.l0 k ((i + 1 : Nat) : Int) l0 l1 st lo hi l))))))))) := fun k => by
      rw [thatchlaw07_Great.l0, if_pos (by omega), if_pos (by omega), wrap_nat hlt hl]
    have hlong : ∀ x, ∃ b, thatchlaw07_long.f x = some b := fun x => by
      unfold thatchlaw07_long.f
      split <;> exact ⟨_, rfl⟩
    obtain ⟨b1, e1⟩ := hlong (rd_T55 l1 (i : Int)).f0.f0
    obtain ⟨b2, e2⟩ := hlong (rd_T55 l1 (i : Int)).f0.f1
    obtain ⟨b3, e3⟩ := hlong (rd_T55 l1 (i : Int)).f1.f0
    obtain ⟨b4, e4⟩ := hlong (rd_T55 l1 (i : Int)).f1.f1
    simp only [e1, e2, e3, e4, Option.bind_some] at hs
    by_cases c1 : b1 = true
    · exact ⟨true, Tells.succ (h := fun _ => some true) (Tells.const fun _ => rfl) (fun k => by rw [hs, if_pos c1])⟩
    · by_cases c2 : b2 = true
      · exact ⟨true, Tells.succ (h := fun _ => some true) (Tells.const fun _ => rfl) (fun k => by rw [hs, if_neg c1, if_pos c2])⟩
      · by_cases c3 : b3 = true
        · exact ⟨true, Tells.succ (h := fun _ => some true) (Tells.const fun _ => rfl) (fun k => by rw [hs, if_neg c1, if_neg c2, if_pos c3])⟩
        · by_cases c4 : b4 = true
          · exact ⟨true, Tells.succ (h := fun _ => some true) (Tells.const fun _ => rfl) (fun k => by rw [hs, if_neg c1, if_neg c2, if_neg c3, if_pos c4])⟩
          · exact ⟨b, Tells.succ hb (fun k => by rw [hs, if_neg c1, if_neg c2, if_neg c3, if_neg c4])⟩
theorem great_tells (l0 : List S32) (l1 : List S55) (st lo hi : Int) (l : List S67) : ∃ b, Tells (fun k => thatchlaw07_Great.f k l0 l1 st lo hi l) b ∧ (b = false → l0.length ≤ 30 ∧ l1.length ≤ 30 ∧ l.length ≤ 60) := by
  have tj : Tells (fun k => thatchlaw07_Great.j0 k true l0 l1 st lo hi l) true := Tells.succ (h := fun _ => some true) (Tells.const fun _ => rfl) (fun k => by rw [thatchlaw07_Great.j0, if_pos rfl])
  by_cases c0 : l0.length ≤ 30
  · by_cases c1 : l1.length ≤ 30
    · by_cases c2 : l.length ≤ 60
      · obtain ⟨b, hb⟩ := great_l0 l0 l1 st lo hi l (by omega) l1.length 0 (by omega) (by omega)
        refine ⟨b, ?_, fun _ => ⟨c0, c1, c2⟩⟩
        refine (Tells.succ (g := fun k => thatchlaw07_Great.j0 k false l0 l1 st lo hi l) hb (fun k => by rw [thatchlaw07_Great.j0, if_neg (by decide)]; rfl)).of_eq fun k => ?_
        unfold thatchlaw07_Great.f
        rw [if_neg (by omega), if_neg (by omega), decide_eq_false (by omega)]
      · refine ⟨true, tj.of_eq fun k => ?_, fun h => by cases h⟩
        unfold thatchlaw07_Great.f
        rw [if_neg (by omega), if_neg (by omega), decide_eq_true (by omega)]
    · refine ⟨true, tj.of_eq fun k => ?_, fun h => by cases h⟩
      unfold thatchlaw07_Great.f
      rw [if_neg (by omega), if_pos (by omega)]
  · refine ⟨true, tj.of_eq fun k => ?_, fun h => by cases h⟩
    unfold thatchlaw07_Great.f
    rw [if_pos (by omega)]
set_option maxRecDepth 100000 in
theorem lives_tells : Tells (fun k => thatchlaw07_lives.f k) true := Tells.mono (fun k => thatchlaw07_lives.mono k) (k := 60) (by decide +kernel)
end Go.Proofs.Ytcfpclehogdmbaa.Q
end
section
namespace Go.Proofs.Ytcfpclehogdmbaa.Q
open Go.RowKit Go.Proofs.YtcfpclehogdmbaaW.PrintWords Go.Proofs.YtcfpclehogdmbaaW.PrintLast Go.Proofs.YtcfpclehogdmbaaW.PrintMore
attribute [local go_sem] max2_int min2_int max_two min_two max_three min_three max_four min_four   -- for this text's walks alone
set_option linter.unusedVariables false
set_option linter.unusedSimpArgs false
end Go.Proofs.Ytcfpclehogdmbaa.Q
end
section
namespace Go.Proofs.Ytcfpclehogdmbaa.Q
open Go.RowKit Go.Proofs.YtcfpclehogdmbaaW.PrintWords Go.Proofs.YtcfpclehogdmbaaW.PrintLast Go.Proofs.YtcfpclehogdmbaaW.PrintMore
set_option linter.unusedVariables false
set_option linter.unusedSimpArgs false
def boundsE (l0 : List S32) (l1 : List S55) (st lo hi : Int) (l : List S67) (p0 p1 : Int) : Int × Int × Int :=
  if checkV l0 l1 st lo hi l = 0 then (if wear_has.b l0 l1 p0 p1 = true then ((boundsV st lo hi p0 p1 l).1, (boundsV st lo hi p0 p1 l).2, 0) else (0, 0, 7)) else (0, 0, checkV l0 l1 st lo hi l)
theorem bounds_wear (l0 : List S32) (l1 : List S55) (st lo hi : Int) (l : List S67) (p0 p1 : Int) (h0 : l0.length < 1000000) (h1 : l1.length < 1000000) (hl : l.length < 1000000) : Tells (fun k => wear_Bounds.f k l0 l1 st lo hi l p0 p1) (boundsE l0 l1 st lo hi l p0 p1) := by
  unfold wear_Bounds.f boundsE
  refine Tells.bind (check_wear l0 l1 st lo hi l h0 h1 hl) ?_
  by_cases e0 : checkV l0 l1 st lo hi l = 0
  · simp only [if_pos e0, wear_has.f, Option.bind_some]
    by_cases eh : wear_has.b l0 l1 p0 p1 = true
    · simp only [if_pos eh]
      exact (bounds_tells l0 l1 st lo hi p0 p1 l hl).bind (Tells.const fun _ => rfl)
    · simp only [if_neg eh]; exact Tells.const fun _ => rfl
  · simp only [if_neg e0]; exact Tells.const fun _ => rfl
theorem inP_has {l0 : List S32} {l1 : List S55} {p0 p1 : Int} (h : wear_has.b l0 l1 p0 p1 = true) : inP ⟨p0, p1⟩ := by
  have := h
  unfold wear_has.b at this
  simp only [Bool.and_eq_true, decide_eq_true_eq] at this
  exact this.1.1
end Go.Proofs.Ytcfpclehogdmbaa.Q
end
section
namespace Go.Proofs.Ytcfpclehogdmbaa.Q
open Go.RowKit Go.Proofs.YtcfpclehogdmbaaW.PrintWords Go.Proofs.YtcfpclehogdmbaaW.PrintLast Go.Proofs.YtcfpclehogdmbaaW.PrintMore
attribute [local go_sem] max2_int min2_int max_two min_two max_three min_three max_four min_four   -- for this text's walks alone
set_option linter.unusedVariables false
set_option linter.unusedSimpArgs false
def thatchlaw07_near.l0 : Nat → List (S76) → Int → Option (Bool)
 | 0, _, _ => none
 | k + 1, x0, x3 => if x3 < (x0.length : Int) then (if 0 ≤ x3 then (if ((rd_T76 x0 x3).f0.f0) < (-1000) then (some false) else (if ((rd_T76 x0 x3).f0.f0) > 1000 then (some false) else (if ((rd_T76 x0 x3).f0.f1) < (-1000) then (some false) else (if ((rd_T76 x0 x3).f0.f1) > 1000 then (some false) else (thatchlaw07_near.l0 k x0 (wrap64 (x3 + 1))))))) else (none)) else (some (decide ((x0.length : Int) ≤ 20)))
def thatchlaw07_near.f (k : Nat) (l0 : List (S76)) : Option (Bool) := thatchlaw07_near.l0 k l0 0
set_option maxHeartbeats 8000000 in
set_option maxRecDepth 100000 in
theorem thatchlaw07_near.calls (k : Nat) (A0 : Option Addr) (c0 : Nat) (l0 : List (S76)) (r : Bool) (w : World) (hr0 : Kd.C k76 w A0 l0.length l0) (hc0 : l0.length ≤ c0) (h : thatchlaw07_near.f k l0 = some r) :
  Calls Try.prog 14 #[.slice A0 l0.length c0] w fun e w' => e = .returned (.bool r) ∧ Drawn0 w w' := by
 have HR0 := Aside0.mk hr0
 have HC0 := Aside0.mk hc0
 clear hr0 hc0
 have H : (thatchlaw07_near.l0 k l0 0) = some r := h
 clear h
 have H' := Aside0.mk H
 clear H
 go_enter Try.func14, Try.ntmps14
 go_wp2
 go_loopg [3] k (fun kq v3 w' => ∃ (x3_1 : Int), v3 = .int .i64 x3_1 ∧ Aside0 (thatchlaw07_near.l0 kq l0 x3_1 = some r) ∧ Aside0 (kq ≤ k) ∧ Drawn0 w w')
 case atStart => exact ⟨(0), zq, H', ⟨Nat.le_refl _⟩, by repeat (first | exact Drawn0.refl _ | apply Drawn0.step)⟩
 case round =>
  clear H'; try clear c1
  obtain ⟨x3_1, rfl, HA, HK1, ⟨m1, rfl⟩⟩ := hrel
  cases gk with
  | zero => exact absurd HA.out (by simp [thatchlaw07_near.l0])
  | succ k1 =>
   have H := HA.out
   clear HA
   simp only [thatchlaw07_near.l0] at H
   by_cases c2 : x3_1 < (l0.length : Int)
   ·rw [if_pos c2] at H
    have c2b0 : decide (x3_1 < (l0.length : Int)) = true := decide_eq_true c2
    clear c2
    by_cases c3 : 0 ≤ x3_1
    ·rw [if_pos c3] at H
     have c3b0 : decide (0 ≤ x3_1) = true := decide_eq_true c3
     clear c3
     by_cases c4 : ((rd_T76 l0 x3_1).f0.f0) < (-1000)
     ·rw [if_pos c4] at H
      have c4b0 : decide (((rd_T76 l0 x3_1).f0.f0) < (-1000)) = true := decide_eq_true c4
      clear c4
      obtain rfl := Option.some.inj H
      have p476 : 0 ≤ (x3_1 : Int) := of_decide_eq_true zj
      have q476 : x3_1 < (l0.length : Int) := of_decide_eq_true zj
      obtain ⟨ad476, e476, hx476_0, hx476_1, hx476_2⟩ := at_T76 HR0.out x3_1 p476 q476
      cases e476
      replace p476 := eq_true p476
      replace q476 := eq_true q476
      go_wp2
      go_ret
      exact ⟨by first | rfl | (simp; done) | (simp [*]; done), by repeat (first | exact Drawn0.refl _ | apply Drawn0.step)⟩
     rw [if_neg c4] at H
     have c4b0 : decide (((rd_T76 l0 x3_1).f0.f0) < (-1000)) = false := decide_eq_false c4
     clear c4
     by_cases c5 : ((rd_T76 l0 x3_1).f0.f0) > 1000
     ·rw [if_pos c5] at H
      have c5b0 : decide (1000 < ((rd_T76 l0 x3_1).f0.f0)) = true := decide_eq_true c5
      clear c5
      obtain rfl := Option.some.inj H
      have p476 : 0 ≤ (x3_1 : Int) := of_decide_eq_true zj
      have q476 : x3_1 < (l0.length : Int) := of_decide_eq_true zj
      obtain ⟨ad476, e476, hx476_0, hx476_1, hx476_2⟩ := at_T76 HR0.out x3_1 p476 q476
      cases e476
      replace p476 := eq_true p476
      replace q476 := eq_true q476
      have p477 : 0 ≤ (x3_1 : Int) := of_decide_eq_true zj
      have q477 : x3_1 < (l0.length : Int) := of_decide_eq_true zj
      obtain ⟨ad477, e477, hx477_0, hx477_1, hx477_2⟩ := at_T76 HR0.out x3_1 p477 q477
      obtain rfl : ad476 = ad477 := (by injection e477)
      replace p477 := eq_true p477
      replace q477 := eq_true q477
      go_wp2
      go_ret
      exact ⟨by first | rfl | (simp; done) | (simp [*]; done), by repeat (first | exact Drawn0.refl _ | apply Drawn0.step)⟩
     rw [if_neg c5] at H
     have c5b0 : decide (1000 < ((rd_T76 l0 x3_1).f0.f0)) = false := decide_eq_false c5
     clear c5
     by_cases c6 : ((rd_T76 l0 x3_1).f0.f1) < (-1000)
     ·rw [if_pos c6] at H
      have c6b0 : decide (((rd_T76 l0 x3_1).f0.f1) < (-1000)) = true := decide_eq_true c6
      clear c6
      obtain rfl := Option.some.inj H
      have p476 : 0 ≤ (x3_1 : Int) := of_decide_eq_true zj
      have q476 : x3_1 < (l0.length : Int) := of_decide_eq_true zj
      obtain ⟨ad476, e476, hx476_0, hx476_1, hx476_2⟩ := at_T76 HR0.out x3_1 p476 q476
      cases e476
      replace p476 := eq_true p476
      replace q476 := eq_true q476
      have p477 : 0 ≤ (x3_1 : Int) := of_decide_eq_true zj
      have q477 : x3_1 < (l0.length : Int) := of_decide_eq_true zj
      obtain ⟨ad477, e477, hx477_0, hx477_1, hx477_2⟩ := at_T76 HR0.out x3_1 p477 q477
      obtain rfl : ad476 = ad477 := (by injection e477)
      replace p477 := eq_true p477
      replace q477 := eq_true q477
      have p478 : 0 ≤ (x3_1 : Int) := of_decide_eq_true zj
      have q478 : x3_1 < (l0.length : Int) := of_decide_eq_true zj
      obtain ⟨ad478, e478, hx478_0, hx478_1, hx478_2⟩ := at_T76 HR0.out x3_1 p478 q478
      obtain rfl : ad476 = ad478 := (by injection e478)
      replace p478 := eq_true p478
      replace q478 := eq_true q478
      go_wp2
      go_ret
      exact ⟨by first | rfl | (simp; done) | (simp [*]; done), by repeat (first | exact Drawn0.refl _ | apply Drawn0.step)⟩
     rw [if_neg c6] at H
     have c6b0 : decide (((rd_T76 l0 x3_1).f0.f1) < (-1000)) = false := decide_eq_false c6
     clear c6
     by_cases c7 : ((rd_T76 l0 x3_1).f0.f1) > 1000
     ·rw [if_pos c7] at H
      have c7b0 : decide (1000 < ((rd_T76 l0 x3_1).f0.f1)) = true := decide_eq_true c7
      clear c7
      obtain rfl := Option.some.inj H
      have p476 : 0 ≤ (x3_1 : Int) := of_decide_eq_true zj
      have q476 : x3_1 < (l0.length : Int) := of_decide_eq_true zj
      obtain ⟨ad476, e476, hx476_0, hx476_1, hx476_2⟩ := at_T76 HR0.out x3_1 p476 q476
      cases e476
      replace p476 := eq_true p476
      replace q476 := eq_true q476
      have p477 : 0 ≤ (x3_1 : Int) := of_decide_eq_true zj
      have q477 : x3_1 < (l0.length : Int) := of_decide_eq_true zj
      obtain ⟨ad477, e477, hx477_0, hx477_1, hx477_2⟩ := at_T76 HR0.out x3_1 p477 q477
      obtain rfl : ad476 = ad477 := (by injection e477)
      replace p477 := eq_true p477
      replace q477 := eq_true q477
      have p478 : 0 ≤ (x3_1 : Int) := of_decide_eq_true zj
      have q478 : x3_1 < (l0.length : Int) := of_decide_eq_true zj
      obtain ⟨ad478, e478, hx478_0, hx478_1, hx478_2⟩ := at_T76 HR0.out x3_1 p478 q478
      obtain rfl : ad476 = ad478 := (by injection e478)
      replace p478 := eq_true p478
      replace q478 := eq_true q478
      have p479 : 0 ≤ (x3_1 : Int) := of_decide_eq_true zj
      have q479 : x3_1 < (l0.length : Int) := of_decide_eq_true zj
      obtain ⟨ad479, e479, hx479_0, hx479_1, hx479_2⟩ := at_T76 HR0.out x3_1 p479 q479
      obtain rfl : ad476 = ad479 := (by injection e479)
      replace p479 := eq_true p479
      replace q479 := eq_true q479
      go_wp2
      go_ret
      exact ⟨by first | rfl | (simp; done) | (simp [*]; done), by repeat (first | exact Drawn0.refl _ | apply Drawn0.step)⟩
     rw [if_neg c7] at H
     have c7b0 : decide (1000 < ((rd_T76 l0 x3_1).f0.f1)) = false := decide_eq_false c7
     clear c7
     have H' := Aside0.mk H
     clear H
     have p476 : 0 ≤ (x3_1 : Int) := of_decide_eq_true zj
     have q476 : x3_1 < (l0.length : Int) := of_decide_eq_true zj
     obtain ⟨ad476, e476, hx476_0, hx476_1, hx476_2⟩ := at_T76 HR0.out x3_1 p476 q476
     cases e476
     replace p476 := eq_true p476
     replace q476 := eq_true q476
     have p477 : 0 ≤ (x3_1 : Int) := of_decide_eq_true zj
     have q477 : x3_1 < (l0.length : Int) := of_decide_eq_true zj
     obtain ⟨ad477, e477, hx477_0, hx477_1, hx477_2⟩ := at_T76 HR0.out x3_1 p477 q477
     obtain rfl : ad476 = ad477 := (by injection e477)
     replace p477 := eq_true p477
     replace q477 := eq_true q477
     have p478 : 0 ≤ (x3_1 : Int) := of_decide_eq_true zj
     have q478 : x3_1 < (l0.length : Int) := of_decide_eq_true zj
     obtain ⟨ad478, e478, hx478_0, hx478_1, hx478_2⟩ := at_T76 HR0.out x3_1 p478 q478
     obtain rfl : ad476 = ad478 := (by injection e478)
     replace p478 := eq_true p478
     replace q478 := eq_true q478
     have p479 : 0 ≤ (x3_1 : Int) := of_decide_eq_true zj
     have q479 : x3_1 < (l0.length : Int) := of_decide_eq_true zj
     obtain ⟨ad479, e479, hx479_0, hx479_1, hx479_2⟩ := at_T76 HR0.out x3_1 p479 q479
     obtain rfl : ad476 = ad479 := (by injection e479)
     replace p479 := eq_true p479
     replace q479 := eq_true q479
     go_wp2
     go_roundg k1
     case measure => have := HK1.out; omega
     case rel => exact ⟨(wrap64 (x3_1 + 1)), zq, H', ⟨by have := HK1.out; omega⟩, by repeat (first | exact Drawn0.refl _ | apply Drawn0.step)⟩
    rw [if_neg c3] at H
    exact absurd H (by simp)
   rw [if_neg c2] at H
   have c2b0 : decide (x3_1 < (l0.length : Int)) = false := decide_eq_false c2
   clear c2
   obtain rfl := Option.some.inj H
   go_wp2
   go_ret
   exact ⟨by first | rfl | (simp; done) | (simp [*]; done), by repeat (first | exact Drawn0.refl _ | apply Drawn0.step)⟩
def thatchlaw07_far.f (a0_0 : Int) (a0_1 : Int) (a1_0 : Int) (a1_1 : Int) : Option (Int) := some (wrap64 ((mx (wrap64 (a0_0 - a1_0)) (wrap64 (a1_0 - a0_0))) + (mx (wrap64 (a0_1 - a1_1)) (wrap64 (a1_1 - a0_1)))))
set_option maxHeartbeats 8000000 in
set_option maxRecDepth 100000 in
theorem thatchlaw07_far.calls (a0_0 : Int) (a0_1 : Int) (a1_0 : Int) (a1_1 : Int) (r : Int) (w : World) (h : thatchlaw07_far.f a0_0 a0_1 a1_0 a1_1 = some r) :
  Calls Try.prog 38 #[.agg #[.int .i64 a0_0, .int .i64 a0_1], .agg #[.int .i64 a1_0, .int .i64 a1_1]] w fun e w' => e = .returned (.int .i64 r) ∧ Below w.heap.size w w' := by
 have hu32 := Try.underlying32
 have HB := Aside0.mk (Below.refl w.heap.size w)
 have H : (some (wrap64 ((mx (wrap64 (a0_0 - a1_0)) (wrap64 (a1_0 - a0_0))) + (mx (wrap64 (a0_1 - a1_1)) (wrap64 (a1_1 - a0_1)))))) = some r := h
 clear h
 obtain ⟨ji3, hji3⟩ : ∃ j_ : Int, (mx (wrap64 (a0_0 - a1_0)) (wrap64 (a1_0 - a0_0))) = j_ := ⟨_, rfl⟩
 replace H : (some (wrap64 ((ji3) + (mx (wrap64 (a0_1 - a1_1)) (wrap64 (a1_1 - a0_1)))))) = some r := by first | (rw [hji3] at H; exact H) | (simp only [hji3] at H ⊢; exact H)
 have hji3_ : (if (wrap64 (a0_0 - a1_0)) < (wrap64 (a1_0 - a0_0)) then (wrap64 (a1_0 - a0_0)) else (wrap64 (a0_0 - a1_0))) = ji3 := hji3
 obtain ⟨ji4, hji4⟩ : ∃ j_ : Int, (mx (wrap64 (a0_1 - a1_1)) (wrap64 (a1_1 - a0_1))) = j_ := ⟨_, rfl⟩
 replace H : (some (wrap64 ((ji3) + (ji4)))) = some r := by first | (rw [hji4] at H; exact H) | (simp only [hji4] at H ⊢; exact H)
 have hji4_ : (if (wrap64 (a0_1 - a1_1)) < (wrap64 (a1_1 - a0_1)) then (wrap64 (a1_1 - a0_1)) else (wrap64 (a0_1 - a1_1))) = ji4 := hji4
 obtain rfl := Option.some.inj H
 go_enter Try.func38, Try.ntmps38
 go_wp2_with (first | ((with_reducible refine gate_dst (N := 2) rfl ?_); refine zx 2 #[.int .i64 a0_0, .int .i64 a0_1] 32 ?_; intro gb480 hg w5 hbox hb; have n0_ := zY HB hb; have n1_ := Aside0.mk (hbox); have n2_ := zS hg HB; have n3_ := zS hg HB; clear HB; have HB := n0_; have BK480 := n1_; have GW480 := n2_; have GE480 := n3_; clear n0_ n1_ n2_ n3_; clear hb hbox hg) | ((with_reducible refine gate_dst (N := 3) rfl ?_); refine zx 3 #[.int .i64 a1_0, .int .i64 a1_1] 32 ?_; intro gb481 hg w6 hbox hb; have n0_ := zD BK480 hb; have n1_ := zY HB hb; have n2_ := Aside0.mk (hbox); have n3_ := zS hg HB; have n4_ := zS hg HB; have n5_ := zN hg BK480; have n6_ := zM hg BK480; clear BK480; clear HB; have BK480 := n0_; have HB := n1_; have BK481 := n2_; have GW481 := n3_; have GE481 := n4_; have NB480_481 := n5_; have NB481_480 := n6_; clear n0_ n1_ n2_ n3_ n4_ n5_ n6_; clear hb hbox hg; have hnb7 := NB480_481.out; have hnc7 := NB481_480.out; obtain ⟨hcz8_0, hcz8_1, hfz8_0, hfz8_1⟩ := zk2 BK480; obtain ⟨hcz9_0, hcz9_1, hfz9_0, hfz9_1⟩ := zk2 BK481))
 go_ret
 exact ⟨by first | rfl | (simp [errW_none, errW_some] <;> rfl) | (simp only [← hji3, ← hji4]; first | rfl | (simp [errW_none, errW_some] <;> rfl)) | (simp [*, errW_none, errW_some] <;> rfl), zw HB⟩
def thatchlaw07_thick.l0 : Nat → List (S76) → Int → Int → Int → Int → Int → Int → Int → Option (Int)
 | 0, _, _, _, _, _, _, _, _ => none
 | k + 1, x0, x1, x9, x10, x483000, x483001, x484000, x484001 => if x10 < (x0.length : Int) then (if 0 ≤ x10 then ((thatchlaw07_far.f x484000 x484001 ((rd_T76 x0 x10).f0.f0) ((rd_T76 x0 x10).f0.f1)).bind fun t486 => (thatchlaw07_thick.l0 k x0 x1 (mn x9 (wrap64 ((mx x483000 (Int.tmod (wrap64 ((rd_T76 x0 x10).f1)) 2001)) + (wrap64 (x1 * t486))))) (wrap64 (x10 + 1)) x483000 x483001 x484000 x484001)) else (none)) else (some (mx x9 x483000))
def thatchlaw07_thick.f (k : Nat) (l0 : List (S76)) (a1 : Int) (a2_0 : Int) (a2_1 : Int) (a3_0 : Int) (a3_1 : Int) : Option (Int) := thatchlaw07_thick.l0 k l0 a1 a2_1 0 a2_0 a2_1 a3_0 a3_1
def thatchlaw07_thick.T5 : Bool × List (List Nat × List Nat) := (true, [([], []), ([], []), ([1], [1]), ([], []), ([], []), ([3, 4], [3, 4]), ([5], [5]), ([6], [6]), ([7], [7]), ([8], [8]), ([2, 9], [2, 9]), ([], []), ([], []), ([], []), ([], []), ([13, 14], [13, 14]), ([15], [15]), ([16], [16]), ([12, 17], [12, 17]), ([11, 18], [11, 18]), ([10, 19], [10, 19]), ([0, 20], [0, 20]), ([21, 18, 0, 1, 2, 3, 4, 5, 6, 7, 8, 9, 10, 11, 12, 13, 14, 15, 16, 17, 18, 19, 20, 21], [0, 21])])
def thatchlaw07_thick.B5 : List Nat := [0, 0, 2, 0, 0, 24, 56, 120, 248, 504, 1022, 0, 0, 0, 0, 24576, 57344, 122880, 258048, 522240, 1048574, 2097151, 4194303]
theorem thatchlaw07_thick.tab5 : rtab .any (opsOf Try.f16 5) = thatchlaw07_thick.T5 := by kernel_rfl
theorem thatchlaw07_thick.bits5 : waitsOk thatchlaw07_thick.T5.2 thatchlaw07_thick.B5 = true := by kernel_rfl
set_option maxHeartbeats 8000000 in
set_option maxRecDepth 100000 in
theorem thatchlaw07_thick.calls (k : Nat) (A0 : Option Addr) (c0 : Nat) (l0 : List (S76)) (a1 : Int) (a2_0 : Int) (a2_1 : Int) (a3_0 : Int) (a3_1 : Int) (r : Int) (w : World) (hr0 : Kd.C k76 w A0 l0.length l0) (hc0 : l0.length ≤ c0) (h : thatchlaw07_thick.f k l0 a1 a2_0 a2_1 a3_0 a3_1 = some r) :
  Calls Try.prog 16 #[.slice A0 l0.length c0, .int .i64 a1, .agg #[.int .i64 a2_0, .int .i64 a2_1], .agg #[.int .i64 a3_0, .int .i64 a3_1]] w fun e w' => e = .returned (.int .i64 r) ∧ Below w.heap.size w w' := by
 have hu27 := Try.underlying27
 have hu32 := Try.underlying32
 have HR0 := Aside0.mk hr0
 have HC0 := Aside0.mk hc0
 clear hr0 hc0
 have HB := Aside0.mk (Below.refl w.heap.size w)
 have H : (thatchlaw07_thick.l0 k l0 a1 a2_1 0 a2_0 a2_1 a3_0 a3_1) = some r := h
 clear h
 have H' := Aside0.mk H
 clear H
 go_enter Try.func16, Try.ntmps16
 go_wp2_with (first | ((with_reducible refine gate_dst (N := 6) rfl ?_); refine zx 6 #[.int .i64 a2_0, .int .i64 a2_1] 27 ?_; intro gb482 hg w5 hbox hb; have n0_ := zY HB hb; have n1_ := Aside0.mk (hbox); have n2_ := zS hg HB; have n3_ := zS hg HB; clear HB; have HB := n0_; have BK482 := n1_; have GW482 := n2_; have GE482 := n3_; clear n0_ n1_ n2_ n3_; clear hb hbox hg) | ((with_reducible refine gate_dst (N := 7) rfl ?_); refine zx 7 #[.int .i64 a3_0, .int .i64 a3_1] 32 ?_; intro gb483 hg w6 hbox hb; have n0_ := zD BK482 hb; have n1_ := zY HB hb; have n2_ := Aside0.mk (hbox); have n3_ := zS hg HB; have n4_ := zS hg HB; have n5_ := zN hg BK482; have n6_ := zM hg BK482; clear BK482; clear HB; have BK482 := n0_; have HB := n1_; have BK483 := n2_; have GW483 := n3_; have GE483 := n4_; have NB482_483 := n5_; have NB483_482 := n6_; clear n0_ n1_ n2_ n3_ n4_ n5_ n6_; clear hb hbox hg; have hnb7 := NB482_483.out; have hnc7 := NB483_482.out; obtain ⟨hcz8_0, hcz8_1, hfz8_0, hfz8_1⟩ := zk2 BK482))
 go_loopg [9, 10] k (fun kq v9 v10 w' => ∃ (x9_1 : Int) (x10_1 : Int), v9 = .int .i64 x9_1 ∧ v10 = .int .i64 x10_1 ∧ Aside0 (thatchlaw07_thick.l0 kq l0 a1 x9_1 x10_1 a2_0 a2_1 a3_0 a3_1 = some r) ∧ Aside0 (kq ≤ k) ∧ Aside0 (w'.heap[gb482]? = some (.cells #[.int .i64 a2_0, .int .i64 a2_1] 27 (0, 0))) ∧ Aside0 (w'.heap[gb483]? = some (.cells #[.int .i64 a3_0, .int .i64 a3_1] 32 (0, 0))) ∧ Aside0 (Below w.heap.size w w'))
 case atStart => exact ⟨(a2_1), (0), zq, zq, H', ⟨Nat.le_refl _⟩, ⟨zb BK482⟩, ⟨zb BK483⟩, ⟨zw HB⟩⟩
 case round =>
  clear H'; try clear c1; try clear p2; try clear c7; try clear hcz8_0 hcz8_1; try clear hfz8_0 hfz8_1
  obtain ⟨x9_1, x10_1, rfl, rfl, HA, HK1, BK482, BK483, HB⟩ := hrel
  cases gk with
  | zero => exact absurd HA.out (by simp [thatchlaw07_thick.l0])
  | succ k1 =>
   have H := HA.out
   clear HA
   simp only [thatchlaw07_thick.l0] at H
   by_cases c9 : x10_1 < (l0.length : Int)
   ·rw [if_pos c9] at H
    have c9b0 : decide (x10_1 < (l0.length : Int)) = true := decide_eq_true c9
    clear c9
    by_cases c10 : 0 ≤ x10_1
    ·rw [if_pos c10] at H
     have c10b0 : decide (0 ≤ x10_1) = true := decide_eq_true c10
     clear c10
     obtain ⟨ji11, hji11⟩ : ∃ j_ : Int, (mx a2_0 (Int.tmod (wrap64 ((rd_T76 l0 x10_1).f1)) 2001)) = j_ := ⟨_, rfl⟩
     replace H : ((thatchlaw07_far.f a3_0 a3_1 ((rd_T76 l0 x10_1).f0.f0) ((rd_T76 l0 x10_1).f0.f1)).bind fun t486 => (thatchlaw07_thick.l0 k1 l0 a1 (mn x9_1 (wrap64 ((ji11) + (wrap64 (a1 * t486))))) (wrap64 (x10_1 + 1)) a2_0 a2_1 a3_0 a3_1)) = some r := by first | (rw [hji11] at H; exact H) | (simp only [hji11] at H ⊢; exact H)
     have hji11_ : (if a2_0 < (Int.tmod (wrap64 ((rd_T76 l0 x10_1).f1)) 2001) then (Int.tmod (wrap64 ((rd_T76 l0 x10_1).f1)) 2001) else a2_0) = ji11 := hji11
     replace H := Option.bind_eq_some_iff.mp H
     obtain ⟨t486, A120, H⟩ := H
     replace H : (thatchlaw07_thick.l0 k1 l0 a1 (mn x9_1 (wrap64 ((ji11) + (wrap64 (a1 * t486))))) (wrap64 (x10_1 + 1)) a2_0 a2_1 a3_0 a3_1) = some r := H
     have A12 := Aside0.mk A120
     clear A120
     obtain ⟨ji13, hji13⟩ : ∃ j_ : Int, (mn x9_1 (wrap64 ((ji11) + (wrap64 (a1 * t486))))) = j_ := ⟨_, rfl⟩
     replace H : (thatchlaw07_thick.l0 k1 l0 a1 ji13 (wrap64 (x10_1 + 1)) a2_0 a2_1 a3_0 a3_1) = some r := by first | (rw [hji13] at H; exact H) | (simp only [hji13] at H ⊢; exact H)
     (try rw [hji13] at A12)
     have hji13_ : (if (wrap64 ((ji11) + (wrap64 (a1 * t486)))) < x9_1 then (wrap64 ((ji11) + (wrap64 (a1 * t486)))) else x9_1) = ji13 := hji13
     have H' := Aside0.mk H
     clear H
     try go_wp2
     have n0_ := Aside0.mk (blk_drew BK482.out)
     have n1_ := Aside0.mk (blk_drew BK483.out)
     have n2_ := Aside0.mk (below_drew1 HB.out)
     clear BK482; clear BK483; clear HB
     have BK482 := n0_
     have BK483 := n1_
     have HB := n2_
     clear n0_ n1_ n2_
     have p484 : 0 ≤ (x10_1 : Int) := of_decide_eq_true zj
     have q484 : x10_1 < (l0.length : Int) := of_decide_eq_true zj
     obtain ⟨ad484, e484, hx484_0, hx484_1, hx484_2⟩ := at_T76 HR0.out x10_1 p484 q484
     have hw484_2 := hx484_2
     have hw484_1 := hx484_1
     have hw484_0 := hx484_0
     cases e484
     replace hx484_0 := zu hx484_0 HB
     replace hx484_1 := zu hx484_1 HB
     replace hx484_2 := zu hx484_2 HB
     replace p484 := eq_true p484
     replace q484 := eq_true q484
     have p485 : 0 ≤ (x10_1 : Int) := of_decide_eq_true zj
     have q485 : x10_1 < (l0.length : Int) := of_decide_eq_true zj
     obtain ⟨ad485, e485, hx485_0, hx485_1, hx485_2⟩ := at_T76 HR0.out x10_1 p485 q485
     have hw485_2 := hx485_2
     have hw485_1 := hx485_1
     have hw485_0 := hx485_0
     obtain rfl : ad484 = ad485 := (by injection e485)
     replace hx485_0 := zu hx485_0 HB
     replace hx485_1 := zu hx485_1 HB
     replace hx485_2 := zu hx485_2 HB
     replace p485 := eq_true p485
     replace q485 := eq_true q485
     refine start_ (n := 23) (S := fun w' => w'.cell? ⟨gb482, 0, none⟩ = some (.int .i64 a2_0) ∧ w'.cell? ⟨gb482, 1, none⟩ = some (.int .i64 a2_1) ∧ w'.cell? ⟨gb483, 0, none⟩ = some (.int .i64 a3_0) ∧ w'.cell? ⟨gb483, 1, none⟩ = some (.int .i64 a3_1) ∧ w'.cell? (ad484.add ((x10_1).toNat * 3)) = some (.int .i64 ((rd_T76 l0 x10_1).f0.f0)) ∧ w'.cell? ⟨(ad484.add ((x10_1).toNat * 3)).block, (ad484.add ((x10_1).toNat * 3)).off + 1, none⟩ = some (.int .i64 ((rd_T76 l0 x10_1).f0.f1)) ∧ w'.cell? ⟨(ad484.add ((x10_1).toNat * 3)).block, (ad484.add ((x10_1).toNat * 3)).off + 2, none⟩ = some (.int .u16 ((rd_T76 l0 x10_1).f1)) ∧ w'.cell? (ad484.add ((x10_1).toNat * 3)) = some (.int .i64 ((rd_T76 l0 x10_1).f0.f0)) ∧ w'.cell? ⟨(ad484.add ((x10_1).toNat * 3)).block, (ad484.add ((x10_1).toNat * 3)).off + 1, none⟩ = some (.int .i64 ((rd_T76 l0 x10_1).f0.f1)) ∧ w'.cell? ⟨(ad484.add ((x10_1).toNat * 3)).block, (ad484.add ((x10_1).toNat * 3)).off + 2, none⟩ = some (.int .u16 ((rd_T76 l0 x10_1).f1))) (ds := []) #[Z0, Z0, Z0, Z0, Z0, Z0, Z0, Z0, Z0, Z0, Z0, Z0, Z0, Z0, Z0, Z0, Z0, Z0, Z0, Z0, Z0, Z0, Z0] (by kernel_rfl) rfl rfl ⟨(blk_cell BK482.out 0).trans rfl, (blk_cell BK482.out 1).trans rfl, (blk_cell BK483.out 0).trans rfl, (blk_cell BK483.out 1).trans rfl, (zu hw484_0 HB), (zu hw484_1 HB), (zu hw484_2 HB), (zu hw485_0 HB), (zu hw485_1 HB), (zu hw485_2 HB)⟩ (fun hHeld => ?_); refine with_tabW thatchlaw07_thick.tab5 thatchlaw07_thick.bits5 (fun HT_ HW_ => ?_)
     generalize wr.drew = w14 at BK482 BK483 HB hx484_0 hx484_1 hx484_2 hx485_0 hx485_1 hx485_2 hHeld ⊢
     refine zp 0 (some 19) #[Z1, Z0, Z0, Z0, Z0, Z0, Z0, Z0, Z0, Z0, Z0, Z0, Z0, Z0, Z0, Z0, Z0, Z0, Z0, Z0, Z0, Z0, Z0] rfl rfl (any_of HT_.out (by kernel_rfl)) ?_
     refine zp 1 (some 20) #[Z1, Z1, Z0, Z0, Z0, Z0, Z0, Z0, Z0, Z0, Z0, Z0, Z0, Z0, Z0, Z0, Z0, Z0, Z0, Z0, Z0, Z0, Z0] rfl rfl (any_of HT_.out (by kernel_rfl)) ?_
     refine zp 3 (some 22) #[Z1, Z1, Z0, Z1, Z0, Z0, Z0, Z0, Z0, Z0, Z0, Z0, Z0, Z0, Z0, Z0, Z0, Z0, Z0, Z0, Z0, Z0, Z0] rfl rfl (any_of HT_.out (by kernel_rfl)) ?_
     refine zp 4 (some 23) #[Z1, Z1, Z0, Z1, Z1, Z0, Z0, Z0, Z0, Z0, Z0, Z0, Z0, Z0, Z0, Z0, Z0, Z0, Z0, Z0, Z0, Z0, Z0] rfl rfl (any_of HT_.out (by kernel_rfl)) ?_
     refine zp 5 (some 24) #[Z1, Z1, Z0, Z1, Z1, Z1, Z0, Z0, Z0, Z0, Z0, Z0, Z0, Z0, Z0, Z0, Z0, Z0, Z0, Z0, Z0, Z0, Z0] rfl rfl (any_of HT_.out (by kernel_rfl)) ?_
     refine zp 6 (some 25) #[Z1, Z1, Z0, Z1, Z1, Z1, Z1, Z0, Z0, Z0, Z0, Z0, Z0, Z0, Z0, Z0, Z0, Z0, Z0, Z0, Z0, Z0, Z0] rfl rfl (any_of HT_.out (by kernel_rfl)) ?_
     refine zp 11 (some 30) #[Z1, Z1, Z0, Z1, Z1, Z1, Z1, Z0, Z0, Z0, Z0, Z1, Z0, Z0, Z0, Z0, Z0, Z0, Z0, Z0, Z0, Z0, Z0] rfl rfl (any_of HT_.out (by kernel_rfl)) ?_
     refine zp 13 (some 32) #[Z1, Z1, Z0, Z1, Z1, Z1, Z1, Z0, Z0, Z0, Z0, Z1, Z0, Z1, Z0, Z0, Z0, Z0, Z0, Z0, Z0, Z0, Z0] rfl rfl (any_of HT_.out (by kernel_rfl)) ?_
     refine zp 14 (some 33) #[Z1, Z1, Z0, Z1, Z1, Z1, Z1, Z0, Z0, Z0, Z0, Z1, Z0, Z1, Z1, Z0, Z0, Z0, Z0, Z0, Z0, Z0, Z0] rfl rfl (any_of HT_.out (by kernel_rfl)) ?_
     refine zp 15 (some 34) #[Z1, Z1, Z0, Z1, Z1, Z1, Z1, Z0, Z0, Z0, Z0, Z1, Z0, Z1, Z1, Z1, Z0, Z0, Z0, Z0, Z0, Z0, Z0] rfl rfl (any_of HT_.out (by kernel_rfl)) ?_
     refine zp 16 (some 35) #[Z1, Z1, Z0, Z1, Z1, Z1, Z1, Z0, Z0, Z0, Z0, Z1, Z0, Z1, Z1, Z1, Z1, Z0, Z0, Z0, Z0, Z0, Z0] rfl rfl (any_of HT_.out (by kernel_rfl)) ?_
     refine take_ (i := 2) (N := some 21) (v := ?_) (a' := ?_) #[Z1, Z1, Z1, Z1, Z1, Z1, Z1, Z0, Z0, Z0, Z0, Z1, Z0, Z1, Z1, Z1, Z1, Z0, Z0, Z0, Z0, Z0, Z0] rfl rfl (take_ofW HT_.out HW_.out (by kernel_rfl)) (fun _ _ _ h => h) (Or.inl ⟨by rfl, ?_⟩) hHeld ?_ ?_
     rotate_left; · rintro w' ⟨s0, s1, s2, s3, s4, s5, s6, s7, s8, s9⟩; go_simp; with_reducible rfl
     rotate_left; · simp only [Act.put, List.setIfInBounds_toArray, List.set_cons_zero, List.set_cons_succ, i64_w, i32_w]; rfl
     refine take_ (i := 7) (N := some 26) (v := ?_) (a' := ?_) #[Z1, Z1, Z1, Z1, Z1, Z1, Z1, Z1, Z0, Z0, Z0, Z1, Z0, Z1, Z1, Z1, Z1, Z0, Z0, Z0, Z0, Z0, Z0] rfl rfl (take_ofW HT_.out HW_.out (by kernel_rfl)) (fun _ _ _ h => h) (Or.inl ⟨by rfl, ?_⟩) hHeld ?_ ?_
     rotate_left; · rintro w' ⟨s0, s1, s2, s3, s4, s5, s6, s7, s8, s9⟩; go_simp; with_reducible rfl
     rotate_left; · simp only [Act.put, List.setIfInBounds_toArray, List.set_cons_zero, List.set_cons_succ, i64_w, i32_w]; rfl
     refine zp 8 (some 27) #[Z1, Z1, Z1, Z1, Z1, Z1, Z1, Z1, Z1, Z0, Z0, Z1, Z0, Z1, Z1, Z1, Z1, Z0, Z0, Z0, Z0, Z0, Z0] rfl rfl (any_of HT_.out (by kernel_rfl)) ?_
     refine zp 9 (some 28) #[Z1, Z1, Z1, Z1, Z1, Z1, Z1, Z1, Z1, Z1, Z0, Z1, Z0, Z1, Z1, Z1, Z1, Z0, Z0, Z0, Z0, Z0, Z0] rfl rfl (any_of HT_.out (by kernel_rfl)) ?_
     refine zp 10 (some 29) #[Z1, Z1, Z1, Z1, Z1, Z1, Z1, Z1, Z1, Z1, Z1, Z1, Z0, Z1, Z1, Z1, Z1, Z0, Z0, Z0, Z0, Z0, Z0] rfl rfl (any_of HT_.out (by kernel_rfl)) ?_
     refine take_ (i := 12) (N := some 31) (v := ?_) (a' := ?_) #[Z1, Z1, Z1, Z1, Z1, Z1, Z1, Z1, Z1, Z1, Z1, Z1, Z1, Z1, Z1, Z1, Z1, Z0, Z0, Z0, Z0, Z0, Z0] rfl rfl (take_ofW HT_.out HW_.out (by kernel_rfl)) (fun _ _ _ h => h) (Or.inl ⟨by rfl, ?_⟩) hHeld ?_ ?_
     rotate_left; · rintro w' ⟨s0, s1, s2, s3, s4, s5, s6, s7, s8, s9⟩; go_simp; with_reducible rfl
     rotate_left; · simp only [Act.put, List.setIfInBounds_toArray, List.set_cons_zero, List.set_cons_succ, i64_w, i32_w]; rfl
     refine take_ (i := 17) (N := some 36) (v := ?_) (a' := ?_) #[Z1, Z1, Z1, Z1, Z1, Z1, Z1, Z1, Z1, Z1, Z1, Z1, Z1, Z1, Z1, Z1, Z1, Z1, Z0, Z0, Z0, Z0, Z0] rfl rfl (take_ofW HT_.out HW_.out (by kernel_rfl)) (fun _ _ _ h => h) (Or.inl ⟨by rfl, ?_⟩) hHeld ?_ ?_
     rotate_left; · rintro w' ⟨s0, s1, s2, s3, s4, s5, s6, s7, s8, s9⟩; go_simp; with_reducible rfl
     rotate_left; · simp only [Act.put, List.setIfInBounds_toArray, List.set_cons_zero, List.set_cons_succ, i64_w, i32_w]; rfl
     refine one_ (i := 18) (N := some 37) #[Z1, Z1, Z1, Z1, Z1, Z1, Z1, Z1, Z1, Z1, Z1, Z1, Z1, Z1, Z1, Z1, Z1, Z1, Z1, Z0, Z0, Z0, Z0] rfl rfl (one_of HT_.out (by kernel_rfl)) (by decide) (fun K hK => ?_)
     refine goes_ Try.func38 (by kernel_rfl) rfl #[.agg #[.int .i64 a3_0, .int .i64 a3_1], .agg #[.int .i64 ((rd_T76 l0 x10_1).f0.f0), .int .i64 ((rd_T76 l0 x10_1).f0.f1)]] (by rfl) rfl rfl za ?_
     with_reducible refine (thatchlaw07_far.calls a3_0 a3_1 ((rd_T76 l0 x10_1).f0.f0) ((rd_T76 l0 x10_1).f0.f1) t486 _ A12.out).mono ?_
     rintro e w15 ⟨rfl, hb⟩
     refine ⟨_, rfl, ?_⟩
     have n0_ := zD BK482 hb
     have n1_ := zD BK483 hb
     have n2_ := zY HB hb
     clear BK482; clear BK483; clear HB
     have BK482 := n0_
     have BK483 := n1_
     have HB := n2_
     clear n0_ n1_ n2_
     (try clear hb)
     (try clear hb2)
     (try clear hk)
     (try clear hi)
     refine hK.out _ _ ⟨(blk_cell BK482.out 0).trans rfl, (blk_cell BK482.out 1).trans rfl, (blk_cell BK483.out 0).trans rfl, (blk_cell BK483.out 1).trans rfl, (zu hw484_0 HB), (zu hw484_1 HB), (zu hw484_2 HB), (zu hw485_0 HB), (zu hw485_1 HB), (zu hw485_2 HB)⟩ (fun hHeld => ?_)
     clear hK K
     refine norm_ (a' := ?_) ?_ ?_
     rotate_left
     ·show Act.put _ (some 37) _ = _
      simp only [Act.put, List.setIfInBounds_toArray, List.set_cons_zero, List.set_cons_succ, i64_w, i32_w]
      rfl
     refine zp 19 (some 38) #[Z1, Z1, Z1, Z1, Z1, Z1, Z1, Z1, Z1, Z1, Z1, Z1, Z1, Z1, Z1, Z1, Z1, Z1, Z1, Z1, Z0, Z0, Z0] rfl rfl (any_of HT_.out (by kernel_rfl)) ?_
     refine zp 20 (some 39) #[Z1, Z1, Z1, Z1, Z1, Z1, Z1, Z1, Z1, Z1, Z1, Z1, Z1, Z1, Z1, Z1, Z1, Z1, Z1, Z1, Z1, Z0, Z0] rfl rfl (any_of HT_.out (by kernel_rfl)) ?_
     refine zp 21 (some 40) #[Z1, Z1, Z1, Z1, Z1, Z1, Z1, Z1, Z1, Z1, Z1, Z1, Z1, Z1, Z1, Z1, Z1, Z1, Z1, Z1, Z1, Z1, Z0] rfl rfl (any_of HT_.out (by kernel_rfl)) ?_
     refine zp 22 (some 9) #[Z1, Z1, Z1, Z1, Z1, Z1, Z1, Z1, Z1, Z1, Z1, Z1, Z1, Z1, Z1, Z1, Z1, Z1, Z1, Z1, Z1, Z1, Z1] rfl rfl (any_of HT_.out (by kernel_rfl)) ?_
     refine done_ (done_of HT_.out (by kernel_rfl)) ?_
     try go_wp2
     go_roundg k1
     case measure => have := HK1.out; omega
     case rel => exact ⟨(ji13), (wrap64 (x10_1 + 1)), (by first | rfl | (simp; done) | (simp only [← hji13] <;> (first | rfl | simp)) | (simp [*]; done)), zq, H', ⟨by have := HK1.out; omega⟩, ⟨zb BK482⟩, ⟨zb BK483⟩, ⟨zw HB⟩⟩
    rw [if_neg c10] at H
    exact absurd H (by simp)
   rw [if_neg c9] at H
   have c9b0 : decide (x10_1 < (l0.length : Int)) = false := decide_eq_false c9
   clear c9
   obtain ⟨ji16, hji16⟩ : ∃ j_ : Int, (mx x9_1 a2_0) = j_ := ⟨_, rfl⟩
   replace H : (some ji16) = some r := by first | (rw [hji16] at H; exact H) | (simp only [hji16] at H ⊢; exact H)
   have hji16_ : (if x9_1 < a2_0 then a2_0 else x9_1) = ji16 := hji16
   obtain rfl := Option.some.inj H
   have hnb17 := NB482_483.out
   have hnc17 := NB483_482.out
   obtain ⟨hcz18_0, hcz18_1, hfz18_0, hfz18_1⟩ := zk2 BK482
   go_wp2
   go_ret
   exact ⟨by first | rfl | (simp [errW_none, errW_some] <;> rfl) | (simp only [← hji16]; first | rfl | (simp [errW_none, errW_some] <;> rfl)) | (simp [*, errW_none, errW_some] <;> rfl), zw HB⟩
def wear_after.f (a0_0 : Int) (a0_1 : Int) (a1_0 : Int) (a1_1 : Int) : Option (Int × Int) := some (mx (wrap64 (a0_0 - a1_1)) 0, mx (wrap64 (a0_1 - a1_0)) 0)
set_option maxHeartbeats 8000000 in
set_option maxRecDepth 100000 in
theorem wear_after.calls (a0_0 : Int) (a0_1 : Int) (a1_0 : Int) (a1_1 : Int) (r1 : Int) (r2 : Int) (w : World) (h : wear_after.f a0_0 a0_1 a1_0 a1_1 = some (r1, r2)) :
  Calls Try.prog 39 #[.agg #[.int .i64 a0_0, .int .i64 a0_1], .agg #[.int .i64 a1_0, .int .i64 a1_1]] w fun e w' => e = .returned (.agg #[.int .i64 r1, .int .i64 r2]) ∧ Below w.heap.size w w' := by
 have hu27 := Try.underlying27
 have HB := Aside0.mk (Below.refl w.heap.size w)
 have H : (some (mx (wrap64 (a0_0 - a1_1)) 0, mx (wrap64 (a0_1 - a1_0)) 0)) = some (r1, r2) := h
 clear h
 obtain ⟨ji3, hji3⟩ : ∃ j_ : Int, (mx (wrap64 (a0_0 - a1_1)) 0) = j_ := ⟨_, rfl⟩
 replace H : (some (ji3, mx (wrap64 (a0_1 - a1_0)) 0)) = some (r1, r2) := by first | (rw [hji3] at H; exact H) | (simp only [hji3] at H ⊢; exact H)
 (try (have hji3l : 0 ≤ ji3 := by (rw [← hji3]; unfold mx; (repeat' split) <;> omega)))
 (try (have hji3m : 0 ≤ ji3 := by omega))
 have hji3_ : (if (wrap64 (a0_0 - a1_1)) < 0 then 0 else (wrap64 (a0_0 - a1_1))) = ji3 := hji3
 obtain ⟨ji4, hji4⟩ : ∃ j_ : Int, (mx (wrap64 (a0_1 - a1_0)) 0) = j_ := ⟨_, rfl⟩
 replace H : (some (ji3, ji4)) = some (r1, r2) := by first | (rw [hji4] at H; exact H) | (simp only [hji4] at H ⊢; exact H)
 (try (have hji4l : 0 ≤ ji4 := by (rw [← hji4]; unfold mx; (repeat' split) <;> omega)))
 (try (have hji4m : 0 ≤ ji4 := by omega))
 have hji4_ : (if (wrap64 (a0_1 - a1_0)) < 0 then 0 else (wrap64 (a0_1 - a1_0))) = ji4 := hji4
 simp only [Option.some.injEq, Prod.mk.injEq] at H
 obtain ⟨rfl, rfl⟩ := H
 go_enter Try.func39, Try.ntmps39
 go_wp2_with (first | ((with_reducible refine gate_dst (N := 2) rfl ?_); refine zx 2 #[.int .i64 a0_0, .int .i64 a0_1] 27 ?_; intro gb487 hg w5 hbox hb; have n0_ := zY HB hb; have n1_ := Aside0.mk (hbox); have n2_ := zS hg HB; have n3_ := zS hg HB; clear HB; have HB := n0_; have BK487 := n1_; have GW487 := n2_; have GE487 := n3_; clear n0_ n1_ n2_ n3_; clear hb hbox hg) | ((with_reducible refine gate_dst (N := 3) rfl ?_); refine zx 3 #[.int .i64 a1_0, .int .i64 a1_1] 27 ?_; intro gb488 hg w6 hbox hb; have n0_ := zD BK487 hb; have n1_ := zY HB hb; have n2_ := Aside0.mk (hbox); have n3_ := zS hg HB; have n4_ := zS hg HB; have n5_ := zN hg BK487; have n6_ := zM hg BK487; clear BK487; clear HB; have BK487 := n0_; have HB := n1_; have BK488 := n2_; have GW488 := n3_; have GE488 := n4_; have NB487_488 := n5_; have NB488_487 := n6_; clear n0_ n1_ n2_ n3_ n4_ n5_ n6_; clear hb hbox hg) | ((with_reducible refine gate_dst (N := 4) rfl ?_); refine zx 4 #[.int .i64 0, .int .i64 0] 27 ?_; intro gb489 hg w7 hbox hb; have n0_ := zD BK487 hb; have n1_ := zD BK488 hb; have n2_ := zY HB hb; have n3_ := Aside0.mk (hbox); have n4_ := zS hg HB; have n5_ := zS hg HB; have n6_ := zN hg BK487; have n7_ := zM hg BK487; have n8_ := zN hg BK488; have n9_ := zM hg BK488; clear BK487; clear BK488; clear HB; have BK487 := n0_; have BK488 := n1_; have HB := n2_; have BK489 := n3_; have GW489 := n4_; have GE489 := n5_; have NB487_489 := n6_; have NB489_487 := n7_; have NB488_489 := n8_; have NB489_488 := n9_; clear n0_ n1_ n2_ n3_ n4_ n5_ n6_ n7_ n8_ n9_; clear hb hbox hg; have hnb8 := NB487_488.out; have hnc8 := NB488_487.out; have hnb9 := NB487_489.out; have hnc9 := NB489_487.out; obtain ⟨hcz10_0, hcz10_1, hfz10_0, hfz10_1⟩ := zk2 BK487; have hnb11 := NB488_489.out; have hnc11 := NB489_488.out; obtain ⟨hcz12_0, hcz12_1, hfz12_0, hfz12_1⟩ := zk2 BK488; obtain ⟨hcz13_0, hcz13_1, hfz13_0, hfz13_1⟩ := zk2 BK489))
 refine bodyPost_ret (results_cell_row rfl _ _ gb489 27 #[.int .i64 ji3, .int .i64 ji4] (0, 0) _ rfl (by refine zQ ?_; refine blk_put (cs := #[.int .i64 ji3, .int .i64 0]) ?_ 1 _ rfl; refine zQ ?_; refine blk_put (cs := #[.int .i64 0, .int .i64 0]) ?_ 0 _ rfl; (with_reducible repeat (first | refine blk_drewN ?_ _ | refine blk_drew ?_ | refine blk_alloc ?_ _)); exact BK489.out) Try.underlying27 rfl (by kernel_rfl)) rfl ?_
 exact ⟨by first | rfl | (simp [errW_none, errW_some] <;> rfl) | (simp only [← hji3, ← hji4]; first | rfl | (simp [errW_none, errW_some] <;> rfl)) | (simp [*, errW_none, errW_some] <;> rfl), zw HB⟩
end Go.Proofs.Ytcfpclehogdmbaa.Q
end
section
namespace Go.Proofs.Ytcfpclehogdmbaa.Q
open Go.RowKit Go.Proofs.YtcfpclehogdmbaaW.PrintWords Go.Proofs.YtcfpclehogdmbaaW.PrintLast Go.Proofs.YtcfpclehogdmbaaW.PrintMore
attribute [local go_sem] max2_int min2_int max_two min_two max_three min_three max_four min_four   -- for this text's walks alone
set_option linter.unusedVariables false
set_option linter.unusedSimpArgs false
mutual
def wear_Season.j0 : Nat → Int → Bool → List (S32) → List (S55) → Int → Int → Int → List (S67) → Int → Int → Option ((List (S32)) × (List (S55)) × Int × Int × Int × (List (S67)) × Int)
 | 0, _, _, _, _, _, _, _, _, _, _ => none
 | k + 1, x2, x17, x491000, x491001, x491002, x491003, x491004, x491005, x492000, x492001 => if x17 = true then (some (([] : List (S32)), ([] : List (S55)), 0, 0, 0, ([] : List (S67)), 1)) else (if (wrap64 (x491002 + x2)) > 1000 then (some (([] : List (S32)), ([] : List (S55)), 0, 0, 0, ([] : List (S67)), 3)) else ((wear_twin.f x491000 x491001 x491002 x491003 x491004 x491005).bind fun bt496 => ((wear_after.f bt496.2.2.2.1 bt496.2.2.2.2.1 x492000 x492001).bind fun bt508 => (wear_Season.l0 k (bt496.2.2.2.2.2.length : Int) 0 bt496.1 bt496.2.1 (wrap64 (bt496.2.2.1 + x2)) bt508.1 bt508.2 bt496.2.2.2.2.2 x492000 x492001))))
def wear_Season.l0 : Nat → Int → Int → List (S32) → List (S55) → Int → Int → Int → List (S67) → Int → Int → Option ((List (S32)) × (List (S55)) × Int × Int × Int × (List (S67)) × Int)
 | 0, _, _, _, _, _, _, _, _, _, _ => none
 | k + 1, x48, x49, x491000, x491001, x491002, x491003, x491004, x491005, x492000, x492001 => if x49 < x48 then (if 0 ≤ x49 then (if x49 < (x491005.length : Int) then ((wear_after.f ((rd_T67 x491005 x49).f1.f0) ((rd_T67 x491005 x49).f1.f1) x492000 x492001).bind fun bt511 => (wear_Season.l0 k x48 (wrap64 (x49 + 1)) x491000 x491001 x491002 x491003 x491004 (x491005.set (x49 : Int).toNat (⟨(⟨(rd_T67 x491005 x49).f0.f0, (rd_T67 x491005 x49).f0.f1⟩ : S32), (⟨bt511.1, bt511.2⟩ : S27)⟩ : S67)) x492000 x492001)) else (none)) else (none)) else (some (x491000, x491001, x491002, x491003, x491004, x491005, 0))
end
def wear_Season.f (k : Nat) (l0_0 : List (S32)) (l0_1 : List (S55)) (a0_2 : Int) (a0_3 : Int) (a0_4 : Int) (l0_5 : List (S67)) (a1_0 : Int) (a1_1 : Int) (a2 : Int) : Option ((List (S32)) × (List (S55)) × Int × Int × Int × (List (S67)) × Int) := (wear_Check.f k l0_0 l0_1 a0_2 a0_3 a0_4 l0_5).bind fun t493 => (if t493 = 0 then ((wear_spans.f a1_0 a1_1 2000).bind fun t494 => (if t494 = true then ((wear_in.f a2 0 1000).bind fun t495 => (wear_Season.j0 k a2 (!t495) l0_0 l0_1 a0_2 a0_3 a0_4 l0_5 a1_0 a1_1)) else (wear_Season.j0 k a2 true l0_0 l0_1 a0_2 a0_3 a0_4 l0_5 a1_0 a1_1))) else (some (([] : List (S32)), ([] : List (S55)), 0, 0, 0, ([] : List (S67)), t493)))
def wear_Season.T14 : Bool × List (List Nat × List Nat) := (true, [([], []), ([0], [0]), ([], []), ([], []), ([3], [3]), ([], []), ([4, 5], [4, 5]), ([6], [6]), ([7], [7]), ([], []), ([8, 9], [8, 9]), ([1, 2, 0, 1, 2, 3, 4, 5, 6, 7, 8, 9, 10], [1, 2]), ([11, 0, 1, 2, 3, 4, 5, 6, 7, 8, 9, 10], [11]), ([12, 10, 10, 0, 1, 2, 3, 4, 5, 6, 7, 8, 9, 10], [10, 12])])
def wear_Season.B14 : List Nat := [0, 1, 0, 0, 8, 0, 56, 120, 248, 0, 1016, 2047, 4095, 8191]
theorem wear_Season.tab14 : rtab .any (opsOf Try.f17 14) = wear_Season.T14 := by kernel_rfl
theorem wear_Season.bits14 : waitsOk wear_Season.T14.2 wear_Season.B14 = true := by kernel_rfl
set_option maxHeartbeats 8000000 in
set_option maxRecDepth 100000 in
theorem wear_Season.calls (k : Nat) (A0_0 : Option Addr) (c0_0 : Nat) (l0_0 : List (S32)) (A0_1 : Option Addr) (c0_1 : Nat) (l0_1 : List (S55)) (a0_2 : Int) (a0_3 : Int) (a0_4 : Int) (A0_5 : Option Addr) (c0_5 : Nat) (l0_5 : List (S67)) (a1_0 : Int) (a1_1 : Int) (a2 : Int) (r1 : List (S32)) (r2 : List (S55)) (r3 : Int) (r4 : Int) (r5 : Int) (r6 : List (S67)) (r7 : Int) (w : World) (hr0_0 : Kd.C k32 w A0_0 l0_0.length l0_0) (hc0_0 : l0_0.length ≤ c0_0) (hr0_1 : Kd.C k55 w A0_1 l0_1.length l0_1) (hc0_1 : l0_1.length ≤ c0_1) (hr0_5 : Kd.C k67 w A0_5 l0_5.length l0_5) (hc0_5 : l0_5.length ≤ c0_5) (h : wear_Season.f k l0_0 l0_1 a0_2 a0_3 a0_4 l0_5 a1_0 a1_1 a2 = some (r1, r2, r3, r4, r5, r6, r7)) :
  Calls Try.prog 17 #[.agg #[.slice A0_0 l0_0.length c0_0, .slice A0_1 l0_1.length c0_1, .int .i64 a0_2, .int .i64 a0_3, .int .i64 a0_4, .slice A0_5 l0_5.length c0_5], .agg #[.int .i64 a1_0, .int .i64 a1_1], .int .i64 a2] w fun e w' => ∃ v0_ v1_ v5_ : Value, e = .returned (.tuple #[.agg #[v0_, v1_, .int .i64 r3, .int .i64 r4, .int .i64 r5, v5_], .int .i64 r7]) ∧ Kd.R k32 32 w' w.heap.size (fun _ => True) v0_ r1 ∧ Kd.R k55 55 w' w.heap.size (fun _ => True) v1_ r2 ∧ Kd.R k67 67 w' w.heap.size (fun _ => True) v5_ r6 ∧ Below w.heap.size w w' := by
 have hu30 := Try.underlying30
 have hu27 := Try.underlying27
 have HR0_0 := Aside0.mk hr0_0
 have HC0_0 := Aside0.mk hc0_0
 clear hr0_0 hc0_0
 have HR0_1 := Aside0.mk hr0_1
 have HC0_1 := Aside0.mk hc0_1
 clear hr0_1 hc0_1
 have HR0_5 := Aside0.mk hr0_5
 have HC0_5 := Aside0.mk hc0_5
 clear hr0_5 hc0_5
 have HB := Aside0.mk (Below.refl w.heap.size w)
 have H : ((wear_Check.f k l0_0 l0_1 a0_2 a0_3 a0_4 l0_5).bind fun t493 => (if t493 = 0 then ((wear_spans.f a1_0 a1_1 2000).bind fun t494 => (if t494 = true then ((wear_in.f a2 0 1000).bind fun t495 => (wear_Season.j0 k a2 (!t495) l0_0 l0_1 a0_2 a0_3 a0_4 l0_5 a1_0 a1_1)) else (wear_Season.j0 k a2 true l0_0 l0_1 a0_2 a0_3 a0_4 l0_5 a1_0 a1_1))) else (some (([] : List (S32)), ([] : List (S55)), 0, 0, 0, ([] : List (S67)), t493)))) = some (r1, r2, r3, r4, r5, r6, r7) := h
 clear h
 replace H := Option.bind_eq_some_iff.mp H
 obtain ⟨t493, A40, H⟩ := H
 replace H : (if t493 = 0 then ((wear_spans.f a1_0 a1_1 2000).bind fun t494 => (if t494 = true then ((wear_in.f a2 0 1000).bind fun t495 => (wear_Season.j0 k a2 (!t495) l0_0 l0_1 a0_2 a0_3 a0_4 l0_5 a1_0 a1_1)) else (wear_Season.j0 k a2 true l0_0 l0_1 a0_2 a0_3 a0_4 l0_5 a1_0 a1_1))) else (some (([] : List (S32)), ([] : List (S55)), 0, 0, 0, ([] : List (S67)), t493))) = some (r1, r2, r3, r4, r5, r6, r7) := H
 have A4 := Aside0.mk A40
 clear A40
 by_cases c5 : t493 = 0
 ·rw [if_pos c5] at H
  have c5b0 : (t493 == 0) = true := beq_iff_eq.mpr c5
  have c5b1 : (t493 != 0) = false := bne_eq_false_iff_eq.mpr c5
  clear c5
  have HC6 := Aside0.mk H
  clear H
  go_enter Try.func17, Try.ntmps17
  go_upto_region 4 with (first | ((with_reducible refine gate_dst (N := 3) rfl ?_); refine zx 3 #[.slice A0_0 l0_0.length c0_0, .slice A0_1 l0_1.length c0_1, .int .i64 a0_2, .int .i64 a0_3, .int .i64 a0_4, .slice A0_5 l0_5.length c0_5] 30 ?_; intro gb490 hg w7 hbox hb; have n0_ := zY HB hb; have n1_ := Aside0.mk (hbox); have n2_ := zS hg HB; have n3_ := zS hg HB; clear HB; have HB := n0_; have BK490 := n1_; have GW490 := n2_; have GE490 := n3_; clear n0_ n1_ n2_ n3_; clear hb hbox hg) | ((with_reducible refine gate_dst (N := 4) rfl ?_); refine zx 4 #[.int .i64 a1_0, .int .i64 a1_1] 27 ?_; intro gb491 hg w8 hbox hb; have n0_ := zD BK490 hb; have n1_ := zY HB hb; have n2_ := Aside0.mk (hbox); have n3_ := zS hg HB; have n4_ := zS hg HB; have n5_ := zN hg BK490; have n6_ := zM hg BK490; clear BK490; clear HB; have BK490 := n0_; have HB := n1_; have BK491 := n2_; have GW491 := n3_; have GE491 := n4_; have NB490_491 := n5_; have NB491_490 := n6_; clear n0_ n1_ n2_ n3_ n4_ n5_ n6_; clear hb hbox hg) | ((with_reducible refine gate_dst (N := 6) rfl ?_); refine zx 6 #[.slice none 0 0, .slice none 0 0, .int .i64 0, .int .i64 0, .int .i64 0, .slice none 0 0] 30 ?_; intro gb492 hg w9 hbox hb; have n0_ := zD BK490 hb; have n1_ := zD BK491 hb; have n2_ := zY HB hb; have n3_ := Aside0.mk (hbox); have n4_ := zS hg HB; have n5_ := zS hg HB; have n6_ := zN hg BK490; have n7_ := zM hg BK490; have n8_ := zN hg BK491; have n9_ := zM hg BK491; clear BK490; clear BK491; clear HB; have BK490 := n0_; have BK491 := n1_; have HB := n2_; have BK492 := n3_; have GW492 := n4_; have GE492 := n5_; have NB490_492 := n6_; have NB492_490 := n7_; have NB491_492 := n8_; have NB492_491 := n9_; clear n0_ n1_ n2_ n3_ n4_ n5_ n6_ n7_ n8_ n9_; clear hb hbox hg; have hnb10 := NB490_491.out; have hnc10 := NB491_490.out; have hnb11 := NB490_492.out; have hnc11 := NB492_490.out; obtain ⟨hcz12_0, hcz12_1, hcz12_2, hcz12_3, hcz12_4, hcz12_5, hfz12_0, hfz12_1, hfz12_2, hfz12_3, hfz12_4, hfz12_5⟩ := zk6 BK490) | ((with_reducible refine gate_callee (f := 15) rfl ?_); refine goesL_ (some 11) rfl rfl Try.func15 (by kernel_rfl) rfl #[.agg #[.slice A0_0 l0_0.length c0_0, .slice A0_1 l0_1.length c0_1, .int .i64 a0_2, .int .i64 a0_3, .int .i64 a0_4, .slice A0_5 l0_5.length c0_5]] rfl za ?_; (with_reducible refine (wear_Check.calls k _ _ l0_0 _ _ l0_1 a0_2 a0_3 a0_4 _ _ l0_5 t493 _ ?side1 ?side2 ?side3 ?side4 ?side5 ?side6 A4.out).mono ?_); (case side1 => exact zl HR0_0 HB); (case side2 => exact HC0_0.out); (case side3 => exact zl HR0_1 HB); (case side4 => exact HC0_1.out); (case side5 => exact zl HR0_5 HB); (case side6 => exact HC0_5.out); rintro e w13 ⟨rfl, hb⟩; refine ⟨_, rfl, ?_⟩; have n0_ := zD BK490 hb; have n1_ := zD BK491 hb; have n2_ := zD BK492 hb; have n3_ := zY HB hb; clear BK490; clear BK491; clear BK492; clear HB; have BK490 := n0_; have BK491 := n1_; have BK492 := n2_; have HB := n3_; clear n0_ n1_ n2_ n3_; (try clear hb); (try clear hb2); (try clear hk); (try clear hi)))
  (try simp only [Act.put, List.setIfInBounds_toArray, List.set_cons_zero, List.set_cons_succ])
  go_cut [17] (fun v17 wc => ∃ (kq : Nat) (x17_5 : Bool), v17 = .bool x17_5 ∧ Aside0 (wear_Season.j0 kq a2 x17_5 l0_0 l0_1 a0_2 a0_3 a0_4 l0_5 a1_0 a1_1 = some (r1, r2, r3, r4, r5, r6, r7)) ∧ Aside0 (kq ≤ k) ∧ Aside0 (wc.heap[gb490]? = some (.cells #[(.slice A0_0 l0_0.length c0_0), (.slice A0_1 l0_1.length c0_1), .int .i64 a0_2, .int .i64 a0_3, .int .i64 a0_4, (.slice A0_5 l0_5.length c0_5)] 30 (0, 0))) ∧ Aside0 (wc.heap[gb491]? = some (.cells #[.int .i64 a1_0, .int .i64 a1_1] 27 (0, 0))) ∧ Aside0 (wc.heap[gb492]? = some (.cells #[(.slice none 0 0), (.slice none 0 0), .int .i64 0, .int .i64 0, .int .i64 0, (.slice none 0 0)] 30 (0, 0))) ∧ Aside0 (Below w.heap.size w wc))
  case first =>
   have H := HC6.out
   clear HC6
   replace H := Option.bind_eq_some_iff.mp H
   obtain ⟨t494, A140, H⟩ := H
   replace H : (if t494 = true then ((wear_in.f a2 0 1000).bind fun t495 => (wear_Season.j0 k a2 (!t495) l0_0 l0_1 a0_2 a0_3 a0_4 l0_5 a1_0 a1_1)) else (wear_Season.j0 k a2 true l0_0 l0_1 a0_2 a0_3 a0_4 l0_5 a1_0 a1_1)) = some (r1, r2, r3, r4, r5, r6, r7) := H
   have A14 := Aside0.mk A140
   clear A140
   by_cases c15 : t494 = true
   ·subst c15
    have H1 : ((wear_in.f a2 0 1000).bind fun t495 => (wear_Season.j0 k a2 (!t495) l0_0 l0_1 a0_2 a0_3 a0_4 l0_5 a1_0 a1_1)) = some (r1, r2, r3, r4, r5, r6, r7) := by rw [if_pos rfl] at H; exact H
    clear H
    have H := H1
    clear H1
    replace H := Option.bind_eq_some_iff.mp H
    obtain ⟨t495, A160, H⟩ := H
    replace H : (wear_Season.j0 k a2 (!t495) l0_0 l0_1 a0_2 a0_3 a0_4 l0_5 a1_0 a1_1) = some (r1, r2, r3, r4, r5, r6, r7) := H
    have A16 := Aside0.mk A160
    clear A160
    have H' := Aside0.mk H
    clear H
    have hnb17 := NB491_490.out
    have hnc17 := NB490_491.out
    have hnb18 := NB491_492.out
    have hnc18 := NB492_491.out
    obtain ⟨hcz19_0, hcz19_1, hfz19_0, hfz19_1⟩ := zk2 BK491
    go_wp2_with (first | ((with_reducible refine gate_callee (f := 37) rfl ?_); refine goesL_ (some 19) rfl rfl Try.func37 (by kernel_rfl) rfl #[.agg #[.int .i64 a1_0, .int .i64 a1_1], .int .i64 2000] rfl za ?_; (with_reducible refine (wear_spans.calls a1_0 a1_1 2000 true _ A14.out).mono ?_); rintro e w20 ⟨rfl, hb⟩; refine ⟨_, rfl, ?_⟩; have n0_ := zD BK490 hb; have n1_ := zD BK491 hb; have n2_ := zD BK492 hb; have n3_ := zY HB hb; clear BK490; clear BK491; clear BK492; clear HB; have BK490 := n0_; have BK491 := n1_; have BK492 := n2_; have HB := n3_; clear n0_ n1_ n2_ n3_; (try clear hb); (try clear hb2); (try clear hk); (try clear hi)) | (go_at_call 22; (with_reducible refine (wear_in.calls a2 0 1000 t495 _ A16.out).mono ?_); rintro e w' ⟨rfl, ⟨nd, rfl⟩⟩))
    go_meet
    case rel => exact ⟨_, (!t495), zq, H', ⟨by first | omega | exact Nat.le_refl _⟩, ⟨zb BK490⟩, ⟨zb BK491⟩, ⟨zb BK492⟩, ⟨zw HB⟩⟩
   replace c15 := Bool.eq_false_iff.mpr c15
   subst c15
   have H1 : (wear_Season.j0 k a2 true l0_0 l0_1 a0_2 a0_3 a0_4 l0_5 a1_0 a1_1) = some (r1, r2, r3, r4, r5, r6, r7) := by rw [if_neg (show ¬ (false = true) by decide)] at H; exact H
   clear H
   have H := H1
   clear H1
   have H' := Aside0.mk H
   clear H
   have hnb21 := NB491_490.out
   have hnc21 := NB490_491.out
   have hnb22 := NB491_492.out
   have hnc22 := NB492_491.out
   obtain ⟨hcz23_0, hcz23_1, hfz23_0, hfz23_1⟩ := zk2 BK491
   go_wp2_with (first | ((with_reducible refine gate_callee (f := 37) rfl ?_); refine goesL_ (some 19) rfl rfl Try.func37 (by kernel_rfl) rfl #[.agg #[.int .i64 a1_0, .int .i64 a1_1], .int .i64 2000] rfl za ?_; (with_reducible refine (wear_spans.calls a1_0 a1_1 2000 false _ A14.out).mono ?_); rintro e w24 ⟨rfl, hb⟩; refine ⟨_, rfl, ?_⟩; have n0_ := zD BK490 hb; have n1_ := zD BK491 hb; have n2_ := zD BK492 hb; have n3_ := zY HB hb; clear BK490; clear BK491; clear BK492; clear HB; have BK490 := n0_; have BK491 := n1_; have BK492 := n2_; have HB := n3_; clear n0_ n1_ n2_ n3_; (try clear hb); (try clear hb2); (try clear hk); (try clear hi)))
   go_meet
   case rel => exact ⟨_, (true), zq, H', ⟨by first | omega | exact Nat.le_refl _⟩, ⟨zb BK490⟩, ⟨zb BK491⟩, ⟨zb BK492⟩, ⟨zw HB⟩⟩
  case rest =>
   clear HC6; try clear c1; try clear c2; try clear p2; try clear c3; try clear c5; try clear c5b0; try clear c5b1; try clear c10; try clear c11; try clear c15; try clear c17; try clear c18; try clear c21; try clear c22; try clear hcz12_0 hcz12_1 hcz12_2 hcz12_3 hcz12_4 hcz12_5; try clear hcz19_0 hcz19_1; try clear hcz23_0 hcz23_1; try clear hfz12_0 hfz12_1 hfz12_2 hfz12_3 hfz12_4 hfz12_5; try clear hfz19_0 hfz19_1; try clear hfz23_0 hfz23_1
   obtain ⟨kq, x17_5, rfl, HA, HJ5, BK490, BK491, BK492, HB⟩ := hcut
   cases kq with
   | zero => exact absurd HA.out (by simp [wear_Season.j0])
   | succ kj5 =>
    have H := HA.out
    clear HA
    simp only [wear_Season.j0] at H
    by_cases c25 : x17_5 = true
    ·subst c25
     have H1 : (some (([] : List (S32)), ([] : List (S55)), 0, 0, 0, ([] : List (S67)), 1)) = some (r1, r2, r3, r4, r5, r6, r7) := by rw [if_pos rfl] at H; exact H
     clear H
     have H := H1
     clear H1
     simp only [Option.some.injEq, Prod.mk.injEq] at H
     obtain ⟨rfl, rfl, rfl, rfl, rfl, rfl, rfl⟩ := H
     have hnb26 := NB492_490.out
     have hnc26 := NB490_492.out
     have hnb27 := NB492_491.out
     have hnc27 := NB491_492.out
     obtain ⟨hcz28_0, hcz28_1, hcz28_2, hcz28_3, hcz28_4, hcz28_5, hfz28_0, hfz28_1, hfz28_2, hfz28_3, hfz28_4, hfz28_5⟩ := zk6 BK492
     go_wp2
     refine bodyPost_ret (results_ct rfl _ _ gb492 30 #[.slice none 0 0, .slice none 0 0, .int .i64 0, .int .i64 0, .int .i64 0, .slice none 0 0] (0, 0) _ rfl (by refine zQ ?_; refine blk_put (cs := #[.slice none 0 0, .slice none 0 0, .int .i64 0, .int .i64 0, .int .i64 0, .slice none 0 0]) ?_ 5 _ rfl; refine zQ ?_; refine blk_put (cs := #[.slice none 0 0, .slice none 0 0, .int .i64 0, .int .i64 0, .int .i64 0, .slice none 0 0]) ?_ 4 _ rfl; refine zQ ?_; refine blk_put (cs := #[.slice none 0 0, .slice none 0 0, .int .i64 0, .int .i64 0, .int .i64 0, .slice none 0 0]) ?_ 3 _ rfl; refine zQ ?_; refine blk_put (cs := #[.slice none 0 0, .slice none 0 0, .int .i64 0, .int .i64 0, .int .i64 0, .slice none 0 0]) ?_ 2 _ rfl; refine zQ ?_; refine blk_put (cs := #[.slice none 0 0, .slice none 0 0, .int .i64 0, .int .i64 0, .int .i64 0, .slice none 0 0]) ?_ 1 _ rfl; refine zQ ?_; refine blk_put (cs := #[.slice none 0 0, .slice none 0 0, .int .i64 0, .int .i64 0, .int .i64 0, .slice none 0 0]) ?_ 0 _ rfl; (with_reducible repeat (first | refine blk_drewN ?_ _ | refine blk_drew ?_ | refine blk_alloc ?_ _)); exact BK492.out) Try.underlying30 rfl (by kernel_rfl)) rfl ?_
     exact ⟨_, _, _, ze, by first | exact Kd.R_nil _ _ _ _ _ | exact Kd.N_nil _ _ _ _ _ | exact Kd.V_nil _ _ _ _ _ | exact Kd.Q_nil _ _ _ _ _ | exact Kd.S_nil _ _ _ _ _, by first | exact Kd.R_nil _ _ _ _ _ | exact Kd.N_nil _ _ _ _ _ | exact Kd.V_nil _ _ _ _ _ | exact Kd.Q_nil _ _ _ _ _ | exact Kd.S_nil _ _ _ _ _, by first | exact Kd.R_nil _ _ _ _ _ | exact Kd.N_nil _ _ _ _ _ | exact Kd.V_nil _ _ _ _ _ | exact Kd.Q_nil _ _ _ _ _ | exact Kd.S_nil _ _ _ _ _, zw HB⟩
    replace c25 := Bool.eq_false_iff.mpr c25
    subst c25
    have H1 : (if (wrap64 (a0_2 + a2)) > 1000 then (some (([] : List (S32)), ([] : List (S55)), 0, 0, 0, ([] : List (S67)), 3)) else ((wear_twin.f l0_0 l0_1 a0_2 a0_3 a0_4 l0_5).bind fun bt496 => ((wear_after.f bt496.2.2.2.1 bt496.2.2.2.2.1 a1_0 a1_1).bind fun bt508 => (wear_Season.l0 kj5 (bt496.2.2.2.2.2.length : Int) 0 bt496.1 bt496.2.1 (wrap64 (bt496.2.2.1 + a2)) bt508.1 bt508.2 bt496.2.2.2.2.2 a1_0 a1_1)))) = some (r1, r2, r3, r4, r5, r6, r7) := by rw [if_neg (show ¬ (false = true) by decide)] at H; exact H
    clear H
    have H := H1
    clear H1
    by_cases c29 : (wrap64 (a0_2 + a2)) > 1000
    ·rw [if_pos c29] at H
     have c29b0 : decide (1000 < (wrap64 (a0_2 + a2))) = true := decide_eq_true c29
     clear c29
     simp only [Option.some.injEq, Prod.mk.injEq] at H
     obtain ⟨rfl, rfl, rfl, rfl, rfl, rfl, rfl⟩ := H
     have hnb30 := NB490_491.out
     have hnc30 := NB491_490.out
     have hnb31 := NB490_492.out
     have hnc31 := NB492_490.out
     obtain ⟨hcz32_0, hcz32_1, hcz32_2, hcz32_3, hcz32_4, hcz32_5, hfz32_0, hfz32_1, hfz32_2, hfz32_3, hfz32_4, hfz32_5⟩ := zk6 BK490
     have hnb33 := NB492_491.out
     have hnc33 := NB491_492.out
     obtain ⟨hcz34_0, hcz34_1, hcz34_2, hcz34_3, hcz34_4, hcz34_5, hfz34_0, hfz34_1, hfz34_2, hfz34_3, hfz34_4, hfz34_5⟩ := zk6 BK492
     go_wp2
     refine bodyPost_ret (results_ct rfl _ _ gb492 30 #[.slice none 0 0, .slice none 0 0, .int .i64 0, .int .i64 0, .int .i64 0, .slice none 0 0] (0, 0) _ rfl (by refine zQ ?_; refine blk_put (cs := #[.slice none 0 0, .slice none 0 0, .int .i64 0, .int .i64 0, .int .i64 0, .slice none 0 0]) ?_ 5 _ rfl; refine zQ ?_; refine blk_put (cs := #[.slice none 0 0, .slice none 0 0, .int .i64 0, .int .i64 0, .int .i64 0, .slice none 0 0]) ?_ 4 _ rfl; refine zQ ?_; refine blk_put (cs := #[.slice none 0 0, .slice none 0 0, .int .i64 0, .int .i64 0, .int .i64 0, .slice none 0 0]) ?_ 3 _ rfl; refine zQ ?_; refine blk_put (cs := #[.slice none 0 0, .slice none 0 0, .int .i64 0, .int .i64 0, .int .i64 0, .slice none 0 0]) ?_ 2 _ rfl; refine zQ ?_; refine blk_put (cs := #[.slice none 0 0, .slice none 0 0, .int .i64 0, .int .i64 0, .int .i64 0, .slice none 0 0]) ?_ 1 _ rfl; refine zQ ?_; refine blk_put (cs := #[.slice none 0 0, .slice none 0 0, .int .i64 0, .int .i64 0, .int .i64 0, .slice none 0 0]) ?_ 0 _ rfl; (with_reducible repeat (first | refine blk_drewN ?_ _ | refine blk_drew ?_ | refine blk_alloc ?_ _)); exact BK492.out) Try.underlying30 rfl (by kernel_rfl)) rfl ?_
     exact ⟨_, _, _, ze, by first | exact Kd.R_nil _ _ _ _ _ | exact Kd.N_nil _ _ _ _ _ | exact Kd.V_nil _ _ _ _ _ | exact Kd.Q_nil _ _ _ _ _ | exact Kd.S_nil _ _ _ _ _, by first | exact Kd.R_nil _ _ _ _ _ | exact Kd.N_nil _ _ _ _ _ | exact Kd.V_nil _ _ _ _ _ | exact Kd.Q_nil _ _ _ _ _ | exact Kd.S_nil _ _ _ _ _, by first | exact Kd.R_nil _ _ _ _ _ | exact Kd.N_nil _ _ _ _ _ | exact Kd.V_nil _ _ _ _ _ | exact Kd.Q_nil _ _ _ _ _ | exact Kd.S_nil _ _ _ _ _, zw HB⟩
    rw [if_neg c29] at H
    have c29b0 : decide (1000 < (wrap64 (a0_2 + a2))) = false := decide_eq_false c29
    clear c29
    replace H := Option.bind_eq_some_iff.mp H
    obtain ⟨⟨t496, t499, t502, t503, t504, t505⟩, A350, H⟩ := H
    replace H : ((wear_after.f t503 t504 a1_0 a1_1).bind fun bt508 => (wear_Season.l0 kj5 (t505.length : Int) 0 t496 t499 (wrap64 (t502 + a2)) bt508.1 bt508.2 t505 a1_0 a1_1)) = some (r1, r2, r3, r4, r5, r6, r7) := H
    have A35 := Aside0.mk A350
    clear A350
    replace H := Option.bind_eq_some_iff.mp H
    obtain ⟨⟨t508, t509⟩, A360, H⟩ := H
    replace H : (wear_Season.l0 kj5 (t505.length : Int) 0 t496 t499 (wrap64 (t502 + a2)) t508 t509 t505 a1_0 a1_1) = some (r1, r2, r3, r4, r5, r6, r7) := H
    have A36 := Aside0.mk A360
    clear A360
    have H' := Aside0.mk H
    clear H
    have hnb37 := NB490_491.out
    have hnc37 := NB491_490.out
    have hnb38 := NB490_492.out
    have hnc38 := NB492_490.out
    obtain ⟨hcz39_0, hcz39_1, hcz39_2, hcz39_3, hcz39_4, hcz39_5, hfz39_0, hfz39_1, hfz39_2, hfz39_3, hfz39_4, hfz39_5⟩ := zk6 BK490
    go_wp2_with (first | ((with_reducible refine gate_callee (f := 23) rfl ?_); refine goesL_ (some 35) rfl rfl Try.func23 (by kernel_rfl) rfl #[.agg #[.slice A0_0 l0_0.length c0_0, .slice A0_1 l0_1.length c0_1, .int .i64 a0_2, .int .i64 a0_3, .int .i64 a0_4, .slice A0_5 l0_5.length c0_5]] rfl za ?_; (with_reducible refine (wear_twin.calls _ _ l0_0 _ _ l0_1 a0_2 a0_3 a0_4 _ _ l0_5 t496 t499 t502 t503 t504 t505 _ ?side1 ?side2 ?side3 ?side4 ?side5 ?side6 A35.out).mono ?_); (case side1 => exact zl HR0_0 HB); (case side2 => exact HC0_0.out); (case side3 => exact zl HR0_1 HB); (case side4 => exact HC0_1.out); (case side5 => exact zl HR0_5 HB); (case side6 => exact HC0_5.out); rintro e w40 ⟨v497, v500, v506, rfl, ho0, ho1, ho2, hb⟩; refine ⟨_, rfl, ?_⟩; have n0_ := Aside0.mk (Kd.R_lower ho0 (below_size (zw HB))); have n1_ := Aside0.mk (Kd.R_lower ho1 (below_size (zw HB))); have n2_ := Aside0.mk (Kd.R_lower ho2 (below_size (zw HB))); have n3_ := zD BK490 hb; have n4_ := zD BK491 hb; have n5_ := zD BK492 hb; have n6_ := zY HB hb; clear BK490; clear BK491; clear BK492; clear HB; have HO498 := n0_; have HO501 := n1_; have HO507 := n2_; have BK490 := n3_; have BK491 := n4_; have BK492 := n5_; have HB := n6_; clear n0_ n1_ n2_ n3_ n4_ n5_ n6_; (try clear hb); (try clear hb2); (try clear hk); (try clear hi); (try clear ho0); (try clear ho1); (try clear ho2); obtain ⟨Ao41, co41, eo41⟩ := Kd.R_slice HO498.out; subst eo41; obtain ⟨hcz42_0, hcz42_1, hcz42_2, hcz42_3, hcz42_4, hcz42_5, hfz42_0, hfz42_1, hfz42_2, hfz42_3, hfz42_4, hfz42_5⟩ := zk6 BK490; obtain ⟨Ao43, co43, eo43⟩ := Kd.R_slice HO501.out; subst eo43; obtain ⟨Ao44, co44, eo44⟩ := Kd.R_slice HO507.out; subst eo44; have hnb45 := NB491_492.out; have hnc45 := NB492_491.out; obtain ⟨hcz46_0, hcz46_1, hfz46_0, hfz46_1⟩ := zk2 BK491) | ((with_reducible refine gate_callee (f := 39) rfl ?_); refine goesL_ (some 44) rfl rfl Try.func39 (by kernel_rfl) rfl #[.agg #[.int .i64 t503, .int .i64 t504], .agg #[.int .i64 a1_0, .int .i64 a1_1]] rfl za ?_; (with_reducible refine (wear_after.calls t503 t504 a1_0 a1_1 t508 t509 _ A36.out).mono ?_); rintro e w47 ⟨rfl, hb⟩; refine ⟨_, rfl, ?_⟩; have n0_ := Aside0.mk (Kd.R_below (zF HO498 BK490) hb); have n1_ := Aside0.mk (Kd.R_below (zF HO501 BK490) hb); have n2_ := Aside0.mk (Kd.R_below (zF HO507 BK490) hb); have n3_ := Aside0.mk (blk_below (g := gb490) (o := .cells #[.slice Ao41 t496.length co41, .slice Ao43 t499.length co43, .int .i64 (wrap64 (t502 + a2)), .int .i64 t503, .int .i64 t504, .slice Ao44 t505.length co44] 30 (0, 0)) (by refine zQ ?_; refine blk_put (cs := #[.slice Ao41 t496.length co41, .slice Ao43 t499.length co43, .int .i64 t502, .int .i64 t503, .int .i64 t504, .slice Ao44 t505.length co44]) ?_ 2 _ rfl; refine zQ ?_; refine blk_put (cs := #[.slice Ao41 t496.length co41, .slice Ao43 t499.length co43, .int .i64 t502, .int .i64 t503, .int .i64 t504, .slice A0_5 l0_5.length c0_5]) ?_ 5 _ rfl; refine zQ ?_; refine blk_put (cs := #[.slice Ao41 t496.length co41, .slice Ao43 t499.length co43, .int .i64 t502, .int .i64 t503, .int .i64 a0_4, .slice A0_5 l0_5.length c0_5]) ?_ 4 _ rfl; refine zQ ?_; refine blk_put (cs := #[.slice Ao41 t496.length co41, .slice Ao43 t499.length co43, .int .i64 t502, .int .i64 a0_3, .int .i64 a0_4, .slice A0_5 l0_5.length c0_5]) ?_ 3 _ rfl; refine zQ ?_; refine blk_put (cs := #[.slice Ao41 t496.length co41, .slice Ao43 t499.length co43, .int .i64 a0_2, .int .i64 a0_3, .int .i64 a0_4, .slice A0_5 l0_5.length c0_5]) ?_ 2 _ rfl; refine zQ ?_; refine blk_put (cs := #[.slice Ao41 t496.length co41, .slice A0_1 l0_1.length c0_1, .int .i64 a0_2, .int .i64 a0_3, .int .i64 a0_4, .slice A0_5 l0_5.length c0_5]) ?_ 1 _ rfl; refine zQ ?_; refine blk_put (cs := #[.slice A0_0 l0_0.length c0_0, .slice A0_1 l0_1.length c0_1, .int .i64 a0_2, .int .i64 a0_3, .int .i64 a0_4, .slice A0_5 l0_5.length c0_5]) ?_ 0 _ rfl; (with_reducible repeat (first | refine blk_drewN ?_ _ | refine blk_drew ?_ | refine blk_alloc ?_ _)); exact BK490.out) hb); have n4_ := Aside0.mk (blk_below (g := gb491) (o := .cells #[.int .i64 a1_0, .int .i64 a1_1] 27 (0, 0)) (zv BK491) hb); have n5_ := Aside0.mk (blk_below (g := gb492) (o := .cells #[.slice none 0 0, .slice none 0 0, .int .i64 0, .int .i64 0, .int .i64 0, .slice none 0 0] 30 (0, 0)) (zv BK492) hb); have n6_ := zY HB hb; clear HO498; clear HO501; clear HO507; clear BK490; clear BK491; clear BK492; clear HB; have HO498 := n0_; have HO501 := n1_; have HO507 := n2_; have BK490 := n3_; have BK491 := n4_; have BK492 := n5_; have HB := n6_; clear n0_ n1_ n2_ n3_ n4_ n5_ n6_; (try clear hb); (try clear hb2); (try clear hk); (try clear hi); obtain ⟨hcz48_0, hcz48_1, hcz48_2, hcz48_3, hcz48_4, hcz48_5, hfz48_0, hfz48_1, hfz48_2, hfz48_3, hfz48_4, hfz48_5⟩ := zk6 BK490))
    go_loopg [49] kj5 (fun kq v49 w' => ∃ (x49_2 : Int) (x491005_2 : List (S67)) (u491005 : Value), v49 = .int .i64 x49_2 ∧ Aside0 (wear_Season.l0 kq (t505.length : Int) x49_2 t496 t499 (wrap64 (t502 + a2)) t508 t509 x491005_2 a1_0 a1_1 = some (r1, r2, r3, r4, r5, r6, r7)) ∧ Aside0 (kq ≤ kj5) ∧ Aside0 (Kd.R k32 32 w' w.heap.size (fun _ => True) (.slice Ao41 t496.length co41) t496) ∧ Aside0 (Kd.R k55 55 w' w.heap.size (fun _ => True) (.slice Ao43 t499.length co43) t499) ∧ Aside0 (Kd.R k67 67 w' w.heap.size (fun _ => True) u491005 x491005_2) ∧ Aside0 (w'.heap[gb490]? = some (.cells #[(.slice Ao41 t496.length co41), (.slice Ao43 t499.length co43), .int .i64 (wrap64 (t502 + a2)), .int .i64 t508, .int .i64 t509, u491005] 30 (0, 0))) ∧ Aside0 (w'.heap[gb491]? = some (.cells #[.int .i64 a1_0, .int .i64 a1_1] 27 (0, 0))) ∧ Aside0 (w'.heap[gb492]? = some (.cells #[(.slice none 0 0), (.slice none 0 0), .int .i64 0, .int .i64 0, .int .i64 0, (.slice none 0 0)] 30 (0, 0))) ∧ Aside0 (Below w.heap.size w w'))
    case atStart => exact ⟨(0), (t505), (.slice Ao44 t505.length co44), zq, H', ⟨Nat.le_refl _⟩, ⟨by (with_reducible repeat (first | apply Kd.R_alloc | apply Kd.R_drewN | apply Kd.R_drew)); exact Kd.R_mono (Kd.R_far (p := ⟨gb490, 4, none⟩) (Kd.R_far (p := ⟨gb490, 3, none⟩) (Kd.R_types HO498.out BK490.out (by decide)) (fun _ hk => hk.2) (.int .i64 t508)) (fun _ hk => hk.2) (.int .i64 t509)) (fun _ hk => trivial)⟩, ⟨by (with_reducible repeat (first | apply Kd.R_alloc | apply Kd.R_drewN | apply Kd.R_drew)); exact Kd.R_mono (Kd.R_far (p := ⟨gb490, 4, none⟩) (Kd.R_far (p := ⟨gb490, 3, none⟩) (Kd.R_types HO501.out BK490.out (by decide)) (fun _ hk => hk.2) (.int .i64 t508)) (fun _ hk => hk.2) (.int .i64 t509)) (fun _ hk => trivial)⟩, ⟨by (with_reducible repeat (first | apply Kd.R_alloc | apply Kd.R_drewN | apply Kd.R_drew)); exact Kd.R_mono (Kd.R_far (p := ⟨gb490, 4, none⟩) (Kd.R_far (p := ⟨gb490, 3, none⟩) (Kd.R_types HO507.out BK490.out (by decide)) (fun _ hk => hk.2) (.int .i64 t508)) (fun _ hk => hk.2) (.int .i64 t509)) (fun _ hk => trivial)⟩, ⟨by refine zQ ?_; refine blk_put (cs := #[.slice Ao41 t496.length co41, .slice Ao43 t499.length co43, .int .i64 (wrap64 (t502 + a2)), .int .i64 t508, .int .i64 t504, .slice Ao44 t505.length co44]) ?_ 4 _ rfl; refine zQ ?_; refine blk_put (cs := #[.slice Ao41 t496.length co41, .slice Ao43 t499.length co43, .int .i64 (wrap64 (t502 + a2)), .int .i64 t503, .int .i64 t504, .slice Ao44 t505.length co44]) ?_ 3 _ rfl; (with_reducible repeat (first | refine blk_drewN ?_ _ | refine blk_drew ?_ | refine blk_alloc ?_ _)); exact BK490.out⟩, ⟨zv BK491⟩, ⟨zv BK492⟩, ⟨zw HB⟩⟩
    case round =>
     clear H'; try clear c1; try clear c2; try clear p2; try clear c3; try clear c4; try clear c5; try clear c5b0; try clear c5b1; try clear p6; try clear c10; try clear c11; try clear c15; try clear c17; try clear c18; try clear c21; try clear c22; try clear c23; try clear c25; try clear c26; try clear c27; try clear c29; try clear c29b0; try clear c30; try clear c31; try clear c33; try clear c37; try clear c38; try clear c39; try clear c45; try clear hcz12_0 hcz12_1 hcz12_2 hcz12_3 hcz12_4 hcz12_5; try clear hcz19_0 hcz19_1; try clear hcz23_0 hcz23_1; try clear hcz28_0 hcz28_1 hcz28_2 hcz28_3 hcz28_4 hcz28_5; try clear hcz32_0 hcz32_1 hcz32_2 hcz32_3 hcz32_4 hcz32_5; try clear hcz34_0 hcz34_1 hcz34_2 hcz34_3 hcz34_4 hcz34_5; try clear hcz39_0 hcz39_1 hcz39_2 hcz39_3 hcz39_4 hcz39_5; try clear hcz42_0 hcz42_1 hcz42_2 hcz42_3 hcz42_4 hcz42_5; try clear hcz46_0 hcz46_1; try clear hcz48_0 hcz48_1 hcz48_2 hcz48_3 hcz48_4 hcz48_5; try clear hfz12_0 hfz12_1 hfz12_2 hfz12_3 hfz12_4 hfz12_5; try clear hfz19_0 hfz19_1; try clear hfz23_0 hfz23_1; try clear hfz28_0 hfz28_1 hfz28_2 hfz28_3 hfz28_4 hfz28_5; try clear hfz32_0 hfz32_1 hfz32_2 hfz32_3 hfz32_4 hfz32_5; try clear hfz34_0 hfz34_1 hfz34_2 hfz34_3 hfz34_4 hfz34_5; try clear hfz39_0 hfz39_1 hfz39_2 hfz39_3 hfz39_4 hfz39_5; try clear hfz42_0 hfz42_1 hfz42_2 hfz42_3 hfz42_4 hfz42_5; try clear hfz46_0 hfz46_1; try clear hfz48_0 hfz48_1 hfz48_2 hfz48_3 hfz48_4 hfz48_5; try clear p2
     obtain ⟨x49_2, x491005_2, u491005, rfl, HA, HK2, HO_491000, HO_491001, HO_491005, BK490, BK491, BK492, HB⟩ := hrel
     cases gk with
     | zero => exact absurd HA.out (by simp [wear_Season.l0])
     | succ k2 =>
      have H := HA.out
      clear HA
      simp only [wear_Season.l0] at H
      by_cases c49 : x49_2 < (t505.length : Int)
      ·rw [if_pos c49] at H
       have c49b0 : decide (x49_2 < (t505.length : Int)) = true := decide_eq_true c49
       clear c49
       by_cases c50 : 0 ≤ x49_2
       ·rw [if_pos c50] at H
        have c50b0 : decide (0 ≤ x49_2) = true := decide_eq_true c50
        clear c50
        by_cases c51 : x49_2 < (x491005_2.length : Int)
        ·rw [if_pos c51] at H
         have c51b0 : decide (x49_2 < (x491005_2.length : Int)) = true := decide_eq_true c51
         clear c51
         replace H := Option.bind_eq_some_iff.mp H
         obtain ⟨⟨t511, t512⟩, A520, H⟩ := H
         replace H : (wear_Season.l0 k2 (t505.length : Int) (wrap64 (x49_2 + 1)) t496 t499 (wrap64 (t502 + a2)) t508 t509 (x491005_2.set (x49_2 : Int).toNat (⟨(⟨(rd_T67 x491005_2 x49_2).f0.f0, (rd_T67 x491005_2 x49_2).f0.f1⟩ : S32), (⟨t511, t512⟩ : S27)⟩ : S67)) a1_0 a1_1) = some (r1, r2, r3, r4, r5, r6, r7) := H
         have A52 := Aside0.mk A520
         clear A520
         obtain ⟨y513, hy513⟩ : ∃ y_ : List (S67), y_ = (x491005_2.set (x49_2 : Int).toNat (⟨(⟨(rd_T67 x491005_2 x49_2).f0.f0, (rd_T67 x491005_2 x49_2).f0.f1⟩ : S32), (⟨t511, t512⟩ : S27)⟩ : S67)) := ⟨_, rfl⟩
         replace H : (wear_Season.l0 k2 (t505.length : Int) (wrap64 (x49_2 + 1)) t496 t499 (wrap64 (t502 + a2)) t508 t509 y513 a1_0 a1_1) = some (r1, r2, r3, r4, r5, r6, r7) := by first | (rw [hy513]; with_reducible exact H) | (have H2_ := (Option.bind_some _ _).symm.trans H; rw [hy513]; with_reducible exact H2_) | (have H2_ := (Option.bind_some _ _).symm.trans H; with_reducible exact H2_) | with_reducible exact H | (rw [hy513]; exact H) | exact H
         have Ny513 := Aside0.mk hy513
         clear hy513
         have H' := Aside0.mk H
         clear H
         try go_wp2
         have n0_ := Aside0.mk (Kd.R_drew HO_491000.out)
         have n1_ := Aside0.mk (Kd.R_drew HO_491001.out)
         have n2_ := Aside0.mk (Kd.R_drew HO_491005.out)
         have n3_ := Aside0.mk (blk_drew BK490.out)
         have n4_ := Aside0.mk (blk_drew BK491.out)
         have n5_ := Aside0.mk (blk_drew BK492.out)
         have n6_ := Aside0.mk (below_drew1 HB.out)
         clear HO_491000; clear HO_491001; clear HO_491005; clear BK490; clear BK491; clear BK492; clear HB
         have HO_491000 := n0_
         have HO_491001 := n1_
         have HO_491005 := n2_
         have BK490 := n3_
         have BK491 := n4_
         have BK492 := n5_
         have HB := n6_
         clear n0_ n1_ n2_ n3_ n4_ n5_ n6_
         obtain ⟨Ao55, co55, eo55⟩ := Kd.R_slice HO_491005.out
         (first | subst eo55 | (injection eo55 with f1_ f2_ f3_; have f4_ := f1_.symm; have f5_ := f3_.symm; clear f1_ f2_ f3_; subst f4_; subst f5_))
         have p510 : 0 ≤ (x49_2 : Int) := of_decide_eq_true zj
         have q510 : x49_2 < (x491005_2.length : Int) := of_decide_eq_true zj
         obtain ⟨ad510, e510, hx510_0, hx510_1, hx510_2, hx510_3⟩ := at_T67 (Kd.R_reads' HO_491005.out).2.2 x49_2 p510 q510
         cases e510
         replace p510 := eq_true p510
         replace q510 := eq_true q510
         refine start_ (n := 14) (S := fun w' => w'.cell? ⟨gb490, 0, none⟩ = some (.slice Ao41 t496.length co41) ∧ w'.cell? ⟨gb490, 1, none⟩ = some (.slice Ao43 t499.length co43) ∧ w'.cell? ⟨gb490, 2, none⟩ = some (.int .i64 (wrap64 (t502 + a2))) ∧ w'.cell? ⟨gb490, 3, none⟩ = some (.int .i64 t508) ∧ w'.cell? ⟨gb490, 4, none⟩ = some (.int .i64 t509) ∧ w'.cell? ⟨gb490, 5, none⟩ = some (.slice (some ad510) x491005_2.length co55) ∧ w'.cell? ⟨gb491, 0, none⟩ = some (.int .i64 a1_0) ∧ w'.cell? ⟨gb491, 1, none⟩ = some (.int .i64 a1_1) ∧ w'.cell? (ad510.add ((x49_2).toNat * 4)) = some (.int .i64 ((rd_T67 x491005_2 x49_2).f0.f0)) ∧ w'.cell? ⟨(ad510.add ((x49_2).toNat * 4)).block, (ad510.add ((x49_2).toNat * 4)).off + 1, none⟩ = some (.int .i64 ((rd_T67 x491005_2 x49_2).f0.f1)) ∧ w'.cell? ⟨(ad510.add ((x49_2).toNat * 4)).block, (ad510.add ((x49_2).toNat * 4)).off + 2, none⟩ = some (.int .i64 ((rd_T67 x491005_2 x49_2).f1.f0)) ∧ w'.cell? ⟨(ad510.add ((x49_2).toNat * 4)).block, (ad510.add ((x49_2).toNat * 4)).off + 3, none⟩ = some (.int .i64 ((rd_T67 x491005_2 x49_2).f1.f1))) (ds := [13]) #[Z0, Z0, Z0, Z0, Z0, Z0, Z0, Z0, Z0, Z0, Z0, Z0, Z0, Z0] (by kernel_rfl) rfl rfl ⟨(blk_cell BK490.out 0).trans rfl, (blk_cell BK490.out 1).trans rfl, (blk_cell BK490.out 2).trans rfl, (blk_cell BK490.out 3).trans rfl, (blk_cell BK490.out 4).trans rfl, (blk_cell BK490.out 5).trans rfl, (blk_cell BK491.out 0).trans rfl, (blk_cell BK491.out 1).trans rfl, hx510_0, hx510_1, hx510_2, hx510_3⟩ (fun hHeld => ?_); refine with_tabW wear_Season.tab14 wear_Season.bits14 (fun HT_ HW_ => ?_)
         generalize wr.drew = w54 at HO_491000 HO_491001 HO_491005 BK490 BK491 BK492 HB hx510_0 hx510_1 hx510_2 hx510_3 hHeld ⊢
         refine zp 0 (some 52) #[Z1, Z0, Z0, Z0, Z0, Z0, Z0, Z0, Z0, Z0, Z0, Z0, Z0, Z0] rfl rfl (any_of HT_.out (by kernel_rfl)) ?_
         refine zp 2 (some 54) #[Z1, Z0, Z1, Z0, Z0, Z0, Z0, Z0, Z0, Z0, Z0, Z0, Z0, Z0] rfl rfl (any_of HT_.out (by kernel_rfl)) ?_
         refine zp 3 (some 55) #[Z1, Z0, Z1, Z1, Z0, Z0, Z0, Z0, Z0, Z0, Z0, Z0, Z0, Z0] rfl rfl (any_of HT_.out (by kernel_rfl)) ?_
         refine zp 5 (some 57) #[Z1, Z0, Z1, Z1, Z0, Z1, Z0, Z0, Z0, Z0, Z0, Z0, Z0, Z0] rfl rfl (any_of HT_.out (by kernel_rfl)) ?_
         refine take_ (i := 1) (N := some 53) (v := ?_) (a' := ?_) #[Z1, Z1, Z1, Z1, Z0, Z1, Z0, Z0, Z0, Z0, Z0, Z0, Z0, Z0] rfl rfl (take_ofW HT_.out HW_.out (by kernel_rfl)) (fun _ _ _ h => h) (Or.inl ⟨by rfl, ?_⟩) hHeld ?_ ?_
         rotate_left; · rintro w' ⟨s0, s1, s2, s3, s4, s5, s6, s7, s8, s9, s10, s11⟩; go_simp; with_reducible rfl
         rotate_left; · simp only [Act.put, List.setIfInBounds_toArray, List.set_cons_zero, List.set_cons_succ, i64_w, i32_w]; rfl
         refine take_ (i := 4) (N := some 56) (v := ?_) (a' := ?_) #[Z1, Z1, Z1, Z1, Z1, Z1, Z0, Z0, Z0, Z0, Z0, Z0, Z0, Z0] rfl rfl (take_ofW HT_.out HW_.out (by kernel_rfl)) (fun _ _ _ h => h) (Or.inl ⟨by rfl, ?_⟩) hHeld ?_ ?_
         rotate_left; · rintro w' ⟨s0, s1, s2, s3, s4, s5, s6, s7, s8, s9, s10, s11⟩; go_simp; with_reducible rfl
         rotate_left; · simp only [Act.put, List.setIfInBounds_toArray, List.set_cons_zero, List.set_cons_succ, i64_w, i32_w]; rfl
         refine zp 6 (some 58) #[Z1, Z1, Z1, Z1, Z1, Z1, Z1, Z0, Z0, Z0, Z0, Z0, Z0, Z0] rfl rfl (any_of HT_.out (by kernel_rfl)) ?_
         refine zp 7 (some 59) #[Z1, Z1, Z1, Z1, Z1, Z1, Z1, Z1, Z0, Z0, Z0, Z0, Z0, Z0] rfl rfl (any_of HT_.out (by kernel_rfl)) ?_
         refine take_ (i := 8) (N := some 60) (v := ?_) (a' := ?_) #[Z1, Z1, Z1, Z1, Z1, Z1, Z1, Z1, Z1, Z0, Z0, Z0, Z0, Z0] rfl rfl (take_ofW HT_.out HW_.out (by kernel_rfl)) (fun _ _ _ h => h) (Or.inl ⟨by rfl, ?_⟩) hHeld ?_ ?_
         rotate_left; · rintro w' ⟨s0, s1, s2, s3, s4, s5, s6, s7, s8, s9, s10, s11⟩; go_simp; with_reducible rfl
         rotate_left; · simp only [Act.put, List.setIfInBounds_toArray, List.set_cons_zero, List.set_cons_succ, i64_w, i32_w]; rfl
         refine take_ (i := 9) (N := some 61) (v := ?_) (a' := ?_) #[Z1, Z1, Z1, Z1, Z1, Z1, Z1, Z1, Z1, Z1, Z0, Z0, Z0, Z0] rfl rfl (take_ofW HT_.out HW_.out (by kernel_rfl)) (fun _ _ _ h => h) (Or.inl ⟨by rfl, ?_⟩) hHeld ?_ ?_
         rotate_left; · rintro w' ⟨s0, s1, s2, s3, s4, s5, s6, s7, s8, s9, s10, s11⟩; go_simp; with_reducible rfl
         rotate_left; · simp only [Act.put, List.setIfInBounds_toArray, List.set_cons_zero, List.set_cons_succ, i64_w, i32_w]; rfl
         refine one_ (i := 10) (N := some 62) #[Z1, Z1, Z1, Z1, Z1, Z1, Z1, Z1, Z1, Z1, Z1, Z0, Z0, Z0] rfl rfl (one_of HT_.out (by kernel_rfl)) (by decide) (fun K hK => ?_)
         refine goes_ Try.func39 (by kernel_rfl) rfl #[.agg #[.int .i64 ((rd_T67 x491005_2 x49_2).f1.f0), .int .i64 ((rd_T67 x491005_2 x49_2).f1.f1)], .agg #[.int .i64 a1_0, .int .i64 a1_1]] (by rfl) rfl rfl za ?_
         with_reducible refine (wear_after.calls ((rd_T67 x491005_2 x49_2).f1.f0) ((rd_T67 x491005_2 x49_2).f1.f1) a1_0 a1_1 t511 t512 _ A52.out).mono ?_
         rintro e w56 ⟨rfl, hb⟩
         have HS8_ := (hb.cell (World.block_lt_of_cell? _ _ (hHeld.2.2.2.2.2.2.2.2.1))).trans (hHeld.2.2.2.2.2.2.2.2.1)
         have HS9_ := (hb.cell (World.block_lt_of_cell? _ _ (hHeld.2.2.2.2.2.2.2.2.2.1))).trans (hHeld.2.2.2.2.2.2.2.2.2.1)
         have HS10_ := (hb.cell (World.block_lt_of_cell? _ _ (hHeld.2.2.2.2.2.2.2.2.2.2.1))).trans (hHeld.2.2.2.2.2.2.2.2.2.2.1)
         have HS11_ := (hb.cell (World.block_lt_of_cell? _ _ (hHeld.2.2.2.2.2.2.2.2.2.2.2))).trans (hHeld.2.2.2.2.2.2.2.2.2.2.2)
         refine ⟨_, rfl, ?_⟩
         have n0_ := Aside0.mk (Kd.R_below (zt HO_491000) hb)
         have n1_ := Aside0.mk (Kd.R_below (zt HO_491001) hb)
         have n2_ := Aside0.mk (Kd.R_below (zt HO_491005) hb)
         have n3_ := zD BK490 hb
         have n4_ := zD BK491 hb
         have n5_ := zD BK492 hb
         have n6_ := zY HB hb
         clear HO_491000; clear HO_491001; clear HO_491005; clear BK490; clear BK491; clear BK492; clear HB
         have HO_491000 := n0_
         have HO_491001 := n1_
         have HO_491005 := n2_
         have BK490 := n3_
         have BK491 := n4_
         have BK492 := n5_
         have HB := n6_
         clear n0_ n1_ n2_ n3_ n4_ n5_ n6_
         (try clear hb)
         (try clear hb2)
         (try clear hk)
         (try clear hi)
         have p53 : 0 ≤ (x49_2 : Int) := of_decide_eq_true zj
         have q53 : (x49_2 : Int) < ((x491005_2.length : Int) : Int) := of_decide_eq_true zj
         obtain ⟨go53, co53, eo53, gb53, gl53, cl53, HG53⟩ := Kd.R_form HO_491005.out (by omega)
         (first | cases eo53 | (injection eo53 with ea_ en_ ec_; (first | subst ea_ | (injection ea_ with ea_; subst ea_)); subst ec_; clear en_))
         have GB53 := Aside0.mk gb53
         have GG53 := Aside0.mk HG53
         clear gb53 gl53 HG53
         (first | simp only [add_plain] at hx510_0 | skip)
         (first | simp only [add_plain] at hx510_1 | skip)
         (first | simp only [add_plain] at hx510_2 | skip)
         (first | simp only [add_plain] at hx510_3 | skip)
         obtain ⟨ce53, hcl53, hM53, hcc53, hfr53⟩ := Kd.R_elem HO_491005.out z67 (x49_2 : Int) p53 q53
         obtain rfl := k67_openM hM53
         have hx53_0 : World.cell? _ ⟨go53, (x49_2 : Int).toNat * 4, none⟩ = some (.int .i64 ((rd_T67 x491005_2 x49_2).f0.f0)) := hcc53 0 _ rfl
         have hx53_1 : World.cell? _ ⟨go53, (x49_2 : Int).toNat * 4 + 1, none⟩ = some (.int .i64 ((rd_T67 x491005_2 x49_2).f0.f1)) := hcc53 1 _ rfl
         have hx53_2 : World.cell? _ ⟨go53, (x49_2 : Int).toNat * 4 + 2, none⟩ = some (.int .i64 ((rd_T67 x491005_2 x49_2).f1.f0)) := hcc53 2 _ rfl
         have hx53_3 : World.cell? _ ⟨go53, (x49_2 : Int).toNat * 4 + 3, none⟩ = some (.int .i64 ((rd_T67 x491005_2 x49_2).f1.f1)) := hcc53 3 _ rfl
         have hf53_0 : World.frozen? _ ⟨go53, (x49_2 : Int).toNat * 4, none⟩ = false := hfr53 0
         have hf53_1 : World.frozen? _ ⟨go53, (x49_2 : Int).toNat * 4 + 1, none⟩ = false := hfr53 1
         have hf53_2 : World.frozen? _ ⟨go53, (x49_2 : Int).toNat * 4 + 2, none⟩ = false := hfr53 2
         have hf53_3 : World.frozen? _ ⟨go53, (x49_2 : Int).toNat * 4 + 3, none⟩ = false := hfr53 3
         clear hcl53 hcc53 hfr53 hM53
         replace p53 := eq_true p53
         replace q53 := eq_true q53
         obtain ⟨ce57, hcl57, hM57, hcc57, hfr57⟩ := Kd.R_elem HO_491005.out z67 (x49_2 : Int) (of_decide_eq_true zj) (by have h_ : (x49_2 : Int) < ((x491005_2.length : Int) : Int) := of_decide_eq_true zj; first | exact h_ | (have e_ := (Kd.R_reads' HO_491005.out).1; omega) | simpa using h_)
         obtain rfl := k67_openM hM57
         have HP57 := (Kd.R_seg HO_491005.out (x49_2 : Int) (of_decide_eq_true zj) (by have h_ : (x49_2 : Int) < ((x491005_2.length : Int) : Int) := of_decide_eq_true zj; first | exact h_ | (have e_ := (Kd.R_reads' HO_491005.out).1; omega) | simpa using h_) (seg := [.int .i64 t511, .int .i64 t512]) (j := 2) hcl57 hcc57 (show 4 ≤ 4 from by decide) (x' := (⟨(⟨(rd_T67 x491005_2 x49_2).f0.f0, (rd_T67 x491005_2 x49_2).f0.f1⟩ : S32), (⟨t511, t512⟩ : S27)⟩ : S67)) (k67_mkM _ _ _ (⟨(⟨(rd_T67 x491005_2 x49_2).f0.f0, (rd_T67 x491005_2 x49_2).f0.f1⟩ : S32), (⟨t511, t512⟩ : S27)⟩ : S67) ) (fun _ hk => hk)).1
         rw [← Ny513.out] at HP57
         have HQ57 := Aside0.mk HP57
         clear hcl57 hcc57 hfr57 hM57 HP57
         refine hK.out _ _ ⟨(blk_cell BK490.out 0).trans rfl, (blk_cell BK490.out 1).trans rfl, (blk_cell BK490.out 2).trans rfl, (blk_cell BK490.out 3).trans rfl, (blk_cell BK490.out 4).trans rfl, (blk_cell BK490.out 5).trans rfl, (blk_cell BK491.out 0).trans rfl, (blk_cell BK491.out 1).trans rfl, HS8_, HS9_, HS10_, HS11_⟩ (fun hHeld => ?_)
         clear hK K
         refine norm_ (a' := ?_) ?_ ?_
         rotate_left
         ·show Act.put _ (some 62) _ = _
          simp only [Act.put, List.setIfInBounds_toArray, List.set_cons_zero, List.set_cons_succ, i64_w, i32_w]
          rfl
         refine zp 11 (some 63) #[Z1, Z1, Z1, Z1, Z1, Z1, Z1, Z1, Z1, Z1, Z1, Z1, Z0, Z0] rfl rfl (any_of HT_.out (by kernel_rfl)) ?_
         refine zp 12 (some 64) #[Z1, Z1, Z1, Z1, Z1, Z1, Z1, Z1, Z1, Z1, Z1, Z1, Z1, Z0] rfl rfl (any_of HT_.out (by kernel_rfl)) ?_
         refine last_ (i := 13) (N := none) #[Z1, Z1, Z1, Z1, Z1, Z1, Z1, Z1, Z1, Z1, Z1, Z1, Z1, Z1] rfl rfl (one_of HT_.out (by kernel_rfl)) (by decide) (fun K hK => ?_)
         refine skip_ (w1 := ?_) (by rfl) rfl ?_ ?_
         rotate_left
         ·go_simp
          rfl
         refine hK.out _ _ ?_
         clear hK K
         refine done_ (done_of HT_.out (by kernel_rfl)) ?_
         try go_wp2
         go_roundg k2
         case measure => have := HJ5.out; have := HK2.out; omega
         case rel => exact ⟨(wrap64 (x49_2 + 1)), (y513), (.slice (some ⟨go53, 0, none⟩) x491005_2.length co55), zq, H', ⟨by have := HJ5.out; have := HK2.out; omega⟩, ⟨by (with_reducible repeat (first | apply Kd.R_alloc | apply Kd.R_drewN | apply Kd.R_drew)); exact Kd.R_mono (Kd.R_far (p := ⟨go53, (x49_2 : Int).toNat * 4 + 3, none⟩) (Kd.R_far (p := ⟨go53, (x49_2 : Int).toNat * 4 + 2, none⟩) (Kd.R_types HO_491000.out GG53.out (by decide)) (fun _ hk => hk.2) (.int .i64 t511)) (fun _ hk => hk.2) (.int .i64 t512)) (fun _ hk => trivial)⟩, ⟨by (with_reducible repeat (first | apply Kd.R_alloc | apply Kd.R_drewN | apply Kd.R_drew)); exact Kd.R_mono (Kd.R_far (p := ⟨go53, (x49_2 : Int).toNat * 4 + 3, none⟩) (Kd.R_far (p := ⟨go53, (x49_2 : Int).toNat * 4 + 2, none⟩) (Kd.R_types HO_491001.out GG53.out (by decide)) (fun _ hk => hk.2) (.int .i64 t511)) (fun _ hk => hk.2) (.int .i64 t512)) (fun _ hk => trivial)⟩, ⟨zt HQ57⟩, ⟨by refine zQ ?_; refine blk_far ?_ (by have h_ := Kd.R_ne HO_491005.out BK490.out (by decide); intro e_; exact h_ (by rw [e_]; rfl)) _; refine zQ ?_; refine blk_far ?_ (by have h_ := Kd.R_ne HO_491005.out BK490.out (by decide); intro e_; exact h_ (by rw [e_]; rfl)) _; (with_reducible repeat (first | refine blk_drewN ?_ _ | refine blk_drew ?_ | refine blk_alloc ?_ _)); exact BK490.out⟩, ⟨by refine zQ ?_; refine blk_far ?_ (by have h_ := Kd.R_ne HO_491005.out BK491.out (by decide); intro e_; exact h_ (by rw [e_]; rfl)) _; refine zQ ?_; refine blk_far ?_ (by have h_ := Kd.R_ne HO_491005.out BK491.out (by decide); intro e_; exact h_ (by rw [e_]; rfl)) _; (with_reducible repeat (first | refine blk_drewN ?_ _ | refine blk_drew ?_ | refine blk_alloc ?_ _)); exact BK491.out⟩, ⟨by refine zQ ?_; refine blk_far ?_ (by have h_ := Kd.R_ne HO_491005.out BK492.out (by decide); intro e_; exact h_ (by rw [e_]; rfl)) _; refine zQ ?_; refine blk_far ?_ (by have h_ := Kd.R_ne HO_491005.out BK492.out (by decide); intro e_; exact h_ (by rw [e_]; rfl)) _; (with_reducible repeat (first | refine blk_drewN ?_ _ | refine blk_drew ?_ | refine blk_alloc ?_ _)); exact BK492.out⟩, ⟨by repeat (first | (with_reducible first | exact HB.out | apply below_alloc | apply pw_below_drewN | apply below_drew1 | refine below_set ?_ GB53.out | refine below_set ?_ GB53.out | refine below_set ?_ GE490.out | refine below_set ?_ GE491.out | refine below_set ?_ GE492.out) | exact HB.out)⟩⟩
        rw [if_neg c51] at H
        exact absurd H (by simp)
       rw [if_neg c50] at H
       exact absurd H (by simp)
      rw [if_neg c49] at H
      have c49b0 : decide (x49_2 < (t505.length : Int)) = false := decide_eq_false c49
      clear c49
      simp only [Option.some.injEq, Prod.mk.injEq] at H
      obtain ⟨rfl, rfl, rfl, rfl, rfl, rfl, rfl⟩ := H
      have hnb58 := NB490_491.out
      have hnc58 := NB491_490.out
      have hnb59 := NB490_492.out
      have hnc59 := NB492_490.out
      obtain ⟨hcz60_0, hcz60_1, hcz60_2, hcz60_3, hcz60_4, hcz60_5, hfz60_0, hfz60_1, hfz60_2, hfz60_3, hfz60_4, hfz60_5⟩ := zk6 BK490
      have hnb61 := NB492_491.out
      have hnc61 := NB491_492.out
      obtain ⟨hcz62_0, hcz62_1, hcz62_2, hcz62_3, hcz62_4, hcz62_5, hfz62_0, hfz62_1, hfz62_2, hfz62_3, hfz62_4, hfz62_5⟩ := zk6 BK492
      obtain ⟨Ao63, co63, eo63⟩ := Kd.R_slice HO_491005.out
      subst eo63
      go_wp2
      refine bodyPost_ret (results_ct rfl _ _ gb492 30 #[.slice Ao41 t496.length co41, .slice Ao43 t499.length co43, .int .i64 (wrap64 (t502 + a2)), .int .i64 t508, .int .i64 t509, .slice Ao63 x491005_2.length co63] (0, 0) _ rfl (by refine zQ ?_; refine blk_put (cs := #[.slice Ao41 t496.length co41, .slice Ao43 t499.length co43, .int .i64 (wrap64 (t502 + a2)), .int .i64 t508, .int .i64 t509, .slice none 0 0]) ?_ 5 _ rfl; refine zQ ?_; refine blk_put (cs := #[.slice Ao41 t496.length co41, .slice Ao43 t499.length co43, .int .i64 (wrap64 (t502 + a2)), .int .i64 t508, .int .i64 0, .slice none 0 0]) ?_ 4 _ rfl; refine zQ ?_; refine blk_put (cs := #[.slice Ao41 t496.length co41, .slice Ao43 t499.length co43, .int .i64 (wrap64 (t502 + a2)), .int .i64 0, .int .i64 0, .slice none 0 0]) ?_ 3 _ rfl; refine zQ ?_; refine blk_put (cs := #[.slice Ao41 t496.length co41, .slice Ao43 t499.length co43, .int .i64 0, .int .i64 0, .int .i64 0, .slice none 0 0]) ?_ 2 _ rfl; refine zQ ?_; refine blk_put (cs := #[.slice Ao41 t496.length co41, .slice none 0 0, .int .i64 0, .int .i64 0, .int .i64 0, .slice none 0 0]) ?_ 1 _ rfl; refine zQ ?_; refine blk_put (cs := #[.slice none 0 0, .slice none 0 0, .int .i64 0, .int .i64 0, .int .i64 0, .slice none 0 0]) ?_ 0 _ rfl; (with_reducible repeat (first | refine blk_drewN ?_ _ | refine blk_drew ?_ | refine blk_alloc ?_ _)); exact BK492.out) Try.underlying30 rfl (by kernel_rfl)) rfl ?_
      exact ⟨_, _, _, ze, by (with_reducible repeat (first | apply Kd.R_alloc | apply Kd.R_drewN | apply Kd.R_drew)); exact Kd.R_mono (Kd.R_far (p := ⟨gb492, 5, none⟩) (Kd.R_far (p := ⟨gb492, 4, none⟩) (Kd.R_far (p := ⟨gb492, 3, none⟩) (Kd.R_far (p := ⟨gb492, 2, none⟩) (Kd.R_far (p := ⟨gb492, 1, none⟩) (Kd.R_far (p := ⟨gb492, 0, none⟩) (Kd.R_types HO_491000.out BK492.out (by decide)) (fun _ hk => hk.2) (.slice Ao41 t496.length co41)) (fun _ hk => hk.2) (.slice Ao43 t499.length co43)) (fun _ hk => hk.2) (.int .i64 (wrap64 (t502 + a2)))) (fun _ hk => hk.2) (.int .i64 t508)) (fun _ hk => hk.2) (.int .i64 t509)) (fun _ hk => hk.2) (.slice Ao63 x491005_2.length co63)) (fun _ hk => trivial), by (with_reducible repeat (first | apply Kd.R_alloc | apply Kd.R_drewN | apply Kd.R_drew)); exact Kd.R_mono (Kd.R_far (p := ⟨gb492, 5, none⟩) (Kd.R_far (p := ⟨gb492, 4, none⟩) (Kd.R_far (p := ⟨gb492, 3, none⟩) (Kd.R_far (p := ⟨gb492, 2, none⟩) (Kd.R_far (p := ⟨gb492, 1, none⟩) (Kd.R_far (p := ⟨gb492, 0, none⟩) (Kd.R_types HO_491001.out BK492.out (by decide)) (fun _ hk => hk.2) (.slice Ao41 t496.length co41)) (fun _ hk => hk.2) (.slice Ao43 t499.length co43)) (fun _ hk => hk.2) (.int .i64 (wrap64 (t502 + a2)))) (fun _ hk => hk.2) (.int .i64 t508)) (fun _ hk => hk.2) (.int .i64 t509)) (fun _ hk => hk.2) (.slice Ao63 x491005_2.length co63)) (fun _ hk => trivial), by (with_reducible repeat (first | apply Kd.R_alloc | apply Kd.R_drewN | apply Kd.R_drew)); exact Kd.R_mono (Kd.R_far (p := ⟨gb492, 5, none⟩) (Kd.R_far (p := ⟨gb492, 4, none⟩) (Kd.R_far (p := ⟨gb492, 3, none⟩) (Kd.R_far (p := ⟨gb492, 2, none⟩) (Kd.R_far (p := ⟨gb492, 1, none⟩) (Kd.R_far (p := ⟨gb492, 0, none⟩) (Kd.R_types HO_491005.out BK492.out (by decide)) (fun _ hk => hk.2) (.slice Ao41 t496.length co41)) (fun _ hk => hk.2) (.slice Ao43 t499.length co43)) (fun _ hk => hk.2) (.int .i64 (wrap64 (t502 + a2)))) (fun _ hk => hk.2) (.int .i64 t508)) (fun _ hk => hk.2) (.int .i64 t509)) (fun _ hk => hk.2) (.slice Ao63 x491005_2.length co63)) (fun _ hk => trivial), zw HB⟩
 rw [if_neg c5] at H
 have c5b0 : (t493 == 0) = false := beq_eq_false_iff_ne.mpr c5
 have c5b1 : (t493 != 0) = true := bne_iff_ne.mpr c5
 simp only [Option.some.injEq, Prod.mk.injEq] at H
 obtain ⟨rfl, rfl, rfl, rfl, rfl, rfl, rfl⟩ := H
 go_enter Try.func17, Try.ntmps17
 go_wp2_with (first | ((with_reducible refine gate_dst (N := 3) rfl ?_); refine zx 3 #[.slice A0_0 l0_0.length c0_0, .slice A0_1 l0_1.length c0_1, .int .i64 a0_2, .int .i64 a0_3, .int .i64 a0_4, .slice A0_5 l0_5.length c0_5] 30 ?_; intro gb490 hg w64 hbox hb; have n0_ := zY HB hb; have n1_ := Aside0.mk (hbox); have n2_ := zS hg HB; have n3_ := zS hg HB; clear HB; have HB := n0_; have BK490 := n1_; have GW490 := n2_; have GE490 := n3_; clear n0_ n1_ n2_ n3_; clear hb hbox hg) | ((with_reducible refine gate_dst (N := 4) rfl ?_); refine zx 4 #[.int .i64 a1_0, .int .i64 a1_1] 27 ?_; intro gb491 hg w65 hbox hb; have n0_ := zD BK490 hb; have n1_ := zY HB hb; have n2_ := Aside0.mk (hbox); have n3_ := zS hg HB; have n4_ := zS hg HB; have n5_ := zN hg BK490; have n6_ := zM hg BK490; clear BK490; clear HB; have BK490 := n0_; have HB := n1_; have BK491 := n2_; have GW491 := n3_; have GE491 := n4_; have NB490_491 := n5_; have NB491_490 := n6_; clear n0_ n1_ n2_ n3_ n4_ n5_ n6_; clear hb hbox hg) | ((with_reducible refine gate_dst (N := 6) rfl ?_); refine zx 6 #[.slice none 0 0, .slice none 0 0, .int .i64 0, .int .i64 0, .int .i64 0, .slice none 0 0] 30 ?_; intro gb492 hg w66 hbox hb; have n0_ := zD BK490 hb; have n1_ := zD BK491 hb; have n2_ := zY HB hb; have n3_ := Aside0.mk (hbox); have n4_ := zS hg HB; have n5_ := zS hg HB; have n6_ := zN hg BK490; have n7_ := zM hg BK490; have n8_ := zN hg BK491; have n9_ := zM hg BK491; clear BK490; clear BK491; clear HB; have BK490 := n0_; have BK491 := n1_; have HB := n2_; have BK492 := n3_; have GW492 := n4_; have GE492 := n5_; have NB490_492 := n6_; have NB492_490 := n7_; have NB491_492 := n8_; have NB492_491 := n9_; clear n0_ n1_ n2_ n3_ n4_ n5_ n6_ n7_ n8_ n9_; clear hb hbox hg; have hnb67 := NB490_491.out; have hnc67 := NB491_490.out; have hnb68 := NB490_492.out; have hnc68 := NB492_490.out; obtain ⟨hcz69_0, hcz69_1, hcz69_2, hcz69_3, hcz69_4, hcz69_5, hfz69_0, hfz69_1, hfz69_2, hfz69_3, hfz69_4, hfz69_5⟩ := zk6 BK490) | ((with_reducible refine gate_callee (f := 15) rfl ?_); refine goesL_ (some 11) rfl rfl Try.func15 (by kernel_rfl) rfl #[.agg #[.slice A0_0 l0_0.length c0_0, .slice A0_1 l0_1.length c0_1, .int .i64 a0_2, .int .i64 a0_3, .int .i64 a0_4, .slice A0_5 l0_5.length c0_5]] rfl za ?_; (with_reducible refine (wear_Check.calls k _ _ l0_0 _ _ l0_1 a0_2 a0_3 a0_4 _ _ l0_5 t493 _ ?side1 ?side2 ?side3 ?side4 ?side5 ?side6 A4.out).mono ?_); (case side1 => exact zl HR0_0 HB); (case side2 => exact HC0_0.out); (case side3 => exact zl HR0_1 HB); (case side4 => exact HC0_1.out); (case side5 => exact zl HR0_5 HB); (case side6 => exact HC0_5.out); rintro e w70 ⟨rfl, hb⟩; refine ⟨_, rfl, ?_⟩; have n0_ := zD BK490 hb; have n1_ := zD BK491 hb; have n2_ := zD BK492 hb; have n3_ := zY HB hb; clear BK490; clear BK491; clear BK492; clear HB; have BK490 := n0_; have BK491 := n1_; have BK492 := n2_; have HB := n3_; clear n0_ n1_ n2_ n3_; (try clear hb); (try clear hb2); (try clear hk); (try clear hi); have hnb71 := NB492_491.out; have hnc71 := NB491_492.out; obtain ⟨hcz72_0, hcz72_1, hcz72_2, hcz72_3, hcz72_4, hcz72_5, hfz72_0, hfz72_1, hfz72_2, hfz72_3, hfz72_4, hfz72_5⟩ := zk6 BK492))
 refine bodyPost_ret (results_ct rfl _ _ gb492 30 #[.slice none 0 0, .slice none 0 0, .int .i64 0, .int .i64 0, .int .i64 0, .slice none 0 0] (0, 0) _ rfl (by refine zQ ?_; refine blk_put (cs := #[.slice none 0 0, .slice none 0 0, .int .i64 0, .int .i64 0, .int .i64 0, .slice none 0 0]) ?_ 5 _ rfl; refine zQ ?_; refine blk_put (cs := #[.slice none 0 0, .slice none 0 0, .int .i64 0, .int .i64 0, .int .i64 0, .slice none 0 0]) ?_ 4 _ rfl; refine zQ ?_; refine blk_put (cs := #[.slice none 0 0, .slice none 0 0, .int .i64 0, .int .i64 0, .int .i64 0, .slice none 0 0]) ?_ 3 _ rfl; refine zQ ?_; refine blk_put (cs := #[.slice none 0 0, .slice none 0 0, .int .i64 0, .int .i64 0, .int .i64 0, .slice none 0 0]) ?_ 2 _ rfl; refine zQ ?_; refine blk_put (cs := #[.slice none 0 0, .slice none 0 0, .int .i64 0, .int .i64 0, .int .i64 0, .slice none 0 0]) ?_ 1 _ rfl; refine zQ ?_; refine blk_put (cs := #[.slice none 0 0, .slice none 0 0, .int .i64 0, .int .i64 0, .int .i64 0, .slice none 0 0]) ?_ 0 _ rfl; (with_reducible repeat (first | refine blk_drewN ?_ _ | refine blk_drew ?_ | refine blk_alloc ?_ _)); exact BK492.out) Try.underlying30 rfl (by kernel_rfl)) rfl ?_
 exact ⟨_, _, _, ze, by first | exact Kd.R_nil _ _ _ _ _ | exact Kd.N_nil _ _ _ _ _ | exact Kd.V_nil _ _ _ _ _ | exact Kd.Q_nil _ _ _ _ _ | exact Kd.S_nil _ _ _ _ _, by first | exact Kd.R_nil _ _ _ _ _ | exact Kd.N_nil _ _ _ _ _ | exact Kd.V_nil _ _ _ _ _ | exact Kd.Q_nil _ _ _ _ _ | exact Kd.S_nil _ _ _ _ _, by first | exact Kd.R_nil _ _ _ _ _ | exact Kd.N_nil _ _ _ _ _ | exact Kd.V_nil _ _ _ _ _ | exact Kd.Q_nil _ _ _ _ _ | exact Kd.S_nil _ _ _ _ _, zw HB⟩
end Go.Proofs.Ytcfpclehogdmbaa.Q
end
