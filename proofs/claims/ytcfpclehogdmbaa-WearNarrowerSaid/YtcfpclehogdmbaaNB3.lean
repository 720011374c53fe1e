/- part 3 of a proof over the translation: walks that a program of ours has printed and shortened, and plain laws; each says what stands in it -/
import Derived.Test.YtcfpclehogdmbaaNB0
import Derived.Test.YtcfpclehogdmbaaNB1
import Derived.Test.YtcfpclehogdmbaaNB2
section
namespace Go.Proofs.Ytcfpclehogdmbaa.Q
open Go.RowKit Go.Proofs.YtcfpclehogdmbaaW.PrintWords Go.Proofs.YtcfpclehogdmbaaW.PrintLast Go.Proofs.YtcfpclehogdmbaaW.PrintMore
attribute [local go_sem] max2_int min2_int max_two min_two max_three min_three max_four min_four   -- for this text's walks alone
set_option linter.unusedVariables false
set_option linter.unusedSimpArgs false
attribute [local go_sem high] eqA27
def wear_Bounds.f (k : Nat) (l0_0 : List (S32)) (l0_1 : List (S55)) (a0_2 : Int) (a0_3 : Int) (a0_4 : Int) (l0_5 : List (S67)) (a1_0 : Int) (a1_1 : Int) : Option (Int × Int × Int) := (wear_Check.f k l0_0 l0_1 a0_2 a0_3 a0_4 l0_5).bind fun t159 => (if t159 = 0 then ((wear_has.f l0_0 l0_1 a1_0 a1_1).bind fun t160 => (if t160 = true then ((wear_bounds.f k l0_0 l0_1 a0_2 a0_3 a0_4 l0_5 a1_0 a1_1).bind fun bt161 => (some (bt161.1, bt161.2, 0))) else (some (0, 0, 7)))) else (some (0, 0, t159)))
theorem wear_Bounds.mono : ∀ a0 a1 a2 a3 a4 a5 a6 a7 k, LeO (wear_Bounds.f k a0 a1 a2 a3 a4 a5 a6 a7) (wear_Bounds.f (k + 1) a0 a1 a2 a3 a4 a5 a6 a7) := by
 intro a0 a1 a2 a3 a4 a5 a6 a7 k
 unfold wear_Bounds.f
 repeat' first
   | (with_reducible exact wear_Check.mono _ _ _ _ _ _ _)
   | (with_reducible exact wear_bounds.mono _ _ _ _ _ _ _ _ _)
   | (with_reducible exact LeO.refl _)
   | (with_reducible exact LeO.none _)
   | (with_reducible refine LeO.ite ?_ ?_)
   | (with_reducible refine LeO.bind ?_ (fun _ => ?_))
   | exact wear_Check.mono _ _ _ _ _ _ _
   | exact wear_bounds.mono _ _ _ _ _ _ _ _ _
   | exact LeO.none _
   | refine LeO.ite ?_ ?_
   | refine LeO.bind ?_ (fun _ => ?_)
set_option maxHeartbeats 8000000 in
set_option maxRecDepth 100000 in
theorem wear_Bounds.calls (k : Nat) (A0_0 : Option Addr) (c0_0 : Nat) (l0_0 : List (S32)) (A0_1 : Option Addr) (c0_1 : Nat) (l0_1 : List (S55)) (a0_2 : Int) (a0_3 : Int) (a0_4 : Int) (A0_5 : Option Addr) (c0_5 : Nat) (l0_5 : List (S67)) (a1_0 : Int) (a1_1 : Int) (r1 : Int) (r2 : Int) (r3 : Int) (w : World) (hr0_0 : Kd.C k32 w A0_0 l0_0.length l0_0) (hc0_0 : l0_0.length ≤ c0_0) (hr0_1 : Kd.C k55 w A0_1 l0_1.length l0_1) (hc0_1 : l0_1.length ≤ c0_1) (hr0_5 : Kd.C k67 w A0_5 l0_5.length l0_5) (hc0_5 : l0_5.length ≤ c0_5) (h : wear_Bounds.f k l0_0 l0_1 a0_2 a0_3 a0_4 l0_5 a1_0 a1_1 = some (r1, r2, r3)) :
  Calls Try.prog 13 #[.agg #[.slice A0_0 l0_0.length c0_0, .slice A0_1 l0_1.length c0_1, .int .i64 a0_2, .int .i64 a0_3, .int .i64 a0_4, .slice A0_5 l0_5.length c0_5], .agg #[.int .i64 a1_0, .int .i64 a1_1]] w fun e w' => e = .returned (.tuple #[.agg #[.int .i64 r1, .int .i64 r2], .int .i64 r3]) ∧ Below w.heap.size w w' := by
 have hu30 := Try.underlying30
 have hu32 := Try.underlying32
 have hu27 := Try.underlying27
 have hu25 := Try.underlying25
 have HR0_0 := Aside0.mk hr0_0
 have HC0_0 := Aside0.mk hc0_0
 clear hr0_0 hc0_0
 have HR0_1 := Aside0.mk hr0_1
 have HC0_1 := Aside0.mk hc0_1
 clear hr0_1 hc0_1
 have HR0_5 := Aside0.mk hr0_5
 have HC0_5 := Aside0.mk hc0_5
 clear hr0_5 hc0_5
 have HB := Aside0.mk (Below.refl w.heap.size w)
 have H : ((wear_Check.f k l0_0 l0_1 a0_2 a0_3 a0_4 l0_5).bind fun t159 => (if t159 = 0 then ((wear_has.f l0_0 l0_1 a1_0 a1_1).bind fun t160 => (if t160 = true then ((wear_bounds.f k l0_0 l0_1 a0_2 a0_3 a0_4 l0_5 a1_0 a1_1).bind fun bt161 => (some (bt161.1, bt161.2, 0))) else (some (0, 0, 7)))) else (some (0, 0, t159)))) = some (r1, r2, r3) := h
 clear h
 replace H := Option.bind_eq_some_iff.mp H
 obtain ⟨t159, A30, H⟩ := H
 replace H : (if t159 = 0 then ((wear_has.f l0_0 l0_1 a1_0 a1_1).bind fun t160 => (if t160 = true then ((wear_bounds.f k l0_0 l0_1 a0_2 a0_3 a0_4 l0_5 a1_0 a1_1).bind fun bt161 => (some (bt161.1, bt161.2, 0))) else (some (0, 0, 7)))) else (some (0, 0, t159))) = some (r1, r2, r3) := H
 have A3 := Aside0.mk A30
 clear A30
 by_cases c4 : t159 = 0
 ·rw [if_pos c4] at H
  have c4b0 : (t159 == 0) = true := beq_iff_eq.mpr c4
  have c4b1 : (t159 != 0) = false := bne_eq_false_iff_eq.mpr c4
  clear c4
  replace H := Option.bind_eq_some_iff.mp H
  obtain ⟨t160, A50, H⟩ := H
  replace H : (if t160 = true then ((wear_bounds.f k l0_0 l0_1 a0_2 a0_3 a0_4 l0_5 a1_0 a1_1).bind fun bt161 => (some (bt161.1, bt161.2, 0))) else (some (0, 0, 7))) = some (r1, r2, r3) := H
  have A5 := Aside0.mk A50
  clear A50
  by_cases c6 : t160 = true
  ·subst c6
   have H1 : ((wear_bounds.f k l0_0 l0_1 a0_2 a0_3 a0_4 l0_5 a1_0 a1_1).bind fun bt161 => (some (bt161.1, bt161.2, 0))) = some (r1, r2, r3) := by rw [if_pos rfl] at H; exact H
   clear H
   have H := H1
   clear H1
   replace H := Option.bind_eq_some_iff.mp H
   obtain ⟨⟨t161, t162⟩, A70, H⟩ := H
   replace H : (some (t161, t162, 0)) = some (r1, r2, r3) := H
   have A7 := Aside0.mk A70
   clear A70
   simp only [Option.some.injEq, Prod.mk.injEq] at H
   obtain ⟨rfl, rfl, rfl⟩ := H
   go_enter Try.func13, Try.ntmps13
   go_wp2_with (first | ((with_reducible refine gate_dst (N := 2) rfl ?_); refine zx 2 #[.slice A0_0 l0_0.length c0_0, .slice A0_1 l0_1.length c0_1, .int .i64 a0_2, .int .i64 a0_3, .int .i64 a0_4, .slice A0_5 l0_5.length c0_5] 30 ?_; intro gb156 hg w8 hbox hb; have n0_ := zY HB hb; have n1_ := Aside0.mk (hbox); have n2_ := zS hg HB; have n3_ := zS hg HB; clear HB; have HB := n0_; have BK156 := n1_; have GW156 := n2_; have GE156 := n3_; clear n0_ n1_ n2_ n3_; clear hb hbox hg) | ((with_reducible refine gate_dst (N := 3) rfl ?_); refine zx 3 #[.int .i64 a1_0, .int .i64 a1_1] 32 ?_; intro gb157 hg w9 hbox hb; have n0_ := zD BK156 hb; have n1_ := zY HB hb; have n2_ := Aside0.mk (hbox); have n3_ := zS hg HB; have n4_ := zS hg HB; have n5_ := zN hg BK156; have n6_ := zM hg BK156; clear BK156; clear HB; have BK156 := n0_; have HB := n1_; have BK157 := n2_; have GW157 := n3_; have GE157 := n4_; have NB156_157 := n5_; have NB157_156 := n6_; clear n0_ n1_ n2_ n3_ n4_ n5_ n6_; clear hb hbox hg) | ((with_reducible refine gate_dst (N := 4) rfl ?_); refine zx 4 #[.int .i64 0, .int .i64 0] 27 ?_; intro gb158 hg w10 hbox hb; have n0_ := zD BK156 hb; have n1_ := zD BK157 hb; have n2_ := zY HB hb; have n3_ := Aside0.mk (hbox); have n4_ := zS hg HB; have n5_ := zS hg HB; have n6_ := zN hg BK156; have n7_ := zM hg BK156; have n8_ := zN hg BK157; have n9_ := zM hg BK157; clear BK156; clear BK157; clear HB; have BK156 := n0_; have BK157 := n1_; have HB := n2_; have BK158 := n3_; have GW158 := n4_; have GE158 := n5_; have NB156_158 := n6_; have NB158_156 := n7_; have NB157_158 := n8_; have NB158_157 := n9_; clear n0_ n1_ n2_ n3_ n4_ n5_ n6_ n7_ n8_ n9_; clear hb hbox hg; have hnb11 := NB156_157.out; have hnc11 := NB157_156.out; have hnb12 := NB156_158.out; have hnc12 := NB158_156.out; obtain ⟨hcz13_0, hcz13_1, hcz13_2, hcz13_3, hcz13_4, hcz13_5, hfz13_0, hfz13_1, hfz13_2, hfz13_3, hfz13_4, hfz13_5⟩ := zk6 BK156) | ((with_reducible refine gate_callee (f := 15) rfl ?_); refine goesL_ (some 8) rfl rfl Try.func15 (by kernel_rfl) rfl #[.agg #[.slice A0_0 l0_0.length c0_0, .slice A0_1 l0_1.length c0_1, .int .i64 a0_2, .int .i64 a0_3, .int .i64 a0_4, .slice A0_5 l0_5.length c0_5]] rfl za ?_; (with_reducible refine (wear_Check.calls k _ _ l0_0 _ _ l0_1 a0_2 a0_3 a0_4 _ _ l0_5 t159 _ ?side1 ?side2 ?side3 ?side4 ?side5 ?side6 A3.out).mono ?_); (case side1 => exact zl HR0_0 HB); (case side2 => exact HC0_0.out); (case side3 => exact zl HR0_1 HB); (case side4 => exact HC0_1.out); (case side5 => exact zl HR0_5 HB); (case side6 => exact HC0_5.out); rintro e w14 ⟨rfl, hb⟩; refine ⟨_, rfl, ?_⟩; have n0_ := zD BK156 hb; have n1_ := zD BK157 hb; have n2_ := zD BK158 hb; have n3_ := zY HB hb; clear BK156; clear BK157; clear BK158; clear HB; have BK156 := n0_; have BK157 := n1_; have BK158 := n2_; have HB := n3_; clear n0_ n1_ n2_ n3_; (try clear hb); (try clear hb2); (try clear hk); (try clear hi); obtain ⟨hcz15_0, hcz15_1, hcz15_2, hcz15_3, hcz15_4, hcz15_5, hfz15_0, hfz15_1, hfz15_2, hfz15_3, hfz15_4, hfz15_5⟩ := zk6 BK156; have hnb16 := NB157_158.out; have hnc16 := NB158_157.out; obtain ⟨hcz17_0, hcz17_1, hfz17_0, hfz17_1⟩ := zk2 BK157) | ((with_reducible refine gate_callee (f := 21) rfl ?_); refine goesL_ (some 16) rfl rfl Try.func21 (by kernel_rfl) rfl #[.agg #[.slice A0_0 l0_0.length c0_0, .slice A0_1 l0_1.length c0_1], .agg #[.int .i64 a1_0, .int .i64 a1_1]] rfl za ?_; (with_reducible refine (wear_has.calls _ _ l0_0 _ _ l0_1 a1_0 a1_1 true _ ?side1 ?side2 ?side3 ?side4 A5.out).mono ?_); (case side1 => exact zl HR0_0 HB); (case side2 => exact HC0_0.out); (case side3 => exact zl HR0_1 HB); (case side4 => exact HC0_1.out); rintro e w18 ⟨rfl, hb⟩; refine ⟨_, rfl, ?_⟩; have n0_ := zD BK156 hb; have n1_ := zD BK157 hb; have n2_ := zD BK158 hb; have n3_ := zY HB hb; clear BK156; clear BK157; clear BK158; clear HB; have BK156 := n0_; have BK157 := n1_; have BK158 := n2_; have HB := n3_; clear n0_ n1_ n2_ n3_; (try clear hb); (try clear hb2); (try clear hk); (try clear hi); obtain ⟨hcz19_0, hcz19_1, hcz19_2, hcz19_3, hcz19_4, hcz19_5, hfz19_0, hfz19_1, hfz19_2, hfz19_3, hfz19_4, hfz19_5⟩ := zk6 BK156; obtain ⟨hcz20_0, hcz20_1, hfz20_0, hfz20_1⟩ := zk2 BK157) | ((with_reducible refine gate_callee (f := 33) rfl ?_); refine goesL_ (some 21) rfl rfl Try.func33 (by kernel_rfl) rfl #[.agg #[.slice A0_0 l0_0.length c0_0, .slice A0_1 l0_1.length c0_1, .int .i64 a0_2, .int .i64 a0_3, .int .i64 a0_4, .slice A0_5 l0_5.length c0_5], .agg #[.int .i64 a1_0, .int .i64 a1_1]] rfl za ?_; (with_reducible refine (wear_bounds.calls k _ _ l0_0 _ _ l0_1 a0_2 a0_3 a0_4 _ _ l0_5 a1_0 a1_1 t161 t162 _ ?side1 ?side2 ?side3 ?side4 ?side5 ?side6 A7.out).mono ?_); (case side1 => exact zl HR0_0 HB); (case side2 => exact HC0_0.out); (case side3 => exact zl HR0_1 HB); (case side4 => exact HC0_1.out); (case side5 => exact zl HR0_5 HB); (case side6 => exact HC0_5.out); rintro e w21 ⟨rfl, hb⟩; refine ⟨_, rfl, ?_⟩; have n0_ := zD BK156 hb; have n1_ := zD BK157 hb; have n2_ := zD BK158 hb; have n3_ := zY HB hb; clear BK156; clear BK157; clear BK158; clear HB; have BK156 := n0_; have BK157 := n1_; have BK158 := n2_; have HB := n3_; clear n0_ n1_ n2_ n3_; (try clear hb); (try clear hb2); (try clear hk); (try clear hi); obtain ⟨hcz22_0, hcz22_1, hfz22_0, hfz22_1⟩ := zk2 BK158))
   refine bodyPost_ret (results_ct rfl _ _ gb158 27 #[.int .i64 t161, .int .i64 t162] (0, 0) _ rfl (by refine zQ ?_; refine blk_put (cs := #[.int .i64 t161, .int .i64 0]) ?_ 1 _ rfl; refine zQ ?_; refine blk_put (cs := #[.int .i64 0, .int .i64 0]) ?_ 0 _ rfl; (with_reducible repeat (first | refine blk_drewN ?_ _ | refine blk_drew ?_ | refine blk_alloc ?_ _)); exact BK158.out) Try.underlying27 rfl (by kernel_rfl)) rfl ?_
   exact ⟨ze, zw HB⟩
  replace c6 := Bool.eq_false_iff.mpr c6
  subst c6
  have H1 : (some (0, 0, 7)) = some (r1, r2, r3) := by rw [if_neg (show ¬ (false = true) by decide)] at H; exact H
  clear H
  have H := H1
  clear H1
  simp only [Option.some.injEq, Prod.mk.injEq] at H
  obtain ⟨rfl, rfl, rfl⟩ := H
  go_enter Try.func13, Try.ntmps13
  go_wp2_with (first | ((with_reducible refine gate_dst (N := 2) rfl ?_); refine zx 2 #[.slice A0_0 l0_0.length c0_0, .slice A0_1 l0_1.length c0_1, .int .i64 a0_2, .int .i64 a0_3, .int .i64 a0_4, .slice A0_5 l0_5.length c0_5] 30 ?_; intro gb156 hg w23 hbox hb; have n0_ := zY HB hb; have n1_ := Aside0.mk (hbox); have n2_ := zS hg HB; have n3_ := zS hg HB; clear HB; have HB := n0_; have BK156 := n1_; have GW156 := n2_; have GE156 := n3_; clear n0_ n1_ n2_ n3_; clear hb hbox hg) | ((with_reducible refine gate_dst (N := 3) rfl ?_); refine zx 3 #[.int .i64 a1_0, .int .i64 a1_1] 32 ?_; intro gb157 hg w24 hbox hb; have n0_ := zD BK156 hb; have n1_ := zY HB hb; have n2_ := Aside0.mk (hbox); have n3_ := zS hg HB; have n4_ := zS hg HB; have n5_ := zN hg BK156; have n6_ := zM hg BK156; clear BK156; clear HB; have BK156 := n0_; have HB := n1_; have BK157 := n2_; have GW157 := n3_; have GE157 := n4_; have NB156_157 := n5_; have NB157_156 := n6_; clear n0_ n1_ n2_ n3_ n4_ n5_ n6_; clear hb hbox hg) | ((with_reducible refine gate_dst (N := 4) rfl ?_); refine zx 4 #[.int .i64 0, .int .i64 0] 27 ?_; intro gb158 hg w25 hbox hb; have n0_ := zD BK156 hb; have n1_ := zD BK157 hb; have n2_ := zY HB hb; have n3_ := Aside0.mk (hbox); have n4_ := zS hg HB; have n5_ := zS hg HB; have n6_ := zN hg BK156; have n7_ := zM hg BK156; have n8_ := zN hg BK157; have n9_ := zM hg BK157; clear BK156; clear BK157; clear HB; have BK156 := n0_; have BK157 := n1_; have HB := n2_; have BK158 := n3_; have GW158 := n4_; have GE158 := n5_; have NB156_158 := n6_; have NB158_156 := n7_; have NB157_158 := n8_; have NB158_157 := n9_; clear n0_ n1_ n2_ n3_ n4_ n5_ n6_ n7_ n8_ n9_; clear hb hbox hg; have hnb26 := NB156_157.out; have hnc26 := NB157_156.out; have hnb27 := NB156_158.out; have hnc27 := NB158_156.out; obtain ⟨hcz28_0, hcz28_1, hcz28_2, hcz28_3, hcz28_4, hcz28_5, hfz28_0, hfz28_1, hfz28_2, hfz28_3, hfz28_4, hfz28_5⟩ := zk6 BK156) | ((with_reducible refine gate_callee (f := 15) rfl ?_); refine goesL_ (some 8) rfl rfl Try.func15 (by kernel_rfl) rfl #[.agg #[.slice A0_0 l0_0.length c0_0, .slice A0_1 l0_1.length c0_1, .int .i64 a0_2, .int .i64 a0_3, .int .i64 a0_4, .slice A0_5 l0_5.length c0_5]] rfl za ?_; (with_reducible refine (wear_Check.calls k _ _ l0_0 _ _ l0_1 a0_2 a0_3 a0_4 _ _ l0_5 t159 _ ?side1 ?side2 ?side3 ?side4 ?side5 ?side6 A3.out).mono ?_); (case side1 => exact zl HR0_0 HB); (case side2 => exact HC0_0.out); (case side3 => exact zl HR0_1 HB); (case side4 => exact HC0_1.out); (case side5 => exact zl HR0_5 HB); (case side6 => exact HC0_5.out); rintro e w29 ⟨rfl, hb⟩; refine ⟨_, rfl, ?_⟩; have n0_ := zD BK156 hb; have n1_ := zD BK157 hb; have n2_ := zD BK158 hb; have n3_ := zY HB hb; clear BK156; clear BK157; clear BK158; clear HB; have BK156 := n0_; have BK157 := n1_; have BK158 := n2_; have HB := n3_; clear n0_ n1_ n2_ n3_; (try clear hb); (try clear hb2); (try clear hk); (try clear hi); obtain ⟨hcz30_0, hcz30_1, hcz30_2, hcz30_3, hcz30_4, hcz30_5, hfz30_0, hfz30_1, hfz30_2, hfz30_3, hfz30_4, hfz30_5⟩ := zk6 BK156; have hnb31 := NB157_158.out; have hnc31 := NB158_157.out; obtain ⟨hcz32_0, hcz32_1, hfz32_0, hfz32_1⟩ := zk2 BK157) | ((with_reducible refine gate_callee (f := 21) rfl ?_); refine goesL_ (some 16) rfl rfl Try.func21 (by kernel_rfl) rfl #[.agg #[.slice A0_0 l0_0.length c0_0, .slice A0_1 l0_1.length c0_1], .agg #[.int .i64 a1_0, .int .i64 a1_1]] rfl za ?_; (with_reducible refine (wear_has.calls _ _ l0_0 _ _ l0_1 a1_0 a1_1 false _ ?side1 ?side2 ?side3 ?side4 A5.out).mono ?_); (case side1 => exact zl HR0_0 HB); (case side2 => exact HC0_0.out); (case side3 => exact zl HR0_1 HB); (case side4 => exact HC0_1.out); rintro e w33 ⟨rfl, hb⟩; refine ⟨_, rfl, ?_⟩; have n0_ := zD BK156 hb; have n1_ := zD BK157 hb; have n2_ := zD BK158 hb; have n3_ := zY HB hb; clear BK156; clear BK157; clear BK158; clear HB; have BK156 := n0_; have BK157 := n1_; have BK158 := n2_; have HB := n3_; clear n0_ n1_ n2_ n3_; (try clear hb); (try clear hb2); (try clear hk); (try clear hi); obtain ⟨hcz34_0, hcz34_1, hfz34_0, hfz34_1⟩ := zk2 BK158))
  refine bodyPost_ret (results_ct rfl _ _ gb158 27 #[.int .i64 0, .int .i64 0] (0, 0) _ rfl (by refine zQ ?_; refine blk_put (cs := #[.int .i64 0, .int .i64 0]) ?_ 1 _ rfl; refine zQ ?_; refine blk_put (cs := #[.int .i64 0, .int .i64 0]) ?_ 0 _ rfl; (with_reducible repeat (first | refine blk_drewN ?_ _ | refine blk_drew ?_ | refine blk_alloc ?_ _)); exact BK158.out) Try.underlying27 rfl (by kernel_rfl)) rfl ?_
  exact ⟨ze, zw HB⟩
 rw [if_neg c4] at H
 have c4b0 : (t159 == 0) = false := beq_eq_false_iff_ne.mpr c4
 have c4b1 : (t159 != 0) = true := bne_iff_ne.mpr c4
 simp only [Option.some.injEq, Prod.mk.injEq] at H
 obtain ⟨rfl, rfl, rfl⟩ := H
 go_enter Try.func13, Try.ntmps13
 go_wp2_with (first | ((with_reducible refine gate_dst (N := 2) rfl ?_); refine zx 2 #[.slice A0_0 l0_0.length c0_0, .slice A0_1 l0_1.length c0_1, .int .i64 a0_2, .int .i64 a0_3, .int .i64 a0_4, .slice A0_5 l0_5.length c0_5] 30 ?_; intro gb156 hg w35 hbox hb; have n0_ := zY HB hb; have n1_ := Aside0.mk (hbox); have n2_ := zS hg HB; have n3_ := zS hg HB; clear HB; have HB := n0_; have BK156 := n1_; have GW156 := n2_; have GE156 := n3_; clear n0_ n1_ n2_ n3_; clear hb hbox hg) | ((with_reducible refine gate_dst (N := 3) rfl ?_); refine zx 3 #[.int .i64 a1_0, .int .i64 a1_1] 32 ?_; intro gb157 hg w36 hbox hb; have n0_ := zD BK156 hb; have n1_ := zY HB hb; have n2_ := Aside0.mk (hbox); have n3_ := zS hg HB; have n4_ := zS hg HB; have n5_ := zN hg BK156; have n6_ := zM hg BK156; clear BK156; clear HB; have BK156 := n0_; have HB := n1_; have BK157 := n2_; have GW157 := n3_; have GE157 := n4_; have NB156_157 := n5_; have NB157_156 := n6_; clear n0_ n1_ n2_ n3_ n4_ n5_ n6_; clear hb hbox hg) | ((with_reducible refine gate_dst (N := 4) rfl ?_); refine zx 4 #[.int .i64 0, .int .i64 0] 27 ?_; intro gb158 hg w37 hbox hb; have n0_ := zD BK156 hb; have n1_ := zD BK157 hb; have n2_ := zY HB hb; have n3_ := Aside0.mk (hbox); have n4_ := zS hg HB; have n5_ := zS hg HB; have n6_ := zN hg BK156; have n7_ := zM hg BK156; have n8_ := zN hg BK157; have n9_ := zM hg BK157; clear BK156; clear BK157; clear HB; have BK156 := n0_; have BK157 := n1_; have HB := n2_; have BK158 := n3_; have GW158 := n4_; have GE158 := n5_; have NB156_158 := n6_; have NB158_156 := n7_; have NB157_158 := n8_; have NB158_157 := n9_; clear n0_ n1_ n2_ n3_ n4_ n5_ n6_ n7_ n8_ n9_; clear hb hbox hg; have hnb38 := NB156_157.out; have hnc38 := NB157_156.out; have hnb39 := NB156_158.out; have hnc39 := NB158_156.out; obtain ⟨hcz40_0, hcz40_1, hcz40_2, hcz40_3, hcz40_4, hcz40_5, hfz40_0, hfz40_1, hfz40_2, hfz40_3, hfz40_4, hfz40_5⟩ := zk6 BK156) | ((with_reducible refine gate_callee (f := 15) rfl ?_); refine goesL_ (some 8) rfl rfl Try.func15 (by kernel_rfl) rfl #[.agg #[.slice A0_0 l0_0.length c0_0, .slice A0_1 l0_1.length c0_1, .int .i64 a0_2, .int .i64 a0_3, .int .i64 a0_4, .slice A0_5 l0_5.length c0_5]] rfl za ?_; (with_reducible refine (wear_Check.calls k _ _ l0_0 _ _ l0_1 a0_2 a0_3 a0_4 _ _ l0_5 t159 _ ?side1 ?side2 ?side3 ?side4 ?side5 ?side6 A3.out).mono ?_); (case side1 => exact zl HR0_0 HB); (case side2 => exact HC0_0.out); (case side3 => exact zl HR0_1 HB); (case side4 => exact HC0_1.out); (case side5 => exact zl HR0_5 HB); (case side6 => exact HC0_5.out); rintro e w41 ⟨rfl, hb⟩; refine ⟨_, rfl, ?_⟩; have n0_ := zD BK156 hb; have n1_ := zD BK157 hb; have n2_ := zD BK158 hb; have n3_ := zY HB hb; clear BK156; clear BK157; clear BK158; clear HB; have BK156 := n0_; have BK157 := n1_; have BK158 := n2_; have HB := n3_; clear n0_ n1_ n2_ n3_; (try clear hb); (try clear hb2); (try clear hk); (try clear hi); have hnb42 := NB158_157.out; have hnc42 := NB157_158.out; obtain ⟨hcz43_0, hcz43_1, hfz43_0, hfz43_1⟩ := zk2 BK158))
 refine bodyPost_ret (results_ct rfl _ _ gb158 27 #[.int .i64 0, .int .i64 0] (0, 0) _ rfl (by refine zQ ?_; refine blk_put (cs := #[.int .i64 0, .int .i64 0]) ?_ 1 _ rfl; refine zQ ?_; refine blk_put (cs := #[.int .i64 0, .int .i64 0]) ?_ 0 _ rfl; (with_reducible repeat (first | refine blk_drewN ?_ _ | refine blk_drew ?_ | refine blk_alloc ?_ _)); exact BK158.out) Try.underlying27 rfl (by kernel_rfl)) rfl ?_
 exact ⟨ze, zw HB⟩
def thatchlaw07_Example.f  : Option ((List (S32)) × (List (S55)) × Int × Int × Int × (List (S67))) := some ((([(⟨0, 0⟩ : S32), (⟨20, 0⟩ : S32), (⟨20, 10⟩ : S32), (⟨0, 10⟩ : S32)] : List (S32))), (([(⟨(⟨5, 2⟩ : S32), (⟨9, 6⟩ : S32)⟩ : S55)] : List (S55))), 2, 100, 300, (([(⟨(⟨0, 0⟩ : S32), (⟨180, 200⟩ : S27)⟩ : S67)] : List (S67))))
set_option maxHeartbeats 8000000 in
set_option maxRecDepth 100000 in
theorem thatchlaw07_Example.calls  (r1 : List (S32)) (r2 : List (S55)) (r3 : Int) (r4 : Int) (r5 : Int) (r6 : List (S67)) (w : World) (h : thatchlaw07_Example.f  = some (r1, r2, r3, r4, r5, r6)) :
  Calls Try.prog 19 #[] w fun e w' => ∃ v0_ v1_ v5_ : Value, e = .returned (.agg #[v0_, v1_, .int .i64 r3, .int .i64 r4, .int .i64 r5, v5_]) ∧ Kd.R k32 32 w' w.heap.size (fun _ => True) v0_ r1 ∧ Kd.R k55 55 w' w.heap.size (fun _ => True) v1_ r2 ∧ Kd.R k67 67 w' w.heap.size (fun _ => True) v5_ r6 ∧ Below w.heap.size w w' := by
 have hu30 := Try.underlying30
 have hu32 := Try.underlying32
 have hu55 := Try.underlying55
 have hu25 := Try.underlying25
 have hu27 := Try.underlying27
 have hu67 := Try.underlying67
 have HB := Aside0.mk (Below.refl w.heap.size w)
 have H : (some ((([(⟨0, 0⟩ : S32), (⟨20, 0⟩ : S32), (⟨20, 10⟩ : S32), (⟨0, 10⟩ : S32)] : List (S32))), (([(⟨(⟨5, 2⟩ : S32), (⟨9, 6⟩ : S32)⟩ : S55)] : List (S55))), 2, 100, 300, (([(⟨(⟨0, 0⟩ : S32), (⟨180, 200⟩ : S27)⟩ : S67)] : List (S67))))) = some (r1, r2, r3, r4, r5, r6) := h
 clear h
 obtain ⟨y164, hy164⟩ : ∃ y_ : List (S32), y_ = (([(⟨0, 0⟩ : S32), (⟨20, 0⟩ : S32), (⟨20, 10⟩ : S32), (⟨0, 10⟩ : S32)] : List (S32))) := ⟨_, rfl⟩
 replace H : (some (y164, (([(⟨(⟨5, 2⟩ : S32), (⟨9, 6⟩ : S32)⟩ : S55)] : List (S55))), 2, 100, 300, (([(⟨(⟨0, 0⟩ : S32), (⟨180, 200⟩ : S27)⟩ : S67)] : List (S67))))) = some (r1, r2, r3, r4, r5, r6) := by first | (rw [hy164]; with_reducible exact H) | (have H2_ := (Option.bind_some _ _).symm.trans H; rw [hy164]; with_reducible exact H2_) | (have H2_ := (Option.bind_some _ _).symm.trans H; with_reducible exact H2_) | with_reducible exact H | (rw [hy164]; exact H) | exact H
 have Ny164 := Aside0.mk hy164
 clear hy164
 obtain ⟨y167, hy167⟩ : ∃ y_ : List (S55), y_ = (([(⟨(⟨5, 2⟩ : S32), (⟨9, 6⟩ : S32)⟩ : S55)] : List (S55))) := ⟨_, rfl⟩
 replace H : (some (y164, y167, 2, 100, 300, (([(⟨(⟨0, 0⟩ : S32), (⟨180, 200⟩ : S27)⟩ : S67)] : List (S67))))) = some (r1, r2, r3, r4, r5, r6) := by first | (rw [hy167]; with_reducible exact H) | (have H2_ := (Option.bind_some _ _).symm.trans H; rw [hy167]; with_reducible exact H2_) | (have H2_ := (Option.bind_some _ _).symm.trans H; with_reducible exact H2_) | with_reducible exact H | (rw [hy167]; exact H) | exact H
 have Ny167 := Aside0.mk hy167
 clear hy167
 obtain ⟨y170, hy170⟩ : ∃ y_ : List (S67), y_ = (([(⟨(⟨0, 0⟩ : S32), (⟨180, 200⟩ : S27)⟩ : S67)] : List (S67))) := ⟨_, rfl⟩
 replace H : (some (y164, y167, 2, 100, 300, y170)) = some (r1, r2, r3, r4, r5, r6) := by first | (rw [hy170]; with_reducible exact H) | (have H2_ := (Option.bind_some _ _).symm.trans H; rw [hy170]; with_reducible exact H2_) | (have H2_ := (Option.bind_some _ _).symm.trans H; with_reducible exact H2_) | with_reducible exact H | (rw [hy170]; exact H) | exact H
 have Ny170 := Aside0.mk hy170
 clear hy170
 simp only [Option.some.injEq, Prod.mk.injEq] at H
 obtain ⟨rfl, rfl, rfl, rfl, rfl, rfl⟩ := H
 go_enter Try.func19, Try.ntmps19
 go_wp2_with (first | ((with_reducible refine gate_dst (N := 0) rfl ?_); refine zx 0 #[.slice none 0 0, .slice none 0 0, .int .i64 0, .int .i64 0, .int .i64 0, .slice none 0 0] 30 ?_; intro gb163 hg w1 hbox hb; have n0_ := zY HB hb; have n1_ := Aside0.mk (hbox); have n2_ := zS hg HB; have n3_ := zS hg HB; clear HB; have HB := n0_; have BK163 := n1_; have GW163 := n2_; have GE163 := n3_; clear n0_ n1_ n2_ n3_; clear hb hbox hg) | ((with_reducible refine gate_dst (N := 5) rfl ?_); refine Kd.R_lit k32 _ 32 ?hg (N := 5) ?hd (xs := ([(⟨0, 0⟩ : S32), (⟨20, 0⟩ : S32), (⟨20, 10⟩ : S32), (⟨0, 10⟩ : S32)] : List (S32))) (inner := [.int .i64 0, .int .i64 0, .int .i64 20, .int .i64 0, .int .i64 20, .int .i64 10, .int .i64 0, .int .i64 10]) (ok := fun _ => True) (okp := fun _ => True) ?hr ?hp (fun _ hk => hk) trivial (Below.refl _ _) (Nat.le_refl _) (by simp) ?_; (case hd => rfl); (case hg => rfl); (case hr => first | (go_simp; done) | (go_simp; rfl)); (case hp => exact (Reps.c2 (show Kd.M k32 _ _ _ (⟨0, 0⟩ : S32) [.int .i64 0, .int .i64 0] from (k32_mkM _ _ _ (⟨0, 0⟩ : S32) )) (Reps.c2 (show Kd.M k32 _ _ _ (⟨20, 0⟩ : S32) [.int .i64 20, .int .i64 0] from (k32_mkM _ _ _ (⟨20, 0⟩ : S32) )) (Reps.c2 (show Kd.M k32 _ _ _ (⟨20, 10⟩ : S32) [.int .i64 20, .int .i64 10] from (k32_mkM _ _ _ (⟨20, 10⟩ : S32) )) (Reps.c2 (show Kd.M k32 _ _ _ (⟨0, 10⟩ : S32) [.int .i64 0, .int .i64 10] from (k32_mkM _ _ _ (⟨0, 10⟩ : S32) )) (Reps.none _ _)))))); intro v165 w2 ho3 hb hg_ hnew_; clear hg_ hnew_; (first | rw [← Ny164.out] at ho3 | (simp only [Int.reduceToNat] at ho3; rw [← Ny164.out] at ho3)); have n0_ := Aside0.mk (Kd.R_lower ho3 (below_size (zw HB))); have n1_ := zD BK163 hb; have n2_ := zY HB hb; clear BK163; clear HB; have HO166 := n0_; have BK163 := n1_; have HB := n2_; clear n0_ n1_ n2_; clear hb ho3) | ((with_reducible refine gate_dst (N := 9) rfl ?_); refine Kd.R_lit k55 _ 55 ?hg (N := 9) ?hd (xs := ([(⟨(⟨5, 2⟩ : S32), (⟨9, 6⟩ : S32)⟩ : S55)] : List (S55))) (inner := [.int .i64 5, .int .i64 2, .int .i64 9, .int .i64 6]) (ok := fun _ => True) (okp := fun _ => True) ?hr ?hp (fun _ hk => hk) trivial (Below.refl _ _) (Nat.le_refl _) (by simp) ?_; (case hd => rfl); (case hg => rfl); (case hr => first | (go_simp; done) | (go_simp; rfl)); (case hp => exact (Reps.c4 (show Kd.M k55 _ _ _ (⟨(⟨5, 2⟩ : S32), (⟨9, 6⟩ : S32)⟩ : S55) [.int .i64 5, .int .i64 2, .int .i64 9, .int .i64 6] from (k55_mkM _ _ _ (⟨(⟨5, 2⟩ : S32), (⟨9, 6⟩ : S32)⟩ : S55) )) (Reps.none _ _))); intro v168 w4 ho5 hb hg_ hnew_; clear hg_ hnew_; (first | rw [← Ny167.out] at ho5 | (simp only [Int.reduceToNat] at ho5; rw [← Ny167.out] at ho5)); have n0_ := Aside0.mk (Kd.R_below (zt HO166) hb); have n1_ := Aside0.mk (Kd.R_lower ho5 (below_size (zw HB))); have n2_ := zD BK163 hb; have n3_ := zY HB hb; clear HO166; clear BK163; clear HB; have HO166 := n0_; have HO169 := n1_; have BK163 := n2_; have HB := n3_; clear n0_ n1_ n2_ n3_; clear hb ho5; obtain ⟨Ao6, co6, eo6⟩ := Kd.R_slice HO169.out; subst eo6; obtain ⟨Ao7, co7, eo7⟩ := Kd.R_slice HO166.out; subst eo7) | ((with_reducible refine gate_dst (N := 14) rfl ?_); refine Kd.R_lit k67 _ 67 ?hg (N := 14) ?hd (xs := ([(⟨(⟨0, 0⟩ : S32), (⟨180, 200⟩ : S27)⟩ : S67)] : List (S67))) (inner := [.int .i64 0, .int .i64 0, .int .i64 180, .int .i64 200]) (ok := fun _ => True) (okp := fun _ => True) ?hr ?hp (fun _ hk => hk) trivial (Below.refl _ _) (Nat.le_refl _) (by simp) ?_; (case hd => rfl); (case hg => rfl); (case hr => first | (go_simp; done) | (go_simp; rfl)); (case hp => exact (Reps.c4 (show Kd.M k67 _ _ _ (⟨(⟨0, 0⟩ : S32), (⟨180, 200⟩ : S27)⟩ : S67) [.int .i64 0, .int .i64 0, .int .i64 180, .int .i64 200] from (k67_mkM _ _ _ (⟨(⟨0, 0⟩ : S32), (⟨180, 200⟩ : S27)⟩ : S67) )) (Reps.none _ _))); intro v171 w8 ho9 hb hg_ hnew_; clear hg_ hnew_; (first | rw [← Ny170.out] at ho9 | (simp only [Int.reduceToNat] at ho9; rw [← Ny170.out] at ho9)); have n0_ := Aside0.mk (Kd.R_below (zt HO166) hb); have n1_ := Aside0.mk (Kd.R_below (zt HO169) hb); have n2_ := Aside0.mk (Kd.R_lower ho9 (below_size (zw HB))); have n3_ := zD BK163 hb; have n4_ := zY HB hb; clear HO166; clear HO169; clear BK163; clear HB; have HO166 := n0_; have HO169 := n1_; have HO172 := n2_; have BK163 := n3_; have HB := n4_; clear n0_ n1_ n2_ n3_ n4_; clear hb ho9; obtain ⟨Ao10, co10, eo10⟩ := Kd.R_slice HO172.out; subst eo10; obtain ⟨hcz11_0, hcz11_1, hcz11_2, hcz11_3, hcz11_4, hcz11_5, hfz11_0, hfz11_1, hfz11_2, hfz11_3, hfz11_4, hfz11_5⟩ := zk6 BK163))
 refine bodyPost_ret (results_cell_row rfl _ _ gb163 30 #[.slice Ao7 y164.length co7, .slice Ao6 y167.length co6, .int .i64 2, .int .i64 100, .int .i64 300, .slice Ao10 y170.length co10] (0, 0) _ rfl (by refine zQ ?_; refine blk_put (cs := #[.slice Ao7 y164.length co7, .slice Ao6 y167.length co6, .int .i64 2, .int .i64 100, .int .i64 300, .slice none 0 0]) ?_ 5 _ rfl; refine zQ ?_; refine blk_put (cs := #[.slice Ao7 y164.length co7, .slice Ao6 y167.length co6, .int .i64 2, .int .i64 100, .int .i64 0, .slice none 0 0]) ?_ 4 _ rfl; refine zQ ?_; refine blk_put (cs := #[.slice Ao7 y164.length co7, .slice Ao6 y167.length co6, .int .i64 2, .int .i64 0, .int .i64 0, .slice none 0 0]) ?_ 3 _ rfl; refine zQ ?_; refine blk_put (cs := #[.slice Ao7 y164.length co7, .slice Ao6 y167.length co6, .int .i64 0, .int .i64 0, .int .i64 0, .slice none 0 0]) ?_ 2 _ rfl; refine zQ ?_; refine blk_put (cs := #[.slice Ao7 y164.length co7, .slice none 0 0, .int .i64 0, .int .i64 0, .int .i64 0, .slice none 0 0]) ?_ 1 _ rfl; refine zQ ?_; refine blk_put (cs := #[.slice none 0 0, .slice none 0 0, .int .i64 0, .int .i64 0, .int .i64 0, .slice none 0 0]) ?_ 0 _ rfl; (with_reducible repeat (first | refine blk_drewN ?_ _ | refine blk_drew ?_ | refine blk_alloc ?_ _)); exact BK163.out) Try.underlying30 rfl (by kernel_rfl)) rfl ?_
 exact ⟨_, _, _, ze, by (with_reducible repeat (first | apply Kd.R_alloc | apply Kd.R_drewN | apply Kd.R_drew)); exact Kd.R_mono (Kd.R_far (p := ⟨gb163, 5, none⟩) (Kd.R_far (p := ⟨gb163, 4, none⟩) (Kd.R_far (p := ⟨gb163, 3, none⟩) (Kd.R_far (p := ⟨gb163, 2, none⟩) (Kd.R_far (p := ⟨gb163, 1, none⟩) (Kd.R_far (p := ⟨gb163, 0, none⟩) (Kd.R_types HO166.out BK163.out (by decide)) (fun _ hk => hk.2) (.slice Ao7 y164.length co7)) (fun _ hk => hk.2) (.slice Ao6 y167.length co6)) (fun _ hk => hk.2) (.int .i64 2)) (fun _ hk => hk.2) (.int .i64 100)) (fun _ hk => hk.2) (.int .i64 300)) (fun _ hk => hk.2) (.slice Ao10 y170.length co10)) (fun _ hk => trivial), by (with_reducible repeat (first | apply Kd.R_alloc | apply Kd.R_drewN | apply Kd.R_drew)); exact Kd.R_mono (Kd.R_far (p := ⟨gb163, 5, none⟩) (Kd.R_far (p := ⟨gb163, 4, none⟩) (Kd.R_far (p := ⟨gb163, 3, none⟩) (Kd.R_far (p := ⟨gb163, 2, none⟩) (Kd.R_far (p := ⟨gb163, 1, none⟩) (Kd.R_far (p := ⟨gb163, 0, none⟩) (Kd.R_types HO169.out BK163.out (by decide)) (fun _ hk => hk.2) (.slice Ao7 y164.length co7)) (fun _ hk => hk.2) (.slice Ao6 y167.length co6)) (fun _ hk => hk.2) (.int .i64 2)) (fun _ hk => hk.2) (.int .i64 100)) (fun _ hk => hk.2) (.int .i64 300)) (fun _ hk => hk.2) (.slice Ao10 y170.length co10)) (fun _ hk => trivial), by (with_reducible repeat (first | apply Kd.R_alloc | apply Kd.R_drewN | apply Kd.R_drew)); exact Kd.R_mono (Kd.R_far (p := ⟨gb163, 5, none⟩) (Kd.R_far (p := ⟨gb163, 4, none⟩) (Kd.R_far (p := ⟨gb163, 3, none⟩) (Kd.R_far (p := ⟨gb163, 2, none⟩) (Kd.R_far (p := ⟨gb163, 1, none⟩) (Kd.R_far (p := ⟨gb163, 0, none⟩) (Kd.R_types HO172.out BK163.out (by decide)) (fun _ hk => hk.2) (.slice Ao7 y164.length co7)) (fun _ hk => hk.2) (.slice Ao6 y167.length co6)) (fun _ hk => hk.2) (.int .i64 2)) (fun _ hk => hk.2) (.int .i64 100)) (fun _ hk => hk.2) (.int .i64 300)) (fun _ hk => hk.2) (.slice Ao10 y170.length co10)) (fun _ hk => trivial), zw HB⟩
def wear_Rate.f (a0_0 : Int) (a0_1 : Int) (a1 : Int) (a2 : Int) (a3 : Int) (a4 : Int) : Option (Int × Int × Int) := (wear_spans.f a0_0 a0_1 10000).bind fun t175 => (if t175 = true then ((wear_in.f a1 1 100).bind fun t176 => (if t176 = true then ((wear_in.f a2 1 100).bind fun t177 => (if t177 = true then ((wear_in.f a3 0 100).bind fun t178 => (if t178 = true then ((wear_in.f a4 0 100).bind fun t179 => (if t179 = true then (if (wrap64 (200 * a1)) = 0 then (none) else (if (wrap64 (20000 * a1)) = 0 then (none) else (some (wrap64 (Int.tdiv (wrap64 (a0_0 * (wrap64 ((wrap64 (100 + a3)) * (wrap64 (a1 + a2)))))) (wrap64 (200 * a1))), wrap64 (Int.tdiv (wrap64 ((wrap64 ((wrap64 ((wrap64 (a0_1 * (wrap64 ((wrap64 (100 + a3)) * (wrap64 (a1 + a2)))))) * (wrap64 (100 + a4)))) + (wrap64 (20000 * a1)))) - 1)) (wrap64 (20000 * a1))), 0)))) else (some (0, 0, 1)))) else (some (0, 0, 1)))) else (some (0, 0, 1)))) else (some (0, 0, 1)))) else (some (0, 0, 1)))
def wear_Rate.T5 : Bool × List (List Nat × List Nat) := (true, [([], []), ([0], [0]), ([1], [1]), ([], []), ([2, 3], [2, 3]), ([], []), ([5], [5]), ([4, 6], [4, 6]), ([], []), ([8], [8]), ([9], [9]), ([], []), ([10, 11], [10, 11]), ([], []), ([13], [13]), ([12, 14], [12, 14]), ([], []), ([15, 16], [15, 16]), ([17], [17]), ([], []), ([18, 19], [18, 19]), ([7, 20], [7, 20]), ([21, 0, 1, 2, 3, 4, 5, 6, 7, 8, 9, 10, 11, 12, 13, 14, 15, 16, 17, 18, 19, 20, 21], [21]), ([22, 0, 1, 2, 3, 4, 5, 6, 7, 8, 9, 10, 11, 12, 13, 14, 15, 16, 17, 18, 19, 20, 21, 22], [])])
def wear_Rate.B5 : List Nat := [0, 1, 3, 0, 15, 0, 32, 127, 0, 256, 768, 0, 3840, 0, 8192, 32512, 0, 130816, 261888, 0, 1048320, 2097151, 4194303, 8388607]
theorem wear_Rate.tab5 : rtab .any (opsOf Try.f20 5) = wear_Rate.T5 := by kernel_rfl
theorem wear_Rate.bits5 : waitsOk wear_Rate.T5.2 wear_Rate.B5 = true := by kernel_rfl
set_option maxHeartbeats 8000000 in
set_option maxRecDepth 100000 in
theorem wear_Rate.calls (a0_0 : Int) (a0_1 : Int) (a1 : Int) (a2 : Int) (a3 : Int) (a4 : Int) (r1 : Int) (r2 : Int) (r3 : Int) (w : World) (h : wear_Rate.f a0_0 a0_1 a1 a2 a3 a4 = some (r1, r2, r3)) :
  Calls Try.prog 20 #[.agg #[.int .i64 a0_0, .int .i64 a0_1], .int .i64 a1, .int .i64 a2, .int .i64 a3, .int .i64 a4] w fun e w' => e = .returned (.tuple #[.agg #[.int .i64 r1, .int .i64 r2], .int .i64 r3]) ∧ Below w.heap.size w w' := by
 have hu60 := Try.underlying60
 have hu27 := Try.underlying27
 have HB := Aside0.mk (Below.refl w.heap.size w)
 have H : ((wear_spans.f a0_0 a0_1 10000).bind fun t175 => (if t175 = true then ((wear_in.f a1 1 100).bind fun t176 => (if t176 = true then ((wear_in.f a2 1 100).bind fun t177 => (if t177 = true then ((wear_in.f a3 0 100).bind fun t178 => (if t178 = true then ((wear_in.f a4 0 100).bind fun t179 => (if t179 = true then (if (wrap64 (200 * a1)) = 0 then (none) else (if (wrap64 (20000 * a1)) = 0 then (none) else (some (wrap64 (Int.tdiv (wrap64 (a0_0 * (wrap64 ((wrap64 (100 + a3)) * (wrap64 (a1 + a2)))))) (wrap64 (200 * a1))), wrap64 (Int.tdiv (wrap64 ((wrap64 ((wrap64 ((wrap64 (a0_1 * (wrap64 ((wrap64 (100 + a3)) * (wrap64 (a1 + a2)))))) * (wrap64 (100 + a4)))) + (wrap64 (20000 * a1)))) - 1)) (wrap64 (20000 * a1))), 0)))) else (some (0, 0, 1)))) else (some (0, 0, 1)))) else (some (0, 0, 1)))) else (some (0, 0, 1)))) else (some (0, 0, 1)))) = some (r1, r2, r3) := h
 clear h
 replace H := Option.bind_eq_some_iff.mp H
 obtain ⟨t175, A60, H⟩ := H
 replace H : (if t175 = true then ((wear_in.f a1 1 100).bind fun t176 => (if t176 = true then ((wear_in.f a2 1 100).bind fun t177 => (if t177 = true then ((wear_in.f a3 0 100).bind fun t178 => (if t178 = true then ((wear_in.f a4 0 100).bind fun t179 => (if t179 = true then (if (wrap64 (200 * a1)) = 0 then (none) else (if (wrap64 (20000 * a1)) = 0 then (none) else (some (wrap64 (Int.tdiv (wrap64 (a0_0 * (wrap64 ((wrap64 (100 + a3)) * (wrap64 (a1 + a2)))))) (wrap64 (200 * a1))), wrap64 (Int.tdiv (wrap64 ((wrap64 ((wrap64 ((wrap64 (a0_1 * (wrap64 ((wrap64 (100 + a3)) * (wrap64 (a1 + a2)))))) * (wrap64 (100 + a4)))) + (wrap64 (20000 * a1)))) - 1)) (wrap64 (20000 * a1))), 0)))) else (some (0, 0, 1)))) else (some (0, 0, 1)))) else (some (0, 0, 1)))) else (some (0, 0, 1)))) else (some (0, 0, 1))) = some (r1, r2, r3) := H
 have A6 := Aside0.mk A60
 clear A60
 by_cases c7 : t175 = true
 ·subst c7
  have H1 : ((wear_in.f a1 1 100).bind fun t176 => (if t176 = true then ((wear_in.f a2 1 100).bind fun t177 => (if t177 = true then ((wear_in.f a3 0 100).bind fun t178 => (if t178 = true then ((wear_in.f a4 0 100).bind fun t179 => (if t179 = true then (if (wrap64 (200 * a1)) = 0 then (none) else (if (wrap64 (20000 * a1)) = 0 then (none) else (some (wrap64 (Int.tdiv (wrap64 (a0_0 * (wrap64 ((wrap64 (100 + a3)) * (wrap64 (a1 + a2)))))) (wrap64 (200 * a1))), wrap64 (Int.tdiv (wrap64 ((wrap64 ((wrap64 ((wrap64 (a0_1 * (wrap64 ((wrap64 (100 + a3)) * (wrap64 (a1 + a2)))))) * (wrap64 (100 + a4)))) + (wrap64 (20000 * a1)))) - 1)) (wrap64 (20000 * a1))), 0)))) else (some (0, 0, 1)))) else (some (0, 0, 1)))) else (some (0, 0, 1)))) else (some (0, 0, 1)))) = some (r1, r2, r3) := by rw [if_pos rfl] at H; exact H
  clear H
  have H := H1
  clear H1
  replace H := Option.bind_eq_some_iff.mp H
  obtain ⟨t176, A80, H⟩ := H
  replace H : (if t176 = true then ((wear_in.f a2 1 100).bind fun t177 => (if t177 = true then ((wear_in.f a3 0 100).bind fun t178 => (if t178 = true then ((wear_in.f a4 0 100).bind fun t179 => (if t179 = true then (if (wrap64 (200 * a1)) = 0 then (none) else (if (wrap64 (20000 * a1)) = 0 then (none) else (some (wrap64 (Int.tdiv (wrap64 (a0_0 * (wrap64 ((wrap64 (100 + a3)) * (wrap64 (a1 + a2)))))) (wrap64 (200 * a1))), wrap64 (Int.tdiv (wrap64 ((wrap64 ((wrap64 ((wrap64 (a0_1 * (wrap64 ((wrap64 (100 + a3)) * (wrap64 (a1 + a2)))))) * (wrap64 (100 + a4)))) + (wrap64 (20000 * a1)))) - 1)) (wrap64 (20000 * a1))), 0)))) else (some (0, 0, 1)))) else (some (0, 0, 1)))) else (some (0, 0, 1)))) else (some (0, 0, 1))) = some (r1, r2, r3) := H
  have A8 := Aside0.mk A80
  clear A80
  by_cases c9 : t176 = true
  ·subst c9
   have H1 : ((wear_in.f a2 1 100).bind fun t177 => (if t177 = true then ((wear_in.f a3 0 100).bind fun t178 => (if t178 = true then ((wear_in.f a4 0 100).bind fun t179 => (if t179 = true then (if (wrap64 (200 * a1)) = 0 then (none) else (if (wrap64 (20000 * a1)) = 0 then (none) else (some (wrap64 (Int.tdiv (wrap64 (a0_0 * (wrap64 ((wrap64 (100 + a3)) * (wrap64 (a1 + a2)))))) (wrap64 (200 * a1))), wrap64 (Int.tdiv (wrap64 ((wrap64 ((wrap64 ((wrap64 (a0_1 * (wrap64 ((wrap64 (100 + a3)) * (wrap64 (a1 + a2)))))) * (wrap64 (100 + a4)))) + (wrap64 (20000 * a1)))) - 1)) (wrap64 (20000 * a1))), 0)))) else (some (0, 0, 1)))) else (some (0, 0, 1)))) else (some (0, 0, 1)))) = some (r1, r2, r3) := by rw [if_pos rfl] at H; exact H
   clear H
   have H := H1
   clear H1
   replace H := Option.bind_eq_some_iff.mp H
   obtain ⟨t177, A100, H⟩ := H
   replace H : (if t177 = true then ((wear_in.f a3 0 100).bind fun t178 => (if t178 = true then ((wear_in.f a4 0 100).bind fun t179 => (if t179 = true then (if (wrap64 (200 * a1)) = 0 then (none) else (if (wrap64 (20000 * a1)) = 0 then (none) else (some (wrap64 (Int.tdiv (wrap64 (a0_0 * (wrap64 ((wrap64 (100 + a3)) * (wrap64 (a1 + a2)))))) (wrap64 (200 * a1))), wrap64 (Int.tdiv (wrap64 ((wrap64 ((wrap64 ((wrap64 (a0_1 * (wrap64 ((wrap64 (100 + a3)) * (wrap64 (a1 + a2)))))) * (wrap64 (100 + a4)))) + (wrap64 (20000 * a1)))) - 1)) (wrap64 (20000 * a1))), 0)))) else (some (0, 0, 1)))) else (some (0, 0, 1)))) else (some (0, 0, 1))) = some (r1, r2, r3) := H
   have A10 := Aside0.mk A100
   clear A100
   by_cases c11 : t177 = true
   ·subst c11
    have H1 : ((wear_in.f a3 0 100).bind fun t178 => (if t178 = true then ((wear_in.f a4 0 100).bind fun t179 => (if t179 = true then (if (wrap64 (200 * a1)) = 0 then (none) else (if (wrap64 (20000 * a1)) = 0 then (none) else (some (wrap64 (Int.tdiv (wrap64 (a0_0 * (wrap64 ((wrap64 (100 + a3)) * (wrap64 (a1 + a2)))))) (wrap64 (200 * a1))), wrap64 (Int.tdiv (wrap64 ((wrap64 ((wrap64 ((wrap64 (a0_1 * (wrap64 ((wrap64 (100 + a3)) * (wrap64 (a1 + a2)))))) * (wrap64 (100 + a4)))) + (wrap64 (20000 * a1)))) - 1)) (wrap64 (20000 * a1))), 0)))) else (some (0, 0, 1)))) else (some (0, 0, 1)))) = some (r1, r2, r3) := by rw [if_pos rfl] at H; exact H
    clear H
    have H := H1
    clear H1
    replace H := Option.bind_eq_some_iff.mp H
    obtain ⟨t178, A120, H⟩ := H
    replace H : (if t178 = true then ((wear_in.f a4 0 100).bind fun t179 => (if t179 = true then (if (wrap64 (200 * a1)) = 0 then (none) else (if (wrap64 (20000 * a1)) = 0 then (none) else (some (wrap64 (Int.tdiv (wrap64 (a0_0 * (wrap64 ((wrap64 (100 + a3)) * (wrap64 (a1 + a2)))))) (wrap64 (200 * a1))), wrap64 (Int.tdiv (wrap64 ((wrap64 ((wrap64 ((wrap64 (a0_1 * (wrap64 ((wrap64 (100 + a3)) * (wrap64 (a1 + a2)))))) * (wrap64 (100 + a4)))) + (wrap64 (20000 * a1)))) - 1)) (wrap64 (20000 * a1))), 0)))) else (some (0, 0, 1)))) else (some (0, 0, 1))) = some (r1, r2, r3) := H
    have A12 := Aside0.mk A120
    clear A120
    by_cases c13 : t178 = true
    ·subst c13
     have H1 : ((wear_in.f a4 0 100).bind fun t179 => (if t179 = true then (if (wrap64 (200 * a1)) = 0 then (none) else (if (wrap64 (20000 * a1)) = 0 then (none) else (some (wrap64 (Int.tdiv (wrap64 (a0_0 * (wrap64 ((wrap64 (100 + a3)) * (wrap64 (a1 + a2)))))) (wrap64 (200 * a1))), wrap64 (Int.tdiv (wrap64 ((wrap64 ((wrap64 ((wrap64 (a0_1 * (wrap64 ((wrap64 (100 + a3)) * (wrap64 (a1 + a2)))))) * (wrap64 (100 + a4)))) + (wrap64 (20000 * a1)))) - 1)) (wrap64 (20000 * a1))), 0)))) else (some (0, 0, 1)))) = some (r1, r2, r3) := by rw [if_pos rfl] at H; exact H
     clear H
     have H := H1
     clear H1
     replace H := Option.bind_eq_some_iff.mp H
     obtain ⟨t179, A140, H⟩ := H
     replace H : (if t179 = true then (if (wrap64 (200 * a1)) = 0 then (none) else (if (wrap64 (20000 * a1)) = 0 then (none) else (some (wrap64 (Int.tdiv (wrap64 (a0_0 * (wrap64 ((wrap64 (100 + a3)) * (wrap64 (a1 + a2)))))) (wrap64 (200 * a1))), wrap64 (Int.tdiv (wrap64 ((wrap64 ((wrap64 ((wrap64 (a0_1 * (wrap64 ((wrap64 (100 + a3)) * (wrap64 (a1 + a2)))))) * (wrap64 (100 + a4)))) + (wrap64 (20000 * a1)))) - 1)) (wrap64 (20000 * a1))), 0)))) else (some (0, 0, 1))) = some (r1, r2, r3) := H
     have A14 := Aside0.mk A140
     clear A140
     by_cases c15 : t179 = true
     ·subst c15
      have H1 : (if (wrap64 (200 * a1)) = 0 then (none) else (if (wrap64 (20000 * a1)) = 0 then (none) else (some (wrap64 (Int.tdiv (wrap64 (a0_0 * (wrap64 ((wrap64 (100 + a3)) * (wrap64 (a1 + a2)))))) (wrap64 (200 * a1))), wrap64 (Int.tdiv (wrap64 ((wrap64 ((wrap64 ((wrap64 (a0_1 * (wrap64 ((wrap64 (100 + a3)) * (wrap64 (a1 + a2)))))) * (wrap64 (100 + a4)))) + (wrap64 (20000 * a1)))) - 1)) (wrap64 (20000 * a1))), 0)))) = some (r1, r2, r3) := by rw [if_pos rfl] at H; exact H
      clear H
      have H := H1
      clear H1
      by_cases c16 : (wrap64 (200 * a1)) = 0
      ·rw [if_pos c16] at H
       exact absurd H (by simp)
      rw [if_neg c16] at H
      have c16b0 : ((wrap64 (200 * a1)) == 0) = false := beq_eq_false_iff_ne.mpr c16
      have c16b1 : ((wrap64 (200 * a1)) != 0) = true := bne_iff_ne.mpr c16
      by_cases c17 : (wrap64 (20000 * a1)) = 0
      ·rw [if_pos c17] at H
       exact absurd H (by simp)
      rw [if_neg c17] at H
      have c17b0 : ((wrap64 (20000 * a1)) == 0) = false := beq_eq_false_iff_ne.mpr c17
      have c17b1 : ((wrap64 (20000 * a1)) != 0) = true := bne_iff_ne.mpr c17
      simp only [Option.some.injEq, Prod.mk.injEq] at H
      obtain ⟨rfl, rfl, rfl⟩ := H
      go_enter Try.func20, Try.ntmps20
      try go_wp2_with (first | ((with_reducible refine gate_dst (N := 5) rfl ?_); refine zx 5 #[.int .i64 a0_0, .int .i64 a0_1] 60 ?_; intro gb173 hg w18 hbox hb; have n0_ := zY HB hb; have n1_ := Aside0.mk (hbox); have n2_ := zS hg HB; have n3_ := zS hg HB; clear HB; have HB := n0_; have BK173 := n1_; have GW173 := n2_; have GE173 := n3_; clear n0_ n1_ n2_ n3_; clear hb hbox hg) | ((with_reducible refine gate_dst (N := 10) rfl ?_); refine zx 10 #[.int .i64 0, .int .i64 0] 27 ?_; intro gb174 hg w19 hbox hb; have n0_ := zD BK173 hb; have n1_ := zY HB hb; have n2_ := Aside0.mk (hbox); have n3_ := zS hg HB; have n4_ := zS hg HB; have n5_ := zN hg BK173; have n6_ := zM hg BK173; clear BK173; clear HB; have BK173 := n0_; have HB := n1_; have BK174 := n2_; have GW174 := n3_; have GE174 := n4_; have NB173_174 := n5_; have NB174_173 := n6_; clear n0_ n1_ n2_ n3_ n4_ n5_ n6_; clear hb hbox hg; have hnb20 := NB173_174.out; have hnc20 := NB174_173.out; obtain ⟨hcz21_0, hcz21_1, hfz21_0, hfz21_1⟩ := zk2 BK173) | ((with_reducible refine gate_callee (f := 37) rfl ?_); refine goesL_ (some 16) rfl rfl Try.func37 (by kernel_rfl) rfl #[.agg #[.int .i64 a0_0, .int .i64 a0_1], .int .i64 10000] rfl za ?_; (with_reducible refine (wear_spans.calls a0_0 a0_1 10000 true _ A6.out).mono ?_); rintro e w22 ⟨rfl, hb⟩; refine ⟨_, rfl, ?_⟩; have n0_ := zD BK173 hb; have n1_ := zD BK174 hb; have n2_ := zY HB hb; clear BK173; clear BK174; clear HB; have BK173 := n0_; have BK174 := n1_; have HB := n2_; clear n0_ n1_ n2_; (try clear hb); (try clear hb2); (try clear hk); (try clear hi)) | (go_at_call 22; (with_reducible refine (wear_in.calls a1 1 100 true _ A8.out).mono ?_); rintro e w' ⟨rfl, ⟨nd, rfl⟩⟩; (try (rw [drewN_self w22]; generalize hq_ : World.drewN w22 _ = w22; have n0_ : Aside0 (w22.heap[gb173]? = some (.cells #[.int .i64 a0_0, .int .i64 a0_1] 60 (0, 0))) := ⟨by rw [← hq_]; exact (zb BK173)⟩; have n1_ : Aside0 (w22.heap[gb174]? = some (.cells #[.int .i64 0, .int .i64 0] 27 (0, 0))) := ⟨by rw [← hq_]; exact (zb BK174)⟩; have n2_ : Aside0 (Below w.heap.size w w22) := ⟨by rw [← hq_]; exact (zw HB)⟩; clear BK173 BK174 HB hq_; have BK173 := n0_; have BK174 := n1_; have HB := n2_; clear n0_ n1_ n2_))) | (go_at_call 22; (with_reducible refine (wear_in.calls a2 1 100 true _ A10.out).mono ?_); rintro e w' ⟨rfl, ⟨nd, rfl⟩⟩; (try (rw [drewN_self w22]; generalize hq_ : World.drewN w22 _ = w22; have n0_ : Aside0 (w22.heap[gb173]? = some (.cells #[.int .i64 a0_0, .int .i64 a0_1] 60 (0, 0))) := ⟨by rw [← hq_]; exact (zb BK173)⟩; have n1_ : Aside0 (w22.heap[gb174]? = some (.cells #[.int .i64 0, .int .i64 0] 27 (0, 0))) := ⟨by rw [← hq_]; exact (zb BK174)⟩; have n2_ : Aside0 (Below w.heap.size w w22) := ⟨by rw [← hq_]; exact (zw HB)⟩; clear BK173 BK174 HB hq_; have BK173 := n0_; have BK174 := n1_; have HB := n2_; clear n0_ n1_ n2_))) | (go_at_call 22; (with_reducible refine (wear_in.calls a3 0 100 true _ A12.out).mono ?_); rintro e w' ⟨rfl, ⟨nd, rfl⟩⟩; (try (rw [drewN_self w22]; generalize hq_ : World.drewN w22 _ = w22; have n0_ : Aside0 (w22.heap[gb173]? = some (.cells #[.int .i64 a0_0, .int .i64 a0_1] 60 (0, 0))) := ⟨by rw [← hq_]; exact (zb BK173)⟩; have n1_ : Aside0 (w22.heap[gb174]? = some (.cells #[.int .i64 0, .int .i64 0] 27 (0, 0))) := ⟨by rw [← hq_]; exact (zb BK174)⟩; have n2_ : Aside0 (Below w.heap.size w w22) := ⟨by rw [← hq_]; exact (zw HB)⟩; clear BK173 BK174 HB hq_; have BK173 := n0_; have BK174 := n1_; have HB := n2_; clear n0_ n1_ n2_))) | (go_at_call 22; (with_reducible refine (wear_in.calls a4 0 100 true _ A14.out).mono ?_); rintro e w' ⟨rfl, ⟨nd, rfl⟩⟩; (try (rw [drewN_self w22]; generalize hq_ : World.drewN w22 _ = w22; have n0_ : Aside0 (w22.heap[gb173]? = some (.cells #[.int .i64 a0_0, .int .i64 a0_1] 60 (0, 0))) := ⟨by rw [← hq_]; exact (zb BK173)⟩; have n1_ : Aside0 (w22.heap[gb174]? = some (.cells #[.int .i64 0, .int .i64 0] 27 (0, 0))) := ⟨by rw [← hq_]; exact (zb BK174)⟩; have n2_ : Aside0 (Below w.heap.size w w22) := ⟨by rw [← hq_]; exact (zw HB)⟩; clear BK173 BK174 HB hq_; have BK173 := n0_; have BK174 := n1_; have HB := n2_; clear n0_ n1_ n2_))))
      have n0_ := Aside0.mk (blk_drew BK173.out)
      have n1_ := Aside0.mk (blk_drew BK174.out)
      have n2_ := Aside0.mk (below_drew1 HB.out)
      clear BK173; clear BK174; clear HB
      have BK173 := n0_
      have BK174 := n1_
      have HB := n2_
      clear n0_ n1_ n2_
      refine start_ (n := 24) (S := fun w' => w'.cell? ⟨gb173, 0, none⟩ = some (.int .i64 a0_0) ∧ w'.cell? ⟨gb173, 1, none⟩ = some (.int .i64 a0_1)) (ds := []) #[Z0, Z0, Z0, Z0, Z0, Z0, Z0, Z0, Z0, Z0, Z0, Z0, Z0, Z0, Z0, Z0, Z0, Z0, Z0, Z0, Z0, Z0, Z0, Z0] (by kernel_rfl) rfl rfl ⟨(blk_cell BK173.out 0).trans rfl, (blk_cell BK173.out 1).trans rfl⟩ (fun hHeld => ?_); refine with_tabW wear_Rate.tab5 wear_Rate.bits5 (fun HT_ HW_ => ?_)
      generalize w22.drew = w23 at BK173 BK174 HB hHeld ⊢
      refine zp 0 (some 47) #[Z1, Z0, Z0, Z0, Z0, Z0, Z0, Z0, Z0, Z0, Z0, Z0, Z0, Z0, Z0, Z0, Z0, Z0, Z0, Z0, Z0, Z0, Z0, Z0] rfl rfl (any_of HT_.out (by kernel_rfl)) ?_
      refine zp 1 (some 48) #[Z1, Z1, Z0, Z0, Z0, Z0, Z0, Z0, Z0, Z0, Z0, Z0, Z0, Z0, Z0, Z0, Z0, Z0, Z0, Z0, Z0, Z0, Z0, Z0] rfl rfl (any_of HT_.out (by kernel_rfl)) ?_
      refine zp 3 (some 50) #[Z1, Z1, Z0, Z1, Z0, Z0, Z0, Z0, Z0, Z0, Z0, Z0, Z0, Z0, Z0, Z0, Z0, Z0, Z0, Z0, Z0, Z0, Z0, Z0] rfl rfl (any_of HT_.out (by kernel_rfl)) ?_
      refine zp 5 (some 52) #[Z1, Z1, Z0, Z1, Z0, Z1, Z0, Z0, Z0, Z0, Z0, Z0, Z0, Z0, Z0, Z0, Z0, Z0, Z0, Z0, Z0, Z0, Z0, Z0] rfl rfl (any_of HT_.out (by kernel_rfl)) ?_
      refine zp 6 (some 53) #[Z1, Z1, Z0, Z1, Z0, Z1, Z1, Z0, Z0, Z0, Z0, Z0, Z0, Z0, Z0, Z0, Z0, Z0, Z0, Z0, Z0, Z0, Z0, Z0] rfl rfl (any_of HT_.out (by kernel_rfl)) ?_
      refine zp 8 (some 55) #[Z1, Z1, Z0, Z1, Z0, Z1, Z1, Z0, Z1, Z0, Z0, Z0, Z0, Z0, Z0, Z0, Z0, Z0, Z0, Z0, Z0, Z0, Z0, Z0] rfl rfl (any_of HT_.out (by kernel_rfl)) ?_
      refine zp 9 (some 56) #[Z1, Z1, Z0, Z1, Z0, Z1, Z1, Z0, Z1, Z1, Z0, Z0, Z0, Z0, Z0, Z0, Z0, Z0, Z0, Z0, Z0, Z0, Z0, Z0] rfl rfl (any_of HT_.out (by kernel_rfl)) ?_
      refine zp 11 (some 58) #[Z1, Z1, Z0, Z1, Z0, Z1, Z1, Z0, Z1, Z1, Z0, Z1, Z0, Z0, Z0, Z0, Z0, Z0, Z0, Z0, Z0, Z0, Z0, Z0] rfl rfl (any_of HT_.out (by kernel_rfl)) ?_
      refine zp 13 (some 60) #[Z1, Z1, Z0, Z1, Z0, Z1, Z1, Z0, Z1, Z1, Z0, Z1, Z0, Z1, Z0, Z0, Z0, Z0, Z0, Z0, Z0, Z0, Z0, Z0] rfl rfl (any_of HT_.out (by kernel_rfl)) ?_
      refine zp 14 (some 61) #[Z1, Z1, Z0, Z1, Z0, Z1, Z1, Z0, Z1, Z1, Z0, Z1, Z0, Z1, Z1, Z0, Z0, Z0, Z0, Z0, Z0, Z0, Z0, Z0] rfl rfl (any_of HT_.out (by kernel_rfl)) ?_
      refine zp 16 (some 63) #[Z1, Z1, Z0, Z1, Z0, Z1, Z1, Z0, Z1, Z1, Z0, Z1, Z0, Z1, Z1, Z0, Z1, Z0, Z0, Z0, Z0, Z0, Z0, Z0] rfl rfl (any_of HT_.out (by kernel_rfl)) ?_
      refine zp 19 (some 66) #[Z1, Z1, Z0, Z1, Z0, Z1, Z1, Z0, Z1, Z1, Z0, Z1, Z0, Z1, Z1, Z0, Z1, Z0, Z0, Z1, Z0, Z0, Z0, Z0] rfl rfl (any_of HT_.out (by kernel_rfl)) ?_
      refine take_ (i := 2) (N := some 49) (v := ?_) (a' := ?_) #[Z1, Z1, Z1, Z1, Z0, Z1, Z1, Z0, Z1, Z1, Z0, Z1, Z0, Z1, Z1, Z0, Z1, Z0, Z0, Z1, Z0, Z0, Z0, Z0] rfl rfl (take_ofW HT_.out HW_.out (by kernel_rfl)) (fun _ _ _ h => h) (Or.inl ⟨by rfl, ?_⟩) hHeld ?_ ?_
      rotate_left; · rintro w' ⟨s0, s1⟩; go_simp; with_reducible rfl
      rotate_left; · simp only [Act.put, List.setIfInBounds_toArray, List.set_cons_zero, List.set_cons_succ, i64_w, i32_w]; rfl
      refine zp 4 (some 51) #[Z1, Z1, Z1, Z1, Z1, Z1, Z1, Z0, Z1, Z1, Z0, Z1, Z0, Z1, Z1, Z0, Z1, Z0, Z0, Z1, Z0, Z0, Z0, Z0] rfl rfl (any_of HT_.out (by kernel_rfl)) ?_
      refine zp 7 (some 54) #[Z1, Z1, Z1, Z1, Z1, Z1, Z1, Z1, Z1, Z1, Z0, Z1, Z0, Z1, Z1, Z0, Z1, Z0, Z0, Z1, Z0, Z0, Z0, Z0] rfl rfl (any_of HT_.out (by kernel_rfl)) ?_
      refine take_ (i := 10) (N := some 57) (v := ?_) (a' := ?_) #[Z1, Z1, Z1, Z1, Z1, Z1, Z1, Z1, Z1, Z1, Z1, Z1, Z0, Z1, Z1, Z0, Z1, Z0, Z0, Z1, Z0, Z0, Z0, Z0] rfl rfl (take_ofW HT_.out HW_.out (by kernel_rfl)) (fun _ _ _ h => h) (Or.inl ⟨by rfl, ?_⟩) hHeld ?_ ?_
      rotate_left; · rintro w' ⟨s0, s1⟩; go_simp; with_reducible rfl
      rotate_left; · simp only [Act.put, List.setIfInBounds_toArray, List.set_cons_zero, List.set_cons_succ, i64_w, i32_w]; rfl
      refine zp 12 (some 59) #[Z1, Z1, Z1, Z1, Z1, Z1, Z1, Z1, Z1, Z1, Z1, Z1, Z1, Z1, Z1, Z0, Z1, Z0, Z0, Z1, Z0, Z0, Z0, Z0] rfl rfl (any_of HT_.out (by kernel_rfl)) ?_
      refine zp 15 (some 62) #[Z1, Z1, Z1, Z1, Z1, Z1, Z1, Z1, Z1, Z1, Z1, Z1, Z1, Z1, Z1, Z1, Z1, Z0, Z0, Z1, Z0, Z0, Z0, Z0] rfl rfl (any_of HT_.out (by kernel_rfl)) ?_
      refine zp 17 (some 64) #[Z1, Z1, Z1, Z1, Z1, Z1, Z1, Z1, Z1, Z1, Z1, Z1, Z1, Z1, Z1, Z1, Z1, Z1, Z0, Z1, Z0, Z0, Z0, Z0] rfl rfl (any_of HT_.out (by kernel_rfl)) ?_
      refine zp 18 (some 65) #[Z1, Z1, Z1, Z1, Z1, Z1, Z1, Z1, Z1, Z1, Z1, Z1, Z1, Z1, Z1, Z1, Z1, Z1, Z1, Z1, Z0, Z0, Z0, Z0] rfl rfl (any_of HT_.out (by kernel_rfl)) ?_
      refine zp 20 (some 67) #[Z1, Z1, Z1, Z1, Z1, Z1, Z1, Z1, Z1, Z1, Z1, Z1, Z1, Z1, Z1, Z1, Z1, Z1, Z1, Z1, Z1, Z0, Z0, Z0] rfl rfl (any_of HT_.out (by kernel_rfl)) ?_
      refine zp 21 (some 68) #[Z1, Z1, Z1, Z1, Z1, Z1, Z1, Z1, Z1, Z1, Z1, Z1, Z1, Z1, Z1, Z1, Z1, Z1, Z1, Z1, Z1, Z1, Z0, Z0] rfl rfl (any_of HT_.out (by kernel_rfl)) ?_
      refine one_ (i := 22) (N := none) #[Z1, Z1, Z1, Z1, Z1, Z1, Z1, Z1, Z1, Z1, Z1, Z1, Z1, Z1, Z1, Z1, Z1, Z1, Z1, Z1, Z1, Z1, Z1, Z0] rfl rfl (one_of HT_.out (by kernel_rfl)) (by decide) (fun K hK => ?_)
      have hs24 : w23.cell? ⟨gb174, 0, none⟩ = some (.int .i64 0) := (blk_cell BK174.out 0).trans rfl
      have hfs24 := blk_frozen BK174.out 0
      have hns24_0 := NB173_174.out
      have hms24_0 := NB174_173.out
      have hs25 : w23.cell? ⟨gb174, 1, none⟩ = some (.int .i64 0) := (blk_cell BK174.out 1).trans rfl
      have hfs25 := blk_frozen BK174.out 1
      have hns25_0 := NB173_174.out
      have hms25_0 := NB174_173.out
      refine skip_ (w1 := ?_) (by rfl) rfl ?_ ?_
      rotate_left
      ·go_simp
       rfl
      refine hK.out _ _ ⟨((cell_far (p := ⟨gb174, _, none⟩) NB173_174.out _).trans (((cell_far (p := ⟨gb174, _, none⟩) NB173_174.out _).trans (hHeld.1)))), ((cell_far (p := ⟨gb174, _, none⟩) NB173_174.out _).trans (((cell_far (p := ⟨gb174, _, none⟩) NB173_174.out _).trans (hHeld.2))))⟩ (fun hHeld => ?_)
      clear hK K
      refine zp 23 (some 11) #[Z1, Z1, Z1, Z1, Z1, Z1, Z1, Z1, Z1, Z1, Z1, Z1, Z1, Z1, Z1, Z1, Z1, Z1, Z1, Z1, Z1, Z1, Z1, Z1] rfl rfl (any_of HT_.out (by kernel_rfl)) ?_
      refine done_ (done_of HT_.out (by kernel_rfl)) ?_
      try go_wp2
      refine bodyPost_ret (results_ct rfl _ _ gb174 27 #[.int .i64 (wrap64 (Int.tdiv (wrap64 (a0_0 * (wrap64 ((wrap64 (100 + a3)) * (wrap64 (a1 + a2)))))) (wrap64 (200 * a1)))), .int .i64 (wrap64 (Int.tdiv (wrap64 ((wrap64 ((wrap64 ((wrap64 (a0_1 * (wrap64 ((wrap64 (100 + a3)) * (wrap64 (a1 + a2)))))) * (wrap64 (100 + a4)))) + (wrap64 (20000 * a1)))) - 1)) (wrap64 (20000 * a1))))] (0, 0) _ rfl (by refine zQ ?_; refine blk_put (cs := #[.int .i64 (wrap64 (Int.tdiv (wrap64 (a0_0 * (wrap64 ((wrap64 (100 + a3)) * (wrap64 (a1 + a2)))))) (wrap64 (200 * a1)))), .int .i64 0]) ?_ 1 _ rfl; refine zQ ?_; refine blk_put (cs := #[.int .i64 0, .int .i64 0]) ?_ 0 _ rfl; (with_reducible repeat (first | refine blk_drewN ?_ _ | refine blk_drew ?_ | refine blk_alloc ?_ _)); exact BK174.out) Try.underlying27 rfl (by kernel_rfl)) rfl ?_
      exact ⟨ze, zw HB⟩
     replace c15 := Bool.eq_false_iff.mpr c15
     subst c15
     have H1 : (some (0, 0, 1)) = some (r1, r2, r3) := by rw [if_neg (show ¬ (false = true) by decide)] at H; exact H
     clear H
     have H := H1
     clear H1
     simp only [Option.some.injEq, Prod.mk.injEq] at H
     obtain ⟨rfl, rfl, rfl⟩ := H
     go_enter Try.func20, Try.ntmps20
     go_wp2_with (first | ((with_reducible refine gate_dst (N := 5) rfl ?_); refine zx 5 #[.int .i64 a0_0, .int .i64 a0_1] 60 ?_; intro gb173 hg w26 hbox hb; have n0_ := zY HB hb; have n1_ := Aside0.mk (hbox); have n2_ := zS hg HB; have n3_ := zS hg HB; clear HB; have HB := n0_; have BK173 := n1_; have GW173 := n2_; have GE173 := n3_; clear n0_ n1_ n2_ n3_; clear hb hbox hg) | ((with_reducible refine gate_dst (N := 10) rfl ?_); refine zx 10 #[.int .i64 0, .int .i64 0] 27 ?_; intro gb174 hg w27 hbox hb; have n0_ := zD BK173 hb; have n1_ := zY HB hb; have n2_ := Aside0.mk (hbox); have n3_ := zS hg HB; have n4_ := zS hg HB; have n5_ := zN hg BK173; have n6_ := zM hg BK173; clear BK173; clear HB; have BK173 := n0_; have HB := n1_; have BK174 := n2_; have GW174 := n3_; have GE174 := n4_; have NB173_174 := n5_; have NB174_173 := n6_; clear n0_ n1_ n2_ n3_ n4_ n5_ n6_; clear hb hbox hg; have hnb28 := NB173_174.out; have hnc28 := NB174_173.out; obtain ⟨hcz29_0, hcz29_1, hfz29_0, hfz29_1⟩ := zk2 BK173) | ((with_reducible refine gate_callee (f := 37) rfl ?_); refine goesL_ (some 16) rfl rfl Try.func37 (by kernel_rfl) rfl #[.agg #[.int .i64 a0_0, .int .i64 a0_1], .int .i64 10000] rfl za ?_; (with_reducible refine (wear_spans.calls a0_0 a0_1 10000 true _ A6.out).mono ?_); rintro e w30 ⟨rfl, hb⟩; refine ⟨_, rfl, ?_⟩; have n0_ := zD BK173 hb; have n1_ := zD BK174 hb; have n2_ := zY HB hb; clear BK173; clear BK174; clear HB; have BK173 := n0_; have BK174 := n1_; have HB := n2_; clear n0_ n1_ n2_; (try clear hb); (try clear hb2); (try clear hk); (try clear hi)) | (go_at_call 22; (with_reducible refine (wear_in.calls a1 1 100 true _ A8.out).mono ?_); rintro e w' ⟨rfl, ⟨nd, rfl⟩⟩; (try (rw [drewN_self w30]; generalize hq_ : World.drewN w30 _ = w30; have n0_ : Aside0 (w30.heap[gb173]? = some (.cells #[.int .i64 a0_0, .int .i64 a0_1] 60 (0, 0))) := ⟨by rw [← hq_]; exact (zb BK173)⟩; have n1_ : Aside0 (w30.heap[gb174]? = some (.cells #[.int .i64 0, .int .i64 0] 27 (0, 0))) := ⟨by rw [← hq_]; exact (zb BK174)⟩; have n2_ : Aside0 (Below w.heap.size w w30) := ⟨by rw [← hq_]; exact (zw HB)⟩; clear BK173 BK174 HB hq_; have BK173 := n0_; have BK174 := n1_; have HB := n2_; clear n0_ n1_ n2_))) | (go_at_call 22; (with_reducible refine (wear_in.calls a2 1 100 true _ A10.out).mono ?_); rintro e w' ⟨rfl, ⟨nd, rfl⟩⟩; (try (rw [drewN_self w30]; generalize hq_ : World.drewN w30 _ = w30; have n0_ : Aside0 (w30.heap[gb173]? = some (.cells #[.int .i64 a0_0, .int .i64 a0_1] 60 (0, 0))) := ⟨by rw [← hq_]; exact (zb BK173)⟩; have n1_ : Aside0 (w30.heap[gb174]? = some (.cells #[.int .i64 0, .int .i64 0] 27 (0, 0))) := ⟨by rw [← hq_]; exact (zb BK174)⟩; have n2_ : Aside0 (Below w.heap.size w w30) := ⟨by rw [← hq_]; exact (zw HB)⟩; clear BK173 BK174 HB hq_; have BK173 := n0_; have BK174 := n1_; have HB := n2_; clear n0_ n1_ n2_))) | (go_at_call 22; (with_reducible refine (wear_in.calls a3 0 100 true _ A12.out).mono ?_); rintro e w' ⟨rfl, ⟨nd, rfl⟩⟩; (try (rw [drewN_self w30]; generalize hq_ : World.drewN w30 _ = w30; have n0_ : Aside0 (w30.heap[gb173]? = some (.cells #[.int .i64 a0_0, .int .i64 a0_1] 60 (0, 0))) := ⟨by rw [← hq_]; exact (zb BK173)⟩; have n1_ : Aside0 (w30.heap[gb174]? = some (.cells #[.int .i64 0, .int .i64 0] 27 (0, 0))) := ⟨by rw [← hq_]; exact (zb BK174)⟩; have n2_ : Aside0 (Below w.heap.size w w30) := ⟨by rw [← hq_]; exact (zw HB)⟩; clear BK173 BK174 HB hq_; have BK173 := n0_; have BK174 := n1_; have HB := n2_; clear n0_ n1_ n2_))) | (go_at_call 22; (with_reducible refine (wear_in.calls a4 0 100 false _ A14.out).mono ?_); rintro e w' ⟨rfl, ⟨nd, rfl⟩⟩; (try (rw [drewN_self w30]; generalize hq_ : World.drewN w30 _ = w30; have n0_ : Aside0 (w30.heap[gb173]? = some (.cells #[.int .i64 a0_0, .int .i64 a0_1] 60 (0, 0))) := ⟨by rw [← hq_]; exact (zb BK173)⟩; have n1_ : Aside0 (w30.heap[gb174]? = some (.cells #[.int .i64 0, .int .i64 0] 27 (0, 0))) := ⟨by rw [← hq_]; exact (zb BK174)⟩; have n2_ : Aside0 (Below w.heap.size w w30) := ⟨by rw [← hq_]; exact (zw HB)⟩; clear BK173 BK174 HB hq_; have BK173 := n0_; have BK174 := n1_; have HB := n2_; clear n0_ n1_ n2_)); obtain ⟨hcz31_0, hcz31_1, hfz31_0, hfz31_1⟩ := zk2 BK174))
     refine bodyPost_ret (results_ct rfl _ _ gb174 27 #[.int .i64 0, .int .i64 0] (0, 0) _ rfl (by refine zQ ?_; refine blk_put (cs := #[.int .i64 0, .int .i64 0]) ?_ 1 _ rfl; refine zQ ?_; refine blk_put (cs := #[.int .i64 0, .int .i64 0]) ?_ 0 _ rfl; (with_reducible repeat (first | refine blk_drewN ?_ _ | refine blk_drew ?_ | refine blk_alloc ?_ _)); exact BK174.out) Try.underlying27 rfl (by kernel_rfl)) rfl ?_
     exact ⟨ze, zw HB⟩
    replace c13 := Bool.eq_false_iff.mpr c13
    subst c13
    have H1 : (some (0, 0, 1)) = some (r1, r2, r3) := by rw [if_neg (show ¬ (false = true) by decide)] at H; exact H
    clear H
    have H := H1
    clear H1
    simp only [Option.some.injEq, Prod.mk.injEq] at H
    obtain ⟨rfl, rfl, rfl⟩ := H
    go_enter Try.func20, Try.ntmps20
    go_wp2_with (first | ((with_reducible refine gate_dst (N := 5) rfl ?_); refine zx 5 #[.int .i64 a0_0, .int .i64 a0_1] 60 ?_; intro gb173 hg w32 hbox hb; have n0_ := zY HB hb; have n1_ := Aside0.mk (hbox); have n2_ := zS hg HB; have n3_ := zS hg HB; clear HB; have HB := n0_; have BK173 := n1_; have GW173 := n2_; have GE173 := n3_; clear n0_ n1_ n2_ n3_; clear hb hbox hg) | ((with_reducible refine gate_dst (N := 10) rfl ?_); refine zx 10 #[.int .i64 0, .int .i64 0] 27 ?_; intro gb174 hg w33 hbox hb; have n0_ := zD BK173 hb; have n1_ := zY HB hb; have n2_ := Aside0.mk (hbox); have n3_ := zS hg HB; have n4_ := zS hg HB; have n5_ := zN hg BK173; have n6_ := zM hg BK173; clear BK173; clear HB; have BK173 := n0_; have HB := n1_; have BK174 := n2_; have GW174 := n3_; have GE174 := n4_; have NB173_174 := n5_; have NB174_173 := n6_; clear n0_ n1_ n2_ n3_ n4_ n5_ n6_; clear hb hbox hg; have hnb34 := NB173_174.out; have hnc34 := NB174_173.out; obtain ⟨hcz35_0, hcz35_1, hfz35_0, hfz35_1⟩ := zk2 BK173) | ((with_reducible refine gate_callee (f := 37) rfl ?_); refine goesL_ (some 16) rfl rfl Try.func37 (by kernel_rfl) rfl #[.agg #[.int .i64 a0_0, .int .i64 a0_1], .int .i64 10000] rfl za ?_; (with_reducible refine (wear_spans.calls a0_0 a0_1 10000 true _ A6.out).mono ?_); rintro e w36 ⟨rfl, hb⟩; refine ⟨_, rfl, ?_⟩; have n0_ := zD BK173 hb; have n1_ := zD BK174 hb; have n2_ := zY HB hb; clear BK173; clear BK174; clear HB; have BK173 := n0_; have BK174 := n1_; have HB := n2_; clear n0_ n1_ n2_; (try clear hb); (try clear hb2); (try clear hk); (try clear hi)) | (go_at_call 22; (with_reducible refine (wear_in.calls a1 1 100 true _ A8.out).mono ?_); rintro e w' ⟨rfl, ⟨nd, rfl⟩⟩; (try (rw [drewN_self w36]; generalize hq_ : World.drewN w36 _ = w36; have n0_ : Aside0 (w36.heap[gb173]? = some (.cells #[.int .i64 a0_0, .int .i64 a0_1] 60 (0, 0))) := ⟨by rw [← hq_]; exact (zb BK173)⟩; have n1_ : Aside0 (w36.heap[gb174]? = some (.cells #[.int .i64 0, .int .i64 0] 27 (0, 0))) := ⟨by rw [← hq_]; exact (zb BK174)⟩; have n2_ : Aside0 (Below w.heap.size w w36) := ⟨by rw [← hq_]; exact (zw HB)⟩; clear BK173 BK174 HB hq_; have BK173 := n0_; have BK174 := n1_; have HB := n2_; clear n0_ n1_ n2_))) | (go_at_call 22; (with_reducible refine (wear_in.calls a2 1 100 true _ A10.out).mono ?_); rintro e w' ⟨rfl, ⟨nd, rfl⟩⟩; (try (rw [drewN_self w36]; generalize hq_ : World.drewN w36 _ = w36; have n0_ : Aside0 (w36.heap[gb173]? = some (.cells #[.int .i64 a0_0, .int .i64 a0_1] 60 (0, 0))) := ⟨by rw [← hq_]; exact (zb BK173)⟩; have n1_ : Aside0 (w36.heap[gb174]? = some (.cells #[.int .i64 0, .int .i64 0] 27 (0, 0))) := ⟨by rw [← hq_]; exact (zb BK174)⟩; have n2_ : Aside0 (Below w.heap.size w w36) := ⟨by rw [← hq_]; exact (zw HB)⟩; clear BK173 BK174 HB hq_; have BK173 := n0_; have BK174 := n1_; have HB := n2_; clear n0_ n1_ n2_))) | (go_at_call 22; (with_reducible refine (wear_in.calls a3 0 100 false _ A12.out).mono ?_); rintro e w' ⟨rfl, ⟨nd, rfl⟩⟩; (try (rw [drewN_self w36]; generalize hq_ : World.drewN w36 _ = w36; have n0_ : Aside0 (w36.heap[gb173]? = some (.cells #[.int .i64 a0_0, .int .i64 a0_1] 60 (0, 0))) := ⟨by rw [← hq_]; exact (zb BK173)⟩; have n1_ : Aside0 (w36.heap[gb174]? = some (.cells #[.int .i64 0, .int .i64 0] 27 (0, 0))) := ⟨by rw [← hq_]; exact (zb BK174)⟩; have n2_ : Aside0 (Below w.heap.size w w36) := ⟨by rw [← hq_]; exact (zw HB)⟩; clear BK173 BK174 HB hq_; have BK173 := n0_; have BK174 := n1_; have HB := n2_; clear n0_ n1_ n2_)); obtain ⟨hcz37_0, hcz37_1, hfz37_0, hfz37_1⟩ := zk2 BK174))
    refine bodyPost_ret (results_ct rfl _ _ gb174 27 #[.int .i64 0, .int .i64 0] (0, 0) _ rfl (by refine zQ ?_; refine blk_put (cs := #[.int .i64 0, .int .i64 0]) ?_ 1 _ rfl; refine zQ ?_; refine blk_put (cs := #[.int .i64 0, .int .i64 0]) ?_ 0 _ rfl; (with_reducible repeat (first | refine blk_drewN ?_ _ | refine blk_drew ?_ | refine blk_alloc ?_ _)); exact BK174.out) Try.underlying27 rfl (by kernel_rfl)) rfl ?_
    exact ⟨ze, zw HB⟩
   replace c11 := Bool.eq_false_iff.mpr c11
   subst c11
   have H1 : (some (0, 0, 1)) = some (r1, r2, r3) := by rw [if_neg (show ¬ (false = true) by decide)] at H; exact H
   clear H
   have H := H1
   clear H1
   simp only [Option.some.injEq, Prod.mk.injEq] at H
   obtain ⟨rfl, rfl, rfl⟩ := H
   go_enter Try.func20, Try.ntmps20
   go_wp2_with (first | ((with_reducible refine gate_dst (N := 5) rfl ?_); refine zx 5 #[.int .i64 a0_0, .int .i64 a0_1] 60 ?_; intro gb173 hg w38 hbox hb; have n0_ := zY HB hb; have n1_ := Aside0.mk (hbox); have n2_ := zS hg HB; have n3_ := zS hg HB; clear HB; have HB := n0_; have BK173 := n1_; have GW173 := n2_; have GE173 := n3_; clear n0_ n1_ n2_ n3_; clear hb hbox hg) | ((with_reducible refine gate_dst (N := 10) rfl ?_); refine zx 10 #[.int .i64 0, .int .i64 0] 27 ?_; intro gb174 hg w39 hbox hb; have n0_ := zD BK173 hb; have n1_ := zY HB hb; have n2_ := Aside0.mk (hbox); have n3_ := zS hg HB; have n4_ := zS hg HB; have n5_ := zN hg BK173; have n6_ := zM hg BK173; clear BK173; clear HB; have BK173 := n0_; have HB := n1_; have BK174 := n2_; have GW174 := n3_; have GE174 := n4_; have NB173_174 := n5_; have NB174_173 := n6_; clear n0_ n1_ n2_ n3_ n4_ n5_ n6_; clear hb hbox hg; have hnb40 := NB173_174.out; have hnc40 := NB174_173.out; obtain ⟨hcz41_0, hcz41_1, hfz41_0, hfz41_1⟩ := zk2 BK173) | ((with_reducible refine gate_callee (f := 37) rfl ?_); refine goesL_ (some 16) rfl rfl Try.func37 (by kernel_rfl) rfl #[.agg #[.int .i64 a0_0, .int .i64 a0_1], .int .i64 10000] rfl za ?_; (with_reducible refine (wear_spans.calls a0_0 a0_1 10000 true _ A6.out).mono ?_); rintro e w42 ⟨rfl, hb⟩; refine ⟨_, rfl, ?_⟩; have n0_ := zD BK173 hb; have n1_ := zD BK174 hb; have n2_ := zY HB hb; clear BK173; clear BK174; clear HB; have BK173 := n0_; have BK174 := n1_; have HB := n2_; clear n0_ n1_ n2_; (try clear hb); (try clear hb2); (try clear hk); (try clear hi)) | (go_at_call 22; (with_reducible refine (wear_in.calls a1 1 100 true _ A8.out).mono ?_); rintro e w' ⟨rfl, ⟨nd, rfl⟩⟩; (try (rw [drewN_self w42]; generalize hq_ : World.drewN w42 _ = w42; have n0_ : Aside0 (w42.heap[gb173]? = some (.cells #[.int .i64 a0_0, .int .i64 a0_1] 60 (0, 0))) := ⟨by rw [← hq_]; exact (zb BK173)⟩; have n1_ : Aside0 (w42.heap[gb174]? = some (.cells #[.int .i64 0, .int .i64 0] 27 (0, 0))) := ⟨by rw [← hq_]; exact (zb BK174)⟩; have n2_ : Aside0 (Below w.heap.size w w42) := ⟨by rw [← hq_]; exact (zw HB)⟩; clear BK173 BK174 HB hq_; have BK173 := n0_; have BK174 := n1_; have HB := n2_; clear n0_ n1_ n2_))) | (go_at_call 22; (with_reducible refine (wear_in.calls a2 1 100 false _ A10.out).mono ?_); rintro e w' ⟨rfl, ⟨nd, rfl⟩⟩; (try (rw [drewN_self w42]; generalize hq_ : World.drewN w42 _ = w42; have n0_ : Aside0 (w42.heap[gb173]? = some (.cells #[.int .i64 a0_0, .int .i64 a0_1] 60 (0, 0))) := ⟨by rw [← hq_]; exact (zb BK173)⟩; have n1_ : Aside0 (w42.heap[gb174]? = some (.cells #[.int .i64 0, .int .i64 0] 27 (0, 0))) := ⟨by rw [← hq_]; exact (zb BK174)⟩; have n2_ : Aside0 (Below w.heap.size w w42) := ⟨by rw [← hq_]; exact (zw HB)⟩; clear BK173 BK174 HB hq_; have BK173 := n0_; have BK174 := n1_; have HB := n2_; clear n0_ n1_ n2_)); obtain ⟨hcz43_0, hcz43_1, hfz43_0, hfz43_1⟩ := zk2 BK174))
   refine bodyPost_ret (results_ct rfl _ _ gb174 27 #[.int .i64 0, .int .i64 0] (0, 0) _ rfl (by refine zQ ?_; refine blk_put (cs := #[.int .i64 0, .int .i64 0]) ?_ 1 _ rfl; refine zQ ?_; refine blk_put (cs := #[.int .i64 0, .int .i64 0]) ?_ 0 _ rfl; (with_reducible repeat (first | refine blk_drewN ?_ _ | refine blk_drew ?_ | refine blk_alloc ?_ _)); exact BK174.out) Try.underlying27 rfl (by kernel_rfl)) rfl ?_
   exact ⟨ze, zw HB⟩
  replace c9 := Bool.eq_false_iff.mpr c9
  subst c9
  have H1 : (some (0, 0, 1)) = some (r1, r2, r3) := by rw [if_neg (show ¬ (false = true) by decide)] at H; exact H
  clear H
  have H := H1
  clear H1
  simp only [Option.some.injEq, Prod.mk.injEq] at H
  obtain ⟨rfl, rfl, rfl⟩ := H
  go_enter Try.func20, Try.ntmps20
  go_wp2_with (first | ((with_reducible refine gate_dst (N := 5) rfl ?_); refine zx 5 #[.int .i64 a0_0, .int .i64 a0_1] 60 ?_; intro gb173 hg w44 hbox hb; have n0_ := zY HB hb; have n1_ := Aside0.mk (hbox); have n2_ := zS hg HB; have n3_ := zS hg HB; clear HB; have HB := n0_; have BK173 := n1_; have GW173 := n2_; have GE173 := n3_; clear n0_ n1_ n2_ n3_; clear hb hbox hg) | ((with_reducible refine gate_dst (N := 10) rfl ?_); refine zx 10 #[.int .i64 0, .int .i64 0] 27 ?_; intro gb174 hg w45 hbox hb; have n0_ := zD BK173 hb; have n1_ := zY HB hb; have n2_ := Aside0.mk (hbox); have n3_ := zS hg HB; have n4_ := zS hg HB; have n5_ := zN hg BK173; have n6_ := zM hg BK173; clear BK173; clear HB; have BK173 := n0_; have HB := n1_; have BK174 := n2_; have GW174 := n3_; have GE174 := n4_; have NB173_174 := n5_; have NB174_173 := n6_; clear n0_ n1_ n2_ n3_ n4_ n5_ n6_; clear hb hbox hg; have hnb46 := NB173_174.out; have hnc46 := NB174_173.out; obtain ⟨hcz47_0, hcz47_1, hfz47_0, hfz47_1⟩ := zk2 BK173) | ((with_reducible refine gate_callee (f := 37) rfl ?_); refine goesL_ (some 16) rfl rfl Try.func37 (by kernel_rfl) rfl #[.agg #[.int .i64 a0_0, .int .i64 a0_1], .int .i64 10000] rfl za ?_; (with_reducible refine (wear_spans.calls a0_0 a0_1 10000 true _ A6.out).mono ?_); rintro e w48 ⟨rfl, hb⟩; refine ⟨_, rfl, ?_⟩; have n0_ := zD BK173 hb; have n1_ := zD BK174 hb; have n2_ := zY HB hb; clear BK173; clear BK174; clear HB; have BK173 := n0_; have BK174 := n1_; have HB := n2_; clear n0_ n1_ n2_; (try clear hb); (try clear hb2); (try clear hk); (try clear hi)) | (go_at_call 22; (with_reducible refine (wear_in.calls a1 1 100 false _ A8.out).mono ?_); rintro e w' ⟨rfl, ⟨nd, rfl⟩⟩; (try (rw [drewN_self w48]; generalize hq_ : World.drewN w48 _ = w48; have n0_ : Aside0 (w48.heap[gb173]? = some (.cells #[.int .i64 a0_0, .int .i64 a0_1] 60 (0, 0))) := ⟨by rw [← hq_]; exact (zb BK173)⟩; have n1_ : Aside0 (w48.heap[gb174]? = some (.cells #[.int .i64 0, .int .i64 0] 27 (0, 0))) := ⟨by rw [← hq_]; exact (zb BK174)⟩; have n2_ : Aside0 (Below w.heap.size w w48) := ⟨by rw [← hq_]; exact (zw HB)⟩; clear BK173 BK174 HB hq_; have BK173 := n0_; have BK174 := n1_; have HB := n2_; clear n0_ n1_ n2_)); obtain ⟨hcz49_0, hcz49_1, hfz49_0, hfz49_1⟩ := zk2 BK174))
  refine bodyPost_ret (results_ct rfl _ _ gb174 27 #[.int .i64 0, .int .i64 0] (0, 0) _ rfl (by refine zQ ?_; refine blk_put (cs := #[.int .i64 0, .int .i64 0]) ?_ 1 _ rfl; refine zQ ?_; refine blk_put (cs := #[.int .i64 0, .int .i64 0]) ?_ 0 _ rfl; (with_reducible repeat (first | refine blk_drewN ?_ _ | refine blk_drew ?_ | refine blk_alloc ?_ _)); exact BK174.out) Try.underlying27 rfl (by kernel_rfl)) rfl ?_
  exact ⟨ze, zw HB⟩
 replace c7 := Bool.eq_false_iff.mpr c7
 subst c7
 have H1 : (some (0, 0, 1)) = some (r1, r2, r3) := by rw [if_neg (show ¬ (false = true) by decide)] at H; exact H
 clear H
 have H := H1
 clear H1
 simp only [Option.some.injEq, Prod.mk.injEq] at H
 obtain ⟨rfl, rfl, rfl⟩ := H
 go_enter Try.func20, Try.ntmps20
 go_wp2_with (first | ((with_reducible refine gate_dst (N := 5) rfl ?_); refine zx 5 #[.int .i64 a0_0, .int .i64 a0_1] 60 ?_; intro gb173 hg w50 hbox hb; have n0_ := zY HB hb; have n1_ := Aside0.mk (hbox); have n2_ := zS hg HB; have n3_ := zS hg HB; clear HB; have HB := n0_; have BK173 := n1_; have GW173 := n2_; have GE173 := n3_; clear n0_ n1_ n2_ n3_; clear hb hbox hg) | ((with_reducible refine gate_dst (N := 10) rfl ?_); refine zx 10 #[.int .i64 0, .int .i64 0] 27 ?_; intro gb174 hg w51 hbox hb; have n0_ := zD BK173 hb; have n1_ := zY HB hb; have n2_ := Aside0.mk (hbox); have n3_ := zS hg HB; have n4_ := zS hg HB; have n5_ := zN hg BK173; have n6_ := zM hg BK173; clear BK173; clear HB; have BK173 := n0_; have HB := n1_; have BK174 := n2_; have GW174 := n3_; have GE174 := n4_; have NB173_174 := n5_; have NB174_173 := n6_; clear n0_ n1_ n2_ n3_ n4_ n5_ n6_; clear hb hbox hg; have hnb52 := NB173_174.out; have hnc52 := NB174_173.out; obtain ⟨hcz53_0, hcz53_1, hfz53_0, hfz53_1⟩ := zk2 BK173) | ((with_reducible refine gate_callee (f := 37) rfl ?_); refine goesL_ (some 16) rfl rfl Try.func37 (by kernel_rfl) rfl #[.agg #[.int .i64 a0_0, .int .i64 a0_1], .int .i64 10000] rfl za ?_; (with_reducible refine (wear_spans.calls a0_0 a0_1 10000 false _ A6.out).mono ?_); rintro e w54 ⟨rfl, hb⟩; refine ⟨_, rfl, ?_⟩; have n0_ := zD BK173 hb; have n1_ := zD BK174 hb; have n2_ := zY HB hb; clear BK173; clear BK174; clear HB; have BK173 := n0_; have BK174 := n1_; have HB := n2_; clear n0_ n1_ n2_; (try clear hb); (try clear hb2); (try clear hk); (try clear hi); obtain ⟨hcz55_0, hcz55_1, hfz55_0, hfz55_1⟩ := zk2 BK174))
 refine bodyPost_ret (results_ct rfl _ _ gb174 27 #[.int .i64 0, .int .i64 0] (0, 0) _ rfl (by refine zQ ?_; refine blk_put (cs := #[.int .i64 0, .int .i64 0]) ?_ 1 _ rfl; refine zQ ?_; refine blk_put (cs := #[.int .i64 0, .int .i64 0]) ?_ 0 _ rfl; (with_reducible repeat (first | refine blk_drewN ?_ _ | refine blk_drew ?_ | refine blk_alloc ?_ _)); exact BK174.out) Try.underlying27 rfl (by kernel_rfl)) rfl ?_
 exact ⟨ze, zw HB⟩
def thatchlaw07_lives.f (k : Nat)  : Option (Bool) := (thatchlaw07_Example.f).bind fun bt180 => ((wear_Bounds.f k bt180.1 bt180.2.1 bt180.2.2.1 bt180.2.2.2.1 bt180.2.2.2.2.1 bt180.2.2.2.2.2 20 10).bind fun bt192 => ((wear_Rate.f 100 200 1 2 10 50).bind fun bt196 => (if bt192.2.2 = 0 then (if (bt192.1 == 120 && (bt192.2.1 == 260)) = true then (if bt196.2.2 = 0 then (some (bt196.1 == 165 && (bt196.2.1 == 495))) else (some false)) else (some false)) else (some false))))
theorem thatchlaw07_lives.mono : ∀ k, LeO (thatchlaw07_lives.f k ) (thatchlaw07_lives.f (k + 1) ) := by
 intro  k
 unfold thatchlaw07_lives.f
 repeat' first
   | (with_reducible exact wear_Bounds.mono _ _ _ _ _ _ _ _ _)
   | (with_reducible exact LeO.refl _)
   | (with_reducible exact LeO.none _)
   | (with_reducible refine LeO.ite ?_ ?_)
   | (with_reducible refine LeO.bind ?_ (fun _ => ?_))
   | exact wear_Bounds.mono _ _ _ _ _ _ _ _ _
   | exact LeO.none _
   | refine LeO.ite ?_ ?_
   | refine LeO.bind ?_ (fun _ => ?_)
set_option maxHeartbeats 8000000 in
set_option maxRecDepth 100000 in
theorem thatchlaw07_lives.calls (k : Nat)  (r : Bool) (w : World) (h : thatchlaw07_lives.f k  = some r) :
  Calls Try.prog 8 #[] w fun e w' => e = .returned (.bool r) ∧ Below w.heap.size w w' := by
 have hu32 := Try.underlying32
 have hu27 := Try.underlying27
 have hu60 := Try.underlying60
 have HB := Aside0.mk (Below.refl w.heap.size w)
 have H : ((thatchlaw07_Example.f).bind fun bt180 => ((wear_Bounds.f k bt180.1 bt180.2.1 bt180.2.2.1 bt180.2.2.2.1 bt180.2.2.2.2.1 bt180.2.2.2.2.2 20 10).bind fun bt192 => ((wear_Rate.f 100 200 1 2 10 50).bind fun bt196 => (if bt192.2.2 = 0 then (if (bt192.1 == 120 && (bt192.2.1 == 260)) = true then (if bt196.2.2 = 0 then (some (bt196.1 == 165 && (bt196.2.1 == 495))) else (some false)) else (some false)) else (some false))))) = some r := h
 clear h
 replace H := Option.bind_eq_some_iff.mp H
 obtain ⟨⟨t180, t183, t186, t187, t188, t189⟩, A10, H⟩ := H
 replace H : ((wear_Bounds.f k t180 t183 t186 t187 t188 t189 20 10).bind fun bt192 => ((wear_Rate.f 100 200 1 2 10 50).bind fun bt196 => (if bt192.2.2 = 0 then (if (bt192.1 == 120 && (bt192.2.1 == 260)) = true then (if bt196.2.2 = 0 then (some (bt196.1 == 165 && (bt196.2.1 == 495))) else (some false)) else (some false)) else (some false)))) = some r := H
 have A1 := Aside0.mk A10
 clear A10
 replace H := Option.bind_eq_some_iff.mp H
 obtain ⟨⟨t192, t193, t194⟩, A20, H⟩ := H
 replace H : ((wear_Rate.f 100 200 1 2 10 50).bind fun bt196 => (if t194 = 0 then (if (t192 == 120 && (t193 == 260)) = true then (if bt196.2.2 = 0 then (some (bt196.1 == 165 && (bt196.2.1 == 495))) else (some false)) else (some false)) else (some false))) = some r := H
 have A2 := Aside0.mk A20
 clear A20
 replace H := Option.bind_eq_some_iff.mp H
 obtain ⟨⟨t196, t197, t198⟩, A30, H⟩ := H
 replace H : (if t194 = 0 then (if (t192 == 120 && (t193 == 260)) = true then (if t198 = 0 then (some (t196 == 165 && (t197 == 495))) else (some false)) else (some false)) else (some false)) = some r := H
 have A3 := Aside0.mk A30
 clear A30
 by_cases c4 : t194 = 0
 ·rw [if_pos c4] at H
  have c4b0 : (t194 == 0) = true := beq_iff_eq.mpr c4
  have c4b1 : (t194 != 0) = false := bne_eq_false_iff_eq.mpr c4
  clear c4
  by_cases c5 : (t192 == 120 && (t193 == 260)) = true
  ·rw [if_pos c5] at H
   have c5b0 : (t192 == 120 && (t193 == 260)) = true := c5
   (try (have c5b1 : decide (t192 = 120 && (t193 == 260)) = true := by simpa using c5))
   (try (have c5b2 : (t192 == 120 && (t193 == 260)) = true := by simpa using c5))
   clear c5
   by_cases c6 : t198 = 0
   ·rw [if_pos c6] at H
    have c6b0 : (t198 == 0) = true := beq_iff_eq.mpr c6
    have c6b1 : (t198 != 0) = false := bne_eq_false_iff_eq.mpr c6
    clear c6
    obtain rfl := Option.some.inj H
    go_enter Try.func8, Try.ntmps8
    go_wp2_with (first | ((with_reducible refine gate_callee (f := 19) rfl ?_); refine goesL_ (some 6) rfl rfl Try.func19 (by kernel_rfl) rfl #[] rfl za ?_; (with_reducible refine (thatchlaw07_Example.calls  t180 t183 t186 t187 t188 t189 _ A1.out).mono ?_); rintro e w7 ⟨v181, v184, v190, rfl, ho0, ho1, ho2, hb⟩; refine ⟨_, rfl, ?_⟩; have n0_ := Aside0.mk (Kd.R_lower ho0 (below_size (zw HB))); have n1_ := Aside0.mk (Kd.R_lower ho1 (below_size (zw HB))); have n2_ := Aside0.mk (Kd.R_lower ho2 (below_size (zw HB))); have n3_ := zY HB hb; clear HB; have HO182 := n0_; have HO185 := n1_; have HO191 := n2_; have HB := n3_; clear n0_ n1_ n2_ n3_; (try clear hb); (try clear hb2); (try clear hk); (try clear hi); (try clear ho0); (try clear ho1); (try clear ho2); obtain ⟨Ao8, co8, eo8⟩ := Kd.R_slice HO182.out; subst eo8; obtain ⟨Ao9, co9, eo9⟩ := Kd.R_slice HO185.out; subst eo9; obtain ⟨Ao10, co10, eo10⟩ := Kd.R_slice HO191.out; subst eo10) | ((with_reducible refine gate_callee (f := 13) rfl ?_); refine goesL_ (some 8) rfl rfl Try.func13 (by kernel_rfl) rfl #[.agg #[.slice Ao8 t180.length co8, .slice Ao9 t183.length co9, .int .i64 t186, .int .i64 t187, .int .i64 t188, .slice Ao10 t189.length co10], .agg #[.int .i64 20, .int .i64 10]] rfl za ?_; (with_reducible refine (wear_Bounds.calls k _ _ t180 _ _ t183 t186 t187 t188 _ _ t189 20 10 t192 t193 t194 _ ?side1 ?side2 ?side3 ?side4 ?side5 ?side6 A2.out).mono ?_); (case side1 => exact zr (Kd.R_reads' HO182.out).2.2); (case side2 => exact (Kd.R_reads' HO182.out).2.1); (case side3 => exact zr (Kd.R_reads' HO185.out).2.2); (case side4 => exact (Kd.R_reads' HO185.out).2.1); (case side5 => exact zr (Kd.R_reads' HO191.out).2.2); (case side6 => exact (Kd.R_reads' HO191.out).2.1); rintro e w11 ⟨rfl, hb⟩; refine ⟨_, rfl, ?_⟩; have n0_ := Aside0.mk (Kd.R_below (zt HO182) hb); have n1_ := Aside0.mk (Kd.R_below (zt HO185) hb); have n2_ := Aside0.mk (Kd.R_below (zt HO191) hb); have n3_ := zY HB hb; clear HO182; clear HO185; clear HO191; clear HB; have HO182 := n0_; have HO185 := n1_; have HO191 := n2_; have HB := n3_; clear n0_ n1_ n2_ n3_; (try clear hb); (try clear hb2); (try clear hk); (try clear hi)) | ((with_reducible refine gate_dst (N := 1) rfl ?_); refine zx 1 #[.int .i64 0, .int .i64 0] 27 ?_; intro gb195 hg w12 hbox hb; have n0_ := Aside0.mk (Kd.R_below (zt HO182) hb); have n1_ := Aside0.mk (Kd.R_below (zt HO185) hb); have n2_ := Aside0.mk (Kd.R_below (zt HO191) hb); have n3_ := zY HB hb; have n4_ := Aside0.mk (hbox); have n5_ := zS hg HB; have n6_ := zS hg HB; clear HO182; clear HO185; clear HO191; clear HB; have HO182 := n0_; have HO185 := n1_; have HO191 := n2_; have HB := n3_; have BK195 := n4_; have GW195 := n5_; have GE195 := n6_; clear n0_ n1_ n2_ n3_ n4_ n5_ n6_; clear hb hbox hg; obtain ⟨hcz13_0, hcz13_1, hfz13_0, hfz13_1⟩ := zk2 BK195) | ((with_reducible refine gate_callee (f := 20) rfl ?_); refine goesL_ (some 14) rfl rfl Try.func20 (by kernel_rfl) rfl #[.agg #[.int .i64 100, .int .i64 200], .int .i64 1, .int .i64 2, .int .i64 10, .int .i64 50] rfl za ?_; (with_reducible refine (wear_Rate.calls 100 200 1 2 10 50 t196 t197 t198 _ A3.out).mono ?_); rintro e w14 ⟨rfl, hb⟩; refine ⟨_, rfl, ?_⟩; have n0_ := Aside0.mk (Kd.R_below (zF HO182 BK195) hb); have n1_ := Aside0.mk (Kd.R_below (zF HO185 BK195) hb); have n2_ := Aside0.mk (Kd.R_below (zF HO191 BK195) hb); have n3_ := Aside0.mk (blk_below (g := gb195) (o := .cells #[.int .i64 t192, .int .i64 t193] 27 (0, 0)) (by refine zQ ?_; refine blk_put (cs := #[.int .i64 t192, .int .i64 0]) ?_ 1 _ rfl; refine zQ ?_; refine blk_put (cs := #[.int .i64 0, .int .i64 0]) ?_ 0 _ rfl; (with_reducible repeat (first | refine blk_drewN ?_ _ | refine blk_drew ?_ | refine blk_alloc ?_ _)); exact BK195.out) hb); have n4_ := zY HB hb; clear HO182; clear HO185; clear HO191; clear BK195; clear HB; have HO182 := n0_; have HO185 := n1_; have HO191 := n2_; have BK195 := n3_; have HB := n4_; clear n0_ n1_ n2_ n3_ n4_; (try clear hb); (try clear hb2); (try clear hk); (try clear hi)) | ((with_reducible refine gate_dst (N := 3) rfl ?_); refine zx 3 #[.int .i64 0, .int .i64 0] 27 ?_; intro gb199 hg w15 hbox hb; have n0_ := Aside0.mk (Kd.R_below (zt HO182) hb); have n1_ := Aside0.mk (Kd.R_below (zt HO185) hb); have n2_ := Aside0.mk (Kd.R_below (zt HO191) hb); have n3_ := zD BK195 hb; have n4_ := zY HB hb; have n5_ := Aside0.mk (hbox); have n6_ := zS hg HB; have n7_ := zS hg HB; have n8_ := zN hg BK195; have n9_ := zM hg BK195; clear HO182; clear HO185; clear HO191; clear BK195; clear HB; have HO182 := n0_; have HO185 := n1_; have HO191 := n2_; have BK195 := n3_; have HB := n4_; have BK199 := n5_; have GW199 := n6_; have GE199 := n7_; have NB195_199 := n8_; have NB199_195 := n9_; clear n0_ n1_ n2_ n3_ n4_ n5_ n6_ n7_ n8_ n9_; clear hb hbox hg; have hnb16 := NB199_195.out; have hnc16 := NB195_199.out; obtain ⟨hcz17_0, hcz17_1, hfz17_0, hfz17_1⟩ := zk2 BK199; obtain ⟨hcz18_0, hcz18_1, hfz18_0, hfz18_1⟩ := zk2 BK195))
    go_ret
    exact ⟨ze, zw HB⟩
   rw [if_neg c6] at H
   have c6b0 : (t198 == 0) = false := beq_eq_false_iff_ne.mpr c6
   have c6b1 : (t198 != 0) = true := bne_iff_ne.mpr c6
   obtain rfl := Option.some.inj H
   go_enter Try.func8, Try.ntmps8
   go_wp2_with (first | ((with_reducible refine gate_callee (f := 19) rfl ?_); refine goesL_ (some 6) rfl rfl Try.func19 (by kernel_rfl) rfl #[] rfl za ?_; (with_reducible refine (thatchlaw07_Example.calls  t180 t183 t186 t187 t188 t189 _ A1.out).mono ?_); rintro e w19 ⟨v181, v184, v190, rfl, ho0, ho1, ho2, hb⟩; refine ⟨_, rfl, ?_⟩; have n0_ := Aside0.mk (Kd.R_lower ho0 (below_size (zw HB))); have n1_ := Aside0.mk (Kd.R_lower ho1 (below_size (zw HB))); have n2_ := Aside0.mk (Kd.R_lower ho2 (below_size (zw HB))); have n3_ := zY HB hb; clear HB; have HO182 := n0_; have HO185 := n1_; have HO191 := n2_; have HB := n3_; clear n0_ n1_ n2_ n3_; (try clear hb); (try clear hb2); (try clear hk); (try clear hi); (try clear ho0); (try clear ho1); (try clear ho2); obtain ⟨Ao20, co20, eo20⟩ := Kd.R_slice HO182.out; subst eo20; obtain ⟨Ao21, co21, eo21⟩ := Kd.R_slice HO185.out; subst eo21; obtain ⟨Ao22, co22, eo22⟩ := Kd.R_slice HO191.out; subst eo22) | ((with_reducible refine gate_callee (f := 13) rfl ?_); refine goesL_ (some 8) rfl rfl Try.func13 (by kernel_rfl) rfl #[.agg #[.slice Ao20 t180.length co20, .slice Ao21 t183.length co21, .int .i64 t186, .int .i64 t187, .int .i64 t188, .slice Ao22 t189.length co22], .agg #[.int .i64 20, .int .i64 10]] rfl za ?_; (with_reducible refine (wear_Bounds.calls k _ _ t180 _ _ t183 t186 t187 t188 _ _ t189 20 10 t192 t193 t194 _ ?side1 ?side2 ?side3 ?side4 ?side5 ?side6 A2.out).mono ?_); (case side1 => exact zr (Kd.R_reads' HO182.out).2.2); (case side2 => exact (Kd.R_reads' HO182.out).2.1); (case side3 => exact zr (Kd.R_reads' HO185.out).2.2); (case side4 => exact (Kd.R_reads' HO185.out).2.1); (case side5 => exact zr (Kd.R_reads' HO191.out).2.2); (case side6 => exact (Kd.R_reads' HO191.out).2.1); rintro e w23 ⟨rfl, hb⟩; refine ⟨_, rfl, ?_⟩; have n0_ := Aside0.mk (Kd.R_below (zt HO182) hb); have n1_ := Aside0.mk (Kd.R_below (zt HO185) hb); have n2_ := Aside0.mk (Kd.R_below (zt HO191) hb); have n3_ := zY HB hb; clear HO182; clear HO185; clear HO191; clear HB; have HO182 := n0_; have HO185 := n1_; have HO191 := n2_; have HB := n3_; clear n0_ n1_ n2_ n3_; (try clear hb); (try clear hb2); (try clear hk); (try clear hi)) | ((with_reducible refine gate_dst (N := 1) rfl ?_); refine zx 1 #[.int .i64 0, .int .i64 0] 27 ?_; intro gb195 hg w24 hbox hb; have n0_ := Aside0.mk (Kd.R_below (zt HO182) hb); have n1_ := Aside0.mk (Kd.R_below (zt HO185) hb); have n2_ := Aside0.mk (Kd.R_below (zt HO191) hb); have n3_ := zY HB hb; have n4_ := Aside0.mk (hbox); have n5_ := zS hg HB; have n6_ := zS hg HB; clear HO182; clear HO185; clear HO191; clear HB; have HO182 := n0_; have HO185 := n1_; have HO191 := n2_; have HB := n3_; have BK195 := n4_; have GW195 := n5_; have GE195 := n6_; clear n0_ n1_ n2_ n3_ n4_ n5_ n6_; clear hb hbox hg; obtain ⟨hcz25_0, hcz25_1, hfz25_0, hfz25_1⟩ := zk2 BK195) | ((with_reducible refine gate_callee (f := 20) rfl ?_); refine goesL_ (some 14) rfl rfl Try.func20 (by kernel_rfl) rfl #[.agg #[.int .i64 100, .int .i64 200], .int .i64 1, .int .i64 2, .int .i64 10, .int .i64 50] rfl za ?_; (with_reducible refine (wear_Rate.calls 100 200 1 2 10 50 t196 t197 t198 _ A3.out).mono ?_); rintro e w26 ⟨rfl, hb⟩; refine ⟨_, rfl, ?_⟩; have n0_ := Aside0.mk (Kd.R_below (zF HO182 BK195) hb); have n1_ := Aside0.mk (Kd.R_below (zF HO185 BK195) hb); have n2_ := Aside0.mk (Kd.R_below (zF HO191 BK195) hb); have n3_ := Aside0.mk (blk_below (g := gb195) (o := .cells #[.int .i64 t192, .int .i64 t193] 27 (0, 0)) (by refine zQ ?_; refine blk_put (cs := #[.int .i64 t192, .int .i64 0]) ?_ 1 _ rfl; refine zQ ?_; refine blk_put (cs := #[.int .i64 0, .int .i64 0]) ?_ 0 _ rfl; (with_reducible repeat (first | refine blk_drewN ?_ _ | refine blk_drew ?_ | refine blk_alloc ?_ _)); exact BK195.out) hb); have n4_ := zY HB hb; clear HO182; clear HO185; clear HO191; clear BK195; clear HB; have HO182 := n0_; have HO185 := n1_; have HO191 := n2_; have BK195 := n3_; have HB := n4_; clear n0_ n1_ n2_ n3_ n4_; (try clear hb); (try clear hb2); (try clear hk); (try clear hi)) | ((with_reducible refine gate_dst (N := 3) rfl ?_); refine zx 3 #[.int .i64 0, .int .i64 0] 27 ?_; intro gb199 hg w27 hbox hb; have n0_ := Aside0.mk (Kd.R_below (zt HO182) hb); have n1_ := Aside0.mk (Kd.R_below (zt HO185) hb); have n2_ := Aside0.mk (Kd.R_below (zt HO191) hb); have n3_ := zD BK195 hb; have n4_ := zY HB hb; have n5_ := Aside0.mk (hbox); have n6_ := zS hg HB; have n7_ := zS hg HB; have n8_ := zN hg BK195; have n9_ := zM hg BK195; clear HO182; clear HO185; clear HO191; clear BK195; clear HB; have HO182 := n0_; have HO185 := n1_; have HO191 := n2_; have BK195 := n3_; have HB := n4_; have BK199 := n5_; have GW199 := n6_; have GE199 := n7_; have NB195_199 := n8_; have NB199_195 := n9_; clear n0_ n1_ n2_ n3_ n4_ n5_ n6_ n7_ n8_ n9_; clear hb hbox hg; have hnb28 := NB199_195.out; have hnc28 := NB195_199.out; obtain ⟨hcz29_0, hcz29_1, hfz29_0, hfz29_1⟩ := zk2 BK199; obtain ⟨hcz30_0, hcz30_1, hfz30_0, hfz30_1⟩ := zk2 BK195))
   go_ret
   exact ⟨ze, zw HB⟩
  rw [if_neg c5] at H
  have c5b0 : (t192 == 120 && (t193 == 260)) = false := by simpa using c5
  (try (have c5b1 : decide (t192 = 120 && (t193 == 260)) = false := by simpa using c5))
  (try (have c5b2 : (t192 == 120 && (t193 == 260)) = false := by simpa using c5))
  (try (have c5b3 : ¬ (t192 = 120 && (t193 == 260)) := by simpa using c5))
  clear c5
  obtain rfl := Option.some.inj H
  go_enter Try.func8, Try.ntmps8
  go_wp2_with (first | ((with_reducible refine gate_callee (f := 19) rfl ?_); refine goesL_ (some 6) rfl rfl Try.func19 (by kernel_rfl) rfl #[] rfl za ?_; (with_reducible refine (thatchlaw07_Example.calls  t180 t183 t186 t187 t188 t189 _ A1.out).mono ?_); rintro e w31 ⟨v181, v184, v190, rfl, ho0, ho1, ho2, hb⟩; refine ⟨_, rfl, ?_⟩; have n0_ := Aside0.mk (Kd.R_lower ho0 (below_size (zw HB))); have n1_ := Aside0.mk (Kd.R_lower ho1 (below_size (zw HB))); have n2_ := Aside0.mk (Kd.R_lower ho2 (below_size (zw HB))); have n3_ := zY HB hb; clear HB; have HO182 := n0_; have HO185 := n1_; have HO191 := n2_; have HB := n3_; clear n0_ n1_ n2_ n3_; (try clear hb); (try clear hb2); (try clear hk); (try clear hi); (try clear ho0); (try clear ho1); (try clear ho2); obtain ⟨Ao32, co32, eo32⟩ := Kd.R_slice HO182.out; subst eo32; obtain ⟨Ao33, co33, eo33⟩ := Kd.R_slice HO185.out; subst eo33; obtain ⟨Ao34, co34, eo34⟩ := Kd.R_slice HO191.out; subst eo34) | ((with_reducible refine gate_callee (f := 13) rfl ?_); refine goesL_ (some 8) rfl rfl Try.func13 (by kernel_rfl) rfl #[.agg #[.slice Ao32 t180.length co32, .slice Ao33 t183.length co33, .int .i64 t186, .int .i64 t187, .int .i64 t188, .slice Ao34 t189.length co34], .agg #[.int .i64 20, .int .i64 10]] rfl za ?_; (with_reducible refine (wear_Bounds.calls k _ _ t180 _ _ t183 t186 t187 t188 _ _ t189 20 10 t192 t193 t194 _ ?side1 ?side2 ?side3 ?side4 ?side5 ?side6 A2.out).mono ?_); (case side1 => exact zr (Kd.R_reads' HO182.out).2.2); (case side2 => exact (Kd.R_reads' HO182.out).2.1); (case side3 => exact zr (Kd.R_reads' HO185.out).2.2); (case side4 => exact (Kd.R_reads' HO185.out).2.1); (case side5 => exact zr (Kd.R_reads' HO191.out).2.2); (case side6 => exact (Kd.R_reads' HO191.out).2.1); rintro e w35 ⟨rfl, hb⟩; refine ⟨_, rfl, ?_⟩; have n0_ := Aside0.mk (Kd.R_below (zt HO182) hb); have n1_ := Aside0.mk (Kd.R_below (zt HO185) hb); have n2_ := Aside0.mk (Kd.R_below (zt HO191) hb); have n3_ := zY HB hb; clear HO182; clear HO185; clear HO191; clear HB; have HO182 := n0_; have HO185 := n1_; have HO191 := n2_; have HB := n3_; clear n0_ n1_ n2_ n3_; (try clear hb); (try clear hb2); (try clear hk); (try clear hi)) | ((with_reducible refine gate_dst (N := 1) rfl ?_); refine zx 1 #[.int .i64 0, .int .i64 0] 27 ?_; intro gb195 hg w36 hbox hb; have n0_ := Aside0.mk (Kd.R_below (zt HO182) hb); have n1_ := Aside0.mk (Kd.R_below (zt HO185) hb); have n2_ := Aside0.mk (Kd.R_below (zt HO191) hb); have n3_ := zY HB hb; have n4_ := Aside0.mk (hbox); have n5_ := zS hg HB; have n6_ := zS hg HB; clear HO182; clear HO185; clear HO191; clear HB; have HO182 := n0_; have HO185 := n1_; have HO191 := n2_; have HB := n3_; have BK195 := n4_; have GW195 := n5_; have GE195 := n6_; clear n0_ n1_ n2_ n3_ n4_ n5_ n6_; clear hb hbox hg; obtain ⟨hcz37_0, hcz37_1, hfz37_0, hfz37_1⟩ := zk2 BK195) | ((with_reducible refine gate_callee (f := 20) rfl ?_); refine goesL_ (some 14) rfl rfl Try.func20 (by kernel_rfl) rfl #[.agg #[.int .i64 100, .int .i64 200], .int .i64 1, .int .i64 2, .int .i64 10, .int .i64 50] rfl za ?_; (with_reducible refine (wear_Rate.calls 100 200 1 2 10 50 t196 t197 t198 _ A3.out).mono ?_); rintro e w38 ⟨rfl, hb⟩; refine ⟨_, rfl, ?_⟩; have n0_ := Aside0.mk (Kd.R_below (zF HO182 BK195) hb); have n1_ := Aside0.mk (Kd.R_below (zF HO185 BK195) hb); have n2_ := Aside0.mk (Kd.R_below (zF HO191 BK195) hb); have n3_ := Aside0.mk (blk_below (g := gb195) (o := .cells #[.int .i64 t192, .int .i64 t193] 27 (0, 0)) (by refine zQ ?_; refine blk_put (cs := #[.int .i64 t192, .int .i64 0]) ?_ 1 _ rfl; refine zQ ?_; refine blk_put (cs := #[.int .i64 0, .int .i64 0]) ?_ 0 _ rfl; (with_reducible repeat (first | refine blk_drewN ?_ _ | refine blk_drew ?_ | refine blk_alloc ?_ _)); exact BK195.out) hb); have n4_ := zY HB hb; clear HO182; clear HO185; clear HO191; clear BK195; clear HB; have HO182 := n0_; have HO185 := n1_; have HO191 := n2_; have BK195 := n3_; have HB := n4_; clear n0_ n1_ n2_ n3_ n4_; (try clear hb); (try clear hb2); (try clear hk); (try clear hi)) | ((with_reducible refine gate_dst (N := 3) rfl ?_); refine zx 3 #[.int .i64 0, .int .i64 0] 27 ?_; intro gb199 hg w39 hbox hb; have n0_ := Aside0.mk (Kd.R_below (zt HO182) hb); have n1_ := Aside0.mk (Kd.R_below (zt HO185) hb); have n2_ := Aside0.mk (Kd.R_below (zt HO191) hb); have n3_ := zD BK195 hb; have n4_ := zY HB hb; have n5_ := Aside0.mk (hbox); have n6_ := zS hg HB; have n7_ := zS hg HB; have n8_ := zN hg BK195; have n9_ := zM hg BK195; clear HO182; clear HO185; clear HO191; clear BK195; clear HB; have HO182 := n0_; have HO185 := n1_; have HO191 := n2_; have BK195 := n3_; have HB := n4_; have BK199 := n5_; have GW199 := n6_; have GE199 := n7_; have NB195_199 := n8_; have NB199_195 := n9_; clear n0_ n1_ n2_ n3_ n4_ n5_ n6_ n7_ n8_ n9_; clear hb hbox hg; have hnb40 := NB199_195.out; have hnc40 := NB195_199.out; obtain ⟨hcz41_0, hcz41_1, hfz41_0, hfz41_1⟩ := zk2 BK199; obtain ⟨hcz42_0, hcz42_1, hfz42_0, hfz42_1⟩ := zk2 BK195))
  go_ret
  exact ⟨ze, zw HB⟩
 rw [if_neg c4] at H
 have c4b0 : (t194 == 0) = false := beq_eq_false_iff_ne.mpr c4
 have c4b1 : (t194 != 0) = true := bne_iff_ne.mpr c4
 obtain rfl := Option.some.inj H
 go_enter Try.func8, Try.ntmps8
 go_wp2_with (first | ((with_reducible refine gate_callee (f := 19) rfl ?_); refine goesL_ (some 6) rfl rfl Try.func19 (by kernel_rfl) rfl #[] rfl za ?_; (with_reducible refine (thatchlaw07_Example.calls  t180 t183 t186 t187 t188 t189 _ A1.out).mono ?_); rintro e w43 ⟨v181, v184, v190, rfl, ho0, ho1, ho2, hb⟩; refine ⟨_, rfl, ?_⟩; have n0_ := Aside0.mk (Kd.R_lower ho0 (below_size (zw HB))); have n1_ := Aside0.mk (Kd.R_lower ho1 (below_size (zw HB))); have n2_ := Aside0.mk (Kd.R_lower ho2 (below_size (zw HB))); have n3_ := zY HB hb; clear HB; have HO182 := n0_; have HO185 := n1_; have HO191 := n2_; have HB := n3_; clear n0_ n1_ n2_ n3_; (try clear hb); (try clear hb2); (try clear hk); (try clear hi); (try clear ho0); (try clear ho1); (try clear ho2); obtain ⟨Ao44, co44, eo44⟩ := Kd.R_slice HO182.out; subst eo44; obtain ⟨Ao45, co45, eo45⟩ := Kd.R_slice HO185.out; subst eo45; obtain ⟨Ao46, co46, eo46⟩ := Kd.R_slice HO191.out; subst eo46) | ((with_reducible refine gate_callee (f := 13) rfl ?_); refine goesL_ (some 8) rfl rfl Try.func13 (by kernel_rfl) rfl #[.agg #[.slice Ao44 t180.length co44, .slice Ao45 t183.length co45, .int .i64 t186, .int .i64 t187, .int .i64 t188, .slice Ao46 t189.length co46], .agg #[.int .i64 20, .int .i64 10]] rfl za ?_; (with_reducible refine (wear_Bounds.calls k _ _ t180 _ _ t183 t186 t187 t188 _ _ t189 20 10 t192 t193 t194 _ ?side1 ?side2 ?side3 ?side4 ?side5 ?side6 A2.out).mono ?_); (case side1 => exact zr (Kd.R_reads' HO182.out).2.2); (case side2 => exact (Kd.R_reads' HO182.out).2.1); (case side3 => exact zr (Kd.R_reads' HO185.out).2.2); (case side4 => exact (Kd.R_reads' HO185.out).2.1); (case side5 => exact zr (Kd.R_reads' HO191.out).2.2); (case side6 => exact (Kd.R_reads' HO191.out).2.1); rintro e w47 ⟨rfl, hb⟩; refine ⟨_, rfl, ?_⟩; have n0_ := Aside0.mk (Kd.R_below (zt HO182) hb); have n1_ := Aside0.mk (Kd.R_below (zt HO185) hb); have n2_ := Aside0.mk (Kd.R_below (zt HO191) hb); have n3_ := zY HB hb; clear HO182; clear HO185; clear HO191; clear HB; have HO182 := n0_; have HO185 := n1_; have HO191 := n2_; have HB := n3_; clear n0_ n1_ n2_ n3_; (try clear hb); (try clear hb2); (try clear hk); (try clear hi)) | ((with_reducible refine gate_dst (N := 1) rfl ?_); refine zx 1 #[.int .i64 0, .int .i64 0] 27 ?_; intro gb195 hg w48 hbox hb; have n0_ := Aside0.mk (Kd.R_below (zt HO182) hb); have n1_ := Aside0.mk (Kd.R_below (zt HO185) hb); have n2_ := Aside0.mk (Kd.R_below (zt HO191) hb); have n3_ := zY HB hb; have n4_ := Aside0.mk (hbox); have n5_ := zS hg HB; have n6_ := zS hg HB; clear HO182; clear HO185; clear HO191; clear HB; have HO182 := n0_; have HO185 := n1_; have HO191 := n2_; have HB := n3_; have BK195 := n4_; have GW195 := n5_; have GE195 := n6_; clear n0_ n1_ n2_ n3_ n4_ n5_ n6_; clear hb hbox hg; obtain ⟨hcz49_0, hcz49_1, hfz49_0, hfz49_1⟩ := zk2 BK195) | ((with_reducible refine gate_callee (f := 20) rfl ?_); refine goesL_ (some 14) rfl rfl Try.func20 (by kernel_rfl) rfl #[.agg #[.int .i64 100, .int .i64 200], .int .i64 1, .int .i64 2, .int .i64 10, .int .i64 50] rfl za ?_; (with_reducible refine (wear_Rate.calls 100 200 1 2 10 50 t196 t197 t198 _ A3.out).mono ?_); rintro e w50 ⟨rfl, hb⟩; refine ⟨_, rfl, ?_⟩; have n0_ := Aside0.mk (Kd.R_below (zF HO182 BK195) hb); have n1_ := Aside0.mk (Kd.R_below (zF HO185 BK195) hb); have n2_ := Aside0.mk (Kd.R_below (zF HO191 BK195) hb); have n3_ := Aside0.mk (blk_below (g := gb195) (o := .cells #[.int .i64 t192, .int .i64 t193] 27 (0, 0)) (by refine zQ ?_; refine blk_put (cs := #[.int .i64 t192, .int .i64 0]) ?_ 1 _ rfl; refine zQ ?_; refine blk_put (cs := #[.int .i64 0, .int .i64 0]) ?_ 0 _ rfl; (with_reducible repeat (first | refine blk_drewN ?_ _ | refine blk_drew ?_ | refine blk_alloc ?_ _)); exact BK195.out) hb); have n4_ := zY HB hb; clear HO182; clear HO185; clear HO191; clear BK195; clear HB; have HO182 := n0_; have HO185 := n1_; have HO191 := n2_; have BK195 := n3_; have HB := n4_; clear n0_ n1_ n2_ n3_ n4_; (try clear hb); (try clear hb2); (try clear hk); (try clear hi)) | ((with_reducible refine gate_dst (N := 3) rfl ?_); refine zx 3 #[.int .i64 0, .int .i64 0] 27 ?_; intro gb199 hg w51 hbox hb; have n0_ := Aside0.mk (Kd.R_below (zt HO182) hb); have n1_ := Aside0.mk (Kd.R_below (zt HO185) hb); have n2_ := Aside0.mk (Kd.R_below (zt HO191) hb); have n3_ := zD BK195 hb; have n4_ := zY HB hb; have n5_ := Aside0.mk (hbox); have n6_ := zS hg HB; have n7_ := zS hg HB; have n8_ := zN hg BK195; have n9_ := zM hg BK195; clear HO182; clear HO185; clear HO191; clear BK195; clear HB; have HO182 := n0_; have HO185 := n1_; have HO191 := n2_; have BK195 := n3_; have HB := n4_; have BK199 := n5_; have GW199 := n6_; have GE199 := n7_; have NB195_199 := n8_; have NB199_195 := n9_; clear n0_ n1_ n2_ n3_ n4_ n5_ n6_ n7_ n8_ n9_; clear hb hbox hg; have hnb52 := NB199_195.out; have hnc52 := NB195_199.out; obtain ⟨hcz53_0, hcz53_1, hfz53_0, hfz53_1⟩ := zk2 BK199))
 go_ret
 exact ⟨ze, zw HB⟩
end Go.Proofs.Ytcfpclehogdmbaa.Q
end
section
namespace Go.Proofs.Ytcfpclehogdmbaa.Q
open Go.RowKit Go.Proofs.YtcfpclehogdmbaaW.PrintWords Go.Proofs.YtcfpclehogdmbaaW.PrintLast Go.Proofs.YtcfpclehogdmbaaW.PrintMore
attribute [local go_sem] max2_int min2_int max_two min_two max_three min_three max_four min_four   -- for this text's walks alone
set_option linter.unusedVariables false
set_option linter.unusedSimpArgs false
theorem eqA55 (d : Nat) (w : World) (x0 y0 : Int) (x1 y1 : Int) (x2 y2 : Int) (x3 y3 : Int) :
  (Op.equalIn (d + 3) 55 (.agg #[.int .i64 x0, .int .i64 x1, .int .i64 x2, .int .i64 x3]) (.agg #[.int .i64 y0, .int .i64 y1, .int .i64 y2, .int .i64 y3])).run Try.prog w = .ok ((x0 == y0 && (x1 == y1)) && ((x2 == y2 && (x3 == y3)))) w := by
 refine eqA_of Try.underlying55 (by kernel_rfl) ?_
 refine eqf_cons (by rfl) (by go_simp) (by go_simp) (eqA32 (d + 0) w _ _ _ _) ?_
 exact eqf_last (by rfl) (by go_simp) (by go_simp) (eqA32 (d + 0) w _ _ _ _)
end Go.Proofs.Ytcfpclehogdmbaa.Q
end
section
namespace Go.Proofs.Ytcfpclehogdmbaa.Q
open Go.RowKit Go.Proofs.YtcfpclehogdmbaaW.PrintWords Go.Proofs.YtcfpclehogdmbaaW.PrintLast Go.Proofs.YtcfpclehogdmbaaW.PrintMore
attribute [local go_sem] max2_int min2_int max_two min_two max_three min_three max_four min_four   -- for this text's walks alone
set_option linter.unusedVariables false
set_option linter.unusedSimpArgs false
theorem eqA67 (d : Nat) (w : World) (x0 y0 : Int) (x1 y1 : Int) (x2 y2 : Int) (x3 y3 : Int) :
  (Op.equalIn (d + 3) 67 (.agg #[.int .i64 x0, .int .i64 x1, .int .i64 x2, .int .i64 x3]) (.agg #[.int .i64 y0, .int .i64 y1, .int .i64 y2, .int .i64 y3])).run Try.prog w = .ok ((x0 == y0 && (x1 == y1)) && ((x2 == y2 && (x3 == y3)))) w := by
 refine eqA_of Try.underlying67 (by kernel_rfl) ?_
 refine eqf_cons (by rfl) (by go_simp) (by go_simp) (eqA32 (d + 0) w _ _ _ _) ?_
 exact eqf_last (by rfl) (by go_simp) (by go_simp) (eqA27 (d + 0) w _ _ _ _)
end Go.Proofs.Ytcfpclehogdmbaa.Q
end
section
namespace Go.Proofs.Ytcfpclehogdmbaa.Q
open Go.RowKit Go.Proofs.YtcfpclehogdmbaaW.PrintWords Go.Proofs.YtcfpclehogdmbaaW.PrintLast Go.Proofs.YtcfpclehogdmbaaW.PrintMore
attribute [local go_sem] max2_int min2_int max_two min_two max_three min_three max_four min_four   -- for this text's walks alone
set_option linter.unusedVariables false
set_option linter.unusedSimpArgs false
attribute [local go_sem high] eqA27 eqA32 eqA55 eqA67
mutual
def thatchref07_Same.j0 : Nat → Bool → List (S32) → List (S55) → Int → Int → Int → List (S67) → List (S32) → List (S55) → Int → Int → Int → List (S67) → Option (Bool)
 | 0, _, _, _, _, _, _, _, _, _, _, _, _, _ => none
 | k + 1, x50, x329000, x329001, x329002, x329003, x329004, x329005, x330000, x330001, x330002, x330003, x330004, x330005 => if x50 = true then (some false) else (thatchref07_Same.l0 k 0 x329000 x329001 x329002 x329003 x329004 x329005 x330000 x330001 x330002 x330003 x330004 x330005)
def thatchref07_Same.l0 : Nat → Int → List (S32) → List (S55) → Int → Int → Int → List (S67) → List (S32) → List (S55) → Int → Int → Int → List (S67) → Option (Bool)
 | 0, _, _, _, _, _, _, _, _, _, _, _, _, _ => none
 | k + 1, x5, x329000, x329001, x329002, x329003, x329004, x329005, x330000, x330001, x330002, x330003, x330004, x330005 => if x5 < (x329005.length : Int) then (if 0 ≤ x5 then (if x5 < (x330005.length : Int) then (if ((!(((rd_T67 x329005 x5).f0.f0) == ((rd_T67 x330005 x5).f0.f0)) || (!(((rd_T67 x329005 x5).f0.f1) == ((rd_T67 x330005 x5).f0.f1)))) || ((!(((rd_T67 x329005 x5).f1.f0) == ((rd_T67 x330005 x5).f1.f0)) || (!(((rd_T67 x329005 x5).f1.f1) == ((rd_T67 x330005 x5).f1.f1)))))) = true then (some false) else (thatchref07_Same.l0 k (wrap64 (x5 + 1)) x329000 x329001 x329002 x329003 x329004 x329005 x330000 x330001 x330002 x330003 x330004 x330005)) else (none)) else (none)) else (thatchref07_Same.l1 k 0 x329000 x329001 x329002 x329003 x329004 x329005 x330000 x330001 x330002 x330003 x330004 x330005)
def thatchref07_Same.l1 : Nat → Int → List (S32) → List (S55) → Int → Int → Int → List (S67) → List (S32) → List (S55) → Int → Int → Int → List (S67) → Option (Bool)
 | 0, _, _, _, _, _, _, _, _, _, _, _, _, _ => none
 | k + 1, x6, x329000, x329001, x329002, x329003, x329004, x329005, x330000, x330001, x330002, x330003, x330004, x330005 => if x6 < (x329000.length : Int) then (if 0 ≤ x6 then (if x6 < (x330000.length : Int) then (if (!(((rd_T32 x329000 x6).f0) == ((rd_T32 x330000 x6).f0)) || (!(((rd_T32 x329000 x6).f1) == ((rd_T32 x330000 x6).f1)))) = true then (some false) else (thatchref07_Same.l1 k (wrap64 (x6 + 1)) x329000 x329001 x329002 x329003 x329004 x329005 x330000 x330001 x330002 x330003 x330004 x330005)) else (none)) else (none)) else (thatchref07_Same.l2 k 0 x329000 x329001 x329002 x329003 x329004 x329005 x330000 x330001 x330002 x330003 x330004 x330005)
def thatchref07_Same.l2 : Nat → Int → List (S32) → List (S55) → Int → Int → Int → List (S67) → List (S32) → List (S55) → Int → Int → Int → List (S67) → Option (Bool)
 | 0, _, _, _, _, _, _, _, _, _, _, _, _, _ => none
 | k + 1, x7, x329000, x329001, x329002, x329003, x329004, x329005, x330000, x330001, x330002, x330003, x330004, x330005 => if x7 < (x329001.length : Int) then (if 0 ≤ x7 then (if x7 < (x330001.length : Int) then (if ((!(((rd_T55 x329001 x7).f0.f0) == ((rd_T55 x330001 x7).f0.f0)) || (!(((rd_T55 x329001 x7).f0.f1) == ((rd_T55 x330001 x7).f0.f1)))) || ((!(((rd_T55 x329001 x7).f1.f0) == ((rd_T55 x330001 x7).f1.f0)) || (!(((rd_T55 x329001 x7).f1.f1) == ((rd_T55 x330001 x7).f1.f1)))))) = true then (some false) else (thatchref07_Same.l2 k (wrap64 (x7 + 1)) x329000 x329001 x329002 x329003 x329004 x329005 x330000 x330001 x330002 x330003 x330004 x330005)) else (none)) else (none)) else (some true)
end
def thatchref07_Same.f (k : Nat) (l0_0 : List (S32)) (l0_1 : List (S55)) (a0_2 : Int) (a0_3 : Int) (a0_4 : Int) (l0_5 : List (S67)) (l1_0 : List (S32)) (l1_1 : List (S55)) (a1_2 : Int) (a1_3 : Int) (a1_4 : Int) (l1_5 : List (S67)) : Option (Bool) := if a0_2 = a1_2 then (if (!(a0_3 == a1_3) || (!(a0_4 == a1_4))) = true then (thatchref07_Same.j0 k true l0_0 l0_1 a0_2 a0_3 a0_4 l0_5 l1_0 l1_1 a1_2 a1_3 a1_4 l1_5) else (if (l0_5.length : Int) = (l1_5.length : Int) then (if (l0_0.length : Int) = (l1_0.length : Int) then (thatchref07_Same.j0 k ((l0_1.length : Int) != (l1_1.length : Int)) l0_0 l0_1 a0_2 a0_3 a0_4 l0_5 l1_0 l1_1 a1_2 a1_3 a1_4 l1_5) else (thatchref07_Same.j0 k true l0_0 l0_1 a0_2 a0_3 a0_4 l0_5 l1_0 l1_1 a1_2 a1_3 a1_4 l1_5)) else (thatchref07_Same.j0 k true l0_0 l0_1 a0_2 a0_3 a0_4 l0_5 l1_0 l1_1 a1_2 a1_3 a1_4 l1_5))) else (thatchref07_Same.j0 k true l0_0 l0_1 a0_2 a0_3 a0_4 l0_5 l1_0 l1_1 a1_2 a1_3 a1_4 l1_5)
set_option maxHeartbeats 8000000 in
set_option maxRecDepth 100000 in
theorem thatchref07_Same.calls (k : Nat) (A0_0 : Option Addr) (c0_0 : Nat) (l0_0 : List (S32)) (A0_1 : Option Addr) (c0_1 : Nat) (l0_1 : List (S55)) (a0_2 : Int) (a0_3 : Int) (a0_4 : Int) (A0_5 : Option Addr) (c0_5 : Nat) (l0_5 : List (S67)) (A1_0 : Option Addr) (c1_0 : Nat) (l1_0 : List (S32)) (A1_1 : Option Addr) (c1_1 : Nat) (l1_1 : List (S55)) (a1_2 : Int) (a1_3 : Int) (a1_4 : Int) (A1_5 : Option Addr) (c1_5 : Nat) (l1_5 : List (S67)) (r : Bool) (w : World) (hr0_0 : Kd.C k32 w A0_0 l0_0.length l0_0) (hc0_0 : l0_0.length ≤ c0_0) (hr0_1 : Kd.C k55 w A0_1 l0_1.length l0_1) (hc0_1 : l0_1.length ≤ c0_1) (hr0_5 : Kd.C k67 w A0_5 l0_5.length l0_5) (hc0_5 : l0_5.length ≤ c0_5) (hr1_0 : Kd.C k32 w A1_0 l1_0.length l1_0) (hc1_0 : l1_0.length ≤ c1_0) (hr1_1 : Kd.C k55 w A1_1 l1_1.length l1_1) (hc1_1 : l1_1.length ≤ c1_1) (hr1_5 : Kd.C k67 w A1_5 l1_5.length l1_5) (hc1_5 : l1_5.length ≤ c1_5) (h : thatchref07_Same.f k l0_0 l0_1 a0_2 a0_3 a0_4 l0_5 l1_0 l1_1 a1_2 a1_3 a1_4 l1_5 = some r) :
  Calls Try.prog 11 #[.agg #[.slice A0_0 l0_0.length c0_0, .slice A0_1 l0_1.length c0_1, .int .i64 a0_2, .int .i64 a0_3, .int .i64 a0_4, .slice A0_5 l0_5.length c0_5], .agg #[.slice A1_0 l1_0.length c1_0, .slice A1_1 l1_1.length c1_1, .int .i64 a1_2, .int .i64 a1_3, .int .i64 a1_4, .slice A1_5 l1_5.length c1_5]] w fun e w' => e = .returned (.bool r) ∧ Below w.heap.size w w' := by
 have hu30 := Try.underlying30
 have hu27 := Try.underlying27
 have hu67 := Try.underlying67
 have hu32 := Try.underlying32
 have hu55 := Try.underlying55
 have HR0_0 := Aside0.mk hr0_0
 have HC0_0 := Aside0.mk hc0_0
 clear hr0_0 hc0_0
 have HR0_1 := Aside0.mk hr0_1
 have HC0_1 := Aside0.mk hc0_1
 clear hr0_1 hc0_1
 have HR0_5 := Aside0.mk hr0_5
 have HC0_5 := Aside0.mk hc0_5
 clear hr0_5 hc0_5
 have HR1_0 := Aside0.mk hr1_0
 have HC1_0 := Aside0.mk hc1_0
 clear hr1_0 hc1_0
 have HR1_1 := Aside0.mk hr1_1
 have HC1_1 := Aside0.mk hc1_1
 clear hr1_1 hc1_1
 have HR1_5 := Aside0.mk hr1_5
 have HC1_5 := Aside0.mk hc1_5
 clear hr1_5 hc1_5
 have HB := Aside0.mk (Below.refl w.heap.size w)
 have H : (if a0_2 = a1_2 then (if (!(a0_3 == a1_3) || (!(a0_4 == a1_4))) = true then (thatchref07_Same.j0 k true l0_0 l0_1 a0_2 a0_3 a0_4 l0_5 l1_0 l1_1 a1_2 a1_3 a1_4 l1_5) else (if (l0_5.length : Int) = (l1_5.length : Int) then (if (l0_0.length : Int) = (l1_0.length : Int) then (thatchref07_Same.j0 k ((l0_1.length : Int) != (l1_1.length : Int)) l0_0 l0_1 a0_2 a0_3 a0_4 l0_5 l1_0 l1_1 a1_2 a1_3 a1_4 l1_5) else (thatchref07_Same.j0 k true l0_0 l0_1 a0_2 a0_3 a0_4 l0_5 l1_0 l1_1 a1_2 a1_3 a1_4 l1_5)) else (thatchref07_Same.j0 k true l0_0 l0_1 a0_2 a0_3 a0_4 l0_5 l1_0 l1_1 a1_2 a1_3 a1_4 l1_5))) else (thatchref07_Same.j0 k true l0_0 l0_1 a0_2 a0_3 a0_4 l0_5 l1_0 l1_1 a1_2 a1_3 a1_4 l1_5)) = some r := h
 clear h
 have HC3 := Aside0.mk H
 clear H
 go_enter Try.func11, Try.ntmps11
 go_upto_region 1 with (first | ((with_reducible refine gate_dst (N := 2) rfl ?_); (try (refine gate_guard (by rfl) ?_; dsimp only)); refine zx 2 #[.slice A0_0 l0_0.length c0_0, .slice A0_1 l0_1.length c0_1, .int .i64 a0_2, .int .i64 a0_3, .int .i64 a0_4, .slice A0_5 l0_5.length c0_5] 30 ?_; intro gb328 hg w4 hbox hb; have n0_ := zY HB hb; have n1_ := Aside0.mk (hbox); have n2_ := zS hg HB; have n3_ := zS hg HB; clear HB; have HB := n0_; have BK328 := n1_; have GW328 := n2_; have GE328 := n3_; clear n0_ n1_ n2_ n3_; clear hb hbox hg) | ((with_reducible refine gate_dst (N := 3) rfl ?_); (try (refine gate_guard (by rfl) ?_; dsimp only)); refine zx 3 #[.slice A1_0 l1_0.length c1_0, .slice A1_1 l1_1.length c1_1, .int .i64 a1_2, .int .i64 a1_3, .int .i64 a1_4, .slice A1_5 l1_5.length c1_5] 30 ?_; intro gb329 hg w5 hbox hb; have n0_ := zD BK328 hb; have n1_ := zY HB hb; have n2_ := Aside0.mk (hbox); have n3_ := zS hg HB; have n4_ := zS hg HB; have n5_ := zN hg BK328; have n6_ := zM hg BK328; clear BK328; clear HB; have BK328 := n0_; have HB := n1_; have BK329 := n2_; have GW329 := n3_; have GE329 := n4_; have NB328_329 := n5_; have NB329_328 := n6_; clear n0_ n1_ n2_ n3_ n4_ n5_ n6_; clear hb hbox hg))
 repeat (go_quiet (first | ((with_reducible refine gate_dst (N := 2) rfl ?_); (try (refine gate_guard (by rfl) ?_; dsimp only)); refine zx 2 #[.slice A0_0 l0_0.length c0_0, .slice A0_1 l0_1.length c0_1, .int .i64 a0_2, .int .i64 a0_3, .int .i64 a0_4, .slice A0_5 l0_5.length c0_5] 30 ?_; intro gb328 hg w4 hbox hb; have n0_ := zY HB hb; have n1_ := Aside0.mk (hbox); have n2_ := zS hg HB; have n3_ := zS hg HB; clear HB; have HB := n0_; have BK328 := n1_; have GW328 := n2_; have GE328 := n3_; clear n0_ n1_ n2_ n3_; clear hb hbox hg) | ((with_reducible refine gate_dst (N := 3) rfl ?_); (try (refine gate_guard (by rfl) ?_; dsimp only)); refine zx 3 #[.slice A1_0 l1_0.length c1_0, .slice A1_1 l1_1.length c1_1, .int .i64 a1_2, .int .i64 a1_3, .int .i64 a1_4, .slice A1_5 l1_5.length c1_5] 30 ?_; intro gb329 hg w5 hbox hb; have n0_ := zD BK328 hb; have n1_ := zY HB hb; have n2_ := Aside0.mk (hbox); have n3_ := zS hg HB; have n4_ := zS hg HB; have n5_ := zN hg BK328; have n6_ := zM hg BK328; clear BK328; clear HB; have BK328 := n0_; have HB := n1_; have BK329 := n2_; have GW329 := n3_; have GE329 := n4_; have NB328_329 := n5_; have NB329_328 := n6_; clear n0_ n1_ n2_ n3_ n4_ n5_ n6_; clear hb hbox hg)); go_upto_region 1 with (first | ((with_reducible refine gate_dst (N := 2) rfl ?_); (try (refine gate_guard (by rfl) ?_; dsimp only)); refine zx 2 #[.slice A0_0 l0_0.length c0_0, .slice A0_1 l0_1.length c0_1, .int .i64 a0_2, .int .i64 a0_3, .int .i64 a0_4, .slice A0_5 l0_5.length c0_5] 30 ?_; intro gb328 hg w4 hbox hb; have n0_ := zY HB hb; have n1_ := Aside0.mk (hbox); have n2_ := zS hg HB; have n3_ := zS hg HB; clear HB; have HB := n0_; have BK328 := n1_; have GW328 := n2_; have GE328 := n3_; clear n0_ n1_ n2_ n3_; clear hb hbox hg) | ((with_reducible refine gate_dst (N := 3) rfl ?_); (try (refine gate_guard (by rfl) ?_; dsimp only)); refine zx 3 #[.slice A1_0 l1_0.length c1_0, .slice A1_1 l1_1.length c1_1, .int .i64 a1_2, .int .i64 a1_3, .int .i64 a1_4, .slice A1_5 l1_5.length c1_5] 30 ?_; intro gb329 hg w5 hbox hb; have n0_ := zD BK328 hb; have n1_ := zY HB hb; have n2_ := Aside0.mk (hbox); have n3_ := zS hg HB; have n4_ := zS hg HB; have n5_ := zN hg BK328; have n6_ := zM hg BK328; clear BK328; clear HB; have BK328 := n0_; have HB := n1_; have BK329 := n2_; have GW329 := n3_; have GE329 := n4_; have NB328_329 := n5_; have NB329_328 := n6_; clear n0_ n1_ n2_ n3_ n4_ n5_ n6_; clear hb hbox hg)))
 (try simp only [Act.put, List.setIfInBounds_toArray, List.set_cons_zero, List.set_cons_succ])
 go_cut [50] (fun v50 wc => ∃ (kq : Nat) (x50_2 : Bool), v50 = .bool x50_2 ∧ Aside0 (thatchref07_Same.j0 kq x50_2 l0_0 l0_1 a0_2 a0_3 a0_4 l0_5 l1_0 l1_1 a1_2 a1_3 a1_4 l1_5 = some r) ∧ Aside0 (kq ≤ k) ∧ Aside0 (wc.heap[gb328]? = some (.cells #[(.slice A0_0 l0_0.length c0_0), (.slice A0_1 l0_1.length c0_1), .int .i64 a0_2, .int .i64 a0_3, .int .i64 a0_4, (.slice A0_5 l0_5.length c0_5)] 30 (0, 0))) ∧ Aside0 (wc.heap[gb329]? = some (.cells #[(.slice A1_0 l1_0.length c1_0), (.slice A1_1 l1_1.length c1_1), .int .i64 a1_2, .int .i64 a1_3, .int .i64 a1_4, (.slice A1_5 l1_5.length c1_5)] 30 (0, 0))) ∧ Aside0 (Below w.heap.size w wc))
 case first =>
  have H := HC3.out
  clear HC3
  by_cases c6 : a0_2 = a1_2
  ·rw [if_pos c6] at H
   have c6b0 : (a0_2 == a1_2) = true := beq_iff_eq.mpr c6
   have c6b1 : (a0_2 != a1_2) = false := bne_eq_false_iff_eq.mpr c6
   clear c6
   (first | rw [c6b0] | (simp only [i64_w, i32_w]; rw [c6b0]) | skip)
   by_cases c7 : (!(a0_3 == a1_3) || (!(a0_4 == a1_4))) = true
   ·rw [if_pos c7] at H
    have c7b0 : (!(a0_3 == a1_3) || (!(a0_4 == a1_4))) = true := c7
    clear c7
    have H' := Aside0.mk H
    clear H
    have hnb8 := NB328_329.out
    have hnc8 := NB329_328.out
    obtain ⟨hcz9_0, hcz9_1, hcz9_2, hcz9_3, hcz9_4, hcz9_5, hfz9_0, hfz9_1, hfz9_2, hfz9_3, hfz9_4, hfz9_5⟩ := zk6 BK328
    obtain ⟨hcz10_0, hcz10_1, hcz10_2, hcz10_3, hcz10_4, hcz10_5, hfz10_0, hfz10_1, hfz10_2, hfz10_3, hfz10_4, hfz10_5⟩ := zk6 BK329
    go_wp2
    repeat (go_quiet (fail); try go_wp2)
    go_meet
    case rel => exact ⟨_, (true), zq, H', ⟨by first | omega | exact Nat.le_refl _⟩, ⟨zb BK328⟩, ⟨zb BK329⟩, ⟨zw HB⟩⟩
   rw [if_neg c7] at H
   have c7b0 : (!(a0_3 == a1_3) || (!(a0_4 == a1_4))) = false := by simpa using c7
   clear c7
   by_cases c11 : (l0_5.length : Int) = (l1_5.length : Int)
   ·rw [if_pos c11] at H
    have c11b0 : ((l0_5.length : Int) == (l1_5.length : Int)) = true := beq_iff_eq.mpr c11
    have c11b1 : ((l0_5.length : Int) != (l1_5.length : Int)) = false := bne_eq_false_iff_eq.mpr c11
    have c11b2 : (l0_5.length == l1_5.length) = true := by first | simpa using c11 | (simp at c11 ⊢; omega)
    clear c11
    by_cases c12 : (l0_0.length : Int) = (l1_0.length : Int)
    ·rw [if_pos c12] at H
     have c12b0 : ((l0_0.length : Int) == (l1_0.length : Int)) = true := beq_iff_eq.mpr c12
     have c12b1 : ((l0_0.length : Int) != (l1_0.length : Int)) = false := bne_eq_false_iff_eq.mpr c12
     have c12b2 : (l0_0.length == l1_0.length) = true := by first | simpa using c12 | (simp at c12 ⊢; omega)
     clear c12
     have H' := Aside0.mk H
     clear H
     have hnb13 := NB328_329.out
     have hnc13 := NB329_328.out
     obtain ⟨hcz14_0, hcz14_1, hcz14_2, hcz14_3, hcz14_4, hcz14_5, hfz14_0, hfz14_1, hfz14_2, hfz14_3, hfz14_4, hfz14_5⟩ := zk6 BK328
     obtain ⟨hcz15_0, hcz15_1, hcz15_2, hcz15_3, hcz15_4, hcz15_5, hfz15_0, hfz15_1, hfz15_2, hfz15_3, hfz15_4, hfz15_5⟩ := zk6 BK329
     go_wp2
     repeat (go_quiet (fail); try go_wp2)
     go_meet
     case rel => exact ⟨_, (((l0_1.length : Int) != (l1_1.length : Int))), zq, H', ⟨by first | omega | exact Nat.le_refl _⟩, ⟨zb BK328⟩, ⟨zb BK329⟩, ⟨zw HB⟩⟩
    rw [if_neg c12] at H
    have c12b0 : ((l0_0.length : Int) == (l1_0.length : Int)) = false := beq_eq_false_iff_ne.mpr c12
    have c12b1 : ((l0_0.length : Int) != (l1_0.length : Int)) = true := bne_iff_ne.mpr c12
    have c12b2 : (l0_0.length == l1_0.length) = false := by first | simpa using c12 | (simp at c12 ⊢; omega)
    have H' := Aside0.mk H
    clear H
    have hnb16 := NB328_329.out
    have hnc16 := NB329_328.out
    obtain ⟨hcz17_0, hcz17_1, hcz17_2, hcz17_3, hcz17_4, hcz17_5, hfz17_0, hfz17_1, hfz17_2, hfz17_3, hfz17_4, hfz17_5⟩ := zk6 BK328
    obtain ⟨hcz18_0, hcz18_1, hcz18_2, hcz18_3, hcz18_4, hcz18_5, hfz18_0, hfz18_1, hfz18_2, hfz18_3, hfz18_4, hfz18_5⟩ := zk6 BK329
    go_wp2
    repeat (go_quiet (fail); try go_wp2)
    go_meet
    case rel => exact ⟨_, (true), zq, H', ⟨by first | omega | exact Nat.le_refl _⟩, ⟨zb BK328⟩, ⟨zb BK329⟩, ⟨zw HB⟩⟩
   rw [if_neg c11] at H
   have c11b0 : ((l0_5.length : Int) == (l1_5.length : Int)) = false := beq_eq_false_iff_ne.mpr c11
   have c11b1 : ((l0_5.length : Int) != (l1_5.length : Int)) = true := bne_iff_ne.mpr c11
   have c11b2 : (l0_5.length == l1_5.length) = false := by first | simpa using c11 | (simp at c11 ⊢; omega)
   have H' := Aside0.mk H
   clear H
   have hnb19 := NB328_329.out
   have hnc19 := NB329_328.out
   obtain ⟨hcz20_0, hcz20_1, hcz20_2, hcz20_3, hcz20_4, hcz20_5, hfz20_0, hfz20_1, hfz20_2, hfz20_3, hfz20_4, hfz20_5⟩ := zk6 BK328
   obtain ⟨hcz21_0, hcz21_1, hcz21_2, hcz21_3, hcz21_4, hcz21_5, hfz21_0, hfz21_1, hfz21_2, hfz21_3, hfz21_4, hfz21_5⟩ := zk6 BK329
   go_wp2
   repeat (go_quiet (fail); try go_wp2)
   go_meet
   case rel => exact ⟨_, (true), zq, H', ⟨by first | omega | exact Nat.le_refl _⟩, ⟨zb BK328⟩, ⟨zb BK329⟩, ⟨zw HB⟩⟩
  rw [if_neg c6] at H
  have c6b0 : (a0_2 == a1_2) = false := beq_eq_false_iff_ne.mpr c6
  have c6b1 : (a0_2 != a1_2) = true := bne_iff_ne.mpr c6
  (first | rw [c6b0] | (simp only [i64_w, i32_w]; rw [c6b0]) | skip)
  have H' := Aside0.mk H
  clear H
  have hnb22 := NB328_329.out
  have hnc22 := NB329_328.out
  obtain ⟨hcz23_0, hcz23_1, hcz23_2, hcz23_3, hcz23_4, hcz23_5, hfz23_0, hfz23_1, hfz23_2, hfz23_3, hfz23_4, hfz23_5⟩ := zk6 BK328
  obtain ⟨hcz24_0, hcz24_1, hcz24_2, hcz24_3, hcz24_4, hcz24_5, hfz24_0, hfz24_1, hfz24_2, hfz24_3, hfz24_4, hfz24_5⟩ := zk6 BK329
  go_wp2
  repeat (go_quiet (fail); try go_wp2)
  go_meet
  case rel => exact ⟨_, (true), zq, H', ⟨by first | omega | exact Nat.le_refl _⟩, ⟨zb BK328⟩, ⟨zb BK329⟩, ⟨zw HB⟩⟩
 case rest =>
  clear HC3; try clear c1; try clear c2; try clear p2; try clear c6; try clear c6b0; try clear c6b1; try clear c7; try clear c7b0; try clear c8; try clear c11; try clear c11b0; try clear c11b1; try clear c11b2; try clear c12; try clear c12b0; try clear c12b1; try clear c12b2; try clear c13; try clear c16; try clear c19; try clear c22; try clear hcz10_0 hcz10_1 hcz10_2 hcz10_3 hcz10_4 hcz10_5; try clear hcz14_0 hcz14_1 hcz14_2 hcz14_3 hcz14_4 hcz14_5; try clear hcz15_0 hcz15_1 hcz15_2 hcz15_3 hcz15_4 hcz15_5; try clear hcz17_0 hcz17_1 hcz17_2 hcz17_3 hcz17_4 hcz17_5; try clear hcz18_0 hcz18_1 hcz18_2 hcz18_3 hcz18_4 hcz18_5; try clear hcz20_0 hcz20_1 hcz20_2 hcz20_3 hcz20_4 hcz20_5; try clear hcz21_0 hcz21_1 hcz21_2 hcz21_3 hcz21_4 hcz21_5; try clear hcz23_0 hcz23_1 hcz23_2 hcz23_3 hcz23_4 hcz23_5; try clear hcz24_0 hcz24_1 hcz24_2 hcz24_3 hcz24_4 hcz24_5; try clear hcz9_0 hcz9_1 hcz9_2 hcz9_3 hcz9_4 hcz9_5; try clear hfz10_0 hfz10_1 hfz10_2 hfz10_3 hfz10_4 hfz10_5; try clear hfz14_0 hfz14_1 hfz14_2 hfz14_3 hfz14_4 hfz14_5; try clear hfz15_0 hfz15_1 hfz15_2 hfz15_3 hfz15_4 hfz15_5; try clear hfz17_0 hfz17_1 hfz17_2 hfz17_3 hfz17_4 hfz17_5; try clear hfz18_0 hfz18_1 hfz18_2 hfz18_3 hfz18_4 hfz18_5; try clear hfz20_0 hfz20_1 hfz20_2 hfz20_3 hfz20_4 hfz20_5; try clear hfz21_0 hfz21_1 hfz21_2 hfz21_3 hfz21_4 hfz21_5; try clear hfz23_0 hfz23_1 hfz23_2 hfz23_3 hfz23_4 hfz23_5; try clear hfz24_0 hfz24_1 hfz24_2 hfz24_3 hfz24_4 hfz24_5; try clear hfz9_0 hfz9_1 hfz9_2 hfz9_3 hfz9_4 hfz9_5
  obtain ⟨kq, x50_2, rfl, HA, HJ2, BK328, BK329, HB⟩ := hcut
  cases kq with
  | zero => exact absurd HA.out (by simp [thatchref07_Same.j0])
  | succ kj2 =>
   have H := HA.out
   clear HA
   simp only [thatchref07_Same.j0] at H
   by_cases c25 : x50_2 = true
   ·subst c25
    have H1 : (some false) = some r := by rw [if_pos rfl] at H; exact H
    clear H
    have H := H1
    clear H1
    obtain rfl := Option.some.inj H
    go_wp2
    repeat (go_quiet (fail); try go_wp2)
    go_ret
    exact ⟨ze, zw HB⟩
   replace c25 := Bool.eq_false_iff.mpr c25
   subst c25
   have H1 : (thatchref07_Same.l0 kj2 0 l0_0 l0_1 a0_2 a0_3 a0_4 l0_5 l1_0 l1_1 a1_2 a1_3 a1_4 l1_5) = some r := by rw [if_neg (show ¬ (false = true) by decide)] at H; exact H
   clear H
   have H := H1
   clear H1
   have H' := Aside0.mk H
   clear H
   go_wp2
   repeat (go_quiet (fail); try go_wp2)
   go_loopg [5] kj2 (fun kq v5 w' => ∃ (x5_2 : Int), v5 = .int .i64 x5_2 ∧ Aside0 (thatchref07_Same.l0 kq x5_2 l0_0 l0_1 a0_2 a0_3 a0_4 l0_5 l1_0 l1_1 a1_2 a1_3 a1_4 l1_5 = some r) ∧ Aside0 (kq ≤ kj2) ∧ Aside0 (w'.heap[gb328]? = some (.cells #[(.slice A0_0 l0_0.length c0_0), (.slice A0_1 l0_1.length c0_1), .int .i64 a0_2, .int .i64 a0_3, .int .i64 a0_4, (.slice A0_5 l0_5.length c0_5)] 30 (0, 0))) ∧ Aside0 (w'.heap[gb329]? = some (.cells #[(.slice A1_0 l1_0.length c1_0), (.slice A1_1 l1_1.length c1_1), .int .i64 a1_2, .int .i64 a1_3, .int .i64 a1_4, (.slice A1_5 l1_5.length c1_5)] 30 (0, 0))) ∧ Aside0 (Below w.heap.size w w'))
   case atStart => exact ⟨(0), zq, H', ⟨Nat.le_refl _⟩, ⟨zb BK328⟩, ⟨zb BK329⟩, ⟨zw HB⟩⟩
   case round =>
    clear H'; try clear c1; try clear c2; try clear p2; try clear c6; try clear c6b0; try clear c6b1; try clear c7; try clear c7b0; try clear c8; try clear c11; try clear c11b0; try clear c11b1; try clear c11b2; try clear c12; try clear c12b0; try clear c12b1; try clear c12b2; try clear c13; try clear c16; try clear c19; try clear c22; try clear c25; try clear hcz10_0 hcz10_1 hcz10_2 hcz10_3 hcz10_4 hcz10_5; try clear hcz14_0 hcz14_1 hcz14_2 hcz14_3 hcz14_4 hcz14_5; try clear hcz15_0 hcz15_1 hcz15_2 hcz15_3 hcz15_4 hcz15_5; try clear hcz17_0 hcz17_1 hcz17_2 hcz17_3 hcz17_4 hcz17_5; try clear hcz18_0 hcz18_1 hcz18_2 hcz18_3 hcz18_4 hcz18_5; try clear hcz20_0 hcz20_1 hcz20_2 hcz20_3 hcz20_4 hcz20_5; try clear hcz21_0 hcz21_1 hcz21_2 hcz21_3 hcz21_4 hcz21_5; try clear hcz23_0 hcz23_1 hcz23_2 hcz23_3 hcz23_4 hcz23_5; try clear hcz24_0 hcz24_1 hcz24_2 hcz24_3 hcz24_4 hcz24_5; try clear hcz9_0 hcz9_1 hcz9_2 hcz9_3 hcz9_4 hcz9_5; try clear hfz10_0 hfz10_1 hfz10_2 hfz10_3 hfz10_4 hfz10_5; try clear hfz14_0 hfz14_1 hfz14_2 hfz14_3 hfz14_4 hfz14_5; try clear hfz15_0 hfz15_1 hfz15_2 hfz15_3 hfz15_4 hfz15_5; try clear hfz17_0 hfz17_1 hfz17_2 hfz17_3 hfz17_4 hfz17_5; try clear hfz18_0 hfz18_1 hfz18_2 hfz18_3 hfz18_4 hfz18_5; try clear hfz20_0 hfz20_1 hfz20_2 hfz20_3 hfz20_4 hfz20_5; try clear hfz21_0 hfz21_1 hfz21_2 hfz21_3 hfz21_4 hfz21_5; try clear hfz23_0 hfz23_1 hfz23_2 hfz23_3 hfz23_4 hfz23_5; try clear hfz24_0 hfz24_1 hfz24_2 hfz24_3 hfz24_4 hfz24_5; try clear hfz9_0 hfz9_1 hfz9_2 hfz9_3 hfz9_4 hfz9_5; try clear p2
    obtain ⟨x5_2, rfl, HA, HK2, BK328, BK329, HB⟩ := hrel
    cases gk with
    | zero => exact absurd HA.out (by simp [thatchref07_Same.l0])
    | succ k2 =>
     have H := HA.out
     clear HA
     simp only [thatchref07_Same.l0] at H
     by_cases c26 : x5_2 < (l0_5.length : Int)
     ·rw [if_pos c26] at H
      have c26b0 : decide (x5_2 < (l0_5.length : Int)) = true := decide_eq_true c26
      clear c26
      by_cases c27 : 0 ≤ x5_2
      ·rw [if_pos c27] at H
       have c27b0 : decide (0 ≤ x5_2) = true := decide_eq_true c27
       clear c27
       by_cases c28 : x5_2 < (l1_5.length : Int)
       ·rw [if_pos c28] at H
        have c28b0 : decide (x5_2 < (l1_5.length : Int)) = true := decide_eq_true c28
        clear c28
        by_cases c29 : ((!(((rd_T67 l0_5 x5_2).f0.f0) == ((rd_T67 l1_5 x5_2).f0.f0)) || (!(((rd_T67 l0_5 x5_2).f0.f1) == ((rd_T67 l1_5 x5_2).f0.f1)))) || ((!(((rd_T67 l0_5 x5_2).f1.f0) == ((rd_T67 l1_5 x5_2).f1.f0)) || (!(((rd_T67 l0_5 x5_2).f1.f1) == ((rd_T67 l1_5 x5_2).f1.f1)))))) = true
        ·rw [if_pos c29] at H
         have c29b0 : ((!(((rd_T67 l0_5 x5_2).f0.f0) == ((rd_T67 l1_5 x5_2).f0.f0)) || (!(((rd_T67 l0_5 x5_2).f0.f1) == ((rd_T67 l1_5 x5_2).f0.f1)))) || ((!(((rd_T67 l0_5 x5_2).f1.f0) == ((rd_T67 l1_5 x5_2).f1.f0)) || (!(((rd_T67 l0_5 x5_2).f1.f1) == ((rd_T67 l1_5 x5_2).f1.f1)))))) = true := c29
         clear c29
         obtain rfl := Option.some.inj H
         have hnb30 := NB328_329.out
         have hnc30 := NB329_328.out
         obtain ⟨hcz31_0, hcz31_1, hcz31_2, hcz31_3, hcz31_4, hcz31_5, hfz31_0, hfz31_1, hfz31_2, hfz31_3, hfz31_4, hfz31_5⟩ := zk6 BK328
         have p330 : 0 ≤ (x5_2 : Int) := of_decide_eq_true zj
         have q330 : x5_2 < (l0_5.length : Int) := of_decide_eq_true zj
         obtain ⟨ad330, e330, hx330_0, hx330_1, hx330_2, hx330_3⟩ := at_T67 HR0_5.out x5_2 p330 q330
         cases e330
         replace hx330_0 := zu hx330_0 HB
         replace hx330_1 := zu hx330_1 HB
         replace hx330_2 := zu hx330_2 HB
         replace hx330_3 := zu hx330_3 HB
         replace p330 := eq_true p330
         replace q330 := eq_true q330
         obtain ⟨hcz32_0, hcz32_1, hcz32_2, hcz32_3, hcz32_4, hcz32_5, hfz32_0, hfz32_1, hfz32_2, hfz32_3, hfz32_4, hfz32_5⟩ := zk6 BK329
         have p331 : 0 ≤ (x5_2 : Int) := of_decide_eq_true zj
         have q331 : x5_2 < (l1_5.length : Int) := of_decide_eq_true zj
         obtain ⟨ad331, e331, hx331_0, hx331_1, hx331_2, hx331_3⟩ := at_T67 HR1_5.out x5_2 p331 q331
         cases e331
         replace hx331_0 := zu hx331_0 HB
         replace hx331_1 := zu hx331_1 HB
         replace hx331_2 := zu hx331_2 HB
         replace hx331_3 := zu hx331_3 HB
         replace p331 := eq_true p331
         replace q331 := eq_true q331
         go_wp2
         repeat (go_quiet (fail); try go_wp2)
         go_ret
         exact ⟨ze, zw HB⟩
        rw [if_neg c29] at H
        have c29b0 : ((!(((rd_T67 l0_5 x5_2).f0.f0) == ((rd_T67 l1_5 x5_2).f0.f0)) || (!(((rd_T67 l0_5 x5_2).f0.f1) == ((rd_T67 l1_5 x5_2).f0.f1)))) || ((!(((rd_T67 l0_5 x5_2).f1.f0) == ((rd_T67 l1_5 x5_2).f1.f0)) || (!(((rd_T67 l0_5 x5_2).f1.f1) == ((rd_T67 l1_5 x5_2).f1.f1)))))) = false := by simpa using c29
        clear c29
        have H' := Aside0.mk H
        clear H
        have hnb33 := NB328_329.out
        have hnc33 := NB329_328.out
        obtain ⟨hcz34_0, hcz34_1, hcz34_2, hcz34_3, hcz34_4, hcz34_5, hfz34_0, hfz34_1, hfz34_2, hfz34_3, hfz34_4, hfz34_5⟩ := zk6 BK328
        have p330 : 0 ≤ (x5_2 : Int) := of_decide_eq_true zj
        have q330 : x5_2 < (l0_5.length : Int) := of_decide_eq_true zj
        obtain ⟨ad330, e330, hx330_0, hx330_1, hx330_2, hx330_3⟩ := at_T67 HR0_5.out x5_2 p330 q330
        cases e330
        replace hx330_0 := zu hx330_0 HB
        replace hx330_1 := zu hx330_1 HB
        replace hx330_2 := zu hx330_2 HB
        replace hx330_3 := zu hx330_3 HB
        replace p330 := eq_true p330
        replace q330 := eq_true q330
        obtain ⟨hcz35_0, hcz35_1, hcz35_2, hcz35_3, hcz35_4, hcz35_5, hfz35_0, hfz35_1, hfz35_2, hfz35_3, hfz35_4, hfz35_5⟩ := zk6 BK329
        have p331 : 0 ≤ (x5_2 : Int) := of_decide_eq_true zj
        have q331 : x5_2 < (l1_5.length : Int) := of_decide_eq_true zj
        obtain ⟨ad331, e331, hx331_0, hx331_1, hx331_2, hx331_3⟩ := at_T67 HR1_5.out x5_2 p331 q331
        cases e331
        replace hx331_0 := zu hx331_0 HB
        replace hx331_1 := zu hx331_1 HB
        replace hx331_2 := zu hx331_2 HB
        replace hx331_3 := zu hx331_3 HB
        replace p331 := eq_true p331
        replace q331 := eq_true q331
        go_wp2
        repeat (go_quiet (fail); try go_wp2)
        go_roundg k2
        case measure => have := HJ2.out; have := HK2.out; omega
        case rel => exact ⟨(wrap64 (x5_2 + 1)), zq, H', ⟨by have := HJ2.out; have := HK2.out; omega⟩, ⟨zb BK328⟩, ⟨zb BK329⟩, ⟨zw HB⟩⟩
       rw [if_neg c28] at H
       exact absurd H (by simp)
      rw [if_neg c27] at H
      exact absurd H (by simp)
     rw [if_neg c26] at H
     have c26b0 : decide (x5_2 < (l0_5.length : Int)) = false := decide_eq_false c26
     clear c26
     have H' := Aside0.mk H
     clear H
     have hnb36 := NB328_329.out
     have hnc36 := NB329_328.out
     obtain ⟨hcz37_0, hcz37_1, hcz37_2, hcz37_3, hcz37_4, hcz37_5, hfz37_0, hfz37_1, hfz37_2, hfz37_3, hfz37_4, hfz37_5⟩ := zk6 BK328
     go_wp2
     repeat (go_quiet (fail); try go_wp2)
     go_loopg [6] k2 (fun kq v6 w' => ∃ (x6_3 : Int), v6 = .int .i64 x6_3 ∧ Aside0 (thatchref07_Same.l1 kq x6_3 l0_0 l0_1 a0_2 a0_3 a0_4 l0_5 l1_0 l1_1 a1_2 a1_3 a1_4 l1_5 = some r) ∧ Aside0 (kq ≤ k2) ∧ Aside0 (w'.heap[gb328]? = some (.cells #[(.slice A0_0 l0_0.length c0_0), (.slice A0_1 l0_1.length c0_1), .int .i64 a0_2, .int .i64 a0_3, .int .i64 a0_4, (.slice A0_5 l0_5.length c0_5)] 30 (0, 0))) ∧ Aside0 (w'.heap[gb329]? = some (.cells #[(.slice A1_0 l1_0.length c1_0), (.slice A1_1 l1_1.length c1_1), .int .i64 a1_2, .int .i64 a1_3, .int .i64 a1_4, (.slice A1_5 l1_5.length c1_5)] 30 (0, 0))) ∧ Aside0 (Below w.heap.size w w'))
     case atStart => exact ⟨(0), zq, H', ⟨Nat.le_refl _⟩, ⟨zb BK328⟩, ⟨zb BK329⟩, ⟨zw HB⟩⟩
     case round =>
      clear H'; try clear c1; try clear c2; try clear p2; try clear c3; try clear p3; try clear q3; try clear hx3; try clear c6; try clear c6b0; try clear c6b1; try clear p6; try clear c7; try clear c7b0; try clear c8; try clear c11; try clear c11b0; try clear c11b1; try clear c11b2; try clear c12; try clear c12b0; try clear c12b1; try clear c12b2; try clear c13; try clear c16; try clear c19; try clear c22; try clear c25; try clear c26; try clear c26b0; try clear c27; try clear c27b0; try clear c28; try clear c28b0; try clear c29; try clear c29b0; try clear c30; try clear c33; try clear p33; try clear q33; try clear hx33; try clear c36; try clear hcz10_0 hcz10_1 hcz10_2 hcz10_3 hcz10_4 hcz10_5; try clear hcz14_0 hcz14_1 hcz14_2 hcz14_3 hcz14_4 hcz14_5; try clear hcz15_0 hcz15_1 hcz15_2 hcz15_3 hcz15_4 hcz15_5; try clear hcz17_0 hcz17_1 hcz17_2 hcz17_3 hcz17_4 hcz17_5; try clear hcz18_0 hcz18_1 hcz18_2 hcz18_3 hcz18_4 hcz18_5; try clear hcz20_0 hcz20_1 hcz20_2 hcz20_3 hcz20_4 hcz20_5; try clear hcz21_0 hcz21_1 hcz21_2 hcz21_3 hcz21_4 hcz21_5; try clear hcz23_0 hcz23_1 hcz23_2 hcz23_3 hcz23_4 hcz23_5; try clear hcz24_0 hcz24_1 hcz24_2 hcz24_3 hcz24_4 hcz24_5; try clear hcz31_0 hcz31_1 hcz31_2 hcz31_3 hcz31_4 hcz31_5; try clear hcz32_0 hcz32_1 hcz32_2 hcz32_3 hcz32_4 hcz32_5; try clear hcz34_0 hcz34_1 hcz34_2 hcz34_3 hcz34_4 hcz34_5; try clear hcz35_0 hcz35_1 hcz35_2 hcz35_3 hcz35_4 hcz35_5; try clear hcz37_0 hcz37_1 hcz37_2 hcz37_3 hcz37_4 hcz37_5; try clear hcz9_0 hcz9_1 hcz9_2 hcz9_3 hcz9_4 hcz9_5; try clear hfz10_0 hfz10_1 hfz10_2 hfz10_3 hfz10_4 hfz10_5; try clear hfz14_0 hfz14_1 hfz14_2 hfz14_3 hfz14_4 hfz14_5; try clear hfz15_0 hfz15_1 hfz15_2 hfz15_3 hfz15_4 hfz15_5; try clear hfz17_0 hfz17_1 hfz17_2 hfz17_3 hfz17_4 hfz17_5; try clear hfz18_0 hfz18_1 hfz18_2 hfz18_3 hfz18_4 hfz18_5; try clear hfz20_0 hfz20_1 hfz20_2 hfz20_3 hfz20_4 hfz20_5; try clear hfz21_0 hfz21_1 hfz21_2 hfz21_3 hfz21_4 hfz21_5; try clear hfz23_0 hfz23_1 hfz23_2 hfz23_3 hfz23_4 hfz23_5; try clear hfz24_0 hfz24_1 hfz24_2 hfz24_3 hfz24_4 hfz24_5; try clear hfz31_0 hfz31_1 hfz31_2 hfz31_3 hfz31_4 hfz31_5; try clear hfz32_0 hfz32_1 hfz32_2 hfz32_3 hfz32_4 hfz32_5; try clear hfz34_0 hfz34_1 hfz34_2 hfz34_3 hfz34_4 hfz34_5; try clear hfz35_0 hfz35_1 hfz35_2 hfz35_3 hfz35_4 hfz35_5; try clear hfz37_0 hfz37_1 hfz37_2 hfz37_3 hfz37_4 hfz37_5; try clear hfz9_0 hfz9_1 hfz9_2 hfz9_3 hfz9_4 hfz9_5; try clear hx330_0; try clear hx330_1; try clear hx330_2; try clear hx330_3; try clear hx331_0; try clear hx331_1; try clear hx331_2; try clear hx331_3; try clear p2; try clear p330; try clear p331; try clear q330; try clear q331
      obtain ⟨x6_3, rfl, HA, HK3, BK328, BK329, HB⟩ := hrel
      cases gk with
      | zero => exact absurd HA.out (by simp [thatchref07_Same.l1])
      | succ k3 =>
       have H := HA.out
       clear HA
       simp only [thatchref07_Same.l1] at H
       by_cases c38 : x6_3 < (l0_0.length : Int)
       ·rw [if_pos c38] at H
        have c38b0 : decide (x6_3 < (l0_0.length : Int)) = true := decide_eq_true c38
        clear c38
        by_cases c39 : 0 ≤ x6_3
        ·rw [if_pos c39] at H
         have c39b0 : decide (0 ≤ x6_3) = true := decide_eq_true c39
         clear c39
         by_cases c40 : x6_3 < (l1_0.length : Int)
         ·rw [if_pos c40] at H
          have c40b0 : decide (x6_3 < (l1_0.length : Int)) = true := decide_eq_true c40
          clear c40
          by_cases c41 : (!(((rd_T32 l0_0 x6_3).f0) == ((rd_T32 l1_0 x6_3).f0)) || (!(((rd_T32 l0_0 x6_3).f1) == ((rd_T32 l1_0 x6_3).f1)))) = true
          ·rw [if_pos c41] at H
           have c41b0 : (!(((rd_T32 l0_0 x6_3).f0) == ((rd_T32 l1_0 x6_3).f0)) || (!(((rd_T32 l0_0 x6_3).f1) == ((rd_T32 l1_0 x6_3).f1)))) = true := c41
           clear c41
           obtain rfl := Option.some.inj H
           have hnb42 := NB328_329.out
           have hnc42 := NB329_328.out
           obtain ⟨hcz43_0, hcz43_1, hcz43_2, hcz43_3, hcz43_4, hcz43_5, hfz43_0, hfz43_1, hfz43_2, hfz43_3, hfz43_4, hfz43_5⟩ := zk6 BK328
           have p332 : 0 ≤ (x6_3 : Int) := of_decide_eq_true zj
           have q332 : x6_3 < (l0_0.length : Int) := of_decide_eq_true zj
           obtain ⟨ad332, e332, hx332_0, hx332_1⟩ := at_T32 HR0_0.out x6_3 p332 q332
           cases e332
           replace hx332_0 := zu hx332_0 HB
           replace hx332_1 := zu hx332_1 HB
           replace p332 := eq_true p332
           replace q332 := eq_true q332
           obtain ⟨hcz44_0, hcz44_1, hcz44_2, hcz44_3, hcz44_4, hcz44_5, hfz44_0, hfz44_1, hfz44_2, hfz44_3, hfz44_4, hfz44_5⟩ := zk6 BK329
           have p333 : 0 ≤ (x6_3 : Int) := of_decide_eq_true zj
           have q333 : x6_3 < (l1_0.length : Int) := of_decide_eq_true zj
           obtain ⟨ad333, e333, hx333_0, hx333_1⟩ := at_T32 HR1_0.out x6_3 p333 q333
           cases e333
           replace hx333_0 := zu hx333_0 HB
           replace hx333_1 := zu hx333_1 HB
           replace p333 := eq_true p333
           replace q333 := eq_true q333
           go_wp2
           repeat (go_quiet (fail); try go_wp2)
           go_ret
           exact ⟨ze, zw HB⟩
          rw [if_neg c41] at H
          have c41b0 : (!(((rd_T32 l0_0 x6_3).f0) == ((rd_T32 l1_0 x6_3).f0)) || (!(((rd_T32 l0_0 x6_3).f1) == ((rd_T32 l1_0 x6_3).f1)))) = false := by simpa using c41
          clear c41
          have H' := Aside0.mk H
          clear H
          have hnb45 := NB328_329.out
          have hnc45 := NB329_328.out
          obtain ⟨hcz46_0, hcz46_1, hcz46_2, hcz46_3, hcz46_4, hcz46_5, hfz46_0, hfz46_1, hfz46_2, hfz46_3, hfz46_4, hfz46_5⟩ := zk6 BK328
          have p332 : 0 ≤ (x6_3 : Int) := of_decide_eq_true zj
          have q332 : x6_3 < (l0_0.length : Int) := of_decide_eq_true zj
          obtain ⟨ad332, e332, hx332_0, hx332_1⟩ := at_T32 HR0_0.out x6_3 p332 q332
          cases e332
          replace hx332_0 := zu hx332_0 HB
          replace hx332_1 := zu hx332_1 HB
          replace p332 := eq_true p332
          replace q332 := eq_true q332
          obtain ⟨hcz47_0, hcz47_1, hcz47_2, hcz47_3, hcz47_4, hcz47_5, hfz47_0, hfz47_1, hfz47_2, hfz47_3, hfz47_4, hfz47_5⟩ := zk6 BK329
          have p333 : 0 ≤ (x6_3 : Int) := of_decide_eq_true zj
          have q333 : x6_3 < (l1_0.length : Int) := of_decide_eq_true zj
          obtain ⟨ad333, e333, hx333_0, hx333_1⟩ := at_T32 HR1_0.out x6_3 p333 q333
          cases e333
          replace hx333_0 := zu hx333_0 HB
          replace hx333_1 := zu hx333_1 HB
          replace p333 := eq_true p333
          replace q333 := eq_true q333
          go_wp2
          repeat (go_quiet (fail); try go_wp2)
          go_roundg k3
          case measure => have := HJ2.out; have := HK2.out; have := HK3.out; omega
          case rel => exact ⟨(wrap64 (x6_3 + 1)), zq, H', ⟨by have := HJ2.out; have := HK2.out; have := HK3.out; omega⟩, ⟨zb BK328⟩, ⟨zb BK329⟩, ⟨zw HB⟩⟩
         rw [if_neg c40] at H
         exact absurd H (by simp)
        rw [if_neg c39] at H
        exact absurd H (by simp)
       rw [if_neg c38] at H
       have c38b0 : decide (x6_3 < (l0_0.length : Int)) = false := decide_eq_false c38
       clear c38
       have H' := Aside0.mk H
       clear H
       have hnb48 := NB328_329.out
       have hnc48 := NB329_328.out
       obtain ⟨hcz49_0, hcz49_1, hcz49_2, hcz49_3, hcz49_4, hcz49_5, hfz49_0, hfz49_1, hfz49_2, hfz49_3, hfz49_4, hfz49_5⟩ := zk6 BK328
       go_wp2
       repeat (go_quiet (fail); try go_wp2)
       go_loopg [7] k3 (fun kq v7 w' => ∃ (x7_4 : Int), v7 = .int .i64 x7_4 ∧ Aside0 (thatchref07_Same.l2 kq x7_4 l0_0 l0_1 a0_2 a0_3 a0_4 l0_5 l1_0 l1_1 a1_2 a1_3 a1_4 l1_5 = some r) ∧ Aside0 (kq ≤ k3) ∧ Aside0 (w'.heap[gb328]? = some (.cells #[(.slice A0_0 l0_0.length c0_0), (.slice A0_1 l0_1.length c0_1), .int .i64 a0_2, .int .i64 a0_3, .int .i64 a0_4, (.slice A0_5 l0_5.length c0_5)] 30 (0, 0))) ∧ Aside0 (w'.heap[gb329]? = some (.cells #[(.slice A1_0 l1_0.length c1_0), (.slice A1_1 l1_1.length c1_1), .int .i64 a1_2, .int .i64 a1_3, .int .i64 a1_4, (.slice A1_5 l1_5.length c1_5)] 30 (0, 0))) ∧ Aside0 (Below w.heap.size w w'))
       case atStart => exact ⟨(0), zq, H', ⟨Nat.le_refl _⟩, ⟨zb BK328⟩, ⟨zb BK329⟩, ⟨zw HB⟩⟩
       case round =>
        clear H'; try clear c1; try clear c2; try clear p2; try clear c3; try clear p3; try clear q3; try clear hx3; try clear c4; try clear c6; try clear c6b0; try clear c6b1; try clear p6; try clear c7; try clear c7b0; try clear c8; try clear c11; try clear c11b0; try clear c11b1; try clear c11b2; try clear c12; try clear c12b0; try clear c12b1; try clear c12b2; try clear c13; try clear c16; try clear c19; try clear c22; try clear c25; try clear c26; try clear c26b0; try clear c27; try clear c27b0; try clear c28; try clear c28b0; try clear c29; try clear c29b0; try clear c30; try clear c33; try clear p33; try clear q33; try clear hx33; try clear c36; try clear c38; try clear c38b0; try clear c39; try clear c39b0; try clear c40; try clear c40b0; try clear c41; try clear c41b0; try clear c42; try clear c45; try clear c48; try clear hcz10_0 hcz10_1 hcz10_2 hcz10_3 hcz10_4 hcz10_5; try clear hcz14_0 hcz14_1 hcz14_2 hcz14_3 hcz14_4 hcz14_5; try clear hcz15_0 hcz15_1 hcz15_2 hcz15_3 hcz15_4 hcz15_5; try clear hcz17_0 hcz17_1 hcz17_2 hcz17_3 hcz17_4 hcz17_5; try clear hcz18_0 hcz18_1 hcz18_2 hcz18_3 hcz18_4 hcz18_5; try clear hcz20_0 hcz20_1 hcz20_2 hcz20_3 hcz20_4 hcz20_5; try clear hcz21_0 hcz21_1 hcz21_2 hcz21_3 hcz21_4 hcz21_5; try clear hcz23_0 hcz23_1 hcz23_2 hcz23_3 hcz23_4 hcz23_5; try clear hcz24_0 hcz24_1 hcz24_2 hcz24_3 hcz24_4 hcz24_5; try clear hcz31_0 hcz31_1 hcz31_2 hcz31_3 hcz31_4 hcz31_5; try clear hcz32_0 hcz32_1 hcz32_2 hcz32_3 hcz32_4 hcz32_5; try clear hcz34_0 hcz34_1 hcz34_2 hcz34_3 hcz34_4 hcz34_5; try clear hcz35_0 hcz35_1 hcz35_2 hcz35_3 hcz35_4 hcz35_5; try clear hcz37_0 hcz37_1 hcz37_2 hcz37_3 hcz37_4 hcz37_5; try clear hcz43_0 hcz43_1 hcz43_2 hcz43_3 hcz43_4 hcz43_5; try clear hcz44_0 hcz44_1 hcz44_2 hcz44_3 hcz44_4 hcz44_5; try clear hcz46_0 hcz46_1 hcz46_2 hcz46_3 hcz46_4 hcz46_5; try clear hcz47_0 hcz47_1 hcz47_2 hcz47_3 hcz47_4 hcz47_5; try clear hcz49_0 hcz49_1 hcz49_2 hcz49_3 hcz49_4 hcz49_5; try clear hcz9_0 hcz9_1 hcz9_2 hcz9_3 hcz9_4 hcz9_5; try clear hfz10_0 hfz10_1 hfz10_2 hfz10_3 hfz10_4 hfz10_5; try clear hfz14_0 hfz14_1 hfz14_2 hfz14_3 hfz14_4 hfz14_5; try clear hfz15_0 hfz15_1 hfz15_2 hfz15_3 hfz15_4 hfz15_5; try clear hfz17_0 hfz17_1 hfz17_2 hfz17_3 hfz17_4 hfz17_5; try clear hfz18_0 hfz18_1 hfz18_2 hfz18_3 hfz18_4 hfz18_5; try clear hfz20_0 hfz20_1 hfz20_2 hfz20_3 hfz20_4 hfz20_5; try clear hfz21_0 hfz21_1 hfz21_2 hfz21_3 hfz21_4 hfz21_5; try clear hfz23_0 hfz23_1 hfz23_2 hfz23_3 hfz23_4 hfz23_5; try clear hfz24_0 hfz24_1 hfz24_2 hfz24_3 hfz24_4 hfz24_5; try clear hfz31_0 hfz31_1 hfz31_2 hfz31_3 hfz31_4 hfz31_5; try clear hfz32_0 hfz32_1 hfz32_2 hfz32_3 hfz32_4 hfz32_5; try clear hfz34_0 hfz34_1 hfz34_2 hfz34_3 hfz34_4 hfz34_5; try clear hfz35_0 hfz35_1 hfz35_2 hfz35_3 hfz35_4 hfz35_5; try clear hfz37_0 hfz37_1 hfz37_2 hfz37_3 hfz37_4 hfz37_5; try clear hfz43_0 hfz43_1 hfz43_2 hfz43_3 hfz43_4 hfz43_5; try clear hfz44_0 hfz44_1 hfz44_2 hfz44_3 hfz44_4 hfz44_5; try clear hfz46_0 hfz46_1 hfz46_2 hfz46_3 hfz46_4 hfz46_5; try clear hfz47_0 hfz47_1 hfz47_2 hfz47_3 hfz47_4 hfz47_5; try clear hfz49_0 hfz49_1 hfz49_2 hfz49_3 hfz49_4 hfz49_5; try clear hfz9_0 hfz9_1 hfz9_2 hfz9_3 hfz9_4 hfz9_5; try clear hx330_0; try clear hx330_1; try clear hx330_2; try clear hx330_3; try clear hx331_0; try clear hx331_1; try clear hx331_2; try clear hx331_3; try clear hx332_0; try clear hx332_1; try clear hx333_0; try clear hx333_1; try clear p2; try clear p3; try clear p33; try clear p330; try clear p331; try clear p332; try clear p333; try clear p6; try clear q3; try clear q33; try clear q330; try clear q331; try clear q332; try clear q333
        obtain ⟨x7_4, rfl, HA, HK4, BK328, BK329, HB⟩ := hrel
        cases gk with
        | zero => exact absurd HA.out (by simp [thatchref07_Same.l2])
        | succ k4 =>
         have H := HA.out
         clear HA
         simp only [thatchref07_Same.l2] at H
         by_cases c50 : x7_4 < (l0_1.length : Int)
         ·rw [if_pos c50] at H
          have c50b0 : decide (x7_4 < (l0_1.length : Int)) = true := decide_eq_true c50
          clear c50
          by_cases c51 : 0 ≤ x7_4
          ·rw [if_pos c51] at H
           have c51b0 : decide (0 ≤ x7_4) = true := decide_eq_true c51
           clear c51
           by_cases c52 : x7_4 < (l1_1.length : Int)
           ·rw [if_pos c52] at H
            have c52b0 : decide (x7_4 < (l1_1.length : Int)) = true := decide_eq_true c52
            clear c52
            by_cases c53 : ((!(((rd_T55 l0_1 x7_4).f0.f0) == ((rd_T55 l1_1 x7_4).f0.f0)) || (!(((rd_T55 l0_1 x7_4).f0.f1) == ((rd_T55 l1_1 x7_4).f0.f1)))) || ((!(((rd_T55 l0_1 x7_4).f1.f0) == ((rd_T55 l1_1 x7_4).f1.f0)) || (!(((rd_T55 l0_1 x7_4).f1.f1) == ((rd_T55 l1_1 x7_4).f1.f1)))))) = true
            ·rw [if_pos c53] at H
             have c53b0 : ((!(((rd_T55 l0_1 x7_4).f0.f0) == ((rd_T55 l1_1 x7_4).f0.f0)) || (!(((rd_T55 l0_1 x7_4).f0.f1) == ((rd_T55 l1_1 x7_4).f0.f1)))) || ((!(((rd_T55 l0_1 x7_4).f1.f0) == ((rd_T55 l1_1 x7_4).f1.f0)) || (!(((rd_T55 l0_1 x7_4).f1.f1) == ((rd_T55 l1_1 x7_4).f1.f1)))))) = true := c53
             clear c53
             obtain rfl := Option.some.inj H
             have hnb54 := NB328_329.out
             have hnc54 := NB329_328.out
             obtain ⟨hcz55_0, hcz55_1, hcz55_2, hcz55_3, hcz55_4, hcz55_5, hfz55_0, hfz55_1, hfz55_2, hfz55_3, hfz55_4, hfz55_5⟩ := zk6 BK328
             have p334 : 0 ≤ (x7_4 : Int) := of_decide_eq_true zj
             have q334 : x7_4 < (l0_1.length : Int) := of_decide_eq_true zj
             obtain ⟨ad334, e334, hx334_0, hx334_1, hx334_2, hx334_3⟩ := at_T55 HR0_1.out x7_4 p334 q334
             cases e334
             replace hx334_0 := zu hx334_0 HB
             replace hx334_1 := zu hx334_1 HB
             replace hx334_2 := zu hx334_2 HB
             replace hx334_3 := zu hx334_3 HB
             replace p334 := eq_true p334
             replace q334 := eq_true q334
             obtain ⟨hcz56_0, hcz56_1, hcz56_2, hcz56_3, hcz56_4, hcz56_5, hfz56_0, hfz56_1, hfz56_2, hfz56_3, hfz56_4, hfz56_5⟩ := zk6 BK329
             have p335 : 0 ≤ (x7_4 : Int) := of_decide_eq_true zj
             have q335 : x7_4 < (l1_1.length : Int) := of_decide_eq_true zj
             obtain ⟨ad335, e335, hx335_0, hx335_1, hx335_2, hx335_3⟩ := at_T55 HR1_1.out x7_4 p335 q335
             cases e335
             replace hx335_0 := zu hx335_0 HB
             replace hx335_1 := zu hx335_1 HB
             replace hx335_2 := zu hx335_2 HB
             replace hx335_3 := zu hx335_3 HB
             replace p335 := eq_true p335
             replace q335 := eq_true q335
             go_wp2
             repeat (go_quiet (fail); try go_wp2)
             go_ret
             exact ⟨ze, zw HB⟩
            rw [if_neg c53] at H
            have c53b0 : ((!(((rd_T55 l0_1 x7_4).f0.f0) == ((rd_T55 l1_1 x7_4).f0.f0)) || (!(((rd_T55 l0_1 x7_4).f0.f1) == ((rd_T55 l1_1 x7_4).f0.f1)))) || ((!(((rd_T55 l0_1 x7_4).f1.f0) == ((rd_T55 l1_1 x7_4).f1.f0)) || (!(((rd_T55 l0_1 x7_4).f1.f1) == ((rd_T55 l1_1 x7_4).f1.f1)))))) = false := by simpa using c53
            clear c53
            have H' := Aside0.mk H
            clear H
            have hnb57 := NB328_329.out
            have hnc57 := NB329_328.out
            obtain ⟨hcz58_0, hcz58_1, hcz58_2, hcz58_3, hcz58_4, hcz58_5, hfz58_0, hfz58_1, hfz58_2, hfz58_3, hfz58_4, hfz58_5⟩ := zk6 BK328
            have p334 : 0 ≤ (x7_4 : Int) := of_decide_eq_true zj
            have q334 : x7_4 < (l0_1.length : Int) := of_decide_eq_true zj
            obtain ⟨ad334, e334, hx334_0, hx334_1, hx334_2, hx334_3⟩ := at_T55 HR0_1.out x7_4 p334 q334
            cases e334
            replace hx334_0 := zu hx334_0 HB
            replace hx334_1 := zu hx334_1 HB
            replace hx334_2 := zu hx334_2 HB
            replace hx334_3 := zu hx334_3 HB
            replace p334 := eq_true p334
            replace q334 := eq_true q334
            obtain ⟨hcz59_0, hcz59_1, hcz59_2, hcz59_3, hcz59_4, hcz59_5, hfz59_0, hfz59_1, hfz59_2, hfz59_3, hfz59_4, hfz59_5⟩ := zk6 BK329
            have p335 : 0 ≤ (x7_4 : Int) := of_decide_eq_true zj
            have q335 : x7_4 < (l1_1.length : Int) := of_decide_eq_true zj
            obtain ⟨ad335, e335, hx335_0, hx335_1, hx335_2, hx335_3⟩ := at_T55 HR1_1.out x7_4 p335 q335
            cases e335
            replace hx335_0 := zu hx335_0 HB
            replace hx335_1 := zu hx335_1 HB
            replace hx335_2 := zu hx335_2 HB
            replace hx335_3 := zu hx335_3 HB
            replace p335 := eq_true p335
            replace q335 := eq_true q335
            go_wp2
            repeat (go_quiet (fail); try go_wp2)
            go_roundg k4
            case measure => have := HJ2.out; have := HK2.out; have := HK3.out; have := HK4.out; omega
            case rel => exact ⟨(wrap64 (x7_4 + 1)), zq, H', ⟨by have := HJ2.out; have := HK2.out; have := HK3.out; have := HK4.out; omega⟩, ⟨zb BK328⟩, ⟨zb BK329⟩, ⟨zw HB⟩⟩
           rw [if_neg c52] at H
           exact absurd H (by simp)
          rw [if_neg c51] at H
          exact absurd H (by simp)
         rw [if_neg c50] at H
         have c50b0 : decide (x7_4 < (l0_1.length : Int)) = false := decide_eq_false c50
         clear c50
         obtain rfl := Option.some.inj H
         have hnb60 := NB328_329.out
         have hnc60 := NB329_328.out
         obtain ⟨hcz61_0, hcz61_1, hcz61_2, hcz61_3, hcz61_4, hcz61_5, hfz61_0, hfz61_1, hfz61_2, hfz61_3, hfz61_4, hfz61_5⟩ := zk6 BK328
         go_wp2
         repeat (go_quiet (fail); try go_wp2)
         go_ret
         exact ⟨ze, zw HB⟩
end Go.Proofs.Ytcfpclehogdmbaa.Q
end
section
namespace Go.Proofs.Ytcfpclehogdmbaa.Q
open Go.RowKit Go.Proofs.YtcfpclehogdmbaaW.PrintWords Go.Proofs.YtcfpclehogdmbaaW.PrintLast Go.Proofs.YtcfpclehogdmbaaW.PrintMore
set_option linter.unusedVariables false
set_option linter.unusedSimpArgs false
theorem great_l0 (l0 : List S32) (l1 : List S55) (st lo hi : Int) (l : List S67) (hl : l1.length < 1000000) : ∀ (d i : Nat), l1.length - i = d → i ≤ l1.length → ∃ b, Tells (fun k => thatchlaw07_Great.l0 k (i : Int) l0 l1 st lo hi l) b := by
  intro d
  induction d with
  | zero =>
    intro i hd hi2
    exact ⟨false, Tells.succ (h := fun _ => some false) (Tells.const fun _ => rfl) (fun k => by rw [thatchlaw07_Great.l0, if_neg (by omega)])⟩
  | succ d ih =>
    intro i hd hi2
    have hlt : i < l1.length := by omega
    obtain ⟨b, hb⟩ := ih (i + 1) (by omega) (by omega)
    have hs : ∀ k, thatchlaw07_Great.l0 (k + 1) (i : Int) l0 l1 st lo hi l = ((thatchlaw07_long.f ((rd_T55 l1 (i : Int)).f0.f0)).bind fun t104 => (if t104 = true then (some true) else ((thatchlaw07_long.f ((rd_T55 l1 (i : Int)).f0.f1)).bind fun t105 => (if t105 = true then (some true) else ((thatchlaw07_long.f ((rd_T55 l1 (i : Int)).f1.f0)).bind fun t106 => (if t106 = true then (some true) else ((thatchlaw07_long.f ((rd_T55 l1 (i : Int)).f1.f1)).bind fun t107 => (if t107 = true then (some true) else (thatchlaw07_Great.l0 k ((i + 1 : Nat) : Int) l0 l1 st lo hi l))))))))) := fun k => by
      rw [thatchlaw07_Great.l0, if_pos (by omega), if_pos (by omega), wrap_nat hlt hl]
    have hlong : ∀ x, ∃ b, thatchlaw07_long.f x = some b := fun x => by
      unfold thatchlaw07_long.f
      split <;> exact ⟨_, rfl⟩
    obtain ⟨b1, e1⟩ := hlong (rd_T55 l1 (i : Int)).f0.f0
    obtain ⟨b2, e2⟩ := hlong (rd_T55 l1 (i : Int)).f0.f1
    obtain ⟨b3, e3⟩ := hlong (rd_T55 l1 (i : Int)).f1.f0
    obtain ⟨b4, e4⟩ := hlong (rd_T55 l1 (i : Int)).f1.f1
    simp only [e1, e2, e3, e4, Option.bind_some] at hs
    by_cases c1 : b1 = true
    · exact ⟨true, Tells.succ (h := fun _ => some true) (Tells.const fun _ => rfl) (fun k => by rw [hs, if_pos c1])⟩
    · by_cases c2 : b2 = true
      · exact ⟨true, Tells.succ (h := fun _ => some true) (Tells.const fun _ => rfl) (fun k => by rw [hs, if_neg c1, if_pos c2])⟩
      · by_cases c3 : b3 = true
        · exact ⟨true, Tells.succ (h := fun _ => some true) (Tells.const fun _ => rfl) (fun k => by rw [hs, if_neg c1, if_neg c2, if_pos c3])⟩
        · by_cases c4 : b4 = true
          · exact ⟨true, Tells.succ (h := fun _ => some true) (Tells.const fun _ => rfl) (fun k => by rw [hs, if_neg c1, if_neg c2, if_neg c3, if_pos c4])⟩
          · exact ⟨b, Tells.succ hb (fun k => by rw [hs, if_neg c1, if_neg c2, if_neg c3, if_neg c4])⟩
theorem great_tells (l0 : List S32) (l1 : List S55) (st lo hi : Int) (l : List S67) : ∃ b, Tells (fun k => thatchlaw07_Great.f k l0 l1 st lo hi l) b ∧ (b = false → l0.length ≤ 30 ∧ l1.length ≤ 30 ∧ l.length ≤ 60) := by
  have tj : Tells (fun k => thatchlaw07_Great.j0 k true l0 l1 st lo hi l) true := Tells.succ (h := fun _ => some true) (Tells.const fun _ => rfl) (fun k => by rw [thatchlaw07_Great.j0, if_pos rfl])
  by_cases c0 : l0.length ≤ 30
  · by_cases c1 : l1.length ≤ 30
    · by_cases c2 : l.length ≤ 60
      · obtain ⟨b, hb⟩ := great_l0 l0 l1 st lo hi l (by omega) l1.length 0 (by omega) (by omega)
        refine ⟨b, ?_, fun _ => ⟨c0, c1, c2⟩⟩
        refine (Tells.succ (g := fun k => thatchlaw07_Great.j0 k false l0 l1 st lo hi l) hb (fun k => by rw [thatchlaw07_Great.j0, if_neg (by decide)]; rfl)).of_eq fun k => ?_
        unfold thatchlaw07_Great.f
        rw [if_neg (by omega), if_neg (by omega), decide_eq_false (by omega)]
      · refine ⟨true, tj.of_eq fun k => ?_, fun h => by cases h⟩
        unfold thatchlaw07_Great.f
        rw [if_neg (by omega), if_neg (by omega), decide_eq_true (by omega)]
    · refine ⟨true, tj.of_eq fun k => ?_, fun h => by cases h⟩
      unfold thatchlaw07_Great.f
      rw [if_neg (by omega), if_pos (by omega)]
  · refine ⟨true, tj.of_eq fun k => ?_, fun h => by cases h⟩
    unfold thatchlaw07_Great.f
    rw [if_pos (by omega)]
theorem same_l2 (l0 : List S32) (l1 : List S55) (st lo hi : Int) (l : List S67) (hl : l1.length < 1000000) : ∀ (d i : Nat), l1.length - i = d → i ≤ l1.length →
    Tells (fun k => thatchref07_Same.l2 k (i : Int) l0 l1 st lo hi l l0 l1 st lo hi l) true := by
  intro d
  induction d with
  | zero =>
    intro i hd hi2
    exact Tells.succ (h := fun _ => some true) (Tells.const fun _ => rfl) (fun k => by rw [thatchref07_Same.l2, if_neg (by omega)])
  | succ d ih =>
    intro i hd hi2
    have hlt : i < l1.length := by omega
    exact Tells.succ (ih (i + 1) (by omega) (by omega)) (fun k => by
      rw [thatchref07_Same.l2, if_pos (by omega), if_pos (by omega), if_pos (by omega), if_neg (by simp), wrap_nat hlt hl])
theorem same_l1 (l0 : List S32) (l1 : List S55) (st lo hi : Int) (l : List S67) (hl : l0.length < 1000000) (hl1 : l1.length < 1000000) : ∀ (d i : Nat), l0.length - i = d → i ≤ l0.length →
    Tells (fun k => thatchref07_Same.l1 k (i : Int) l0 l1 st lo hi l l0 l1 st lo hi l) true := by
  intro d
  induction d with
  | zero =>
    intro i hd hi2
    exact Tells.succ (same_l2 l0 l1 st lo hi l hl1 l1.length 0 (by omega) (by omega)) (fun k => by rw [thatchref07_Same.l1, if_neg (by omega)]; rfl)
  | succ d ih =>
    intro i hd hi2
    have hlt : i < l0.length := by omega
    exact Tells.succ (ih (i + 1) (by omega) (by omega)) (fun k => by
      rw [thatchref07_Same.l1, if_pos (by omega), if_pos (by omega), if_pos (by omega), if_neg (by simp), wrap_nat hlt hl])
theorem same_l0 (l0 : List S32) (l1 : List S55) (st lo hi : Int) (l : List S67) (hl0 : l0.length < 1000000) (hl1 : l1.length < 1000000) (hl : l.length < 1000000) : ∀ (d i : Nat), l.length - i = d → i ≤ l.length →
    Tells (fun k => thatchref07_Same.l0 k (i : Int) l0 l1 st lo hi l l0 l1 st lo hi l) true := by
  intro d
  induction d with
  | zero =>
    intro i hd hi2
    exact Tells.succ (same_l1 l0 l1 st lo hi l hl0 hl1 l0.length 0 (by omega) (by omega)) (fun k => by rw [thatchref07_Same.l0, if_neg (by omega)]; rfl)
  | succ d ih =>
    intro i hd hi2
    have hlt : i < l.length := by omega
    exact Tells.succ (ih (i + 1) (by omega) (by omega)) (fun k => by
      rw [thatchref07_Same.l0, if_pos (by omega), if_pos (by omega), if_pos (by omega), if_neg (by simp), wrap_nat hlt hl])
theorem same_self (l0 : List S32) (l1 : List S55) (st lo hi : Int) (l : List S67) (hl0 : l0.length < 1000000) (hl1 : l1.length < 1000000) (hl : l.length < 1000000) : Tells (fun k => thatchref07_Same.f k l0 l1 st lo hi l l0 l1 st lo hi l) true := by
  have h := same_l0 l0 l1 st lo hi l hl0 hl1 hl l.length 0 (by omega) (by omega)
  have hj : Tells (fun k => thatchref07_Same.j0 k false l0 l1 st lo hi l l0 l1 st lo hi l) true := Tells.succ h (fun k => by rw [thatchref07_Same.j0, if_neg (by decide)]; rfl)
  refine hj.of_eq fun k => ?_
  unfold thatchref07_Same.f
  rw [if_pos rfl, if_neg (by simp), if_pos rfl, if_pos rfl]
  congr 1
  simp
set_option maxRecDepth 100000 in
theorem lives_tells : Tells (fun k => thatchlaw07_lives.f k) true := Tells.mono (fun k => thatchlaw07_lives.mono k) (k := 60) (by decide +kernel)
end Go.Proofs.Ytcfpclehogdmbaa.Q
end
