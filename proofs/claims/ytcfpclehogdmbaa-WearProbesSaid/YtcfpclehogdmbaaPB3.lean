/- part 3 of a proof over the translation: walks that a program of ours has printed and shortened, and plain laws; each says what stands in it -/
import Derived.Laws.Externs
import Derived.Laws.NewBlocks
import Derived.Lib.AppendZeros
import Derived.Shelf.RegionOpenPlain
import Derived.Test.YtcfpclehogdmbaaPB0
import Derived.Test.YtcfpclehogdmbaaPB1
import Derived.Test.YtcfpclehogdmbaaPB2
section
namespace Go.Proofs.Ytcfpclehogdmbaa.Q
open Go.RowKit Go.Proofs.YtcfpclehogdmbaaW.PrintWords Go.Proofs.YtcfpclehogdmbaaW.PrintLast Go.Proofs.YtcfpclehogdmbaaW.PrintMore
attribute [local go_sem] max2_int min2_int max_two min_two max_three min_three max_four min_four   -- for this text's walks alone
set_option linter.unusedVariables false
set_option linter.unusedSimpArgs false
mutual
def wear_Check.j0 : Nat → Bool → List (S32) → List (S55) → Int → Int → Int → List (S67) → Option (Int)
 | 0, _, _, _, _, _, _, _ => none
 | k + 1, x29, x139000, x139001, x139002, x139003, x139004, x139005 => if x29 = true then (some 1) else (if (x139005.length : Int) > 40 then (some 3) else (wear_Check.l0 k x139005 (x139005.length : Int) 0 x139000 x139001 x139002 x139003 x139004 x139005))
def wear_Check.l0 : Nat → List (S67) → Int → Int → List (S32) → List (S55) → Int → Int → Int → List (S67) → Option (Int)
 | 0, _, _, _, _, _, _, _, _, _ => none
 | k + 1, x46, x47, x48, x139000, x139001, x139002, x139003, x139004, x139005 => if x48 < x47 then (if 0 ≤ x48 then (if x48 < (x46.length : Int) then ((wear_has.f x139000 x139001 ((rd_T67 x46 x48).f0.f0) ((rd_T67 x46 x48).f0.f1)).bind fun t145 => (if t145 = true then ((wear_spans.f ((rd_T67 x46 x48).f1.f0) ((rd_T67 x46 x48).f1.f1) 2000).bind fun t146 => (if t146 = true then (wear_Check.l0 k x46 x47 (wrap64 (x48 + 1)) x139000 x139001 x139002 x139003 x139004 x139005) else (some 1))) else (some 7))) else (none)) else (none)) else (wear_Check.l1 k x139005 (x139005.length : Int) 0 x139000 x139001 x139002 x139003 x139004 x139005)
def wear_Check.l1 : Nat → List (S67) → Int → Int → List (S32) → List (S55) → Int → Int → Int → List (S67) → Option (Int)
 | 0, _, _, _, _, _, _, _, _, _ => none
 | k + 1, x66, x67, x68, x139000, x139001, x139002, x139003, x139004, x139005 => if x68 < x67 then (if 0 ≤ x68 then (if x68 < (x66.length : Int) then (if x68 > 0 then (if 0 ≤ (wrap64 (x68 - 1)) then (if (wrap64 (x68 - 1)) < (x139005.length : Int) then ((wear_order.f k ((rd_T67 x139005 (wrap64 (x68 - 1))).f0.f0) ((rd_T67 x139005 (wrap64 (x68 - 1))).f0.f1) ((rd_T67 x66 x68).f0.f0) ((rd_T67 x66 x68).f0.f1)).bind fun t150 => (if t150 ≥ 0 then (some 8) else (wear_Check.l1 k x66 x67 (wrap64 (x68 + 1)) x139000 x139001 x139002 x139003 x139004 x139005))) else (none)) else (none)) else (wear_Check.l1 k x66 x67 (wrap64 (x68 + 1)) x139000 x139001 x139002 x139003 x139004 x139005)) else (none)) else (none)) else (wear_Check.l2 k x139005 (x139005.length : Int) 0 x139000 x139001 x139002 x139003 x139004 x139005)
def wear_Check.l2 : Nat → List (S67) → Int → Int → List (S32) → List (S55) → Int → Int → Int → List (S67) → Option (Int)
 | 0, _, _, _, _, _, _, _, _, _ => none
 | k + 1, x90, x91, x92, x139000, x139001, x139002, x139003, x139004, x139005 => if x92 < x91 then (if 0 ≤ x92 then (if x92 < (x90.length : Int) then ((wear_bounds.f k x139000 x139001 x139002 x139003 x139004 x139005 ((rd_T67 x90 x92).f0.f0) ((rd_T67 x90 x92).f0.f1)).bind fun bt153 => (if bt153.1 > bt153.2 then (some 10) else (wear_Check.l2 k x90 x91 (wrap64 (x92 + 1)) x139000 x139001 x139002 x139003 x139004 x139005))) else (none)) else (none)) else (some 0)
end
def wear_Check.f (k : Nat) (l0_0 : List (S32)) (l0_1 : List (S55)) (a0_2 : Int) (a0_3 : Int) (a0_4 : Int) (l0_5 : List (S67)) : Option (Int) := (wear_checkOutline.f l0_0).bind fun t139 => (if t139 = 0 then (if (l0_1.length : Int) > 6 then (some 3) else ((api_Box_wear_Check_1.f l0_1).bind fun t140 => (if t140 = true then (some 1) else ((wear_in.f a0_2 0 1000).bind fun t141 => (if t141 = true then ((wear_spans.f a0_3 a0_4 2000).bind fun t142 => (wear_Check.j0 k (!t142) l0_0 l0_1 a0_2 a0_3 a0_4 l0_5)) else (wear_Check.j0 k true l0_0 l0_1 a0_2 a0_3 a0_4 l0_5)))))) else (some t139))
theorem wear_Check.mono_l : ∀ k, (∀ y0 y1 y2 y3 y4 y5 y6, LeO (wear_Check.j0 k y0 y1 y2 y3 y4 y5 y6) (wear_Check.j0 (k + 1) y0 y1 y2 y3 y4 y5 y6)) ∧ (∀ y0 y1 y2 y3 y4 y5 y6 y7 y8, LeO (wear_Check.l0 k y0 y1 y2 y3 y4 y5 y6 y7 y8) (wear_Check.l0 (k + 1) y0 y1 y2 y3 y4 y5 y6 y7 y8)) ∧ (∀ y0 y1 y2 y3 y4 y5 y6 y7 y8, LeO (wear_Check.l1 k y0 y1 y2 y3 y4 y5 y6 y7 y8) (wear_Check.l1 (k + 1) y0 y1 y2 y3 y4 y5 y6 y7 y8)) ∧ (∀ y0 y1 y2 y3 y4 y5 y6 y7 y8, LeO (wear_Check.l2 k y0 y1 y2 y3 y4 y5 y6 y7 y8) (wear_Check.l2 (k + 1) y0 y1 y2 y3 y4 y5 y6 y7 y8))
 | 0 => ⟨fun _ _ _ _ _ _ _ r h => by simp [wear_Check.j0] at h, fun _ _ _ _ _ _ _ _ _ r h => by simp [wear_Check.l0] at h, fun _ _ _ _ _ _ _ _ _ r h => by simp [wear_Check.l1] at h, fun _ _ _ _ _ _ _ _ _ r h => by simp [wear_Check.l2] at h⟩
 | k + 1 => by
  obtain ⟨ih0, ih1, ih2, ih3⟩ := wear_Check.mono_l k
  refine ⟨?_, ?_, ?_, ?_⟩
  ·intro y0 y1 y2 y3 y4 y5 y6
   unfold wear_Check.j0
   repeat' first
   | (with_reducible exact ih0 _ _ _ _ _ _ _)
   | (with_reducible exact ih1 _ _ _ _ _ _ _ _ _)
   | (with_reducible exact ih2 _ _ _ _ _ _ _ _ _)
   | (with_reducible exact ih3 _ _ _ _ _ _ _ _ _)
   | (with_reducible exact wear_bounds.mono _ _ _ _ _ _ _ _ _)
   | (with_reducible exact wear_order.mono _ _ _ _ _)
   | (with_reducible exact LeO.refl _)
   | (with_reducible exact LeO.none _)
   | (with_reducible refine LeO.ite ?_ ?_)
   | (with_reducible refine LeO.bind ?_ (fun _ => ?_))
   | exact ih0 _ _ _ _ _ _ _
   | exact ih1 _ _ _ _ _ _ _ _ _
   | exact ih2 _ _ _ _ _ _ _ _ _
   | exact ih3 _ _ _ _ _ _ _ _ _
   | exact wear_bounds.mono _ _ _ _ _ _ _ _ _
   | exact wear_order.mono _ _ _ _ _
   | exact LeO.none _
   | refine LeO.ite ?_ ?_
   | refine LeO.bind ?_ (fun _ => ?_)
  ·intro y0 y1 y2 y3 y4 y5 y6 y7 y8
   unfold wear_Check.l0
   repeat' first
   | (with_reducible exact ih0 _ _ _ _ _ _ _)
   | (with_reducible exact ih1 _ _ _ _ _ _ _ _ _)
   | (with_reducible exact ih2 _ _ _ _ _ _ _ _ _)
   | (with_reducible exact ih3 _ _ _ _ _ _ _ _ _)
   | (with_reducible exact wear_bounds.mono _ _ _ _ _ _ _ _ _)
   | (with_reducible exact wear_order.mono _ _ _ _ _)
   | (with_reducible exact LeO.refl _)
   | (with_reducible exact LeO.none _)
   | (with_reducible refine LeO.ite ?_ ?_)
   | (with_reducible refine LeO.bind ?_ (fun _ => ?_))
   | exact ih0 _ _ _ _ _ _ _
   | exact ih1 _ _ _ _ _ _ _ _ _
   | exact ih2 _ _ _ _ _ _ _ _ _
   | exact ih3 _ _ _ _ _ _ _ _ _
   | exact wear_bounds.mono _ _ _ _ _ _ _ _ _
   | exact wear_order.mono _ _ _ _ _
   | exact LeO.none _
   | refine LeO.ite ?_ ?_
   | refine LeO.bind ?_ (fun _ => ?_)
  ·intro y0 y1 y2 y3 y4 y5 y6 y7 y8
   unfold wear_Check.l1
   repeat' first
   | (with_reducible exact ih0 _ _ _ _ _ _ _)
   | (with_reducible exact ih1 _ _ _ _ _ _ _ _ _)
   | (with_reducible exact ih2 _ _ _ _ _ _ _ _ _)
   | (with_reducible exact ih3 _ _ _ _ _ _ _ _ _)
   | (with_reducible exact wear_bounds.mono _ _ _ _ _ _ _ _ _)
   | (with_reducible exact wear_order.mono _ _ _ _ _)
   | (with_reducible exact LeO.refl _)
   | (with_reducible exact LeO.none _)
   | (with_reducible refine LeO.ite ?_ ?_)
   | (with_reducible refine LeO.bind ?_ (fun _ => ?_))
   | exact ih0 _ _ _ _ _ _ _
   | exact ih1 _ _ _ _ _ _ _ _ _
   | exact ih2 _ _ _ _ _ _ _ _ _
   | exact ih3 _ _ _ _ _ _ _ _ _
   | exact wear_bounds.mono _ _ _ _ _ _ _ _ _
   | exact wear_order.mono _ _ _ _ _
   | exact LeO.none _
   | refine LeO.ite ?_ ?_
   | refine LeO.bind ?_ (fun _ => ?_)
  intro y0 y1 y2 y3 y4 y5 y6 y7 y8
  unfold wear_Check.l2
  repeat' first
  | (with_reducible exact ih0 _ _ _ _ _ _ _)
  | (with_reducible exact ih1 _ _ _ _ _ _ _ _ _)
  | (with_reducible exact ih2 _ _ _ _ _ _ _ _ _)
  | (with_reducible exact ih3 _ _ _ _ _ _ _ _ _)
  | (with_reducible exact wear_bounds.mono _ _ _ _ _ _ _ _ _)
  | (with_reducible exact wear_order.mono _ _ _ _ _)
  | (with_reducible exact LeO.refl _)
  | (with_reducible exact LeO.none _)
  | (with_reducible refine LeO.ite ?_ ?_)
  | (with_reducible refine LeO.bind ?_ (fun _ => ?_))
  | exact ih0 _ _ _ _ _ _ _
  | exact ih1 _ _ _ _ _ _ _ _ _
  | exact ih2 _ _ _ _ _ _ _ _ _
  | exact ih3 _ _ _ _ _ _ _ _ _
  | exact wear_bounds.mono _ _ _ _ _ _ _ _ _
  | exact wear_order.mono _ _ _ _ _
  | exact LeO.none _
  | refine LeO.ite ?_ ?_
  | refine LeO.bind ?_ (fun _ => ?_)
theorem wear_Check.mono : ∀ a0 a1 a2 a3 a4 a5 k, LeO (wear_Check.f k a0 a1 a2 a3 a4 a5) (wear_Check.f (k + 1) a0 a1 a2 a3 a4 a5) := by
 intro a0 a1 a2 a3 a4 a5 k
 obtain ⟨ih0, ih1, ih2, ih3⟩ := wear_Check.mono_l k
 unfold wear_Check.f
 repeat' first
   | (with_reducible exact ih0 _ _ _ _ _ _ _)
   | (with_reducible exact ih1 _ _ _ _ _ _ _ _ _)
   | (with_reducible exact ih2 _ _ _ _ _ _ _ _ _)
   | (with_reducible exact ih3 _ _ _ _ _ _ _ _ _)
   | (with_reducible exact wear_bounds.mono _ _ _ _ _ _ _ _ _)
   | (with_reducible exact wear_order.mono _ _ _ _ _)
   | (with_reducible exact LeO.refl _)
   | (with_reducible exact LeO.none _)
   | (with_reducible refine LeO.ite ?_ ?_)
   | (with_reducible refine LeO.bind ?_ (fun _ => ?_))
   | exact ih0 _ _ _ _ _ _ _
   | exact ih1 _ _ _ _ _ _ _ _ _
   | exact ih2 _ _ _ _ _ _ _ _ _
   | exact ih3 _ _ _ _ _ _ _ _ _
   | exact wear_bounds.mono _ _ _ _ _ _ _ _ _
   | exact wear_order.mono _ _ _ _ _
   | exact LeO.none _
   | refine LeO.ite ?_ ?_
   | refine LeO.bind ?_ (fun _ => ?_)
def wear_Check.T23 : Bool × List (List Nat × List Nat) := (true, [([], []), ([0], [0]), ([1], [1]), ([2], [2]), ([3, 2], [2, 3]), ([2], [2]), ([5, 2], [2, 5]), ([4, 6, 2], [2, 4, 6]), ([7, 2], [2, 7]), ([8, 2], [2, 8]), ([2], [2]), ([10, 2], [2, 10]), ([9, 11, 2, 2], [2, 9, 11]), ([12, 2], [2, 12]), ([2, 13], [2, 13])])
def wear_Check.B23 : List Nat := [0, 1, 3, 7, 15, 7, 39, 127, 255, 511, 7, 1031, 4095, 8191, 16383]
theorem wear_Check.tab23 : rtab .any (opsOf Try.f15 23) = wear_Check.T23 := by kernel_rfl
theorem wear_Check.bits23 : waitsOk wear_Check.T23.2 wear_Check.B23 = true := by kernel_rfl
set_option maxHeartbeats 8000000 in
set_option maxRecDepth 100000 in
theorem wear_Check.calls (k : Nat) (A0_0 : Option Addr) (c0_0 : Nat) (l0_0 : List (S32)) (A0_1 : Option Addr) (c0_1 : Nat) (l0_1 : List (S55)) (a0_2 : Int) (a0_3 : Int) (a0_4 : Int) (A0_5 : Option Addr) (c0_5 : Nat) (l0_5 : List (S67)) (r : Int) (w : World) (hr0_0 : Kd.C k32 w A0_0 l0_0.length l0_0) (hc0_0 : l0_0.length ≤ c0_0) (hr0_1 : Kd.C k55 w A0_1 l0_1.length l0_1) (hc0_1 : l0_1.length ≤ c0_1) (hr0_5 : Kd.C k67 w A0_5 l0_5.length l0_5) (hc0_5 : l0_5.length ≤ c0_5) (h : wear_Check.f k l0_0 l0_1 a0_2 a0_3 a0_4 l0_5 = some r) :
  Calls Try.prog 15 #[.agg #[.slice A0_0 l0_0.length c0_0, .slice A0_1 l0_1.length c0_1, .int .i64 a0_2, .int .i64 a0_3, .int .i64 a0_4, .slice A0_5 l0_5.length c0_5]] w fun e w' => e = .returned (.int .i64 r) ∧ Below w.heap.size w w' := by
 have hu30 := Try.underlying30
 have hu27 := Try.underlying27
 have hu67 := Try.underlying67
 have hu25 := Try.underlying25
 have hu32 := Try.underlying32
 have HR0_0 := Aside0.mk hr0_0
 have HC0_0 := Aside0.mk hc0_0
 clear hr0_0 hc0_0
 have HR0_1 := Aside0.mk hr0_1
 have HC0_1 := Aside0.mk hc0_1
 clear hr0_1 hc0_1
 have HR0_5 := Aside0.mk hr0_5
 have HC0_5 := Aside0.mk hc0_5
 clear hr0_5 hc0_5
 have HB := Aside0.mk (Below.refl w.heap.size w)
 have H : ((wear_checkOutline.f l0_0).bind fun t139 => (if t139 = 0 then (if (l0_1.length : Int) > 6 then (some 3) else ((api_Box_wear_Check_1.f l0_1).bind fun t140 => (if t140 = true then (some 1) else ((wear_in.f a0_2 0 1000).bind fun t141 => (if t141 = true then ((wear_spans.f a0_3 a0_4 2000).bind fun t142 => (wear_Check.j0 k (!t142) l0_0 l0_1 a0_2 a0_3 a0_4 l0_5)) else (wear_Check.j0 k true l0_0 l0_1 a0_2 a0_3 a0_4 l0_5)))))) else (some t139))) = some r := h
 clear h
 replace H := Option.bind_eq_some_iff.mp H
 obtain ⟨t139, A20, H⟩ := H
 replace H : (if t139 = 0 then (if (l0_1.length : Int) > 6 then (some 3) else ((api_Box_wear_Check_1.f l0_1).bind fun t140 => (if t140 = true then (some 1) else ((wear_in.f a0_2 0 1000).bind fun t141 => (if t141 = true then ((wear_spans.f a0_3 a0_4 2000).bind fun t142 => (wear_Check.j0 k (!t142) l0_0 l0_1 a0_2 a0_3 a0_4 l0_5)) else (wear_Check.j0 k true l0_0 l0_1 a0_2 a0_3 a0_4 l0_5)))))) else (some t139)) = some r := H
 have A2 := Aside0.mk A20
 clear A20
 by_cases c3 : t139 = 0
 ·rw [if_pos c3] at H
  have c3b0 : (t139 == 0) = true := beq_iff_eq.mpr c3
  have c3b1 : (t139 != 0) = false := bne_eq_false_iff_eq.mpr c3
  clear c3
  by_cases c4 : (l0_1.length : Int) > 6
  ·rw [if_pos c4] at H
   have c4b0 : decide (6 < (l0_1.length : Int)) = true := decide_eq_true c4
   have c4b1 : decide (6 < l0_1.length) = true := decide_eq_true (by omega)
   clear c4
   obtain rfl := Option.some.inj H
   go_enter Try.func15, Try.ntmps15
   go_wp2_with (first | ((with_reducible refine gate_dst (N := 1) rfl ?_); refine zx 1 #[.slice A0_0 l0_0.length c0_0, .slice A0_1 l0_1.length c0_1, .int .i64 a0_2, .int .i64 a0_3, .int .i64 a0_4, .slice A0_5 l0_5.length c0_5] 30 ?_; intro gb138 hg w5 hbox hb; have n0_ := zY HB hb; have n1_ := Aside0.mk (hbox); have n2_ := zS hg HB; have n3_ := zS hg HB; clear HB; have HB := n0_; have BK138 := n1_; have GW138 := n2_; have GE138 := n3_; clear n0_ n1_ n2_ n3_; clear hb hbox hg; obtain ⟨hcz6_0, hcz6_1, hcz6_2, hcz6_3, hcz6_4, hcz6_5, hfz6_0, hfz6_1, hfz6_2, hfz6_3, hfz6_4, hfz6_5⟩ := zk6 BK138) | ((with_reducible refine gate_callee (f := 34) rfl ?_); refine goesL_ (some 14) rfl rfl Try.func34 (by kernel_rfl) rfl #[.slice A0_0 l0_0.length c0_0] rfl za ?_; (with_reducible refine (wear_checkOutline.calls _ _ l0_0 t139 _ ?side1 ?side2 A2.out).mono ?_); (case side1 => exact zl HR0_0 HB); (case side2 => exact HC0_0.out); rintro e w7 ⟨rfl, hb⟩; refine ⟨_, rfl, ?_⟩; have n0_ := zD BK138 hb; have n1_ := zY HB hb; clear BK138; clear HB; have BK138 := n0_; have HB := n1_; clear n0_ n1_; (try clear hb); (try clear hb2); (try clear hk); (try clear hi); obtain ⟨hcz8_0, hcz8_1, hcz8_2, hcz8_3, hcz8_4, hcz8_5, hfz8_0, hfz8_1, hfz8_2, hfz8_3, hfz8_4, hfz8_5⟩ := zk6 BK138))
   go_ret
   exact ⟨ze, zw HB⟩
  rw [if_neg c4] at H
  have c4b0 : decide (6 < (l0_1.length : Int)) = false := decide_eq_false c4
  have c4b1 : decide (6 < l0_1.length) = false := decide_eq_false (by omega)
  clear c4
  replace H := Option.bind_eq_some_iff.mp H
  obtain ⟨t140, A90, H⟩ := H
  replace H : (if t140 = true then (some 1) else ((wear_in.f a0_2 0 1000).bind fun t141 => (if t141 = true then ((wear_spans.f a0_3 a0_4 2000).bind fun t142 => (wear_Check.j0 k (!t142) l0_0 l0_1 a0_2 a0_3 a0_4 l0_5)) else (wear_Check.j0 k true l0_0 l0_1 a0_2 a0_3 a0_4 l0_5)))) = some r := H
  have A9 := Aside0.mk A90
  clear A90
  by_cases c10 : t140 = true
  ·subst c10
   have H1 : (some 1) = some r := by rw [if_pos rfl] at H; exact H
   clear H
   have H := H1
   clear H1
   obtain rfl := Option.some.inj H
   go_enter Try.func15, Try.ntmps15
   go_wp2_with (first | ((with_reducible refine gate_dst (N := 1) rfl ?_); refine zx 1 #[.slice A0_0 l0_0.length c0_0, .slice A0_1 l0_1.length c0_1, .int .i64 a0_2, .int .i64 a0_3, .int .i64 a0_4, .slice A0_5 l0_5.length c0_5] 30 ?_; intro gb138 hg w11 hbox hb; have n0_ := zY HB hb; have n1_ := Aside0.mk (hbox); have n2_ := zS hg HB; have n3_ := zS hg HB; clear HB; have HB := n0_; have BK138 := n1_; have GW138 := n2_; have GE138 := n3_; clear n0_ n1_ n2_ n3_; clear hb hbox hg; obtain ⟨hcz12_0, hcz12_1, hcz12_2, hcz12_3, hcz12_4, hcz12_5, hfz12_0, hfz12_1, hfz12_2, hfz12_3, hfz12_4, hfz12_5⟩ := zk6 BK138) | ((with_reducible refine gate_callee (f := 34) rfl ?_); refine goesL_ (some 14) rfl rfl Try.func34 (by kernel_rfl) rfl #[.slice A0_0 l0_0.length c0_0] rfl za ?_; (with_reducible refine (wear_checkOutline.calls _ _ l0_0 t139 _ ?side1 ?side2 A2.out).mono ?_); (case side1 => exact zl HR0_0 HB); (case side2 => exact HC0_0.out); rintro e w13 ⟨rfl, hb⟩; refine ⟨_, rfl, ?_⟩; have n0_ := zD BK138 hb; have n1_ := zY HB hb; clear BK138; clear HB; have BK138 := n0_; have HB := n1_; clear n0_ n1_; (try clear hb); (try clear hb2); (try clear hk); (try clear hi); obtain ⟨hcz14_0, hcz14_1, hcz14_2, hcz14_3, hcz14_4, hcz14_5, hfz14_0, hfz14_1, hfz14_2, hfz14_3, hfz14_4, hfz14_5⟩ := zk6 BK138) | ((with_reducible refine gate_callee (f := 35) rfl ?_); refine goesL_ (some 28) rfl rfl Try.func35 (by kernel_rfl) rfl #[.slice A0_1 l0_1.length c0_1, .func (.func 36) #[] #[]] rfl za ?_; (with_reducible refine (api_Box_wear_Check_1.calls _ _ l0_1 true _ ?side1 ?side2 A9.out).mono ?_); (case side1 => exact zl HR0_1 HB); (case side2 => exact HC0_1.out); rintro e w15 ⟨rfl, hb⟩; refine ⟨_, rfl, ?_⟩; have n0_ := zD BK138 hb; have n1_ := zY HB hb; clear BK138; clear HB; have BK138 := n0_; have HB := n1_; clear n0_ n1_; (try clear hb); (try clear hb2); (try clear hk); (try clear hi)))
   go_ret
   exact ⟨ze, zw HB⟩
  replace c10 := Bool.eq_false_iff.mpr c10
  subst c10
  have H1 : ((wear_in.f a0_2 0 1000).bind fun t141 => (if t141 = true then ((wear_spans.f a0_3 a0_4 2000).bind fun t142 => (wear_Check.j0 k (!t142) l0_0 l0_1 a0_2 a0_3 a0_4 l0_5)) else (wear_Check.j0 k true l0_0 l0_1 a0_2 a0_3 a0_4 l0_5))) = some r := by rw [if_neg (show ¬ (false = true) by decide)] at H; exact H
  clear H
  have H := H1
  clear H1
  have HC16 := Aside0.mk H
  clear H
  go_enter Try.func15, Try.ntmps15
  go_upto_region 8 with (first | ((with_reducible refine gate_dst (N := 1) rfl ?_); refine zx 1 #[.slice A0_0 l0_0.length c0_0, .slice A0_1 l0_1.length c0_1, .int .i64 a0_2, .int .i64 a0_3, .int .i64 a0_4, .slice A0_5 l0_5.length c0_5] 30 ?_; intro gb138 hg w17 hbox hb; have n0_ := zY HB hb; have n1_ := Aside0.mk (hbox); have n2_ := zS hg HB; have n3_ := zS hg HB; clear HB; have HB := n0_; have BK138 := n1_; have GW138 := n2_; have GE138 := n3_; clear n0_ n1_ n2_ n3_; clear hb hbox hg; obtain ⟨hcz18_0, hcz18_1, hcz18_2, hcz18_3, hcz18_4, hcz18_5, hfz18_0, hfz18_1, hfz18_2, hfz18_3, hfz18_4, hfz18_5⟩ := zk6 BK138) | ((with_reducible refine gate_callee (f := 34) rfl ?_); refine goesL_ (some 14) rfl rfl Try.func34 (by kernel_rfl) rfl #[.slice A0_0 l0_0.length c0_0] rfl za ?_; (with_reducible refine (wear_checkOutline.calls _ _ l0_0 t139 _ ?side1 ?side2 A2.out).mono ?_); (case side1 => exact zl HR0_0 HB); (case side2 => exact HC0_0.out); rintro e w19 ⟨rfl, hb⟩; refine ⟨_, rfl, ?_⟩; have n0_ := zD BK138 hb; have n1_ := zY HB hb; clear BK138; clear HB; have BK138 := n0_; have HB := n1_; clear n0_ n1_; (try clear hb); (try clear hb2); (try clear hk); (try clear hi); obtain ⟨hcz20_0, hcz20_1, hcz20_2, hcz20_3, hcz20_4, hcz20_5, hfz20_0, hfz20_1, hfz20_2, hfz20_3, hfz20_4, hfz20_5⟩ := zk6 BK138) | ((with_reducible refine gate_callee (f := 35) rfl ?_); refine goesL_ (some 28) rfl rfl Try.func35 (by kernel_rfl) rfl #[.slice A0_1 l0_1.length c0_1, .func (.func 36) #[] #[]] rfl za ?_; (with_reducible refine (api_Box_wear_Check_1.calls _ _ l0_1 false _ ?side1 ?side2 A9.out).mono ?_); (case side1 => exact zl HR0_1 HB); (case side2 => exact HC0_1.out); rintro e w21 ⟨rfl, hb⟩; refine ⟨_, rfl, ?_⟩; have n0_ := zD BK138 hb; have n1_ := zY HB hb; clear BK138; clear HB; have BK138 := n0_; have HB := n1_; clear n0_ n1_; (try clear hb); (try clear hb2); (try clear hk); (try clear hi)))
  (try simp only [Act.put, List.setIfInBounds_toArray, List.set_cons_zero, List.set_cons_succ])
  go_cut [29] (fun v29 wc => ∃ (kq : Nat) (x29_15 : Bool), v29 = .bool x29_15 ∧ Aside0 (wear_Check.j0 kq x29_15 l0_0 l0_1 a0_2 a0_3 a0_4 l0_5 = some r) ∧ Aside0 (kq ≤ k) ∧ Aside0 (wc.heap[gb138]? = some (.cells #[(.slice A0_0 l0_0.length c0_0), (.slice A0_1 l0_1.length c0_1), .int .i64 a0_2, .int .i64 a0_3, .int .i64 a0_4, (.slice A0_5 l0_5.length c0_5)] 30 (0, 0))) ∧ Aside0 (Below w.heap.size w wc))
  case first =>
   have H := HC16.out
   clear HC16
   replace H := Option.bind_eq_some_iff.mp H
   obtain ⟨t141, A220, H⟩ := H
   replace H : (if t141 = true then ((wear_spans.f a0_3 a0_4 2000).bind fun t142 => (wear_Check.j0 k (!t142) l0_0 l0_1 a0_2 a0_3 a0_4 l0_5)) else (wear_Check.j0 k true l0_0 l0_1 a0_2 a0_3 a0_4 l0_5)) = some r := H
   have A22 := Aside0.mk A220
   clear A220
   by_cases c23 : t141 = true
   ·subst c23
    have H1 : ((wear_spans.f a0_3 a0_4 2000).bind fun t142 => (wear_Check.j0 k (!t142) l0_0 l0_1 a0_2 a0_3 a0_4 l0_5)) = some r := by rw [if_pos rfl] at H; exact H
    clear H
    have H := H1
    clear H1
    replace H := Option.bind_eq_some_iff.mp H
    obtain ⟨t142, A240, H⟩ := H
    replace H : (wear_Check.j0 k (!t142) l0_0 l0_1 a0_2 a0_3 a0_4 l0_5) = some r := H
    have A24 := Aside0.mk A240
    clear A240
    have H' := Aside0.mk H
    clear H
    obtain ⟨hcz25_0, hcz25_1, hcz25_2, hcz25_3, hcz25_4, hcz25_5, hfz25_0, hfz25_1, hfz25_2, hfz25_3, hfz25_4, hfz25_5⟩ := zk6 BK138
    go_wp2_with (first | ((with_reducible refine gate_callee (f := 22) rfl ?_); refine goesL_ (some 32) rfl rfl Try.func22 (by kernel_rfl) rfl #[.int .i64 a0_2, .int .i64 0, .int .i64 1000] rfl za ?_; (with_reducible refine (wear_in.calls a0_2 0 1000 true _ A22.out).mono ?_); rintro e w' ⟨rfl, ⟨nd, rfl⟩⟩; refine ⟨_, rfl, ?_⟩) | (go_at_call 37; (with_reducible refine (wear_spans.calls a0_3 a0_4 2000 t142 _ A24.out).mono ?_); rintro e w26 ⟨rfl, hb⟩; have n0_ := zD BK138 hb; have n1_ := zY HB hb; clear BK138; clear HB; have BK138 := n0_; have HB := n1_; clear n0_ n1_; (try clear hb); (try clear hb2); (try clear hk); (try clear hi)))
    go_meet
    case rel => exact ⟨_, (!t142), zq, H', ⟨by first | omega | exact Nat.le_refl _⟩, ⟨zb BK138⟩, ⟨zw HB⟩⟩
   replace c23 := Bool.eq_false_iff.mpr c23
   subst c23
   have H1 : (wear_Check.j0 k true l0_0 l0_1 a0_2 a0_3 a0_4 l0_5) = some r := by rw [if_neg (show ¬ (false = true) by decide)] at H; exact H
   clear H
   have H := H1
   clear H1
   have H' := Aside0.mk H
   clear H
   obtain ⟨hcz27_0, hcz27_1, hcz27_2, hcz27_3, hcz27_4, hcz27_5, hfz27_0, hfz27_1, hfz27_2, hfz27_3, hfz27_4, hfz27_5⟩ := zk6 BK138
   go_wp2_with (first | ((with_reducible refine gate_callee (f := 22) rfl ?_); refine goesL_ (some 32) rfl rfl Try.func22 (by kernel_rfl) rfl #[.int .i64 a0_2, .int .i64 0, .int .i64 1000] rfl za ?_; (with_reducible refine (wear_in.calls a0_2 0 1000 false _ A22.out).mono ?_); rintro e w' ⟨rfl, ⟨nd, rfl⟩⟩; refine ⟨_, rfl, ?_⟩))
   go_meet
   case rel => exact ⟨_, (true), zq, H', ⟨by first | omega | exact Nat.le_refl _⟩, ⟨zb BK138⟩, ⟨zw HB⟩⟩
  case rest =>
   clear HC16; try clear c1; try clear c2; try clear p2; try clear c3; try clear c3b0; try clear c3b1; try clear c4; try clear c4b0; try clear c4b1; try clear c10; try clear c15; try clear c22; try clear c23; try clear hcz12_0 hcz12_1 hcz12_2 hcz12_3 hcz12_4 hcz12_5; try clear hcz14_0 hcz14_1 hcz14_2 hcz14_3 hcz14_4 hcz14_5; try clear hcz18_0 hcz18_1 hcz18_2 hcz18_3 hcz18_4 hcz18_5; try clear hcz20_0 hcz20_1 hcz20_2 hcz20_3 hcz20_4 hcz20_5; try clear hcz25_0 hcz25_1 hcz25_2 hcz25_3 hcz25_4 hcz25_5; try clear hcz27_0 hcz27_1 hcz27_2 hcz27_3 hcz27_4 hcz27_5; try clear hcz6_0 hcz6_1 hcz6_2 hcz6_3 hcz6_4 hcz6_5; try clear hcz8_0 hcz8_1 hcz8_2 hcz8_3 hcz8_4 hcz8_5; try clear hfz12_0 hfz12_1 hfz12_2 hfz12_3 hfz12_4 hfz12_5; try clear hfz14_0 hfz14_1 hfz14_2 hfz14_3 hfz14_4 hfz14_5; try clear hfz18_0 hfz18_1 hfz18_2 hfz18_3 hfz18_4 hfz18_5; try clear hfz20_0 hfz20_1 hfz20_2 hfz20_3 hfz20_4 hfz20_5; try clear hfz25_0 hfz25_1 hfz25_2 hfz25_3 hfz25_4 hfz25_5; try clear hfz27_0 hfz27_1 hfz27_2 hfz27_3 hfz27_4 hfz27_5; try clear hfz6_0 hfz6_1 hfz6_2 hfz6_3 hfz6_4 hfz6_5; try clear hfz8_0 hfz8_1 hfz8_2 hfz8_3 hfz8_4 hfz8_5
   obtain ⟨kq, x29_15, rfl, HA, HJ15, BK138, HB⟩ := hcut
   cases kq with
   | zero => exact absurd HA.out (by simp [wear_Check.j0])
   | succ kj15 =>
    have H := HA.out
    clear HA
    simp only [wear_Check.j0] at H
    by_cases c28 : x29_15 = true
    ·subst c28
     have H1 : (some 1) = some r := by rw [if_pos rfl] at H; exact H
     clear H
     have H := H1
     clear H1
     obtain rfl := Option.some.inj H
     go_wp2
     go_ret
     exact ⟨ze, zw HB⟩
    replace c28 := Bool.eq_false_iff.mpr c28
    subst c28
    have H1 : (if (l0_5.length : Int) > 40 then (some 3) else (wear_Check.l0 kj15 l0_5 (l0_5.length : Int) 0 l0_0 l0_1 a0_2 a0_3 a0_4 l0_5)) = some r := by rw [if_neg (show ¬ (false = true) by decide)] at H; exact H
    clear H
    have H := H1
    clear H1
    by_cases c29 : (l0_5.length : Int) > 40
    ·rw [if_pos c29] at H
     have c29b0 : decide (40 < (l0_5.length : Int)) = true := decide_eq_true c29
     have c29b1 : decide (40 < l0_5.length) = true := decide_eq_true (by omega)
     clear c29
     obtain rfl := Option.some.inj H
     obtain ⟨hcz30_0, hcz30_1, hcz30_2, hcz30_3, hcz30_4, hcz30_5, hfz30_0, hfz30_1, hfz30_2, hfz30_3, hfz30_4, hfz30_5⟩ := zk6 BK138
     go_wp2
     go_ret
     exact ⟨ze, zw HB⟩
    rw [if_neg c29] at H
    have c29b0 : decide (40 < (l0_5.length : Int)) = false := decide_eq_false c29
    have c29b1 : decide (40 < l0_5.length) = false := decide_eq_false (by omega)
    clear c29
    have H' := Aside0.mk H
    clear H
    obtain ⟨hcz31_0, hcz31_1, hcz31_2, hcz31_3, hcz31_4, hcz31_5, hfz31_0, hfz31_1, hfz31_2, hfz31_3, hfz31_4, hfz31_5⟩ := zk6 BK138
    go_wp2
    go_loopg [48] kj15 (fun kq v48 w' => ∃ (x48_2 : Int), v48 = .int .i64 x48_2 ∧ Aside0 (wear_Check.l0 kq l0_5 (l0_5.length : Int) x48_2 l0_0 l0_1 a0_2 a0_3 a0_4 l0_5 = some r) ∧ Aside0 (kq ≤ kj15) ∧ Aside0 (w'.heap[gb138]? = some (.cells #[(.slice A0_0 l0_0.length c0_0), (.slice A0_1 l0_1.length c0_1), .int .i64 a0_2, .int .i64 a0_3, .int .i64 a0_4, (.slice A0_5 l0_5.length c0_5)] 30 (0, 0))) ∧ Aside0 (Below w.heap.size w w'))
    case atStart => exact ⟨(0), zq, H', ⟨Nat.le_refl _⟩, ⟨zb BK138⟩, ⟨zw HB⟩⟩
    case round =>
     clear H'; try clear c1; try clear c2; try clear p2; try clear c3; try clear c3b0; try clear c3b1; try clear c4; try clear c4b0; try clear c4b1; try clear c10; try clear c15; try clear c22; try clear c23; try clear c28; try clear c29; try clear c29b0; try clear c29b1; try clear hcz12_0 hcz12_1 hcz12_2 hcz12_3 hcz12_4 hcz12_5; try clear hcz14_0 hcz14_1 hcz14_2 hcz14_3 hcz14_4 hcz14_5; try clear hcz18_0 hcz18_1 hcz18_2 hcz18_3 hcz18_4 hcz18_5; try clear hcz20_0 hcz20_1 hcz20_2 hcz20_3 hcz20_4 hcz20_5; try clear hcz25_0 hcz25_1 hcz25_2 hcz25_3 hcz25_4 hcz25_5; try clear hcz27_0 hcz27_1 hcz27_2 hcz27_3 hcz27_4 hcz27_5; try clear hcz30_0 hcz30_1 hcz30_2 hcz30_3 hcz30_4 hcz30_5; try clear hcz31_0 hcz31_1 hcz31_2 hcz31_3 hcz31_4 hcz31_5; try clear hcz6_0 hcz6_1 hcz6_2 hcz6_3 hcz6_4 hcz6_5; try clear hcz8_0 hcz8_1 hcz8_2 hcz8_3 hcz8_4 hcz8_5; try clear hfz12_0 hfz12_1 hfz12_2 hfz12_3 hfz12_4 hfz12_5; try clear hfz14_0 hfz14_1 hfz14_2 hfz14_3 hfz14_4 hfz14_5; try clear hfz18_0 hfz18_1 hfz18_2 hfz18_3 hfz18_4 hfz18_5; try clear hfz20_0 hfz20_1 hfz20_2 hfz20_3 hfz20_4 hfz20_5; try clear hfz25_0 hfz25_1 hfz25_2 hfz25_3 hfz25_4 hfz25_5; try clear hfz27_0 hfz27_1 hfz27_2 hfz27_3 hfz27_4 hfz27_5; try clear hfz30_0 hfz30_1 hfz30_2 hfz30_3 hfz30_4 hfz30_5; try clear hfz31_0 hfz31_1 hfz31_2 hfz31_3 hfz31_4 hfz31_5; try clear hfz6_0 hfz6_1 hfz6_2 hfz6_3 hfz6_4 hfz6_5; try clear hfz8_0 hfz8_1 hfz8_2 hfz8_3 hfz8_4 hfz8_5; try clear p2
     obtain ⟨x48_2, rfl, HA, HK2, BK138, HB⟩ := hrel
     cases gk with
     | zero => exact absurd HA.out (by simp [wear_Check.l0])
     | succ k2 =>
      have H := HA.out
      clear HA
      simp only [wear_Check.l0] at H
      by_cases c32 : x48_2 < (l0_5.length : Int)
      ·rw [if_pos c32] at H
       have c32b0 : decide (x48_2 < (l0_5.length : Int)) = true := decide_eq_true c32
       clear c32
       by_cases c33 : 0 ≤ x48_2
       ·rw [if_pos c33] at H
        have c33b0 : decide (0 ≤ x48_2) = true := decide_eq_true c33
        clear c33
        by_cases c34 : x48_2 < (l0_5.length : Int)
        ·rw [if_pos c34] at H
         have c34b0 : decide (x48_2 < (l0_5.length : Int)) = true := decide_eq_true c34
         clear c34
         replace H := Option.bind_eq_some_iff.mp H
         obtain ⟨t145, A350, H⟩ := H
         replace H : (if t145 = true then ((wear_spans.f ((rd_T67 l0_5 x48_2).f1.f0) ((rd_T67 l0_5 x48_2).f1.f1) 2000).bind fun t146 => (if t146 = true then (wear_Check.l0 k2 l0_5 (l0_5.length : Int) (wrap64 (x48_2 + 1)) l0_0 l0_1 a0_2 a0_3 a0_4 l0_5) else (some 1))) else (some 7)) = some r := H
         have A35 := Aside0.mk A350
         clear A350
         by_cases c36 : t145 = true
         ·subst c36
          have H1 : ((wear_spans.f ((rd_T67 l0_5 x48_2).f1.f0) ((rd_T67 l0_5 x48_2).f1.f1) 2000).bind fun t146 => (if t146 = true then (wear_Check.l0 k2 l0_5 (l0_5.length : Int) (wrap64 (x48_2 + 1)) l0_0 l0_1 a0_2 a0_3 a0_4 l0_5) else (some 1))) = some r := by rw [if_pos rfl] at H; exact H
          clear H
          have H := H1
          clear H1
          replace H := Option.bind_eq_some_iff.mp H
          obtain ⟨t146, A370, H⟩ := H
          replace H : (if t146 = true then (wear_Check.l0 k2 l0_5 (l0_5.length : Int) (wrap64 (x48_2 + 1)) l0_0 l0_1 a0_2 a0_3 a0_4 l0_5) else (some 1)) = some r := H
          have A37 := Aside0.mk A370
          clear A370
          by_cases c38 : t146 = true
          ·subst c38
           have H1 : (wear_Check.l0 k2 l0_5 (l0_5.length : Int) (wrap64 (x48_2 + 1)) l0_0 l0_1 a0_2 a0_3 a0_4 l0_5) = some r := by rw [if_pos rfl] at H; exact H
           clear H
           have H := H1
           clear H1
           have H' := Aside0.mk H
           clear H
           have p143 : 0 ≤ (x48_2 : Int) := of_decide_eq_true zj
           have q143 : x48_2 < (l0_5.length : Int) := of_decide_eq_true zj
           obtain ⟨ad143, e143, hx143_0, hx143_1, hx143_2, hx143_3⟩ := at_T67 HR0_5.out x48_2 p143 q143
           cases e143
           replace hx143_0 := zu hx143_0 HB
           replace hx143_1 := zu hx143_1 HB
           replace hx143_2 := zu hx143_2 HB
           replace hx143_3 := zu hx143_3 HB
           replace p143 := eq_true p143
           replace q143 := eq_true q143
           go_wp2_with (first | ((with_reducible refine gate_dst (N := 5) rfl ?_); refine zx 5 #[.int .i64 0, .int .i64 0, .int .i64 0, .int .i64 0] 67 ?_; intro gb144 hg w39 hbox hb; have n0_ := zD BK138 hb; have n1_ := zY HB hb; have n2_ := Aside0.mk (hbox); have n3_ := zS hg HB; have n4_ := zS hg HB; have n5_ := zN hg BK138; have n6_ := zM hg BK138; clear BK138; clear HB; have BK138 := n0_; have HB := n1_; have BK144 := n2_; have GW144 := n3_; have GE144 := n4_; have NB138_144 := n5_; have NB144_138 := n6_; clear n0_ n1_ n2_ n3_ n4_ n5_ n6_; clear hb hbox hg; have hnb40 := NB144_138.out; have hnc40 := NB138_144.out; obtain ⟨hcz41_0, hcz41_1, hcz41_2, hcz41_3, hfz41_0, hfz41_1, hfz41_2, hfz41_3⟩ := zk4 BK144; obtain ⟨hcz42_0, hcz42_1, hcz42_2, hcz42_3, hcz42_4, hcz42_5, hfz42_0, hfz42_1, hfz42_2, hfz42_3, hfz42_4, hfz42_5⟩ := zk6 BK138) | ((with_reducible refine gate_callee (f := 21) rfl ?_); refine goesL_ (some 57) rfl rfl Try.func21 (by kernel_rfl) rfl #[.agg #[.slice A0_0 l0_0.length c0_0, .slice A0_1 l0_1.length c0_1], .agg #[.int .i64 ((rd_T67 l0_5 x48_2).f0.f0), .int .i64 ((rd_T67 l0_5 x48_2).f0.f1)]] rfl za ?_; (with_reducible refine (wear_has.calls _ _ l0_0 _ _ l0_1 ((rd_T67 l0_5 x48_2).f0.f0) ((rd_T67 l0_5 x48_2).f0.f1) true _ ?side1 ?side2 ?side3 ?side4 A35.out).mono ?_); (case side1 => exact Kd.C_below HR0_0.out (zw HB)); (case side2 => exact HC0_0.out); (case side3 => exact Kd.C_below HR0_1.out (zw HB)); (case side4 => exact HC0_1.out); rintro e w43 ⟨rfl, hb⟩; refine ⟨_, rfl, ?_⟩; have n0_ := Aside0.mk (blk_below (g := gb138) (o := .cells #[.slice A0_0 l0_0.length c0_0, .slice A0_1 l0_1.length c0_1, .int .i64 a0_2, .int .i64 a0_3, .int .i64 a0_4, .slice (some ad143) l0_5.length c0_5] 30 (0, 0)) (zv BK138) hb); have n1_ := Aside0.mk (blk_below (g := gb144) (o := .cells #[.int .i64 ((rd_T67 l0_5 x48_2).f0.f0), .int .i64 ((rd_T67 l0_5 x48_2).f0.f1), .int .i64 ((rd_T67 l0_5 x48_2).f1.f0), .int .i64 ((rd_T67 l0_5 x48_2).f1.f1)] 67 (0, 0)) (by refine zQ ?_; refine blk_put (cs := #[.int .i64 ((rd_T67 l0_5 x48_2).f0.f0), .int .i64 ((rd_T67 l0_5 x48_2).f0.f1), .int .i64 ((rd_T67 l0_5 x48_2).f1.f0), .int .i64 0]) ?_ 3 _ rfl; refine zQ ?_; refine blk_put (cs := #[.int .i64 ((rd_T67 l0_5 x48_2).f0.f0), .int .i64 ((rd_T67 l0_5 x48_2).f0.f1), .int .i64 0, .int .i64 0]) ?_ 2 _ rfl; refine zQ ?_; refine blk_put (cs := #[.int .i64 ((rd_T67 l0_5 x48_2).f0.f0), .int .i64 0, .int .i64 0, .int .i64 0]) ?_ 1 _ rfl; refine zQ ?_; refine blk_put (cs := #[.int .i64 0, .int .i64 0, .int .i64 0, .int .i64 0]) ?_ 0 _ rfl; (with_reducible repeat (first | refine blk_drewN ?_ _ | refine blk_drew ?_ | refine blk_alloc ?_ _)); exact BK144.out) hb); have n2_ := zY HB hb; clear BK138; clear BK144; clear HB; have BK138 := n0_; have BK144 := n1_; have HB := n2_; clear n0_ n1_ n2_; (try clear hb); (try clear hb2); (try clear hk); (try clear hi); obtain ⟨hcz44_0, hcz44_1, hcz44_2, hcz44_3, hfz44_0, hfz44_1, hfz44_2, hfz44_3⟩ := zk4 BK144) | ((with_reducible refine gate_callee (f := 37) rfl ?_); refine goesL_ (some 62) rfl rfl Try.func37 (by kernel_rfl) rfl #[.agg #[.int .i64 ((rd_T67 l0_5 x48_2).f1.f0), .int .i64 ((rd_T67 l0_5 x48_2).f1.f1)], .int .i64 2000] rfl za ?_; (with_reducible refine (wear_spans.calls ((rd_T67 l0_5 x48_2).f1.f0) ((rd_T67 l0_5 x48_2).f1.f1) 2000 true _ A37.out).mono ?_); rintro e w45 ⟨rfl, hb⟩; refine ⟨_, rfl, ?_⟩; have n0_ := zD BK138 hb; have n1_ := zD BK144 hb; have n2_ := zY HB hb; clear BK138; clear BK144; clear HB; have BK138 := n0_; have BK144 := n1_; have HB := n2_; clear n0_ n1_ n2_; (try clear hb); (try clear hb2); (try clear hk); (try clear hi)))
           go_roundg k2
           case measure => have := HJ15.out; have := HK2.out; omega
           case rel => exact ⟨(wrap64 (x48_2 + 1)), zq, H', ⟨by have := HJ15.out; have := HK2.out; omega⟩, ⟨zb BK138⟩, ⟨zw HB⟩⟩
          replace c38 := Bool.eq_false_iff.mpr c38
          subst c38
          have H1 : (some 1) = some r := by rw [if_neg (show ¬ (false = true) by decide)] at H; exact H
          clear H
          have H := H1
          clear H1
          obtain rfl := Option.some.inj H
          have p143 : 0 ≤ (x48_2 : Int) := of_decide_eq_true zj
          have q143 : x48_2 < (l0_5.length : Int) := of_decide_eq_true zj
          obtain ⟨ad143, e143, hx143_0, hx143_1, hx143_2, hx143_3⟩ := at_T67 HR0_5.out x48_2 p143 q143
          cases e143
          replace hx143_0 := zu hx143_0 HB
          replace hx143_1 := zu hx143_1 HB
          replace hx143_2 := zu hx143_2 HB
          replace hx143_3 := zu hx143_3 HB
          replace p143 := eq_true p143
          replace q143 := eq_true q143
          go_wp2_with (first | ((with_reducible refine gate_dst (N := 5) rfl ?_); refine zx 5 #[.int .i64 0, .int .i64 0, .int .i64 0, .int .i64 0] 67 ?_; intro gb144 hg w46 hbox hb; have n0_ := zD BK138 hb; have n1_ := zY HB hb; have n2_ := Aside0.mk (hbox); have n3_ := zS hg HB; have n4_ := zS hg HB; have n5_ := zN hg BK138; have n6_ := zM hg BK138; clear BK138; clear HB; have BK138 := n0_; have HB := n1_; have BK144 := n2_; have GW144 := n3_; have GE144 := n4_; have NB138_144 := n5_; have NB144_138 := n6_; clear n0_ n1_ n2_ n3_ n4_ n5_ n6_; clear hb hbox hg; have hnb47 := NB144_138.out; have hnc47 := NB138_144.out; obtain ⟨hcz48_0, hcz48_1, hcz48_2, hcz48_3, hfz48_0, hfz48_1, hfz48_2, hfz48_3⟩ := zk4 BK144; obtain ⟨hcz49_0, hcz49_1, hcz49_2, hcz49_3, hcz49_4, hcz49_5, hfz49_0, hfz49_1, hfz49_2, hfz49_3, hfz49_4, hfz49_5⟩ := zk6 BK138) | ((with_reducible refine gate_callee (f := 21) rfl ?_); refine goesL_ (some 57) rfl rfl Try.func21 (by kernel_rfl) rfl #[.agg #[.slice A0_0 l0_0.length c0_0, .slice A0_1 l0_1.length c0_1], .agg #[.int .i64 ((rd_T67 l0_5 x48_2).f0.f0), .int .i64 ((rd_T67 l0_5 x48_2).f0.f1)]] rfl za ?_; (with_reducible refine (wear_has.calls _ _ l0_0 _ _ l0_1 ((rd_T67 l0_5 x48_2).f0.f0) ((rd_T67 l0_5 x48_2).f0.f1) true _ ?side1 ?side2 ?side3 ?side4 A35.out).mono ?_); (case side1 => exact Kd.C_below HR0_0.out (zw HB)); (case side2 => exact HC0_0.out); (case side3 => exact Kd.C_below HR0_1.out (zw HB)); (case side4 => exact HC0_1.out); rintro e w50 ⟨rfl, hb⟩; refine ⟨_, rfl, ?_⟩; have n0_ := Aside0.mk (blk_below (g := gb138) (o := .cells #[.slice A0_0 l0_0.length c0_0, .slice A0_1 l0_1.length c0_1, .int .i64 a0_2, .int .i64 a0_3, .int .i64 a0_4, .slice (some ad143) l0_5.length c0_5] 30 (0, 0)) (zv BK138) hb); have n1_ := Aside0.mk (blk_below (g := gb144) (o := .cells #[.int .i64 ((rd_T67 l0_5 x48_2).f0.f0), .int .i64 ((rd_T67 l0_5 x48_2).f0.f1), .int .i64 ((rd_T67 l0_5 x48_2).f1.f0), .int .i64 ((rd_T67 l0_5 x48_2).f1.f1)] 67 (0, 0)) (by refine zQ ?_; refine blk_put (cs := #[.int .i64 ((rd_T67 l0_5 x48_2).f0.f0), .int .i64 ((rd_T67 l0_5 x48_2).f0.f1), .int .i64 ((rd_T67 l0_5 x48_2).f1.f0), .int .i64 0]) ?_ 3 _ rfl; refine zQ ?_; refine blk_put (cs := #[.int .i64 ((rd_T67 l0_5 x48_2).f0.f0), .int .i64 ((rd_T67 l0_5 x48_2).f0.f1), .int .i64 0, .int .i64 0]) ?_ 2 _ rfl; refine zQ ?_; refine blk_put (cs := #[.int .i64 ((rd_T67 l0_5 x48_2).f0.f0), .int .i64 0, .int .i64 0, .int .i64 0]) ?_ 1 _ rfl; refine zQ ?_; refine blk_put (cs := #[.int .i64 0, .int .i64 0, .int .i64 0, .int .i64 0]) ?_ 0 _ rfl; (with_reducible repeat (first | refine blk_drewN ?_ _ | refine blk_drew ?_ | refine blk_alloc ?_ _)); exact BK144.out) hb); have n2_ := zY HB hb; clear BK138; clear BK144; clear HB; have BK138 := n0_; have BK144 := n1_; have HB := n2_; clear n0_ n1_ n2_; (try clear hb); (try clear hb2); (try clear hk); (try clear hi); obtain ⟨hcz51_0, hcz51_1, hcz51_2, hcz51_3, hfz51_0, hfz51_1, hfz51_2, hfz51_3⟩ := zk4 BK144) | ((with_reducible refine gate_callee (f := 37) rfl ?_); refine goesL_ (some 62) rfl rfl Try.func37 (by kernel_rfl) rfl #[.agg #[.int .i64 ((rd_T67 l0_5 x48_2).f1.f0), .int .i64 ((rd_T67 l0_5 x48_2).f1.f1)], .int .i64 2000] rfl za ?_; (with_reducible refine (wear_spans.calls ((rd_T67 l0_5 x48_2).f1.f0) ((rd_T67 l0_5 x48_2).f1.f1) 2000 false _ A37.out).mono ?_); rintro e w52 ⟨rfl, hb⟩; refine ⟨_, rfl, ?_⟩; have n0_ := zD BK138 hb; have n1_ := zD BK144 hb; have n2_ := zY HB hb; clear BK138; clear BK144; clear HB; have BK138 := n0_; have BK144 := n1_; have HB := n2_; clear n0_ n1_ n2_; (try clear hb); (try clear hb2); (try clear hk); (try clear hi)))
          go_ret
          exact ⟨ze, zw HB⟩
         replace c36 := Bool.eq_false_iff.mpr c36
         subst c36
         have H1 : (some 7) = some r := by rw [if_neg (show ¬ (false = true) by decide)] at H; exact H
         clear H
         have H := H1
         clear H1
         obtain rfl := Option.some.inj H
         have p143 : 0 ≤ (x48_2 : Int) := of_decide_eq_true zj
         have q143 : x48_2 < (l0_5.length : Int) := of_decide_eq_true zj
         obtain ⟨ad143, e143, hx143_0, hx143_1, hx143_2, hx143_3⟩ := at_T67 HR0_5.out x48_2 p143 q143
         cases e143
         replace hx143_0 := zu hx143_0 HB
         replace hx143_1 := zu hx143_1 HB
         replace hx143_2 := zu hx143_2 HB
         replace hx143_3 := zu hx143_3 HB
         replace p143 := eq_true p143
         replace q143 := eq_true q143
         go_wp2_with (first | ((with_reducible refine gate_dst (N := 5) rfl ?_); refine zx 5 #[.int .i64 0, .int .i64 0, .int .i64 0, .int .i64 0] 67 ?_; intro gb144 hg w53 hbox hb; have n0_ := zD BK138 hb; have n1_ := zY HB hb; have n2_ := Aside0.mk (hbox); have n3_ := zS hg HB; have n4_ := zS hg HB; have n5_ := zN hg BK138; have n6_ := zM hg BK138; clear BK138; clear HB; have BK138 := n0_; have HB := n1_; have BK144 := n2_; have GW144 := n3_; have GE144 := n4_; have NB138_144 := n5_; have NB144_138 := n6_; clear n0_ n1_ n2_ n3_ n4_ n5_ n6_; clear hb hbox hg; have hnb54 := NB144_138.out; have hnc54 := NB138_144.out; obtain ⟨hcz55_0, hcz55_1, hcz55_2, hcz55_3, hfz55_0, hfz55_1, hfz55_2, hfz55_3⟩ := zk4 BK144; obtain ⟨hcz56_0, hcz56_1, hcz56_2, hcz56_3, hcz56_4, hcz56_5, hfz56_0, hfz56_1, hfz56_2, hfz56_3, hfz56_4, hfz56_5⟩ := zk6 BK138) | ((with_reducible refine gate_callee (f := 21) rfl ?_); refine goesL_ (some 57) rfl rfl Try.func21 (by kernel_rfl) rfl #[.agg #[.slice A0_0 l0_0.length c0_0, .slice A0_1 l0_1.length c0_1], .agg #[.int .i64 ((rd_T67 l0_5 x48_2).f0.f0), .int .i64 ((rd_T67 l0_5 x48_2).f0.f1)]] rfl za ?_; (with_reducible refine (wear_has.calls _ _ l0_0 _ _ l0_1 ((rd_T67 l0_5 x48_2).f0.f0) ((rd_T67 l0_5 x48_2).f0.f1) false _ ?side1 ?side2 ?side3 ?side4 A35.out).mono ?_); (case side1 => exact Kd.C_below HR0_0.out (zw HB)); (case side2 => exact HC0_0.out); (case side3 => exact Kd.C_below HR0_1.out (zw HB)); (case side4 => exact HC0_1.out); rintro e w57 ⟨rfl, hb⟩; refine ⟨_, rfl, ?_⟩; have n0_ := Aside0.mk (blk_below (g := gb138) (o := .cells #[.slice A0_0 l0_0.length c0_0, .slice A0_1 l0_1.length c0_1, .int .i64 a0_2, .int .i64 a0_3, .int .i64 a0_4, .slice (some ad143) l0_5.length c0_5] 30 (0, 0)) (zv BK138) hb); have n1_ := Aside0.mk (blk_below (g := gb144) (o := .cells #[.int .i64 ((rd_T67 l0_5 x48_2).f0.f0), .int .i64 ((rd_T67 l0_5 x48_2).f0.f1), .int .i64 ((rd_T67 l0_5 x48_2).f1.f0), .int .i64 ((rd_T67 l0_5 x48_2).f1.f1)] 67 (0, 0)) (by refine zQ ?_; refine blk_put (cs := #[.int .i64 ((rd_T67 l0_5 x48_2).f0.f0), .int .i64 ((rd_T67 l0_5 x48_2).f0.f1), .int .i64 ((rd_T67 l0_5 x48_2).f1.f0), .int .i64 0]) ?_ 3 _ rfl; refine zQ ?_; refine blk_put (cs := #[.int .i64 ((rd_T67 l0_5 x48_2).f0.f0), .int .i64 ((rd_T67 l0_5 x48_2).f0.f1), .int .i64 0, .int .i64 0]) ?_ 2 _ rfl; refine zQ ?_; refine blk_put (cs := #[.int .i64 ((rd_T67 l0_5 x48_2).f0.f0), .int .i64 0, .int .i64 0, .int .i64 0]) ?_ 1 _ rfl; refine zQ ?_; refine blk_put (cs := #[.int .i64 0, .int .i64 0, .int .i64 0, .int .i64 0]) ?_ 0 _ rfl; (with_reducible repeat (first | refine blk_drewN ?_ _ | refine blk_drew ?_ | refine blk_alloc ?_ _)); exact BK144.out) hb); have n2_ := zY HB hb; clear BK138; clear BK144; clear HB; have BK138 := n0_; have BK144 := n1_; have HB := n2_; clear n0_ n1_ n2_; (try clear hb); (try clear hb2); (try clear hk); (try clear hi)))
         go_ret
         exact ⟨ze, zw HB⟩
        rw [if_neg c34] at H
        exact absurd H (by simp)
       rw [if_neg c33] at H
       exact absurd H (by simp)
      rw [if_neg c32] at H
      have c32b0 : decide (x48_2 < (l0_5.length : Int)) = false := decide_eq_false c32
      clear c32
      have H' := Aside0.mk H
      clear H
      obtain ⟨hcz58_0, hcz58_1, hcz58_2, hcz58_3, hcz58_4, hcz58_5, hfz58_0, hfz58_1, hfz58_2, hfz58_3, hfz58_4, hfz58_5⟩ := zk6 BK138
      go_wp2
      go_loopg [68] k2 (fun kq v68 w' => ∃ (x68_3 : Int), v68 = .int .i64 x68_3 ∧ Aside0 (wear_Check.l1 kq l0_5 (l0_5.length : Int) x68_3 l0_0 l0_1 a0_2 a0_3 a0_4 l0_5 = some r) ∧ Aside0 (kq ≤ k2) ∧ Aside0 (w'.heap[gb138]? = some (.cells #[(.slice A0_0 l0_0.length c0_0), (.slice A0_1 l0_1.length c0_1), .int .i64 a0_2, .int .i64 a0_3, .int .i64 a0_4, (.slice A0_5 l0_5.length c0_5)] 30 (0, 0))) ∧ Aside0 (Below w.heap.size w w'))
      case atStart => exact ⟨(0), zq, H', ⟨Nat.le_refl _⟩, ⟨zb BK138⟩, ⟨zw HB⟩⟩
      case round =>
       clear H'; try clear c1; try clear p1; try clear q1; try clear hx1; try clear c2; try clear p2; try clear c3; try clear c3b0; try clear c3b1; try clear c4; try clear c4b0; try clear c4b1; try clear c5; try clear p6; try clear c10; try clear p14; try clear q14; try clear hx14; try clear c15; try clear c21; try clear c22; try clear c23; try clear c28; try clear c29; try clear c29b0; try clear c29b1; try clear c32; try clear c32b0; try clear c33; try clear c33b0; try clear c34; try clear c34b0; try clear c35; try clear c36; try clear c37; try clear c38; try clear c40; try clear c47; try clear c54; try clear hcz12_0 hcz12_1 hcz12_2 hcz12_3 hcz12_4 hcz12_5; try clear hcz14_0 hcz14_1 hcz14_2 hcz14_3 hcz14_4 hcz14_5; try clear hcz18_0 hcz18_1 hcz18_2 hcz18_3 hcz18_4 hcz18_5; try clear hcz20_0 hcz20_1 hcz20_2 hcz20_3 hcz20_4 hcz20_5; try clear hcz25_0 hcz25_1 hcz25_2 hcz25_3 hcz25_4 hcz25_5; try clear hcz27_0 hcz27_1 hcz27_2 hcz27_3 hcz27_4 hcz27_5; try clear hcz30_0 hcz30_1 hcz30_2 hcz30_3 hcz30_4 hcz30_5; try clear hcz31_0 hcz31_1 hcz31_2 hcz31_3 hcz31_4 hcz31_5; try clear hcz41_0 hcz41_1 hcz41_2 hcz41_3; try clear hcz42_0 hcz42_1 hcz42_2 hcz42_3 hcz42_4 hcz42_5; try clear hcz44_0 hcz44_1 hcz44_2 hcz44_3; try clear hcz48_0 hcz48_1 hcz48_2 hcz48_3; try clear hcz49_0 hcz49_1 hcz49_2 hcz49_3 hcz49_4 hcz49_5; try clear hcz51_0 hcz51_1 hcz51_2 hcz51_3; try clear hcz55_0 hcz55_1 hcz55_2 hcz55_3; try clear hcz56_0 hcz56_1 hcz56_2 hcz56_3 hcz56_4 hcz56_5; try clear hcz58_0 hcz58_1 hcz58_2 hcz58_3 hcz58_4 hcz58_5; try clear hcz6_0 hcz6_1 hcz6_2 hcz6_3 hcz6_4 hcz6_5; try clear hcz8_0 hcz8_1 hcz8_2 hcz8_3 hcz8_4 hcz8_5; try clear hfz12_0 hfz12_1 hfz12_2 hfz12_3 hfz12_4 hfz12_5; try clear hfz14_0 hfz14_1 hfz14_2 hfz14_3 hfz14_4 hfz14_5; try clear hfz18_0 hfz18_1 hfz18_2 hfz18_3 hfz18_4 hfz18_5; try clear hfz20_0 hfz20_1 hfz20_2 hfz20_3 hfz20_4 hfz20_5; try clear hfz25_0 hfz25_1 hfz25_2 hfz25_3 hfz25_4 hfz25_5; try clear hfz27_0 hfz27_1 hfz27_2 hfz27_3 hfz27_4 hfz27_5; try clear hfz30_0 hfz30_1 hfz30_2 hfz30_3 hfz30_4 hfz30_5; try clear hfz31_0 hfz31_1 hfz31_2 hfz31_3 hfz31_4 hfz31_5; try clear hfz41_0 hfz41_1 hfz41_2 hfz41_3; try clear hfz42_0 hfz42_1 hfz42_2 hfz42_3 hfz42_4 hfz42_5; try clear hfz44_0 hfz44_1 hfz44_2 hfz44_3; try clear hfz48_0 hfz48_1 hfz48_2 hfz48_3; try clear hfz49_0 hfz49_1 hfz49_2 hfz49_3 hfz49_4 hfz49_5; try clear hfz51_0 hfz51_1 hfz51_2 hfz51_3; try clear hfz55_0 hfz55_1 hfz55_2 hfz55_3; try clear hfz56_0 hfz56_1 hfz56_2 hfz56_3 hfz56_4 hfz56_5; try clear hfz58_0 hfz58_1 hfz58_2 hfz58_3 hfz58_4 hfz58_5; try clear hfz6_0 hfz6_1 hfz6_2 hfz6_3 hfz6_4 hfz6_5; try clear hfz8_0 hfz8_1 hfz8_2 hfz8_3 hfz8_4 hfz8_5; try clear hx143_0; try clear hx143_1; try clear hx143_2; try clear hx143_3; try clear p143; try clear p2; try clear q143
       obtain ⟨x68_3, rfl, HA, HK3, BK138, HB⟩ := hrel
       cases gk with
       | zero => exact absurd HA.out (by simp [wear_Check.l1])
       | succ k3 =>
        have H := HA.out
        clear HA
        simp only [wear_Check.l1] at H
        by_cases c59 : x68_3 < (l0_5.length : Int)
        ·rw [if_pos c59] at H
         have c59b0 : decide (x68_3 < (l0_5.length : Int)) = true := decide_eq_true c59
         clear c59
         by_cases c60 : 0 ≤ x68_3
         ·rw [if_pos c60] at H
          have c60b0 : decide (0 ≤ x68_3) = true := decide_eq_true c60
          clear c60
          by_cases c61 : x68_3 < (l0_5.length : Int)
          ·rw [if_pos c61] at H
           have c61b0 : decide (x68_3 < (l0_5.length : Int)) = true := decide_eq_true c61
           clear c61
           by_cases c62 : x68_3 > 0
           ·rw [if_pos c62] at H
            have c62b0 : decide (0 < x68_3) = true := decide_eq_true c62
            clear c62
            obtain ⟨ji63, hji63⟩ : ∃ j_ : Int, (wrap64 (x68_3 - 1)) = j_ := ⟨_, rfl⟩
            replace H : (if 0 ≤ (ji63) then (if (ji63) < (l0_5.length : Int) then ((wear_order.f k3 ((rd_T67 l0_5 (ji63)).f0.f0) ((rd_T67 l0_5 (ji63)).f0.f1) ((rd_T67 l0_5 x68_3).f0.f0) ((rd_T67 l0_5 x68_3).f0.f1)).bind fun t150 => (if t150 ≥ 0 then (some 8) else (wear_Check.l1 k3 l0_5 (l0_5.length : Int) (wrap64 (x68_3 + 1)) l0_0 l0_1 a0_2 a0_3 a0_4 l0_5))) else (none)) else (none)) = some r := by first | (rw [hji63] at H; exact H) | (simp only [hji63] at H ⊢; exact H)
            have hji63w : (IntKind.i64.wrap (x68_3 - 1)) = ji63 := (i64_w _).trans hji63
            by_cases c64 : 0 ≤ (ji63)
            ·rw [if_pos c64] at H
             have c64b0 : decide (0 ≤ (ji63)) = true := decide_eq_true c64
             clear c64
             by_cases c65 : (ji63) < (l0_5.length : Int)
             ·rw [if_pos c65] at H
              have c65b0 : decide ((ji63) < (l0_5.length : Int)) = true := decide_eq_true c65
              clear c65
              replace H := Option.bind_eq_some_iff.mp H
              obtain ⟨t150, A660, H⟩ := H
              replace H : (if t150 ≥ 0 then (some 8) else (wear_Check.l1 k3 l0_5 (l0_5.length : Int) (wrap64 (x68_3 + 1)) l0_0 l0_1 a0_2 a0_3 a0_4 l0_5)) = some r := H
              have A66 := Aside0.mk A660
              clear A660
              by_cases c67 : t150 ≥ 0
              ·rw [if_pos c67] at H
               have c67b0 : decide (0 ≤ t150) = true := decide_eq_true c67
               clear c67
               obtain rfl := Option.some.inj H
               have p147 : 0 ≤ (x68_3 : Int) := of_decide_eq_true zj
               have q147 : x68_3 < (l0_5.length : Int) := of_decide_eq_true zj
               obtain ⟨ad147, e147, hx147_0, hx147_1, hx147_2, hx147_3⟩ := at_T67 HR0_5.out x68_3 p147 q147
               cases e147
               replace hx147_0 := zu hx147_0 HB
               replace hx147_1 := zu hx147_1 HB
               replace hx147_2 := zu hx147_2 HB
               replace hx147_3 := zu hx147_3 HB
               replace p147 := eq_true p147
               replace q147 := eq_true q147
               try go_wp2_with (first | ((with_reducible refine gate_dst (N := 7) rfl ?_); refine zx 7 #[.int .i64 0, .int .i64 0, .int .i64 0, .int .i64 0] 67 ?_; intro gb148 hg w68 hbox hb; have n0_ := zD BK138 hb; have n1_ := zY HB hb; have n2_ := Aside0.mk (hbox); have n3_ := zS hg HB; have n4_ := zS hg HB; have n5_ := zN hg BK138; have n6_ := zM hg BK138; clear BK138; clear HB; have BK138 := n0_; have HB := n1_; have BK148 := n2_; have GW148 := n3_; have GE148 := n4_; have NB138_148 := n5_; have NB148_138 := n6_; clear n0_ n1_ n2_ n3_ n4_ n5_ n6_; clear hb hbox hg; have hnb69 := NB148_138.out; have hnc69 := NB138_148.out; obtain ⟨hcz70_0, hcz70_1, hcz70_2, hcz70_3, hfz70_0, hfz70_1, hfz70_2, hfz70_3⟩ := zk4 BK148))
               have n0_ : Aside0 (((((w68.setCell ⟨gb148, 0, none⟩ (.int .i64 ((rd_T67 l0_5 x68_3).f0.f0))).setCell ⟨gb148, 1, none⟩ (.int .i64 ((rd_T67 l0_5 x68_3).f0.f1))).setCell ⟨gb148, 2, none⟩ (.int .i64 ((rd_T67 l0_5 x68_3).f1.f0))).setCell ⟨gb148, 3, none⟩ (.int .i64 ((rd_T67 l0_5 x68_3).f1.f1))).heap[gb138]? = some (.cells #[.slice A0_0 l0_0.length c0_0, .slice A0_1 l0_1.length c0_1, .int .i64 a0_2, .int .i64 a0_3, .int .i64 a0_4, .slice (some ad147) l0_5.length c0_5] 30 (0, 0))) := ⟨zv BK138⟩
               have n1_ : Aside0 (((((w68.setCell ⟨gb148, 0, none⟩ (.int .i64 ((rd_T67 l0_5 x68_3).f0.f0))).setCell ⟨gb148, 1, none⟩ (.int .i64 ((rd_T67 l0_5 x68_3).f0.f1))).setCell ⟨gb148, 2, none⟩ (.int .i64 ((rd_T67 l0_5 x68_3).f1.f0))).setCell ⟨gb148, 3, none⟩ (.int .i64 ((rd_T67 l0_5 x68_3).f1.f1))).heap[gb148]? = some (.cells #[.int .i64 ((rd_T67 l0_5 x68_3).f0.f0), .int .i64 ((rd_T67 l0_5 x68_3).f0.f1), .int .i64 ((rd_T67 l0_5 x68_3).f1.f0), .int .i64 ((rd_T67 l0_5 x68_3).f1.f1)] 67 (0, 0))) := ⟨by refine zQ ?_; refine blk_put (cs := #[.int .i64 ((rd_T67 l0_5 x68_3).f0.f0), .int .i64 ((rd_T67 l0_5 x68_3).f0.f1), .int .i64 ((rd_T67 l0_5 x68_3).f1.f0), .int .i64 0]) ?_ 3 _ rfl; refine zQ ?_; refine blk_put (cs := #[.int .i64 ((rd_T67 l0_5 x68_3).f0.f0), .int .i64 ((rd_T67 l0_5 x68_3).f0.f1), .int .i64 0, .int .i64 0]) ?_ 2 _ rfl; refine zQ ?_; refine blk_put (cs := #[.int .i64 ((rd_T67 l0_5 x68_3).f0.f0), .int .i64 0, .int .i64 0, .int .i64 0]) ?_ 1 _ rfl; refine zQ ?_; refine blk_put (cs := #[.int .i64 0, .int .i64 0, .int .i64 0, .int .i64 0]) ?_ 0 _ rfl; (with_reducible repeat (first | refine blk_drewN ?_ _ | refine blk_drew ?_ | refine blk_alloc ?_ _)); exact BK148.out⟩
               have n2_ : Aside0 (Below w.heap.size w ((((w68.setCell ⟨gb148, 0, none⟩ (.int .i64 ((rd_T67 l0_5 x68_3).f0.f0))).setCell ⟨gb148, 1, none⟩ (.int .i64 ((rd_T67 l0_5 x68_3).f0.f1))).setCell ⟨gb148, 2, none⟩ (.int .i64 ((rd_T67 l0_5 x68_3).f1.f0))).setCell ⟨gb148, 3, none⟩ (.int .i64 ((rd_T67 l0_5 x68_3).f1.f1)))) := ⟨zw HB⟩
               (try clear BK138)
               (try clear BK148)
               (try clear HB)
               generalize ((((w68.setCell ⟨gb148, 0, none⟩ (.int .i64 ((rd_T67 l0_5 x68_3).f0.f0))).setCell ⟨gb148, 1, none⟩ (.int .i64 ((rd_T67 l0_5 x68_3).f0.f1))).setCell ⟨gb148, 2, none⟩ (.int .i64 ((rd_T67 l0_5 x68_3).f1.f0))).setCell ⟨gb148, 3, none⟩ (.int .i64 ((rd_T67 l0_5 x68_3).f1.f1))) = w71 at n0_ n1_ n2_ ⊢
               have BK138 := n0_
               have BK148 := n1_
               have HB := n2_
               clear n0_ n1_ n2_
               have n0_ := Aside0.mk (blk_drew BK138.out)
               have n1_ := Aside0.mk (blk_drew BK148.out)
               have n2_ := Aside0.mk (below_drew1 HB.out)
               clear BK138; clear BK148; clear HB
               have BK138 := n0_
               have BK148 := n1_
               have HB := n2_
               clear n0_ n1_ n2_
               have p149 : 0 ≤ ((ji63) : Int) := of_decide_eq_true zj
               have q149 : (ji63) < (l0_5.length : Int) := of_decide_eq_true zj
               obtain ⟨ad149, e149, hx149_0, hx149_1, hx149_2, hx149_3⟩ := at_T67 HR0_5.out (ji63) p149 q149
               have hw149_3 := hx149_3
               have hw149_2 := hx149_2
               have hw149_1 := hx149_1
               have hw149_0 := hx149_0
               obtain rfl : ad147 = ad149 := (by injection e149)
               replace hx149_0 := zu hx149_0 HB
               replace hx149_1 := zu hx149_1 HB
               replace hx149_2 := zu hx149_2 HB
               replace hx149_3 := zu hx149_3 HB
               replace p149 := eq_true p149
               replace q149 := eq_true q149
               refine start_ (n := 15) (S := fun w' => w'.cell? ⟨gb138, 0, none⟩ = some (.slice A0_0 l0_0.length c0_0) ∧ w'.cell? ⟨gb138, 1, none⟩ = some (.slice A0_1 l0_1.length c0_1) ∧ w'.cell? ⟨gb138, 2, none⟩ = some (.int .i64 a0_2) ∧ w'.cell? ⟨gb138, 3, none⟩ = some (.int .i64 a0_3) ∧ w'.cell? ⟨gb138, 4, none⟩ = some (.int .i64 a0_4) ∧ w'.cell? ⟨gb138, 5, none⟩ = some (.slice (some ad147) l0_5.length c0_5) ∧ w'.cell? ⟨gb148, 0, none⟩ = some (.int .i64 ((rd_T67 l0_5 x68_3).f0.f0)) ∧ w'.cell? ⟨gb148, 1, none⟩ = some (.int .i64 ((rd_T67 l0_5 x68_3).f0.f1)) ∧ w'.cell? ⟨gb148, 2, none⟩ = some (.int .i64 ((rd_T67 l0_5 x68_3).f1.f0)) ∧ w'.cell? ⟨gb148, 3, none⟩ = some (.int .i64 ((rd_T67 l0_5 x68_3).f1.f1)) ∧ w'.cell? (ad147.add (((ji63)).toNat * 4)) = some (.int .i64 ((rd_T67 l0_5 (ji63)).f0.f0)) ∧ w'.cell? ⟨(ad147.add (((ji63)).toNat * 4)).block, (ad147.add (((ji63)).toNat * 4)).off + 1, none⟩ = some (.int .i64 ((rd_T67 l0_5 (ji63)).f0.f1)) ∧ w'.cell? ⟨(ad147.add (((ji63)).toNat * 4)).block, (ad147.add (((ji63)).toNat * 4)).off + 2, none⟩ = some (.int .i64 ((rd_T67 l0_5 (ji63)).f1.f0)) ∧ w'.cell? ⟨(ad147.add (((ji63)).toNat * 4)).block, (ad147.add (((ji63)).toNat * 4)).off + 3, none⟩ = some (.int .i64 ((rd_T67 l0_5 (ji63)).f1.f1))) (ds := []) #[Z0, Z0, Z0, Z0, Z0, Z0, Z0, Z0, Z0, Z0, Z0, Z0, Z0, Z0, Z0] (by kernel_rfl) rfl rfl ⟨(blk_cell BK138.out 0).trans rfl, (blk_cell BK138.out 1).trans rfl, (blk_cell BK138.out 2).trans rfl, (blk_cell BK138.out 3).trans rfl, (blk_cell BK138.out 4).trans rfl, (blk_cell BK138.out 5).trans rfl, (blk_cell BK148.out 0).trans rfl, (blk_cell BK148.out 1).trans rfl, (blk_cell BK148.out 2).trans rfl, (blk_cell BK148.out 3).trans rfl, (zu hw149_0 HB), (zu hw149_1 HB), (zu hw149_2 HB), (zu hw149_3 HB)⟩ (fun hHeld => ?_); refine with_tabW wear_Check.tab23 wear_Check.bits23 (fun HT_ HW_ => ?_)
               generalize w71.drew = w72 at BK138 BK148 HB hx149_0 hx149_1 hx149_2 hx149_3 hHeld ⊢
               refine zp 0 (some 73) #[Z1, Z0, Z0, Z0, Z0, Z0, Z0, Z0, Z0, Z0, Z0, Z0, Z0, Z0, Z0] rfl rfl (any_of HT_.out (by kernel_rfl)) ?_
               refine zp 1 (some 74) #[Z1, Z1, Z0, Z0, Z0, Z0, Z0, Z0, Z0, Z0, Z0, Z0, Z0, Z0, Z0] rfl rfl (any_of HT_.out (by kernel_rfl)) ?_
               refine zp 2 (some 75) #[Z1, Z1, Z1, Z0, Z0, Z0, Z0, Z0, Z0, Z0, Z0, Z0, Z0, Z0, Z0] rfl rfl (any_of HT_.out (by kernel_rfl)) ?_
               refine zp 3 (some 76) #[Z1, Z1, Z1, Z1, Z0, Z0, Z0, Z0, Z0, Z0, Z0, Z0, Z0, Z0, Z0] rfl rfl (any_of HT_.out (by kernel_rfl)) ?_
               refine zp 5 (some 78) #[Z1, Z1, Z1, Z1, Z0, Z1, Z0, Z0, Z0, Z0, Z0, Z0, Z0, Z0, Z0] rfl rfl (any_of HT_.out (by kernel_rfl)) ?_
               refine zp 6 (some 79) #[Z1, Z1, Z1, Z1, Z0, Z1, Z1, Z0, Z0, Z0, Z0, Z0, Z0, Z0, Z0] rfl rfl (any_of HT_.out (by kernel_rfl)) ?_
               refine zp 10 (some 83) #[Z1, Z1, Z1, Z1, Z0, Z1, Z1, Z0, Z0, Z0, Z1, Z0, Z0, Z0, Z0] rfl rfl (any_of HT_.out (by kernel_rfl)) ?_
               refine take_ (i := 4) (N := some 77) (v := ?_) (a' := ?_) #[Z1, Z1, Z1, Z1, Z1, Z1, Z1, Z0, Z0, Z0, Z1, Z0, Z0, Z0, Z0] rfl rfl (take_ofW HT_.out HW_.out (by kernel_rfl)) (fun _ _ _ h => h) (Or.inl ⟨by rfl, ?_⟩) hHeld ?_ ?_
               rotate_left; · rintro w' ⟨s0, s1, s2, s3, s4, s5, s6, s7, s8, s9, s10, s11, s12, s13⟩; go_simp; with_reducible rfl
               rotate_left; · simp only [Act.put, List.setIfInBounds_toArray, List.set_cons_zero, List.set_cons_succ, i64_w, i32_w]; rfl
               refine zp 7 (some 80) #[Z1, Z1, Z1, Z1, Z1, Z1, Z1, Z1, Z0, Z0, Z1, Z0, Z0, Z0, Z0] rfl rfl (any_of HT_.out (by kernel_rfl)) ?_
               refine zp 8 (some 81) #[Z1, Z1, Z1, Z1, Z1, Z1, Z1, Z1, Z1, Z0, Z1, Z0, Z0, Z0, Z0] rfl rfl (any_of HT_.out (by kernel_rfl)) ?_
               refine take_ (i := 9) (N := some 82) (v := ?_) (a' := ?_) #[Z1, Z1, Z1, Z1, Z1, Z1, Z1, Z1, Z1, Z1, Z1, Z0, Z0, Z0, Z0] rfl rfl (take_ofW HT_.out HW_.out (by kernel_rfl)) (fun _ _ _ h => h) (Or.inl ⟨by rfl, ?_⟩) hHeld ?_ ?_
               rotate_left; · rintro w' ⟨s0, s1, s2, s3, s4, s5, s6, s7, s8, s9, s10, s11, s12, s13⟩; go_simp; with_reducible rfl
               rotate_left; · simp only [Act.put, List.setIfInBounds_toArray, List.set_cons_zero, List.set_cons_succ, i64_w, i32_w]; rfl
               refine take_ (i := 11) (N := some 84) (v := ?_) (a' := ?_) #[Z1, Z1, Z1, Z1, Z1, Z1, Z1, Z1, Z1, Z1, Z1, Z1, Z0, Z0, Z0] rfl rfl (take_ofW HT_.out HW_.out (by kernel_rfl)) (fun _ _ _ h => h) (Or.inl ⟨by rfl, ?_⟩) hHeld ?_ ?_
               rotate_left; · rintro w' ⟨s0, s1, s2, s3, s4, s5, s6, s7, s8, s9, s10, s11, s12, s13⟩; go_simp; with_reducible rfl
               rotate_left; · simp only [Act.put, List.setIfInBounds_toArray, List.set_cons_zero, List.set_cons_succ, i64_w, i32_w]; rfl
               refine one_ (i := 12) (N := some 85) #[Z1, Z1, Z1, Z1, Z1, Z1, Z1, Z1, Z1, Z1, Z1, Z1, Z1, Z0, Z0] rfl rfl (one_of HT_.out (by kernel_rfl)) (by decide) (fun K hK => ?_)
               refine goes_ Try.func26 (by kernel_rfl) rfl #[.agg #[.int .i64 ((rd_T67 l0_5 (ji63)).f0.f0), .int .i64 ((rd_T67 l0_5 (ji63)).f0.f1)], .agg #[.int .i64 ((rd_T67 l0_5 x68_3).f0.f0), .int .i64 ((rd_T67 l0_5 x68_3).f0.f1)]] (by rfl) rfl rfl (by (try simp only [List.map_toArray, List.map_cons, List.map_nil]); first | done | (simp only [hji63]; rfl) | rfl | (simp only [List.length_drop, List.length_take]; rfl)) ?_
               with_reducible refine (wear_order.calls k3 ((rd_T67 l0_5 (ji63)).f0.f0) ((rd_T67 l0_5 (ji63)).f0.f1) ((rd_T67 l0_5 x68_3).f0.f0) ((rd_T67 l0_5 x68_3).f0.f1) t150 _ A66.out).mono ?_
               rintro e w73 ⟨rfl, hb⟩
               refine ⟨_, rfl, ?_⟩
               have n0_ := zD BK138 hb
               have n1_ := zD BK148 hb
               have n2_ := zY HB hb
               clear BK138; clear BK148; clear HB
               have BK138 := n0_
               have BK148 := n1_
               have HB := n2_
               clear n0_ n1_ n2_
               (try clear hb)
               (try clear hb2)
               (try clear hk)
               (try clear hi)
               refine hK.out _ _ ⟨(blk_cell BK138.out 0).trans rfl, (blk_cell BK138.out 1).trans rfl, (blk_cell BK138.out 2).trans rfl, (blk_cell BK138.out 3).trans rfl, (blk_cell BK138.out 4).trans rfl, (blk_cell BK138.out 5).trans rfl, (blk_cell BK148.out 0).trans rfl, (blk_cell BK148.out 1).trans rfl, (blk_cell BK148.out 2).trans rfl, (blk_cell BK148.out 3).trans rfl, (zu hw149_0 HB), (zu hw149_1 HB), (zu hw149_2 HB), (zu hw149_3 HB)⟩ (fun hHeld => ?_)
               clear hK K
               refine norm_ (a' := ?_) ?_ ?_
               rotate_left
               ·show Act.put _ (some 85) _ = _
                simp only [Act.put, List.setIfInBounds_toArray, List.set_cons_zero, List.set_cons_succ, i64_w, i32_w]
                rfl
               refine zp 13 (some 86) #[Z1, Z1, Z1, Z1, Z1, Z1, Z1, Z1, Z1, Z1, Z1, Z1, Z1, Z1, Z0] rfl rfl (any_of HT_.out (by kernel_rfl)) ?_
               refine zp 14 (some 87) #[Z1, Z1, Z1, Z1, Z1, Z1, Z1, Z1, Z1, Z1, Z1, Z1, Z1, Z1, Z1] rfl rfl (any_of HT_.out (by kernel_rfl)) ?_
               refine done_ (done_of HT_.out (by kernel_rfl)) ?_
               try go_wp2
               go_ret
               exact ⟨by first | rfl | (simp [errW_none, errW_some] <;> rfl) | (simp only [← hji63]; first | rfl | (simp [errW_none, errW_some] <;> rfl)) | (simp [*, errW_none, errW_some] <;> rfl), zw HB⟩
              rw [if_neg c67] at H
              have c67b0 : decide (0 ≤ t150) = false := decide_eq_false c67
              clear c67
              have H' := Aside0.mk H
              clear H
              have p147 : 0 ≤ (x68_3 : Int) := of_decide_eq_true zj
              have q147 : x68_3 < (l0_5.length : Int) := of_decide_eq_true zj
              obtain ⟨ad147, e147, hx147_0, hx147_1, hx147_2, hx147_3⟩ := at_T67 HR0_5.out x68_3 p147 q147
              cases e147
              replace hx147_0 := zu hx147_0 HB
              replace hx147_1 := zu hx147_1 HB
              replace hx147_2 := zu hx147_2 HB
              replace hx147_3 := zu hx147_3 HB
              replace p147 := eq_true p147
              replace q147 := eq_true q147
              try go_wp2_with (first | ((with_reducible refine gate_dst (N := 7) rfl ?_); refine zx 7 #[.int .i64 0, .int .i64 0, .int .i64 0, .int .i64 0] 67 ?_; intro gb148 hg w74 hbox hb; have n0_ := zD BK138 hb; have n1_ := zY HB hb; have n2_ := Aside0.mk (hbox); have n3_ := zS hg HB; have n4_ := zS hg HB; have n5_ := zN hg BK138; have n6_ := zM hg BK138; clear BK138; clear HB; have BK138 := n0_; have HB := n1_; have BK148 := n2_; have GW148 := n3_; have GE148 := n4_; have NB138_148 := n5_; have NB148_138 := n6_; clear n0_ n1_ n2_ n3_ n4_ n5_ n6_; clear hb hbox hg; have hnb75 := NB148_138.out; have hnc75 := NB138_148.out; obtain ⟨hcz76_0, hcz76_1, hcz76_2, hcz76_3, hfz76_0, hfz76_1, hfz76_2, hfz76_3⟩ := zk4 BK148))
              have n0_ : Aside0 (((((w74.setCell ⟨gb148, 0, none⟩ (.int .i64 ((rd_T67 l0_5 x68_3).f0.f0))).setCell ⟨gb148, 1, none⟩ (.int .i64 ((rd_T67 l0_5 x68_3).f0.f1))).setCell ⟨gb148, 2, none⟩ (.int .i64 ((rd_T67 l0_5 x68_3).f1.f0))).setCell ⟨gb148, 3, none⟩ (.int .i64 ((rd_T67 l0_5 x68_3).f1.f1))).heap[gb138]? = some (.cells #[.slice A0_0 l0_0.length c0_0, .slice A0_1 l0_1.length c0_1, .int .i64 a0_2, .int .i64 a0_3, .int .i64 a0_4, .slice (some ad147) l0_5.length c0_5] 30 (0, 0))) := ⟨zv BK138⟩
              have n1_ : Aside0 (((((w74.setCell ⟨gb148, 0, none⟩ (.int .i64 ((rd_T67 l0_5 x68_3).f0.f0))).setCell ⟨gb148, 1, none⟩ (.int .i64 ((rd_T67 l0_5 x68_3).f0.f1))).setCell ⟨gb148, 2, none⟩ (.int .i64 ((rd_T67 l0_5 x68_3).f1.f0))).setCell ⟨gb148, 3, none⟩ (.int .i64 ((rd_T67 l0_5 x68_3).f1.f1))).heap[gb148]? = some (.cells #[.int .i64 ((rd_T67 l0_5 x68_3).f0.f0), .int .i64 ((rd_T67 l0_5 x68_3).f0.f1), .int .i64 ((rd_T67 l0_5 x68_3).f1.f0), .int .i64 ((rd_T67 l0_5 x68_3).f1.f1)] 67 (0, 0))) := ⟨by refine zQ ?_; refine blk_put (cs := #[.int .i64 ((rd_T67 l0_5 x68_3).f0.f0), .int .i64 ((rd_T67 l0_5 x68_3).f0.f1), .int .i64 ((rd_T67 l0_5 x68_3).f1.f0), .int .i64 0]) ?_ 3 _ rfl; refine zQ ?_; refine blk_put (cs := #[.int .i64 ((rd_T67 l0_5 x68_3).f0.f0), .int .i64 ((rd_T67 l0_5 x68_3).f0.f1), .int .i64 0, .int .i64 0]) ?_ 2 _ rfl; refine zQ ?_; refine blk_put (cs := #[.int .i64 ((rd_T67 l0_5 x68_3).f0.f0), .int .i64 0, .int .i64 0, .int .i64 0]) ?_ 1 _ rfl; refine zQ ?_; refine blk_put (cs := #[.int .i64 0, .int .i64 0, .int .i64 0, .int .i64 0]) ?_ 0 _ rfl; (with_reducible repeat (first | refine blk_drewN ?_ _ | refine blk_drew ?_ | refine blk_alloc ?_ _)); exact BK148.out⟩
              have n2_ : Aside0 (Below w.heap.size w ((((w74.setCell ⟨gb148, 0, none⟩ (.int .i64 ((rd_T67 l0_5 x68_3).f0.f0))).setCell ⟨gb148, 1, none⟩ (.int .i64 ((rd_T67 l0_5 x68_3).f0.f1))).setCell ⟨gb148, 2, none⟩ (.int .i64 ((rd_T67 l0_5 x68_3).f1.f0))).setCell ⟨gb148, 3, none⟩ (.int .i64 ((rd_T67 l0_5 x68_3).f1.f1)))) := ⟨zw HB⟩
              (try clear BK138)
              (try clear BK148)
              (try clear HB)
              generalize ((((w74.setCell ⟨gb148, 0, none⟩ (.int .i64 ((rd_T67 l0_5 x68_3).f0.f0))).setCell ⟨gb148, 1, none⟩ (.int .i64 ((rd_T67 l0_5 x68_3).f0.f1))).setCell ⟨gb148, 2, none⟩ (.int .i64 ((rd_T67 l0_5 x68_3).f1.f0))).setCell ⟨gb148, 3, none⟩ (.int .i64 ((rd_T67 l0_5 x68_3).f1.f1))) = w77 at n0_ n1_ n2_ ⊢
              have BK138 := n0_
              have BK148 := n1_
              have HB := n2_
              clear n0_ n1_ n2_
              have n0_ := Aside0.mk (blk_drew BK138.out)
              have n1_ := Aside0.mk (blk_drew BK148.out)
              have n2_ := Aside0.mk (below_drew1 HB.out)
              clear BK138; clear BK148; clear HB
              have BK138 := n0_
              have BK148 := n1_
              have HB := n2_
              clear n0_ n1_ n2_
              have p149 : 0 ≤ ((ji63) : Int) := of_decide_eq_true zj
              have q149 : (ji63) < (l0_5.length : Int) := of_decide_eq_true zj
              obtain ⟨ad149, e149, hx149_0, hx149_1, hx149_2, hx149_3⟩ := at_T67 HR0_5.out (ji63) p149 q149
              have hw149_3 := hx149_3
              have hw149_2 := hx149_2
              have hw149_1 := hx149_1
              have hw149_0 := hx149_0
              obtain rfl : ad147 = ad149 := (by injection e149)
              replace hx149_0 := zu hx149_0 HB
              replace hx149_1 := zu hx149_1 HB
              replace hx149_2 := zu hx149_2 HB
              replace hx149_3 := zu hx149_3 HB
              replace p149 := eq_true p149
              replace q149 := eq_true q149
              refine start_ (n := 15) (S := fun w' => w'.cell? ⟨gb138, 0, none⟩ = some (.slice A0_0 l0_0.length c0_0) ∧ w'.cell? ⟨gb138, 1, none⟩ = some (.slice A0_1 l0_1.length c0_1) ∧ w'.cell? ⟨gb138, 2, none⟩ = some (.int .i64 a0_2) ∧ w'.cell? ⟨gb138, 3, none⟩ = some (.int .i64 a0_3) ∧ w'.cell? ⟨gb138, 4, none⟩ = some (.int .i64 a0_4) ∧ w'.cell? ⟨gb138, 5, none⟩ = some (.slice (some ad147) l0_5.length c0_5) ∧ w'.cell? ⟨gb148, 0, none⟩ = some (.int .i64 ((rd_T67 l0_5 x68_3).f0.f0)) ∧ w'.cell? ⟨gb148, 1, none⟩ = some (.int .i64 ((rd_T67 l0_5 x68_3).f0.f1)) ∧ w'.cell? ⟨gb148, 2, none⟩ = some (.int .i64 ((rd_T67 l0_5 x68_3).f1.f0)) ∧ w'.cell? ⟨gb148, 3, none⟩ = some (.int .i64 ((rd_T67 l0_5 x68_3).f1.f1)) ∧ w'.cell? (ad147.add (((ji63)).toNat * 4)) = some (.int .i64 ((rd_T67 l0_5 (ji63)).f0.f0)) ∧ w'.cell? ⟨(ad147.add (((ji63)).toNat * 4)).block, (ad147.add (((ji63)).toNat * 4)).off + 1, none⟩ = some (.int .i64 ((rd_T67 l0_5 (ji63)).f0.f1)) ∧ w'.cell? ⟨(ad147.add (((ji63)).toNat * 4)).block, (ad147.add (((ji63)).toNat * 4)).off + 2, none⟩ = some (.int .i64 ((rd_T67 l0_5 (ji63)).f1.f0)) ∧ w'.cell? ⟨(ad147.add (((ji63)).toNat * 4)).block, (ad147.add (((ji63)).toNat * 4)).off + 3, none⟩ = some (.int .i64 ((rd_T67 l0_5 (ji63)).f1.f1))) (ds := []) #[Z0, Z0, Z0, Z0, Z0, Z0, Z0, Z0, Z0, Z0, Z0, Z0, Z0, Z0, Z0] (by kernel_rfl) rfl rfl ⟨(blk_cell BK138.out 0).trans rfl, (blk_cell BK138.out 1).trans rfl, (blk_cell BK138.out 2).trans rfl, (blk_cell BK138.out 3).trans rfl, (blk_cell BK138.out 4).trans rfl, (blk_cell BK138.out 5).trans rfl, (blk_cell BK148.out 0).trans rfl, (blk_cell BK148.out 1).trans rfl, (blk_cell BK148.out 2).trans rfl, (blk_cell BK148.out 3).trans rfl, (zu hw149_0 HB), (zu hw149_1 HB), (zu hw149_2 HB), (zu hw149_3 HB)⟩ (fun hHeld => ?_); refine with_tabW wear_Check.tab23 wear_Check.bits23 (fun HT_ HW_ => ?_)
              generalize w77.drew = w78 at BK138 BK148 HB hx149_0 hx149_1 hx149_2 hx149_3 hHeld ⊢
              refine zp 0 (some 73) #[Z1, Z0, Z0, Z0, Z0, Z0, Z0, Z0, Z0, Z0, Z0, Z0, Z0, Z0, Z0] rfl rfl (any_of HT_.out (by kernel_rfl)) ?_
              refine zp 1 (some 74) #[Z1, Z1, Z0, Z0, Z0, Z0, Z0, Z0, Z0, Z0, Z0, Z0, Z0, Z0, Z0] rfl rfl (any_of HT_.out (by kernel_rfl)) ?_
              refine zp 2 (some 75) #[Z1, Z1, Z1, Z0, Z0, Z0, Z0, Z0, Z0, Z0, Z0, Z0, Z0, Z0, Z0] rfl rfl (any_of HT_.out (by kernel_rfl)) ?_
              refine zp 3 (some 76) #[Z1, Z1, Z1, Z1, Z0, Z0, Z0, Z0, Z0, Z0, Z0, Z0, Z0, Z0, Z0] rfl rfl (any_of HT_.out (by kernel_rfl)) ?_
              refine zp 5 (some 78) #[Z1, Z1, Z1, Z1, Z0, Z1, Z0, Z0, Z0, Z0, Z0, Z0, Z0, Z0, Z0] rfl rfl (any_of HT_.out (by kernel_rfl)) ?_
              refine zp 6 (some 79) #[Z1, Z1, Z1, Z1, Z0, Z1, Z1, Z0, Z0, Z0, Z0, Z0, Z0, Z0, Z0] rfl rfl (any_of HT_.out (by kernel_rfl)) ?_
              refine zp 10 (some 83) #[Z1, Z1, Z1, Z1, Z0, Z1, Z1, Z0, Z0, Z0, Z1, Z0, Z0, Z0, Z0] rfl rfl (any_of HT_.out (by kernel_rfl)) ?_
              refine take_ (i := 4) (N := some 77) (v := ?_) (a' := ?_) #[Z1, Z1, Z1, Z1, Z1, Z1, Z1, Z0, Z0, Z0, Z1, Z0, Z0, Z0, Z0] rfl rfl (take_ofW HT_.out HW_.out (by kernel_rfl)) (fun _ _ _ h => h) (Or.inl ⟨by rfl, ?_⟩) hHeld ?_ ?_
              rotate_left; · rintro w' ⟨s0, s1, s2, s3, s4, s5, s6, s7, s8, s9, s10, s11, s12, s13⟩; go_simp; with_reducible rfl
              rotate_left; · simp only [Act.put, List.setIfInBounds_toArray, List.set_cons_zero, List.set_cons_succ, i64_w, i32_w]; rfl
              refine zp 7 (some 80) #[Z1, Z1, Z1, Z1, Z1, Z1, Z1, Z1, Z0, Z0, Z1, Z0, Z0, Z0, Z0] rfl rfl (any_of HT_.out (by kernel_rfl)) ?_
              refine zp 8 (some 81) #[Z1, Z1, Z1, Z1, Z1, Z1, Z1, Z1, Z1, Z0, Z1, Z0, Z0, Z0, Z0] rfl rfl (any_of HT_.out (by kernel_rfl)) ?_
              refine take_ (i := 9) (N := some 82) (v := ?_) (a' := ?_) #[Z1, Z1, Z1, Z1, Z1, Z1, Z1, Z1, Z1, Z1, Z1, Z0, Z0, Z0, Z0] rfl rfl (take_ofW HT_.out HW_.out (by kernel_rfl)) (fun _ _ _ h => h) (Or.inl ⟨by rfl, ?_⟩) hHeld ?_ ?_
              rotate_left; · rintro w' ⟨s0, s1, s2, s3, s4, s5, s6, s7, s8, s9, s10, s11, s12, s13⟩; go_simp; with_reducible rfl
              rotate_left; · simp only [Act.put, List.setIfInBounds_toArray, List.set_cons_zero, List.set_cons_succ, i64_w, i32_w]; rfl
              refine take_ (i := 11) (N := some 84) (v := ?_) (a' := ?_) #[Z1, Z1, Z1, Z1, Z1, Z1, Z1, Z1, Z1, Z1, Z1, Z1, Z0, Z0, Z0] rfl rfl (take_ofW HT_.out HW_.out (by kernel_rfl)) (fun _ _ _ h => h) (Or.inl ⟨by rfl, ?_⟩) hHeld ?_ ?_
              rotate_left; · rintro w' ⟨s0, s1, s2, s3, s4, s5, s6, s7, s8, s9, s10, s11, s12, s13⟩; go_simp; with_reducible rfl
              rotate_left; · simp only [Act.put, List.setIfInBounds_toArray, List.set_cons_zero, List.set_cons_succ, i64_w, i32_w]; rfl
              refine one_ (i := 12) (N := some 85) #[Z1, Z1, Z1, Z1, Z1, Z1, Z1, Z1, Z1, Z1, Z1, Z1, Z1, Z0, Z0] rfl rfl (one_of HT_.out (by kernel_rfl)) (by decide) (fun K hK => ?_)
              refine goes_ Try.func26 (by kernel_rfl) rfl #[.agg #[.int .i64 ((rd_T67 l0_5 (ji63)).f0.f0), .int .i64 ((rd_T67 l0_5 (ji63)).f0.f1)], .agg #[.int .i64 ((rd_T67 l0_5 x68_3).f0.f0), .int .i64 ((rd_T67 l0_5 x68_3).f0.f1)]] (by rfl) rfl rfl (by (try simp only [List.map_toArray, List.map_cons, List.map_nil]); first | done | (simp only [hji63]; rfl) | rfl | (simp only [List.length_drop, List.length_take]; rfl)) ?_
              with_reducible refine (wear_order.calls k3 ((rd_T67 l0_5 (ji63)).f0.f0) ((rd_T67 l0_5 (ji63)).f0.f1) ((rd_T67 l0_5 x68_3).f0.f0) ((rd_T67 l0_5 x68_3).f0.f1) t150 _ A66.out).mono ?_
              rintro e w79 ⟨rfl, hb⟩
              refine ⟨_, rfl, ?_⟩
              have n0_ := zD BK138 hb
              have n1_ := zD BK148 hb
              have n2_ := zY HB hb
              clear BK138; clear BK148; clear HB
              have BK138 := n0_
              have BK148 := n1_
              have HB := n2_
              clear n0_ n1_ n2_
              (try clear hb)
              (try clear hb2)
              (try clear hk)
              (try clear hi)
              refine hK.out _ _ ⟨(blk_cell BK138.out 0).trans rfl, (blk_cell BK138.out 1).trans rfl, (blk_cell BK138.out 2).trans rfl, (blk_cell BK138.out 3).trans rfl, (blk_cell BK138.out 4).trans rfl, (blk_cell BK138.out 5).trans rfl, (blk_cell BK148.out 0).trans rfl, (blk_cell BK148.out 1).trans rfl, (blk_cell BK148.out 2).trans rfl, (blk_cell BK148.out 3).trans rfl, (zu hw149_0 HB), (zu hw149_1 HB), (zu hw149_2 HB), (zu hw149_3 HB)⟩ (fun hHeld => ?_)
              clear hK K
              refine norm_ (a' := ?_) ?_ ?_
              rotate_left
              ·show Act.put _ (some 85) _ = _
               simp only [Act.put, List.setIfInBounds_toArray, List.set_cons_zero, List.set_cons_succ, i64_w, i32_w]
               rfl
              refine zp 13 (some 86) #[Z1, Z1, Z1, Z1, Z1, Z1, Z1, Z1, Z1, Z1, Z1, Z1, Z1, Z1, Z0] rfl rfl (any_of HT_.out (by kernel_rfl)) ?_
              refine zp 14 (some 87) #[Z1, Z1, Z1, Z1, Z1, Z1, Z1, Z1, Z1, Z1, Z1, Z1, Z1, Z1, Z1] rfl rfl (any_of HT_.out (by kernel_rfl)) ?_
              refine done_ (done_of HT_.out (by kernel_rfl)) ?_
              try go_wp2
              go_roundg k3
              case measure => have := HJ15.out; have := HK2.out; have := HK3.out; omega
              case rel => exact ⟨(wrap64 (x68_3 + 1)), zq, H', ⟨by have := HJ15.out; have := HK2.out; have := HK3.out; omega⟩, ⟨zb BK138⟩, ⟨zw HB⟩⟩
             rw [if_neg c65] at H
             exact absurd H (by simp)
            rw [if_neg c64] at H
            exact absurd H (by simp)
           rw [if_neg c62] at H
           have c62b0 : decide (0 < x68_3) = false := decide_eq_false c62
           clear c62
           have H' := Aside0.mk H
           clear H
           have p147 : 0 ≤ (x68_3 : Int) := of_decide_eq_true zj
           have q147 : x68_3 < (l0_5.length : Int) := of_decide_eq_true zj
           obtain ⟨ad147, e147, hx147_0, hx147_1, hx147_2, hx147_3⟩ := at_T67 HR0_5.out x68_3 p147 q147
           cases e147
           replace hx147_0 := zu hx147_0 HB
           replace hx147_1 := zu hx147_1 HB
           replace hx147_2 := zu hx147_2 HB
           replace hx147_3 := zu hx147_3 HB
           replace p147 := eq_true p147
           replace q147 := eq_true q147
           try go_wp2_with (first | ((with_reducible refine gate_dst (N := 7) rfl ?_); refine zx 7 #[.int .i64 0, .int .i64 0, .int .i64 0, .int .i64 0] 67 ?_; intro gb148 hg w80 hbox hb; have n0_ := zD BK138 hb; have n1_ := zY HB hb; have n2_ := Aside0.mk (hbox); have n3_ := zS hg HB; have n4_ := zS hg HB; have n5_ := zN hg BK138; have n6_ := zM hg BK138; clear BK138; clear HB; have BK138 := n0_; have HB := n1_; have BK148 := n2_; have GW148 := n3_; have GE148 := n4_; have NB138_148 := n5_; have NB148_138 := n6_; clear n0_ n1_ n2_ n3_ n4_ n5_ n6_; clear hb hbox hg; have hnb81 := NB148_138.out; have hnc81 := NB138_148.out; obtain ⟨hcz82_0, hcz82_1, hcz82_2, hcz82_3, hfz82_0, hfz82_1, hfz82_2, hfz82_3⟩ := zk4 BK148))
           have n0_ : Aside0 (((((w80.setCell ⟨gb148, 0, none⟩ (.int .i64 ((rd_T67 l0_5 x68_3).f0.f0))).setCell ⟨gb148, 1, none⟩ (.int .i64 ((rd_T67 l0_5 x68_3).f0.f1))).setCell ⟨gb148, 2, none⟩ (.int .i64 ((rd_T67 l0_5 x68_3).f1.f0))).setCell ⟨gb148, 3, none⟩ (.int .i64 ((rd_T67 l0_5 x68_3).f1.f1))).heap[gb138]? = some (.cells #[.slice A0_0 l0_0.length c0_0, .slice A0_1 l0_1.length c0_1, .int .i64 a0_2, .int .i64 a0_3, .int .i64 a0_4, .slice (some ad147) l0_5.length c0_5] 30 (0, 0))) := ⟨zv BK138⟩
           have n1_ : Aside0 (((((w80.setCell ⟨gb148, 0, none⟩ (.int .i64 ((rd_T67 l0_5 x68_3).f0.f0))).setCell ⟨gb148, 1, none⟩ (.int .i64 ((rd_T67 l0_5 x68_3).f0.f1))).setCell ⟨gb148, 2, none⟩ (.int .i64 ((rd_T67 l0_5 x68_3).f1.f0))).setCell ⟨gb148, 3, none⟩ (.int .i64 ((rd_T67 l0_5 x68_3).f1.f1))).heap[gb148]? = some (.cells #[.int .i64 ((rd_T67 l0_5 x68_3).f0.f0), .int .i64 ((rd_T67 l0_5 x68_3).f0.f1), .int .i64 ((rd_T67 l0_5 x68_3).f1.f0), .int .i64 ((rd_T67 l0_5 x68_3).f1.f1)] 67 (0, 0))) := ⟨by refine zQ ?_; refine blk_put (cs := #[.int .i64 ((rd_T67 l0_5 x68_3).f0.f0), .int .i64 ((rd_T67 l0_5 x68_3).f0.f1), .int .i64 ((rd_T67 l0_5 x68_3).f1.f0), .int .i64 0]) ?_ 3 _ rfl; refine zQ ?_; refine blk_put (cs := #[.int .i64 ((rd_T67 l0_5 x68_3).f0.f0), .int .i64 ((rd_T67 l0_5 x68_3).f0.f1), .int .i64 0, .int .i64 0]) ?_ 2 _ rfl; refine zQ ?_; refine blk_put (cs := #[.int .i64 ((rd_T67 l0_5 x68_3).f0.f0), .int .i64 0, .int .i64 0, .int .i64 0]) ?_ 1 _ rfl; refine zQ ?_; refine blk_put (cs := #[.int .i64 0, .int .i64 0, .int .i64 0, .int .i64 0]) ?_ 0 _ rfl; (with_reducible repeat (first | refine blk_drewN ?_ _ | refine blk_drew ?_ | refine blk_alloc ?_ _)); exact BK148.out⟩
           have n2_ : Aside0 (Below w.heap.size w ((((w80.setCell ⟨gb148, 0, none⟩ (.int .i64 ((rd_T67 l0_5 x68_3).f0.f0))).setCell ⟨gb148, 1, none⟩ (.int .i64 ((rd_T67 l0_5 x68_3).f0.f1))).setCell ⟨gb148, 2, none⟩ (.int .i64 ((rd_T67 l0_5 x68_3).f1.f0))).setCell ⟨gb148, 3, none⟩ (.int .i64 ((rd_T67 l0_5 x68_3).f1.f1)))) := ⟨zw HB⟩
           (try clear BK138)
           (try clear BK148)
           (try clear HB)
           generalize ((((w80.setCell ⟨gb148, 0, none⟩ (.int .i64 ((rd_T67 l0_5 x68_3).f0.f0))).setCell ⟨gb148, 1, none⟩ (.int .i64 ((rd_T67 l0_5 x68_3).f0.f1))).setCell ⟨gb148, 2, none⟩ (.int .i64 ((rd_T67 l0_5 x68_3).f1.f0))).setCell ⟨gb148, 3, none⟩ (.int .i64 ((rd_T67 l0_5 x68_3).f1.f1))) = w83 at n0_ n1_ n2_ ⊢
           have BK138 := n0_
           have BK148 := n1_
           have HB := n2_
           clear n0_ n1_ n2_
           have n0_ := Aside0.mk (blk_drew BK138.out)
           have n1_ := Aside0.mk (blk_drew BK148.out)
           have n2_ := Aside0.mk (below_drew1 HB.out)
           clear BK138; clear BK148; clear HB
           have BK138 := n0_
           have BK148 := n1_
           have HB := n2_
           clear n0_ n1_ n2_
           refine start_ (n := 15) (S := fun w' => True) (ds := []) #[Z0, Z0, Z0, Z0, Z0, Z0, Z0, Z0, Z0, Z0, Z0, Z0, Z0, Z0, Z0] (by kernel_rfl) rfl rfl trivial (fun hHeld => ?_); refine with_tabW wear_Check.tab23 wear_Check.bits23 (fun HT_ HW_ => ?_)
           generalize w83.drew = w84 at BK138 BK148 HB hHeld ⊢
           refine zp 0 (some 73) #[Z1, Z0, Z0, Z0, Z0, Z0, Z0, Z0, Z0, Z0, Z0, Z0, Z0, Z0, Z0] rfl rfl (any_of HT_.out (by kernel_rfl)) ?_
           refine zp 1 (some 74) #[Z1, Z1, Z0, Z0, Z0, Z0, Z0, Z0, Z0, Z0, Z0, Z0, Z0, Z0, Z0] rfl rfl (any_of HT_.out (by kernel_rfl)) ?_
           refine zp 2 (some 75) #[Z1, Z1, Z1, Z0, Z0, Z0, Z0, Z0, Z0, Z0, Z0, Z0, Z0, Z0, Z0] rfl rfl (any_of HT_.out (by kernel_rfl)) ?_
           refine pure_ (i := 3) (N := some 76) (v := undef) (a' := ?_) #[Z1, Z1, Z1, Z1, Z0, Z0, Z0, Z0, Z0, Z0, Z0, Z0, Z0, Z0, Z0] rfl rfl (any_of HT_.out (by kernel_rfl)) (fun _ _ _ h => h) (Or.inr ⟨by rfl, rfl⟩) ?_ ?_
           rotate_left
           ·simp only [Act.put, List.setIfInBounds_toArray, List.set_cons_zero, List.set_cons_succ, i64_w, i32_w]
            rfl
           refine pure_ (i := 4) (N := some 77) (v := undef) (a' := ?_) #[Z1, Z1, Z1, Z1, Z1, Z0, Z0, Z0, Z0, Z0, Z0, Z0, Z0, Z0, Z0] rfl rfl (any_of HT_.out (by kernel_rfl)) (fun _ _ _ h => h) (Or.inr ⟨by rfl, rfl⟩) ?_ ?_
           rotate_left
           ·simp only [Act.put, List.setIfInBounds_toArray, List.set_cons_zero, List.set_cons_succ, i64_w, i32_w]
            rfl
           refine pure_ (i := 5) (N := some 78) (v := undef) (a' := ?_) #[Z1, Z1, Z1, Z1, Z1, Z1, Z0, Z0, Z0, Z0, Z0, Z0, Z0, Z0, Z0] rfl rfl (any_of HT_.out (by kernel_rfl)) (fun _ _ _ h => h) (Or.inr ⟨by rfl, rfl⟩) ?_ ?_
           rotate_left
           ·simp only [Act.put, List.setIfInBounds_toArray, List.set_cons_zero, List.set_cons_succ, i64_w, i32_w]
            rfl
           refine pure_ (i := 6) (N := some 79) (v := undef) (a' := ?_) #[Z1, Z1, Z1, Z1, Z1, Z1, Z1, Z0, Z0, Z0, Z0, Z0, Z0, Z0, Z0] rfl rfl (any_of HT_.out (by kernel_rfl)) (fun _ _ _ h => h) (Or.inr ⟨by rfl, rfl⟩) ?_ ?_
           rotate_left
           ·simp only [Act.put, List.setIfInBounds_toArray, List.set_cons_zero, List.set_cons_succ, i64_w, i32_w]
            rfl
           refine pure_ (i := 7) (N := some 80) (v := undef) (a' := ?_) #[Z1, Z1, Z1, Z1, Z1, Z1, Z1, Z1, Z0, Z0, Z0, Z0, Z0, Z0, Z0] rfl rfl (any_of HT_.out (by kernel_rfl)) (fun _ _ _ h => h) (Or.inr ⟨by rfl, rfl⟩) ?_ ?_
           rotate_left
           ·simp only [Act.put, List.setIfInBounds_toArray, List.set_cons_zero, List.set_cons_succ, i64_w, i32_w]
            rfl
           refine pure_ (i := 8) (N := some 81) (v := undef) (a' := ?_) #[Z1, Z1, Z1, Z1, Z1, Z1, Z1, Z1, Z1, Z0, Z0, Z0, Z0, Z0, Z0] rfl rfl (any_of HT_.out (by kernel_rfl)) (fun _ _ _ h => h) (Or.inr ⟨by rfl, rfl⟩) ?_ ?_
           rotate_left
           ·simp only [Act.put, List.setIfInBounds_toArray, List.set_cons_zero, List.set_cons_succ, i64_w, i32_w]
            rfl
           refine pure_ (i := 9) (N := some 82) (v := undef) (a' := ?_) #[Z1, Z1, Z1, Z1, Z1, Z1, Z1, Z1, Z1, Z1, Z0, Z0, Z0, Z0, Z0] rfl rfl (any_of HT_.out (by kernel_rfl)) (fun _ _ _ h => h) (Or.inr ⟨by rfl, rfl⟩) ?_ ?_
           rotate_left
           ·simp only [Act.put, List.setIfInBounds_toArray, List.set_cons_zero, List.set_cons_succ, i64_w, i32_w]
            rfl
           refine pure_ (i := 10) (N := some 83) (v := undef) (a' := ?_) #[Z1, Z1, Z1, Z1, Z1, Z1, Z1, Z1, Z1, Z1, Z1, Z0, Z0, Z0, Z0] rfl rfl (any_of HT_.out (by kernel_rfl)) (fun _ _ _ h => h) (Or.inr ⟨by rfl, rfl⟩) ?_ ?_
           rotate_left
           ·simp only [Act.put, List.setIfInBounds_toArray, List.set_cons_zero, List.set_cons_succ, i64_w, i32_w]
            rfl
           refine pure_ (i := 11) (N := some 84) (v := undef) (a' := ?_) #[Z1, Z1, Z1, Z1, Z1, Z1, Z1, Z1, Z1, Z1, Z1, Z1, Z0, Z0, Z0] rfl rfl (any_of HT_.out (by kernel_rfl)) (fun _ _ _ h => h) (Or.inr ⟨by rfl, rfl⟩) ?_ ?_
           rotate_left
           ·simp only [Act.put, List.setIfInBounds_toArray, List.set_cons_zero, List.set_cons_succ, i64_w, i32_w]
            rfl
           refine pure_ (i := 12) (N := some 85) (v := undef) (a' := ?_) #[Z1, Z1, Z1, Z1, Z1, Z1, Z1, Z1, Z1, Z1, Z1, Z1, Z1, Z0, Z0] rfl rfl (any_of HT_.out (by kernel_rfl)) (fun _ _ _ h => h) (Or.inr ⟨by rfl, rfl⟩) ?_ ?_
           rotate_left
           ·simp only [Act.put, List.setIfInBounds_toArray, List.set_cons_zero, List.set_cons_succ, i64_w, i32_w]
            rfl
           refine pure_ (i := 13) (N := some 86) (v := undef) (a' := ?_) #[Z1, Z1, Z1, Z1, Z1, Z1, Z1, Z1, Z1, Z1, Z1, Z1, Z1, Z1, Z0] rfl rfl (any_of HT_.out (by kernel_rfl)) (fun _ _ _ h => h) (Or.inr ⟨by rfl, rfl⟩) ?_ ?_
           rotate_left
           ·simp only [Act.put, List.setIfInBounds_toArray, List.set_cons_zero, List.set_cons_succ, i64_w, i32_w]
            rfl
           refine zp 14 (some 87) #[Z1, Z1, Z1, Z1, Z1, Z1, Z1, Z1, Z1, Z1, Z1, Z1, Z1, Z1, Z1] rfl rfl (any_of HT_.out (by kernel_rfl)) ?_
           refine done_ (done_of HT_.out (by kernel_rfl)) ?_
           try go_wp2
           go_roundg k3
           case measure => have := HJ15.out; have := HK2.out; have := HK3.out; omega
           case rel => exact ⟨(wrap64 (x68_3 + 1)), zq, H', ⟨by have := HJ15.out; have := HK2.out; have := HK3.out; omega⟩, ⟨zb BK138⟩, ⟨zw HB⟩⟩
          rw [if_neg c61] at H
          exact absurd H (by simp)
         rw [if_neg c60] at H
         exact absurd H (by simp)
        rw [if_neg c59] at H
        have c59b0 : decide (x68_3 < (l0_5.length : Int)) = false := decide_eq_false c59
        clear c59
        have H' := Aside0.mk H
        clear H
        obtain ⟨hcz85_0, hcz85_1, hcz85_2, hcz85_3, hcz85_4, hcz85_5, hfz85_0, hfz85_1, hfz85_2, hfz85_3, hfz85_4, hfz85_5⟩ := zk6 BK138
        go_wp2
        go_loopg [92] k3 (fun kq v92 w' => ∃ (x92_4 : Int), v92 = .int .i64 x92_4 ∧ Aside0 (wear_Check.l2 kq l0_5 (l0_5.length : Int) x92_4 l0_0 l0_1 a0_2 a0_3 a0_4 l0_5 = some r) ∧ Aside0 (kq ≤ k3) ∧ Aside0 (w'.heap[gb138]? = some (.cells #[(.slice A0_0 l0_0.length c0_0), (.slice A0_1 l0_1.length c0_1), .int .i64 a0_2, .int .i64 a0_3, .int .i64 a0_4, (.slice A0_5 l0_5.length c0_5)] 30 (0, 0))) ∧ Aside0 (Below w.heap.size w w'))
        case atStart => exact ⟨(0), zq, H', ⟨Nat.le_refl _⟩, ⟨zb BK138⟩, ⟨zw HB⟩⟩
        case round =>
         clear H'; try clear p1; try clear q1; try clear hx1; try clear c2; try clear p2; try clear c5; try clear c6; try clear p6; try clear c7; try clear c8; try clear p14; try clear q14; try clear hx14; try clear c26; try clear c59; try clear c59b0; try clear c60; try clear c60b0; try clear c61; try clear c61b0; try clear c62; try clear c62b0; try clear c64; try clear c64b0; try clear p64; try clear c65; try clear c65b0; try clear c67; try clear c67b0; try clear c69; try clear c75; try clear c81; try clear hcz70_0 hcz70_1 hcz70_2 hcz70_3; try clear hcz76_0 hcz76_1 hcz76_2 hcz76_3; try clear hcz82_0 hcz82_1 hcz82_2 hcz82_3; try clear hcz85_0 hcz85_1 hcz85_2 hcz85_3 hcz85_4 hcz85_5; try clear hfz58_5; try clear hfz6_0 hfz6_1 hfz6_2 hfz6_3 hfz6_4 hfz6_5; try clear hfz70_0 hfz70_1 hfz70_2 hfz70_3; try clear hfz76_0 hfz76_1 hfz76_2 hfz76_3; try clear hfz82_0 hfz82_1 hfz82_2 hfz82_3; try clear hfz85_0 hfz85_1 hfz85_2 hfz85_3 hfz85_4 hfz85_5; try clear hfz8_0 hfz8_1 hfz8_2 hfz8_3 hfz8_4 hfz8_5; try clear hx143_0; try clear hx143_1; try clear hx143_2; try clear hx143_3; try clear hx147_0; try clear hx147_1; try clear hx147_2; try clear hx147_3; try clear hx149_0; try clear hx149_1; try clear hx149_2; try clear hx149_3; try clear p143; try clear p147; try clear p149; try clear p2; try clear q143; try clear q147; try clear q149
         obtain ⟨x92_4, rfl, HA, HK4, BK138, HB⟩ := hrel
         cases gk with
         | zero => exact absurd HA.out (by simp [wear_Check.l2])
         | succ k4 =>
          have H := HA.out
          clear HA
          simp only [wear_Check.l2] at H
          by_cases c86 : x92_4 < (l0_5.length : Int)
          ·rw [if_pos c86] at H
           have c86b0 : decide (x92_4 < (l0_5.length : Int)) = true := decide_eq_true c86
           clear c86
           by_cases c87 : 0 ≤ x92_4
           ·rw [if_pos c87] at H
            have c87b0 : decide (0 ≤ x92_4) = true := decide_eq_true c87
            clear c87
            by_cases c88 : x92_4 < (l0_5.length : Int)
            ·rw [if_pos c88] at H
             have c88b0 : decide (x92_4 < (l0_5.length : Int)) = true := decide_eq_true c88
             clear c88
             replace H := Option.bind_eq_some_iff.mp H
             obtain ⟨⟨t153, t154⟩, A890, H⟩ := H
             replace H : (if t153 > t154 then (some 10) else (wear_Check.l2 k4 l0_5 (l0_5.length : Int) (wrap64 (x92_4 + 1)) l0_0 l0_1 a0_2 a0_3 a0_4 l0_5)) = some r := H
             have A89 := Aside0.mk A890
             clear A890
             by_cases c90 : t153 > t154
             ·rw [if_pos c90] at H
              have c90b0 : decide (t154 < t153) = true := decide_eq_true c90
              clear c90
              obtain rfl := Option.some.inj H
              have p151 : 0 ≤ (x92_4 : Int) := of_decide_eq_true zj
              have q151 : x92_4 < (l0_5.length : Int) := of_decide_eq_true zj
              obtain ⟨ad151, e151, hx151_0, hx151_1, hx151_2, hx151_3⟩ := at_T67 HR0_5.out x92_4 p151 q151
              cases e151
              replace hx151_0 := zu hx151_0 HB
              replace hx151_1 := zu hx151_1 HB
              replace hx151_2 := zu hx151_2 HB
              replace hx151_3 := zu hx151_3 HB
              replace p151 := eq_true p151
              replace q151 := eq_true q151
              go_wp2_with (first | ((with_reducible refine gate_dst (N := 9) rfl ?_); refine zx 9 #[.int .i64 0, .int .i64 0, .int .i64 0, .int .i64 0] 67 ?_; intro gb152 hg w91 hbox hb; have n0_ := zD BK138 hb; have n1_ := zY HB hb; have n2_ := Aside0.mk (hbox); have n3_ := zS hg HB; have n4_ := zS hg HB; have n5_ := zN hg BK138; have n6_ := zM hg BK138; clear BK138; clear HB; have BK138 := n0_; have HB := n1_; have BK152 := n2_; have GW152 := n3_; have GE152 := n4_; have NB138_152 := n5_; have NB152_138 := n6_; clear n0_ n1_ n2_ n3_ n4_ n5_ n6_; clear hb hbox hg; have hnb92 := NB152_138.out; have hnc92 := NB138_152.out; obtain ⟨hcz93_0, hcz93_1, hcz93_2, hcz93_3, hfz93_0, hfz93_1, hfz93_2, hfz93_3⟩ := zk4 BK152; obtain ⟨hcz94_0, hcz94_1, hcz94_2, hcz94_3, hcz94_4, hcz94_5, hfz94_0, hfz94_1, hfz94_2, hfz94_3, hfz94_4, hfz94_5⟩ := zk6 BK138) | ((with_reducible refine gate_callee (f := 33) rfl ?_); refine goesL_ (some 99) rfl rfl Try.func33 (by kernel_rfl) rfl #[.agg #[.slice A0_0 l0_0.length c0_0, .slice A0_1 l0_1.length c0_1, .int .i64 a0_2, .int .i64 a0_3, .int .i64 a0_4, .slice (some ad151) l0_5.length c0_5], .agg #[.int .i64 ((rd_T67 l0_5 x92_4).f0.f0), .int .i64 ((rd_T67 l0_5 x92_4).f0.f1)]] rfl za ?_; (with_reducible refine (wear_bounds.calls k4 _ _ l0_0 _ _ l0_1 a0_2 a0_3 a0_4 _ _ l0_5 ((rd_T67 l0_5 x92_4).f0.f0) ((rd_T67 l0_5 x92_4).f0.f1) t153 t154 _ ?side1 ?side2 ?side3 ?side4 ?side5 ?side6 A89.out).mono ?_); (case side1 => exact Kd.C_below HR0_0.out (zw HB)); (case side2 => exact HC0_0.out); (case side3 => exact Kd.C_below HR0_1.out (zw HB)); (case side4 => exact HC0_1.out); (case side5 => exact Kd.C_below HR0_5.out (zw HB)); (case side6 => exact HC0_5.out); rintro e w95 ⟨rfl, hb⟩; refine ⟨_, rfl, ?_⟩; have n0_ := Aside0.mk (blk_below (g := gb138) (o := .cells #[.slice A0_0 l0_0.length c0_0, .slice A0_1 l0_1.length c0_1, .int .i64 a0_2, .int .i64 a0_3, .int .i64 a0_4, .slice (some ad151) l0_5.length c0_5] 30 (0, 0)) (zv BK138) hb); have n1_ := Aside0.mk (blk_below (g := gb152) (o := .cells #[.int .i64 ((rd_T67 l0_5 x92_4).f0.f0), .int .i64 ((rd_T67 l0_5 x92_4).f0.f1), .int .i64 ((rd_T67 l0_5 x92_4).f1.f0), .int .i64 ((rd_T67 l0_5 x92_4).f1.f1)] 67 (0, 0)) (by refine zQ ?_; refine blk_put (cs := #[.int .i64 ((rd_T67 l0_5 x92_4).f0.f0), .int .i64 ((rd_T67 l0_5 x92_4).f0.f1), .int .i64 ((rd_T67 l0_5 x92_4).f1.f0), .int .i64 0]) ?_ 3 _ rfl; refine zQ ?_; refine blk_put (cs := #[.int .i64 ((rd_T67 l0_5 x92_4).f0.f0), .int .i64 ((rd_T67 l0_5 x92_4).f0.f1), .int .i64 0, .int .i64 0]) ?_ 2 _ rfl; refine zQ ?_; refine blk_put (cs := #[.int .i64 ((rd_T67 l0_5 x92_4).f0.f0), .int .i64 0, .int .i64 0, .int .i64 0]) ?_ 1 _ rfl; refine zQ ?_; refine blk_put (cs := #[.int .i64 0, .int .i64 0, .int .i64 0, .int .i64 0]) ?_ 0 _ rfl; (with_reducible repeat (first | refine blk_drewN ?_ _ | refine blk_drew ?_ | refine blk_alloc ?_ _)); exact BK152.out) hb); have n2_ := zY HB hb; clear BK138; clear BK152; clear HB; have BK138 := n0_; have BK152 := n1_; have HB := n2_; clear n0_ n1_ n2_; (try clear hb); (try clear hb2); (try clear hk); (try clear hi)) | ((with_reducible refine gate_dst (N := 10) rfl ?_); refine zx 10 #[.int .i64 0, .int .i64 0] 27 ?_; intro gb155 hg w96 hbox hb; have n0_ := zD BK138 hb; have n1_ := zD BK152 hb; have n2_ := zY HB hb; have n3_ := Aside0.mk (hbox); have n4_ := zS hg HB; have n5_ := zS hg HB; have n6_ := zN hg BK138; have n7_ := zM hg BK138; have n8_ := zN hg BK152; have n9_ := zM hg BK152; clear BK138; clear BK152; clear HB; have BK138 := n0_; have BK152 := n1_; have HB := n2_; have BK155 := n3_; have GW155 := n4_; have GE155 := n5_; have NB138_155 := n6_; have NB155_138 := n7_; have NB152_155 := n8_; have NB155_152 := n9_; clear n0_ n1_ n2_ n3_ n4_ n5_ n6_ n7_ n8_ n9_; clear hb hbox hg; have hnb97 := NB155_138.out; have hnc97 := NB138_155.out; have hnb98 := NB155_152.out; have hnc98 := NB152_155.out; obtain ⟨hcz99_0, hcz99_1, hfz99_0, hfz99_1⟩ := zk2 BK155))
              go_ret
              exact ⟨ze, zw HB⟩
             rw [if_neg c90] at H
             have c90b0 : decide (t154 < t153) = false := decide_eq_false c90
             clear c90
             have H' := Aside0.mk H
             clear H
             have p151 : 0 ≤ (x92_4 : Int) := of_decide_eq_true zj
             have q151 : x92_4 < (l0_5.length : Int) := of_decide_eq_true zj
             obtain ⟨ad151, e151, hx151_0, hx151_1, hx151_2, hx151_3⟩ := at_T67 HR0_5.out x92_4 p151 q151
             cases e151
             replace hx151_0 := zu hx151_0 HB
             replace hx151_1 := zu hx151_1 HB
             replace hx151_2 := zu hx151_2 HB
             replace hx151_3 := zu hx151_3 HB
             replace p151 := eq_true p151
             replace q151 := eq_true q151
             go_wp2_with (first | ((with_reducible refine gate_dst (N := 9) rfl ?_); refine zx 9 #[.int .i64 0, .int .i64 0, .int .i64 0, .int .i64 0] 67 ?_; intro gb152 hg w100 hbox hb; have n0_ := zD BK138 hb; have n1_ := zY HB hb; have n2_ := Aside0.mk (hbox); have n3_ := zS hg HB; have n4_ := zS hg HB; have n5_ := zN hg BK138; have n6_ := zM hg BK138; clear BK138; clear HB; have BK138 := n0_; have HB := n1_; have BK152 := n2_; have GW152 := n3_; have GE152 := n4_; have NB138_152 := n5_; have NB152_138 := n6_; clear n0_ n1_ n2_ n3_ n4_ n5_ n6_; clear hb hbox hg; have hnb101 := NB152_138.out; have hnc101 := NB138_152.out; obtain ⟨hcz102_0, hcz102_1, hcz102_2, hcz102_3, hfz102_0, hfz102_1, hfz102_2, hfz102_3⟩ := zk4 BK152; obtain ⟨hcz103_0, hcz103_1, hcz103_2, hcz103_3, hcz103_4, hcz103_5, hfz103_0, hfz103_1, hfz103_2, hfz103_3, hfz103_4, hfz103_5⟩ := zk6 BK138) | ((with_reducible refine gate_callee (f := 33) rfl ?_); refine goesL_ (some 99) rfl rfl Try.func33 (by kernel_rfl) rfl #[.agg #[.slice A0_0 l0_0.length c0_0, .slice A0_1 l0_1.length c0_1, .int .i64 a0_2, .int .i64 a0_3, .int .i64 a0_4, .slice (some ad151) l0_5.length c0_5], .agg #[.int .i64 ((rd_T67 l0_5 x92_4).f0.f0), .int .i64 ((rd_T67 l0_5 x92_4).f0.f1)]] rfl za ?_; (with_reducible refine (wear_bounds.calls k4 _ _ l0_0 _ _ l0_1 a0_2 a0_3 a0_4 _ _ l0_5 ((rd_T67 l0_5 x92_4).f0.f0) ((rd_T67 l0_5 x92_4).f0.f1) t153 t154 _ ?side1 ?side2 ?side3 ?side4 ?side5 ?side6 A89.out).mono ?_); (case side1 => exact Kd.C_below HR0_0.out (zw HB)); (case side2 => exact HC0_0.out); (case side3 => exact Kd.C_below HR0_1.out (zw HB)); (case side4 => exact HC0_1.out); (case side5 => exact Kd.C_below HR0_5.out (zw HB)); (case side6 => exact HC0_5.out); rintro e w104 ⟨rfl, hb⟩; refine ⟨_, rfl, ?_⟩; have n0_ := Aside0.mk (blk_below (g := gb138) (o := .cells #[.slice A0_0 l0_0.length c0_0, .slice A0_1 l0_1.length c0_1, .int .i64 a0_2, .int .i64 a0_3, .int .i64 a0_4, .slice (some ad151) l0_5.length c0_5] 30 (0, 0)) (zv BK138) hb); have n1_ := Aside0.mk (blk_below (g := gb152) (o := .cells #[.int .i64 ((rd_T67 l0_5 x92_4).f0.f0), .int .i64 ((rd_T67 l0_5 x92_4).f0.f1), .int .i64 ((rd_T67 l0_5 x92_4).f1.f0), .int .i64 ((rd_T67 l0_5 x92_4).f1.f1)] 67 (0, 0)) (by refine zQ ?_; refine blk_put (cs := #[.int .i64 ((rd_T67 l0_5 x92_4).f0.f0), .int .i64 ((rd_T67 l0_5 x92_4).f0.f1), .int .i64 ((rd_T67 l0_5 x92_4).f1.f0), .int .i64 0]) ?_ 3 _ rfl; refine zQ ?_; refine blk_put (cs := #[.int .i64 ((rd_T67 l0_5 x92_4).f0.f0), .int .i64 ((rd_T67 l0_5 x92_4).f0.f1), .int .i64 0, .int .i64 0]) ?_ 2 _ rfl; refine zQ ?_; refine blk_put (cs := #[.int .i64 ((rd_T67 l0_5 x92_4).f0.f0), .int .i64 0, .int .i64 0, .int .i64 0]) ?_ 1 _ rfl; refine zQ ?_; refine blk_put (cs := #[.int .i64 0, .int .i64 0, .int .i64 0, .int .i64 0]) ?_ 0 _ rfl; (with_reducible repeat (first | refine blk_drewN ?_ _ | refine blk_drew ?_ | refine blk_alloc ?_ _)); exact BK152.out) hb); have n2_ := zY HB hb; clear BK138; clear BK152; clear HB; have BK138 := n0_; have BK152 := n1_; have HB := n2_; clear n0_ n1_ n2_; (try clear hb); (try clear hb2); (try clear hk); (try clear hi)) | ((with_reducible refine gate_dst (N := 10) rfl ?_); refine zx 10 #[.int .i64 0, .int .i64 0] 27 ?_; intro gb155 hg w105 hbox hb; have n0_ := zD BK138 hb; have n1_ := zD BK152 hb; have n2_ := zY HB hb; have n3_ := Aside0.mk (hbox); have n4_ := zS hg HB; have n5_ := zS hg HB; have n6_ := zN hg BK138; have n7_ := zM hg BK138; have n8_ := zN hg BK152; have n9_ := zM hg BK152; clear BK138; clear BK152; clear HB; have BK138 := n0_; have BK152 := n1_; have HB := n2_; have BK155 := n3_; have GW155 := n4_; have GE155 := n5_; have NB138_155 := n6_; have NB155_138 := n7_; have NB152_155 := n8_; have NB155_152 := n9_; clear n0_ n1_ n2_ n3_ n4_ n5_ n6_ n7_ n8_ n9_; clear hb hbox hg; have hnb106 := NB155_138.out; have hnc106 := NB138_155.out; have hnb107 := NB155_152.out; have hnc107 := NB152_155.out; obtain ⟨hcz108_0, hcz108_1, hfz108_0, hfz108_1⟩ := zk2 BK155))
             go_roundg k4
             case measure => have := HJ15.out; have := HK2.out; have := HK3.out; have := HK4.out; omega
             case rel => exact ⟨(wrap64 (x92_4 + 1)), zq, H', ⟨by have := HJ15.out; have := HK2.out; have := HK3.out; have := HK4.out; omega⟩, ⟨zv BK138⟩, ⟨zw HB⟩⟩
            rw [if_neg c88] at H
            exact absurd H (by simp)
           rw [if_neg c87] at H
           exact absurd H (by simp)
          rw [if_neg c86] at H
          have c86b0 : decide (x92_4 < (l0_5.length : Int)) = false := decide_eq_false c86
          clear c86
          obtain rfl := Option.some.inj H
          go_wp2
          go_ret
          exact ⟨ze, zw HB⟩
 rw [if_neg c3] at H
 have c3b0 : (t139 == 0) = false := beq_eq_false_iff_ne.mpr c3
 have c3b1 : (t139 != 0) = true := bne_iff_ne.mpr c3
 obtain rfl := Option.some.inj H
 go_enter Try.func15, Try.ntmps15
 go_wp2_with (first | ((with_reducible refine gate_dst (N := 1) rfl ?_); refine zx 1 #[.slice A0_0 l0_0.length c0_0, .slice A0_1 l0_1.length c0_1, .int .i64 a0_2, .int .i64 a0_3, .int .i64 a0_4, .slice A0_5 l0_5.length c0_5] 30 ?_; intro gb138 hg w109 hbox hb; have n0_ := zY HB hb; have n1_ := Aside0.mk (hbox); have n2_ := zS hg HB; have n3_ := zS hg HB; clear HB; have HB := n0_; have BK138 := n1_; have GW138 := n2_; have GE138 := n3_; clear n0_ n1_ n2_ n3_; clear hb hbox hg; obtain ⟨hcz110_0, hcz110_1, hcz110_2, hcz110_3, hcz110_4, hcz110_5, hfz110_0, hfz110_1, hfz110_2, hfz110_3, hfz110_4, hfz110_5⟩ := zk6 BK138) | ((with_reducible refine gate_callee (f := 34) rfl ?_); refine goesL_ (some 14) rfl rfl Try.func34 (by kernel_rfl) rfl #[.slice A0_0 l0_0.length c0_0] rfl za ?_; (with_reducible refine (wear_checkOutline.calls _ _ l0_0 t139 _ ?side1 ?side2 A2.out).mono ?_); (case side1 => exact zl HR0_0 HB); (case side2 => exact HC0_0.out); rintro e w111 ⟨rfl, hb⟩; refine ⟨_, rfl, ?_⟩; have n0_ := zD BK138 hb; have n1_ := zY HB hb; clear BK138; clear HB; have BK138 := n0_; have HB := n1_; clear n0_ n1_; (try clear hb); (try clear hb2); (try clear hk); (try clear hi)))
 go_ret
 exact ⟨ze, zw HB⟩
end Go.Proofs.Ytcfpclehogdmbaa.Q
end
section
namespace Go.Proofs.Ytcfpclehogdmbaa.Q
open Go.RowKit Go.Proofs.YtcfpclehogdmbaaW.PrintWords Go.Proofs.YtcfpclehogdmbaaW.PrintLast Go.Proofs.YtcfpclehogdmbaaW.PrintMore
set_option linter.unusedVariables false
set_option linter.unusedSimpArgs false
def bstep (st p0 p1 : Int) (b : Int × Int) (m : S67) : Int × Int := (mx b.1 (wrap64 (m.f1.f0 - wrap64 (st * farV ⟨p0, p1⟩ m.f0))), mn b.2 (wrap64 (m.f1.f1 + wrap64 (st * farV ⟨p0, p1⟩ m.f0))))
def boundsV (st lo hi p0 p1 : Int) (l : List S67) : Int × Int := l.foldl (bstep st p0 p1) (lo, hi)
theorem bounds_l0 (l0 : List S32) (l1 : List S55) (st lo hi p0 p1 : Int) (l : List S67) (hl : l.length < 1000000) : ∀ (d i : Nat) (b : Int × Int), l.length - i = d → i ≤ l.length →
    Tells (fun k => wear_bounds.l0 k l (l.length : Int) (i : Int) l0 l1 st lo hi l p0 p1 b.1 b.2) ((l.drop i).foldl (bstep st p0 p1) b) := by
  intro d
  induction d with
  | zero =>
    intro i b hd hi2
    obtain rfl : i = l.length := by omega
    rw [List.drop_length, List.foldl_nil]
    exact Tells.succ (h := fun _ => some b) (Tells.const fun _ => rfl) (fun k => by rw [wear_bounds.l0, if_neg (by omega)])
  | succ d ih =>
    intro i b hd hi2
    have hlt : i < l.length := by omega
    rw [List.drop_eq_getElem_cons hlt, List.foldl_cons]
    exact Tells.succ (ih (i + 1) (bstep st p0 p1 b l[i]) (by omega) (by omega)) (fun k => by
      rw [wear_bounds.l0, if_pos (by omega), if_pos (by omega), if_pos (by omega), wrap_nat hlt hl, rd_get67 l hlt]
      rfl)
theorem bounds_tells (l0 : List S32) (l1 : List S55) (st lo hi p0 p1 : Int) (l : List S67) (hl : l.length < 1000000) : Tells (fun k => wear_bounds.f k l0 l1 st lo hi l p0 p1) (boundsV st lo hi p0 p1 l) :=
  bounds_l0 l0 l1 st lo hi p0 p1 l hl l.length 0 (lo, hi) (by omega) (by omega)
def spanB (a b most : Int) : Bool := decide (0 ≤ a ∧ a ≤ b ∧ b ≤ most)
theorem spans_tells (a b m : Int) : wear_spans.f a b m = some (spanB a b m) := by
  unfold wear_spans.f spanB
  by_cases h : 0 ≤ a
  · rw [if_pos h]
    by_cases h2 : a ≤ b
    · rw [if_pos h2]; simp [h, h2]
    · rw [if_neg h2]; simp [h2]
  · rw [if_neg h]; simp [h]
theorem span07_tells (a b m : Int) : thatchref07_span.f a b m = some (spanB a b m) := by
  unfold thatchref07_span.f spanB
  by_cases h : 0 ≤ a
  · rw [if_pos h]
    by_cases h2 : a ≤ b
    · rw [if_pos h2]; simp [h, h2]
    · rw [if_neg h2]; simp [h2]
  · rw [if_neg h]; simp [h]
def markE (l0 : List S32) (l1 : List S55) (V : Int) : List S67 → Int
  | [] => V
  | m :: ms => if wear_has.b l0 l1 m.f0.f0 m.f0.f1 = true then (if spanB m.f1.f0 m.f1.f1 2000 = true then markE l0 l1 V ms else 1) else 7
theorem check_l1_ref (l0 : List S32) (l1 : List S55) (st lo hi : Int) (l : List S67) (h0 : l0.length < 1000000) (h1 : l1.length < 1000000) (hl : l.length < 1000000) (V : Int) (hV : Tells (fun k => thatchref07_Check.l2 k 1 l0 l1 st lo hi l) V) : ∀ (d i : Nat), l.length - i = d → i ≤ l.length →
    Tells (fun k => thatchref07_Check.l1 k (i : Int) l0 l1 st lo hi l) (markE l0 l1 V (l.drop i)) := by
  intro d
  induction d with
  | zero =>
    intro i hd hi2
    obtain rfl : i = l.length := by omega
    rw [List.drop_length]
    exact Tells.succ hV (fun k => by rw [thatchref07_Check.l1, if_neg (by omega)])
  | succ d ih =>
    intro i hd hi2
    have hlt : i < l.length := by omega
    have hih := ih (i + 1) (by omega) (by omega)
    rw [List.drop_eq_getElem_cons hlt]
    refine Tells.succ (Tells.bind (b := fun k t => if t = true then ((thatchref07_span.f l[i].f1.f0 l[i].f1.f1 2000).bind fun t270 => if t270 = true then thatchref07_Check.l1 k ((i + 1 : Nat) : Int) l0 l1 st lo hi l else some 1) else some 7) (on_tells l0 l1 l[i].f0.f0 l[i].f0.f1 h0 h1) ?_) (fun k => by
      rw [thatchref07_Check.l1, if_pos (by omega), if_pos (by omega), wrap_nat hlt hl, rd_get67 l hlt])
    unfold markE
    by_cases c0 : wear_has.b l0 l1 l[i].f0.f0 l[i].f0.f1 = true
    · rw [if_pos c0]
      simp only [if_pos c0, span07_tells, Option.bind_some]
      by_cases c1 : spanB l[i].f1.f0 l[i].f1.f1 2000 = true
      · simp only [if_pos c1]; exact hih
      · simp only [if_neg c1]; exact Tells.const fun _ => rfl
    · rw [if_neg c0]
      simp only [if_neg c0]
      exact Tells.const fun _ => rfl
theorem check_l0_wear (l0 : List S32) (l1 : List S55) (st lo hi : Int) (l : List S67) (hl : l.length < 1000000) (V : Int) (hV : Tells (fun k => wear_Check.l1 k l (l.length : Int) 0 l0 l1 st lo hi l) V) : ∀ (d i : Nat), l.length - i = d → i ≤ l.length →
    Tells (fun k => wear_Check.l0 k l (l.length : Int) (i : Int) l0 l1 st lo hi l) (markE l0 l1 V (l.drop i)) := by
  intro d
  induction d with
  | zero =>
    intro i hd hi2
    obtain rfl : i = l.length := by omega
    rw [List.drop_length]
    exact Tells.succ hV (fun k => by rw [wear_Check.l0, if_neg (by omega)])
  | succ d ih =>
    intro i hd hi2
    have hlt : i < l.length := by omega
    have hih := ih (i + 1) (by omega) (by omega)
    rw [List.drop_eq_getElem_cons hlt]
    refine Tells.succ (h := fun k => if wear_has.b l0 l1 l[i].f0.f0 l[i].f0.f1 = true then (if spanB l[i].f1.f0 l[i].f1.f1 2000 = true then wear_Check.l0 k l (l.length : Int) ((i + 1 : Nat) : Int) l0 l1 st lo hi l else some 1) else some 7) ?_ (fun k => by
      rw [wear_Check.l0, if_pos (by omega), if_pos (by omega), if_pos (by omega), wrap_nat hlt hl, rd_get67 l hlt]
      simp only [wear_has.f, spans_tells, Option.bind_some])
    unfold markE
    by_cases c0 : wear_has.b l0 l1 l[i].f0.f0 l[i].f0.f1 = true
    · simp only [if_pos c0]
      by_cases c1 : spanB l[i].f1.f0 l[i].f1.f1 2000 = true
      · simp only [if_pos c1]; exact hih
      · simp only [if_neg c1]; exact Tells.const fun _ => rfl
    · simp only [if_neg c0]; exact Tells.const fun _ => rfl
end Go.Proofs.Ytcfpclehogdmbaa.Q
end
section
namespace Go.Proofs.Ytcfpclehogdmbaa.Q
open Go.RowKit Go.Proofs.YtcfpclehogdmbaaW.PrintWords Go.Proofs.YtcfpclehogdmbaaW.PrintLast Go.Proofs.YtcfpclehogdmbaaW.PrintMore
attribute [local go_sem] max2_int min2_int max_two min_two max_three min_three max_four min_four   -- for this text's walks alone
set_option linter.unusedVariables false
set_option linter.unusedSimpArgs false
def cmpv (a b : Int) : Int := if a < b then -1 else if a > b then 1 else 0
def ordv (a0 a1 b0 b1 : Int) : Int := if cmpv a1 b1 = 0 then cmpv a0 b0 else cmpv a1 b1
theorem cmp_tells (a b : Int) : cmp_Compare_int.f a b = some (cmpv a b) := by
  simp only [cmp_Compare_int.f, cmp_isNaN_int.f, bne_self_eq_false, Option.bind_some, Bool.false_eq_true, if_false]
  unfold cmpv
  split
  · rfl
  split <;> rfl
theorem order_tells (a0 a1 b0 b1 : Int) : wear_order.f 3 a0 a1 b0 b1 = some (ordv a0 a1 b0 b1) := by
  simp only [wear_order.f, cmp_tells, Option.bind_some, cmp_Or_int.f, ordv]
  by_cases h : cmpv a1 b1 = 0
  · by_cases h2 : cmpv a0 b0 = 0
    · simp [cmp_Or_int.l0, rd, h, h2, wrap64]
    simp [cmp_Or_int.l0, rd, h, h2, wrap64]
  simp [cmp_Or_int.l0, rd, h]
set_option maxHeartbeats 1000000 in
set_option maxRecDepth 100000 in
theorem ordc.calls (x : S67) (b0 b1 : Int) (W : World) : Calls Try.prog 25 #[.agg #[.int .i64 x.f0.f0, .int .i64 x.f0.f1, .int .i64 x.f1.f0, .int .i64 x.f1.f1], .agg #[.int .i64 b0, .int .i64 b1]] W fun e W' => e = .returned (.int .i64 (ordv x.f0.f0 x.f0.f1 b0 b1)) ∧ Below W.heap.size W W' := by
  have hu32 := Try.underlying32
  have hu67 := Try.underlying67
  go_enter Try.func25, Try.ntmps25
  go_wp2_with (go_at_call 26; refine (wear_order.calls _ _ _ _ _ _ _ (order_tells _ _ _ _)).mono ?_; rintro e w1 ⟨rfl, hb⟩; have HB := Aside0.mk hb; clear hb)
  go_ret
  exact ⟨rfl, (((Below.refl _ W).alloc (Nat.le_refl _) _).alloc (by simp) _).trans (HB.out.mono (by simp; try omega))⟩
def bs.go (l : List S67) (p0 p1 : Int) : Nat → Nat → Nat → Nat
  | 0, i, _ => i
  | k + 1, i, j => if i < j then (if ordv (rd_T67 l ((i + j) / 2 : Nat)).f0.f0 (rd_T67 l ((i + j) / 2 : Nat)).f0.f1 p0 p1 < 0 then bs.go l p0 p1 k ((i + j) / 2 + 1) j else bs.go l p0 p1 k i ((i + j) / 2)) else i
theorem bs.fuel (l : List S67) (p0 p1 : Int) : ∀ (k i j : Nat), j - i ≤ k → bs.go l p0 p1 k i j = bs.go l p0 p1 (j - i) i j := by
  intro k
  induction k using Nat.strongRecOn with
  | _ k ih =>
    intro i j h
    by_cases hij : i < j
    · obtain ⟨k, rfl⟩ : ∃ m, k = m + 1 := ⟨k - 1, by omega⟩
      obtain ⟨d, hd⟩ : ∃ d, j - i = d + 1 := ⟨j - i - 1, by omega⟩
      rw [hd]
      simp only [bs.go, if_pos hij]
      split
      · rw [ih k (by omega) _ _ (by omega)]
        by_cases hkd : k = d
        · subst hkd; exact (ih k (by omega) _ _ (by omega)).symm
        exact (ih d (by omega) _ _ (by omega)).symm
      rw [ih k (by omega) _ _ (by omega)]
      by_cases hkd : k = d
      · subst hkd; exact (ih k (by omega) _ _ (by omega)).symm
      exact (ih d (by omega) _ _ (by omega)).symm
    rw [show j - i = 0 by omega]
    cases k with
    | zero => rfl
    | succ k => simp [bs.go, hij]
def bs.at (l : List S67) (p0 p1 : Int) (i j : Nat) : Nat := bs.go l p0 p1 (j - i) i j
theorem bs.at_done (l : List S67) (p0 p1 : Int) (i j : Nat) (h : ¬ i < j) : bs.at l p0 p1 i j = i := by
  unfold bs.at
  rw [show j - i = 0 by omega]
  rfl
theorem bs.at_up (l : List S67) (p0 p1 : Int) (i j : Nat) (h : i < j) (ho : ordv (rd_T67 l ((i + j) / 2 : Nat)).f0.f0 (rd_T67 l ((i + j) / 2 : Nat)).f0.f1 p0 p1 < 0) : bs.at l p0 p1 i j = bs.at l p0 p1 ((i + j) / 2 + 1) j := by
  unfold bs.at
  obtain ⟨d, hd⟩ : ∃ d, j - i = d + 1 := ⟨j - i - 1, by omega⟩
  rw [hd]
  simp only [bs.go, if_pos h, if_pos ho]
  exact bs.fuel _ _ _ _ _ _ (by omega)
theorem bs.at_down (l : List S67) (p0 p1 : Int) (i j : Nat) (h : i < j) (ho : ¬ ordv (rd_T67 l ((i + j) / 2 : Nat)).f0.f0 (rd_T67 l ((i + j) / 2 : Nat)).f0.f1 p0 p1 < 0) : bs.at l p0 p1 i j = bs.at l p0 p1 i ((i + j) / 2) := by
  unfold bs.at
  obtain ⟨d, hd⟩ : ∃ d, j - i = d + 1 := ⟨j - i - 1, by omega⟩
  rw [hd]
  simp only [bs.go, if_pos h, if_neg ho]
  exact bs.fuel _ _ _ _ _ _ (by omega)
def bs.there (l : List S67) (p0 p1 : Int) (i : Nat) : Bool := decide (i < l.length) && decide (ordv (rd_T67 l i).f0.f0 (rd_T67 l i).f0.f1 p0 p1 = 0)
def api_Pt_wear_Probe_1.f (l0 : List S67) (p0 p1 : Int) : Option (Int × Bool) := if 1000000 ≤ l0.length then none else some ((bs.at l0 p0 p1 0 l0.length : Nat), bs.there l0 p0 p1 (bs.at l0 p0 p1 0 l0.length))
set_option maxHeartbeats 4000000 in
set_option maxRecDepth 100000 in
theorem api_Pt_wear_Probe_1.calls (A0 : Option Addr) (c0 : Nat) (l0 : List S67) (p0 p1 : Int) (r0 : Int) (r1 : Bool) (w : World) (hr0 : Kd.C k67 w A0 l0.length l0) (hc0 : l0.length ≤ c0) (h : api_Pt_wear_Probe_1.f l0 p0 p1 = some (r0, r1)) :
    Calls Try.prog 24 #[.slice A0 l0.length c0, .agg #[.int .i64 p0, .int .i64 p1], .func (.func 25) #[] #[]] w fun e w' => e = .returned (.tuple #[.int .i64 r0, .bool r1]) ∧ Below w.heap.size w w' := by
  have hu28 := Try.underlying28
  have hu32 := Try.underlying32
  have hu67 := Try.underlying67
  have hln : (l0.length : Int) ≤ 9223372036854775807 := by have := hr0.2.1; omega
  have HR0 := Aside0.mk hr0
  have HC0 := Aside0.mk hc0
  have hbig : l0.length < 1000000 := by
    unfold api_Pt_wear_Probe_1.f at h
    by_cases hh : 1000000 ≤ l0.length
    · rw [if_pos hh] at h; cases h
    omega
  have hR : ((bs.at l0 p0 p1 0 l0.length : Nat) : Int) = r0 ∧ bs.there l0 p0 p1 (bs.at l0 p0 p1 0 l0.length) = r1 := by
    unfold api_Pt_wear_Probe_1.f at h
    rw [if_neg (by omega)] at h
    simpa using h
  have HR := Aside0.mk hR
  clear hr0 hc0 h hR
  have hcf : ∀ (args : Array Value) (W : World), (callFunc 25 args).run Try.prog W = .ok (.enter 25 args) W := enters_of Try.func25 (by kernel_rfl) rfl
  have hb1 : Below w.heap.size w (w.alloc (.cells #[.int .i64 p0, .int .i64 p1] 32)) := (Below.refl _ _).alloc (Nat.le_refl _) _
  have k1 : (w.alloc (.cells #[.int .i64 p0, .int .i64 p1] 32)).heap[w.heap.size]? = some (.cells #[.int .i64 p0, .int .i64 p1] 32 (0, 0)) := World.alloc_heap_new _ _
  have HB1 := Aside0.mk hb1
  have K1 := Aside0.mk k1
  clear hb1 k1
  go_enter Try.func24, Try.ntmps24
  go_wp2
  generalize w.alloc (.cells #[.int .i64 p0, .int .i64 p1] 32) = w1 at HB1 K1 ⊢
  go_loopw [9, 10] (fun i j wr => ∃ x y : Nat, i = .int .i64 (x : Int) ∧ j = .int .i64 (y : Int) ∧ x ≤ y ∧ y ≤ l0.length ∧ Aside0 (bs.at l0 p0 p1 x y = bs.at l0 p0 p1 0 l0.length) ∧ Aside0 (wr.heap[w.heap.size]? = some (.cells #[.int .i64 p0, .int .i64 p1] 32 (0, 0))) ∧ Aside0 (Below w.heap.size w wr))
    (fun i j _ => (intOf j).toNat - (intOf i).toNat)
  case atStart => exact ⟨0, l0.length, rfl, rfl, by omega, by omega, ⟨rfl⟩, K1, HB1⟩
  case round =>
    clear K1 HB1
    obtain ⟨x, y, rfl, rfl, hxy, hyn, HX, K1, HB1⟩ := hrel
    by_cases hlt : (x : Int) < (y : Int)
    · have pl := eq_true hlt
      have hlt2 : x < y := by omega
      obtain ⟨m, hm⟩ : ∃ m : Nat, (x + y) / 2 = m := ⟨_, rfl⟩
      have hmn : m < l0.length := by omega
      obtain ⟨ad, e1, g0, g1, g2, g3⟩ := at_T67 (Kd.C_below (w1 := wr) HR0.out HB1.out) (m : Int) (by omega) (by omega)
      subst e1
      rw [Int.toNat_natCast] at g0 g1 g2 g3
      have HU := bs.at_up l0 p0 p1 x y hlt2
      have HD := bs.at_down l0 p0 p1 x y hlt2
      rw [hm] at HU HD
      have HU := Aside0.mk HU
      have HD := Aside0.mk HD
      have HM := Aside0.mk hm
      have HMI : wrap64 (IntKind.u64.wrap (wrap64 ((x : Int) + (y : Int))) / 2) = (m : Int) := by
        have h1 : wrap64 ((x : Int) + (y : Int)) = (x : Int) + (y : Int) := IntWalk.wrap64_in _ (by omega)
        have h2 : IntKind.u64.wrap ((x : Int) + (y : Int)) = (x : Int) + (y : Int) := by simp [IntKind.wrap, IntKind.signed, IntKind.bits]; omega
        rw [h1, h2, ← hm]
        rw [IntWalk.wrap64_in _ (by omega)]
        omega
      have hlts := Aside0.mk hlt2
      have pm : (0 ≤ (m : Int)) = True := eq_true (by omega)
      have qm : ((m : Int) < (l0.length : Int)) = True := eq_true (by omega)
      have HMN := Aside0.mk hmn
      have HYN := Aside0.mk hyn
      clear hlt hlt2 hxy hyn hm hmn
      go_wp2
      have h4 : wr.cell? ⟨w.heap.size, 0, none⟩ = some (.int .i64 p0) := (blk_cell K1.out 0).trans rfl
      have h5 : wr.cell? ⟨w.heap.size, 1, none⟩ = some (.int .i64 p1) := (blk_cell K1.out 1).trans rfl
      refine start_ (n := 8) (S := fun w' => w'.cell? (ad.add (m * 4)) = some (.int .i64 (rd_T67 l0 m).f0.f0) ∧ w'.cell? ⟨(ad.add (m * 4)).block, (ad.add (m * 4)).off + 1, none⟩ = some (.int .i64 (rd_T67 l0 m).f0.f1) ∧ w'.cell? ⟨(ad.add (m * 4)).block, (ad.add (m * 4)).off + 2, none⟩ = some (.int .i64 (rd_T67 l0 m).f1.f0) ∧ w'.cell? ⟨(ad.add (m * 4)).block, (ad.add (m * 4)).off + 3, none⟩ = some (.int .i64 (rd_T67 l0 m).f1.f1) ∧ w'.cell? ⟨w.heap.size, 0, none⟩ = some (.int .i64 p0) ∧ w'.cell? ⟨w.heap.size, 1, none⟩ = some (.int .i64 p1)) (ds := [6]) #[Z0, Z0, Z0, Z0, Z0, Z0, Z0, Z0] (by kernel_rfl) rfl rfl ⟨g0, g1, g2, g3, h4, h5⟩ (fun hHeld => ?_)
      refine zp 0 (some 24) #[Z1, Z0, Z0, Z0, Z0, Z0, Z0, Z0] rfl rfl (by kernel_rfl) ?_
      refine zp 1 (some 25) #[Z1, Z1, Z0, Z0, Z0, Z0, Z0, Z0] rfl rfl (by kernel_rfl) ?_
      refine zp 2 (some 26) #[Z1, Z1, Z1, Z0, Z0, Z0, Z0, Z0] rfl rfl (by kernel_rfl) ?_
      refine zp 3 (some 27) #[Z1, Z1, Z1, Z1, Z0, Z0, Z0, Z0] rfl rfl (by kernel_rfl) ?_
      refine take_ (i := 4) (N := (some 28)) (v := ?_) (a' := ?_) #[Z1, Z1, Z1, Z1, Z1, Z0, Z0, Z0] rfl rfl (by kernel_rfl) (fun _ _ _ h => h) (Or.inl ⟨by rfl, ?_⟩) hHeld ?_ ?_
      rotate_left; · rintro w' ⟨s0, s1, s2, s3, s4, s5⟩; go_simp; with_reducible rfl
      rotate_left; · simp only [Act.put, List.setIfInBounds_toArray, List.set_cons_zero, List.set_cons_succ, i64_w, i32_w]; rfl
      refine take_ (i := 5) (N := (some 29)) (v := ?_) (a' := ?_) #[Z1, Z1, Z1, Z1, Z1, Z1, Z0, Z0] rfl rfl (by kernel_rfl) (fun _ _ _ h => h) (Or.inl ⟨by rfl, ?_⟩) hHeld ?_ ?_
      rotate_left; · rintro w' ⟨s0, s1, s2, s3, s4, s5⟩; go_simp; with_reducible rfl
      rotate_left; · simp only [Act.put, List.setIfInBounds_toArray, List.set_cons_zero, List.set_cons_succ, i64_w, i32_w]; rfl
      refine last_ (i := 6) (N := some 30) #[Z1, Z1, Z1, Z1, Z1, Z1, Z1, Z0] rfl rfl (by kernel_rfl) (by decide) (fun K hK => ?_)
      go_simp
      go_at_call 25
      refine (ordc.calls (rd_T67 l0 m) p0 p1 wr.drew).mono ?_
      rintro e w6 ⟨rfl, hb6⟩
      have hb6 : Below wr.heap.size wr w6 := (Below.refl _ wr).drew.trans hb6
      refine hK.out _ _ ?_
      have K6 := Aside0.mk ((hb6.block _ (Array.getElem?_eq_some_iff.1 K1.out).1).trans K1.out)
      have HB6 := Aside0.mk (HB1.out.trans (hb6.mono HB1.out.size))
      clear hK K hHeld h4 h5 g0 g1 g2 g3 hb6
      refine zp 7 (some 31) #[Z1, Z1, Z1, Z1, Z1, Z1, Z1, Z1] rfl rfl (by kernel_rfl) ?_
      refine done_ (by kernel_rfl) ?_
      generalize hL : ordv (rd_T67 l0 m).f0.f0 (rd_T67 l0 m).f0.f1 p0 p1 = L at HU HD ⊢
      by_cases hneg : L < 0
      · have hd := decide_eq_true hneg
        rw [hd]
        have HE := Aside0.mk (HU.out hneg)
        clear hneg hL
        go_wp2
        have hw1 : wrap64 ((m : Int) + 1) = ((m + 1 : Nat) : Int) := by rw [IntWalk.wrap64_in _ (by have := HMN.out; omega)]; omega
        rw [hw1]
        refine ⟨⟨m + 1, y, rfl, rfl, by have := HM.out; have := hlts.out; omega, HYN.out, ⟨HE.out ▸ HX.out⟩, K6, HB6⟩, ?_⟩
        have := HM.out
        have := hlts.out
        simp [intOf]
        omega
      have hd := decide_eq_false hneg
      rw [hd]
      have HE := Aside0.mk (HD.out (by omega))
      clear hneg hL
      go_wp2
      refine ⟨⟨x, m, rfl, rfl, by have := HM.out; have := hlts.out; omega, by have := HMN.out; omega, ⟨HE.out ▸ HX.out⟩, K6, HB6⟩, ?_⟩
      have := HM.out
      have := hlts.out
      simp [intOf]
      omega
    obtain rfl : x = y := by omega
    have hd0 : ¬ (x < x) := by omega
    have HE := Aside0.mk ((bs.at_done l0 p0 p1 x x hd0).symm.trans HX.out)
    clear hlt hxy hd0
    by_cases hxn : x < l0.length
    · obtain ⟨ad, e1, g0, g1, g2, g3⟩ := at_T67 (Kd.C_below (w1 := wr) HR0.out HB1.out) (x : Int) (by omega) (by omega)
      subst e1
      rw [Int.toNat_natCast] at g0 g1 g2 g3
      have pm : (0 ≤ (x : Int)) = True := eq_true (by omega)
      have qm : ((x : Int) < (l0.length : Int)) = True := eq_true (by omega)
      have HXN := Aside0.mk hxn
      clear hxn hyn
      go_wp2
      have h4 : wr.cell? ⟨w.heap.size, 0, none⟩ = some (.int .i64 p0) := (blk_cell K1.out 0).trans rfl
      have h5 : wr.cell? ⟨w.heap.size, 1, none⟩ = some (.int .i64 p1) := (blk_cell K1.out 1).trans rfl
      refine start_ (n := 16) (S := (fun w' => w'.cell? (ad.add (x * 4)) = some (.int .i64 (rd_T67 l0 x).f0.f0) ∧ w'.cell? ⟨(ad.add (x * 4)).block, (ad.add (x * 4)).off + 1, none⟩ = some (.int .i64 (rd_T67 l0 x).f0.f1) ∧ w'.cell? ⟨(ad.add (x * 4)).block, (ad.add (x * 4)).off + 2, none⟩ = some (.int .i64 (rd_T67 l0 x).f1.f0) ∧ w'.cell? ⟨(ad.add (x * 4)).block, (ad.add (x * 4)).off + 3, none⟩ = some (.int .i64 (rd_T67 l0 x).f1.f1) ∧ w'.cell? ⟨w.heap.size, 0, none⟩ = some (.int .i64 p0) ∧ w'.cell? ⟨w.heap.size, 1, none⟩ = some (.int .i64 p1))) (ds := [11]) #[Z0, Z0, Z0, Z0, Z0, Z0, Z0, Z0, Z0, Z0, Z0, Z0, Z0, Z0, Z0, Z0] (by kernel_rfl) rfl rfl ⟨g0, g1, g2, g3, h4, h5⟩ (fun hHeld => ?_)
      refine zp 0 (some 35) #[Z1, Z0, Z0, Z0, Z0, Z0, Z0, Z0, Z0, Z0, Z0, Z0, Z0, Z0, Z0, Z0] rfl rfl (by kernel_rfl) ?_
      refine zp 1 (some 36) #[Z1, Z1, Z0, Z0, Z0, Z0, Z0, Z0, Z0, Z0, Z0, Z0, Z0, Z0, Z0, Z0] rfl rfl (by kernel_rfl) ?_
      refine zp 2 (some 37) #[Z1, Z1, Z1, Z0, Z0, Z0, Z0, Z0, Z0, Z0, Z0, Z0, Z0, Z0, Z0, Z0] rfl rfl (by kernel_rfl) ?_
      refine zp 3 (some 38) #[Z1, Z1, Z1, Z1, Z0, Z0, Z0, Z0, Z0, Z0, Z0, Z0, Z0, Z0, Z0, Z0] rfl rfl (by kernel_rfl) ?_
      refine zp 4 (some 39) #[Z1, Z1, Z1, Z1, Z1, Z0, Z0, Z0, Z0, Z0, Z0, Z0, Z0, Z0, Z0, Z0] rfl rfl (by kernel_rfl) ?_
      refine zp 5 (some 40) #[Z1, Z1, Z1, Z1, Z1, Z1, Z0, Z0, Z0, Z0, Z0, Z0, Z0, Z0, Z0, Z0] rfl rfl (by kernel_rfl) ?_
      refine zp 6 (some 41) #[Z1, Z1, Z1, Z1, Z1, Z1, Z1, Z0, Z0, Z0, Z0, Z0, Z0, Z0, Z0, Z0] rfl rfl (by kernel_rfl) ?_
      refine zp 7 (some 42) #[Z1, Z1, Z1, Z1, Z1, Z1, Z1, Z1, Z0, Z0, Z0, Z0, Z0, Z0, Z0, Z0] rfl rfl (by kernel_rfl) ?_
      refine zp 8 (some 43) #[Z1, Z1, Z1, Z1, Z1, Z1, Z1, Z1, Z1, Z0, Z0, Z0, Z0, Z0, Z0, Z0] rfl rfl (by kernel_rfl) ?_
      refine take_ (i := 9) (N := (some 44)) (v := ?_) (a' := ?_) #[Z1, Z1, Z1, Z1, Z1, Z1, Z1, Z1, Z1, Z1, Z0, Z0, Z0, Z0, Z0, Z0] rfl rfl (by kernel_rfl) (fun _ _ _ h => h) (Or.inl ⟨by rfl, ?_⟩) hHeld ?_ ?_
      rotate_left; · rintro w' ⟨s0, s1, s2, s3, s4, s5⟩; go_simp; with_reducible rfl
      rotate_left; · simp only [Act.put, List.setIfInBounds_toArray, List.set_cons_zero, List.set_cons_succ, i64_w, i32_w]; rfl
      refine take_ (i := 10) (N := (some 45)) (v := ?_) (a' := ?_) #[Z1, Z1, Z1, Z1, Z1, Z1, Z1, Z1, Z1, Z1, Z1, Z0, Z0, Z0, Z0, Z0] rfl rfl (by kernel_rfl) (fun _ _ _ h => h) (Or.inl ⟨by rfl, ?_⟩) hHeld ?_ ?_
      rotate_left; · rintro w' ⟨s0, s1, s2, s3, s4, s5⟩; go_simp; with_reducible rfl
      rotate_left; · simp only [Act.put, List.setIfInBounds_toArray, List.set_cons_zero, List.set_cons_succ, i64_w, i32_w]; rfl
      refine last_ (i := 11) (N := some 46) #[Z1, Z1, Z1, Z1, Z1, Z1, Z1, Z1, Z1, Z1, Z1, Z1, Z0, Z0, Z0, Z0] rfl rfl (by kernel_rfl) (by decide) (fun K hK => ?_)
      go_simp
      go_at_call 25
      refine (ordc.calls (rd_T67 l0 x) p0 p1 wr.drew).mono ?_
      rintro e w6 ⟨rfl, hb6⟩
      have hb6 : Below wr.heap.size wr w6 := (Below.refl _ wr).drew.trans hb6
      refine hK.out _ _ ?_
      have HB6 := Aside0.mk (HB1.out.trans (hb6.mono HB1.out.size))
      clear hK K hHeld h4 h5 g0 g1 g2 g3 hb6
      refine zp 12 (some 47) #[Z1, Z1, Z1, Z1, Z1, Z1, Z1, Z1, Z1, Z1, Z1, Z1, Z1, Z0, Z0, Z0] rfl rfl (by kernel_rfl) ?_
      refine zp 13 (some 48) #[Z1, Z1, Z1, Z1, Z1, Z1, Z1, Z1, Z1, Z1, Z1, Z1, Z1, Z1, Z0, Z0] rfl rfl (by kernel_rfl) ?_
      refine zp 14 (some 6) #[Z1, Z1, Z1, Z1, Z1, Z1, Z1, Z1, Z1, Z1, Z1, Z1, Z1, Z1, Z1, Z0] rfl rfl (by kernel_rfl) ?_
      refine zp 15 (some 7) #[Z1, Z1, Z1, Z1, Z1, Z1, Z1, Z1, Z1, Z1, Z1, Z1, Z1, Z1, Z1, Z1] rfl rfl (by kernel_rfl) ?_
      refine done_ (by kernel_rfl) ?_
      go_wp2
      refine bodyPost_ret (v := .tuple #[.int .i64 (x : Int), .bool (ordv (rd_T67 l0 x).f0.f0 (rd_T67 l0 x).f0.f1 p0 p1 == 0)]) (by simp [results, Try.results24, go_sem]) rfl ⟨?_, HB6.out⟩
      rw [← HR.out.1, ← HR.out.2, ← HE.out]
      have := HXN.out
      simp [bs.there, this]
      rfl
    have pm : (x < l0.length) = False := eq_false hxn
    have qm : ((x : Int) < (l0.length : Int)) = False := eq_false (by omega)
    have HXN := Aside0.mk hxn
    clear hxn hyn
    go_wp2
    refine start_ (n := 16) (S := fun _ => True) (ds := []) #[Z0, Z0, Z0, Z0, Z0, Z0, Z0, Z0, Z0, Z0, Z0, Z0, Z0, Z0, Z0, Z0] (by kernel_rfl) rfl rfl trivial (fun hHeld => ?_)
    refine zp 0 (some 35) #[Z1, Z0, Z0, Z0, Z0, Z0, Z0, Z0, Z0, Z0, Z0, Z0, Z0, Z0, Z0, Z0] rfl rfl (by kernel_rfl) ?_
    refine zp 1 (some 36) #[Z1, Z1, Z0, Z0, Z0, Z0, Z0, Z0, Z0, Z0, Z0, Z0, Z0, Z0, Z0, Z0] rfl rfl (by kernel_rfl) ?_
    refine zp 2 (some 37) #[Z1, Z1, Z1, Z0, Z0, Z0, Z0, Z0, Z0, Z0, Z0, Z0, Z0, Z0, Z0, Z0] rfl rfl (by kernel_rfl) ?_
    refine zp 3 (some 38) #[Z1, Z1, Z1, Z1, Z0, Z0, Z0, Z0, Z0, Z0, Z0, Z0, Z0, Z0, Z0, Z0] rfl rfl (by kernel_rfl) ?_
    refine zp 4 (some 39) #[Z1, Z1, Z1, Z1, Z1, Z0, Z0, Z0, Z0, Z0, Z0, Z0, Z0, Z0, Z0, Z0] rfl rfl (by kernel_rfl) ?_
    refine pure_ (i := 5) (N := (some 40)) (v := undef) (a' := ?_) #[Z1, Z1, Z1, Z1, Z1, Z1, Z0, Z0, Z0, Z0, Z0, Z0, Z0, Z0, Z0, Z0] rfl rfl (by kernel_rfl) (fun _ _ _ h => h) (Or.inr ⟨by rfl, rfl⟩) ?_ ?_
    rotate_left
    · simp only [Act.put, List.setIfInBounds_toArray, List.set_cons_zero, List.set_cons_succ, i64_w, i32_w]
      rfl
    refine pure_ (i := 6) (N := (some 41)) (v := undef) (a' := ?_) #[Z1, Z1, Z1, Z1, Z1, Z1, Z1, Z0, Z0, Z0, Z0, Z0, Z0, Z0, Z0, Z0] rfl rfl (by kernel_rfl) (fun _ _ _ h => h) (Or.inr ⟨by rfl, rfl⟩) ?_ ?_
    rotate_left
    · simp only [Act.put, List.setIfInBounds_toArray, List.set_cons_zero, List.set_cons_succ, i64_w, i32_w]
      rfl
    refine pure_ (i := 7) (N := (some 42)) (v := undef) (a' := ?_) #[Z1, Z1, Z1, Z1, Z1, Z1, Z1, Z1, Z0, Z0, Z0, Z0, Z0, Z0, Z0, Z0] rfl rfl (by kernel_rfl) (fun _ _ _ h => h) (Or.inr ⟨by rfl, rfl⟩) ?_ ?_
    rotate_left
    · simp only [Act.put, List.setIfInBounds_toArray, List.set_cons_zero, List.set_cons_succ, i64_w, i32_w]
      rfl
    refine pure_ (i := 8) (N := (some 43)) (v := undef) (a' := ?_) #[Z1, Z1, Z1, Z1, Z1, Z1, Z1, Z1, Z1, Z0, Z0, Z0, Z0, Z0, Z0, Z0] rfl rfl (by kernel_rfl) (fun _ _ _ h => h) (Or.inr ⟨by rfl, rfl⟩) ?_ ?_
    rotate_left
    · simp only [Act.put, List.setIfInBounds_toArray, List.set_cons_zero, List.set_cons_succ, i64_w, i32_w]
      rfl
    refine pure_ (i := 9) (N := (some 44)) (v := undef) (a' := ?_) #[Z1, Z1, Z1, Z1, Z1, Z1, Z1, Z1, Z1, Z1, Z0, Z0, Z0, Z0, Z0, Z0] rfl rfl (by kernel_rfl) (fun _ _ _ h => h) (Or.inr ⟨by rfl, rfl⟩) ?_ ?_
    rotate_left
    · simp only [Act.put, List.setIfInBounds_toArray, List.set_cons_zero, List.set_cons_succ, i64_w, i32_w]
      rfl
    refine pure_ (i := 10) (N := (some 45)) (v := undef) (a' := ?_) #[Z1, Z1, Z1, Z1, Z1, Z1, Z1, Z1, Z1, Z1, Z1, Z0, Z0, Z0, Z0, Z0] rfl rfl (by kernel_rfl) (fun _ _ _ h => h) (Or.inr ⟨by rfl, rfl⟩) ?_ ?_
    rotate_left
    · simp only [Act.put, List.setIfInBounds_toArray, List.set_cons_zero, List.set_cons_succ, i64_w, i32_w]
      rfl
    refine pure_ (i := 11) (N := (some 46)) (v := undef) (a' := ?_) #[Z1, Z1, Z1, Z1, Z1, Z1, Z1, Z1, Z1, Z1, Z1, Z1, Z0, Z0, Z0, Z0] rfl rfl (by kernel_rfl) (fun _ _ _ h => h) (Or.inr ⟨by rfl, rfl⟩) ?_ ?_
    rotate_left
    · simp only [Act.put, List.setIfInBounds_toArray, List.set_cons_zero, List.set_cons_succ, i64_w, i32_w]
      rfl
    refine pure_ (i := 12) (N := (some 47)) (v := undef) (a' := ?_) #[Z1, Z1, Z1, Z1, Z1, Z1, Z1, Z1, Z1, Z1, Z1, Z1, Z1, Z0, Z0, Z0] rfl rfl (by kernel_rfl) (fun _ _ _ h => h) (Or.inr ⟨by rfl, rfl⟩) ?_ ?_
    rotate_left
    · simp only [Act.put, List.setIfInBounds_toArray, List.set_cons_zero, List.set_cons_succ, i64_w, i32_w]
      rfl
    refine zp 13 (some 48) #[Z1, Z1, Z1, Z1, Z1, Z1, Z1, Z1, Z1, Z1, Z1, Z1, Z1, Z1, Z0, Z0] rfl rfl (by kernel_rfl) ?_
    refine zp 14 (some 6) #[Z1, Z1, Z1, Z1, Z1, Z1, Z1, Z1, Z1, Z1, Z1, Z1, Z1, Z1, Z1, Z0] rfl rfl (by kernel_rfl) ?_
    refine zp 15 (some 7) #[Z1, Z1, Z1, Z1, Z1, Z1, Z1, Z1, Z1, Z1, Z1, Z1, Z1, Z1, Z1, Z1] rfl rfl (by kernel_rfl) ?_
    refine done_ (by kernel_rfl) ?_
    go_wp2
    refine bodyPost_ret (v := .tuple #[.int .i64 (x : Int), .bool false]) (by simp [results, Try.results24, go_sem]) rfl ⟨?_, by first | exact HB1.out | exact HB1.out.drew⟩
    rw [← HR.out.1, ← HR.out.2, ← HE.out]
    have := HXN.out
    simp [bs.there, this]
end Go.Proofs.Ytcfpclehogdmbaa.Q
end
section
namespace Go.Proofs.Ytcfpclehogdmbaa.Q
open Go.RowKit Go.Proofs.YtcfpclehogdmbaaW.PrintWords Go.Proofs.YtcfpclehogdmbaaW.PrintLast Go.Proofs.YtcfpclehogdmbaaW.PrintMore
set_option linter.unusedVariables false
set_option linter.unusedSimpArgs false
def behindB (a0 a1 b0 b1 : Int) : Bool := decide (a1 > b1 ∨ (a1 = b1 ∧ a0 > b0))
theorem behind_tells (a0 a1 b0 b1 : Int) : thatchref07_behind.f a0 a1 b0 b1 = some (behindB a0 a1 b0 b1) := by
  unfold thatchref07_behind.f behindB
  by_cases h : a1 > b1
  · rw [if_pos h]; simp [h]
  · rw [if_neg h]
    by_cases h2 : a1 = b1
    · rw [if_pos h2]; simp [h2]
    · rw [if_neg h2]; simp [h, h2]
theorem ordv_ge (a0 a1 b0 b1 : Int) : (0 ≤ ordv a0 a1 b0 b1) ↔ ¬ behindB b0 b1 a0 a1 = true := by
  unfold ordv behindB cmpv
  rw [decide_eq_true_iff]
  split <;> rename_i h <;> (repeat' split at h) <;> (repeat' split) <;> omega
theorem order_all (a0 a1 b0 b1 : Int) : Tells (fun k => wear_order.f k a0 a1 b0 b1) (ordv a0 a1 b0 b1) := Tells.mono (fun k => wear_order.mono _ _ _ _ k) (order_tells a0 a1 b0 b1)
def ascB : List S67 → Bool
  | [] => true
  | a :: t => (match t with | [] => true | b :: _ => behindB b.f0.f0 b.f0.f1 a.f0.f0 a.f0.f1) && ascB t
theorem ascB_drop (l : List S67) {i : Nat} (h0 : 1 ≤ i) (h : i < l.length) : ascB (l.drop (i - 1)) = (behindB l[i].f0.f0 l[i].f0.f1 l[i - 1].f0.f0 l[i - 1].f0.f1 && ascB (l.drop i)) := by
  rw [List.drop_eq_getElem_cons (show i - 1 < l.length by omega), show i - 1 + 1 = i by omega, List.drop_eq_getElem_cons h]
  rfl
theorem ascB_last (l : List S67) {i : Nat} (h : l.length ≤ i) : ascB (l.drop (i - 1)) = true := by
  by_cases h2 : l.length ≤ i - 1
  · rw [List.drop_of_length_le h2]; rfl
  · rw [List.drop_eq_getElem_cons (show i - 1 < l.length by omega), show i - 1 + 1 = i by omega, List.drop_of_length_le h]; rfl
theorem wrap_pred {i : Nat} (h0 : 1 ≤ i) (h : i < 1000000) : wrap64 ((i : Int) - 1) = ((i - 1 : Nat) : Int) := by rw [wrap_in (by omega) (by omega)]; omega
theorem check_l2_ref (l0 : List S32) (l1 : List S55) (st lo hi : Int) (l : List S67) (hl : l.length < 1000000) : ∀ (d i : Nat), l.length - i = d → 1 ≤ i →
    Tells (fun k => thatchref07_Check.l2 k (i : Int) l0 l1 st lo hi l) (if ascB (l.drop (i - 1)) = true then (if l.all (agreeOne st lo hi l) = true then 0 else 10) else 8) := by
  intro d
  induction d with
  | zero =>
    intro i hd h0
    rw [ascB_last l (by omega), if_pos rfl]
    have ha : Tells (fun k => thatchref07_agree.f k l0 l1 st lo hi l) (l.all (agreeOne st lo hi l)) := agree_l0 l0 l1 st lo hi l hl l.length 0 (by omega) (by omega)
    refine Tells.succ (Tells.bind (b := fun k t => if t = true then some 0 else some 10) ha ?_) (fun k => by rw [thatchref07_Check.l2, if_neg (by omega)])
    by_cases hc : l.all (agreeOne st lo hi l) = true
    · simp only [if_pos hc]; exact Tells.const fun _ => rfl
    · simp only [if_neg hc]; exact Tells.const fun _ => rfl
  | succ d ih =>
    intro i hd h0
    have hlt : i < l.length := by omega
    have hih := ih (i + 1) (by omega) (by omega)
    rw [show i + 1 - 1 = i by omega] at hih
    rw [ascB_drop l h0 hlt]
    have hstep : ∀ k, thatchref07_Check.l2 (k + 1) (i : Int) l0 l1 st lo hi l = if behindB l[i].f0.f0 l[i].f0.f1 l[i - 1].f0.f0 l[i - 1].f0.f1 = true then thatchref07_Check.l2 k ((i + 1 : Nat) : Int) l0 l1 st lo hi l else some 8 := fun k => by
      rw [thatchref07_Check.l2, if_pos (by omega), if_pos (by omega), wrap_pred h0 (by omega), if_pos (by omega), if_pos (by omega), wrap_nat hlt hl, rd_get67 l hlt, rd_get67 l (show i - 1 < l.length by omega), behind_tells, Option.bind_some]
    by_cases hc : behindB l[i].f0.f0 l[i].f0.f1 l[i - 1].f0.f0 l[i - 1].f0.f1 = true
    · rw [hc, Bool.true_and]
      exact Tells.succ hih (fun k => by rw [hstep, if_pos hc])
    · rw [Bool.eq_false_iff.2 hc, Bool.false_and, if_neg (by decide)]
      exact Tells.succ (h := fun _ => some 8) (Tells.const fun _ => rfl) (fun k => by rw [hstep, if_neg hc])
def clashAt (st lo hi : Int) (l : List S67) (m : S67) : Bool := decide ((boundsV st lo hi m.f0.f0 m.f0.f1 l).1 > (boundsV st lo hi m.f0.f0 m.f0.f1 l).2)
theorem check_l2_wear (l0 : List S32) (l1 : List S55) (st lo hi : Int) (l : List S67) (hl : l.length < 1000000) : ∀ (d i : Nat), l.length - i = d → i ≤ l.length →
    Tells (fun k => wear_Check.l2 k l (l.length : Int) (i : Int) l0 l1 st lo hi l) (if (l.drop i).any (clashAt st lo hi l) = true then 10 else 0) := by
  intro d
  induction d with
  | zero =>
    intro i hd hi2
    obtain rfl : i = l.length := by omega
    rw [List.drop_length, List.any_nil, if_neg (by decide)]
    exact Tells.succ (h := fun _ => some 0) (Tells.const fun _ => rfl) (fun k => by rw [wear_Check.l2, if_neg (by omega)])
  | succ d ih =>
    intro i hd hi2
    have hlt : i < l.length := by omega
    have hih := ih (i + 1) (by omega) (by omega)
    rw [List.drop_eq_getElem_cons hlt, List.any_cons]
    refine Tells.succ (Tells.bind (b := fun k t => if t.1 > t.2 then some 10 else wear_Check.l2 k l (l.length : Int) ((i + 1 : Nat) : Int) l0 l1 st lo hi l) (bounds_tells l0 l1 st lo hi l[i].f0.f0 l[i].f0.f1 l hl) ?_) (fun k => by
      rw [wear_Check.l2, if_pos (by omega), if_pos (by omega), if_pos (by omega), wrap_nat hlt hl, rd_get67 l hlt])
    by_cases hc : (boundsV st lo hi l[i].f0.f0 l[i].f0.f1 l).1 > (boundsV st lo hi l[i].f0.f0 l[i].f0.f1 l).2
    · rw [show clashAt st lo hi l l[i] = true from decide_eq_true hc, Bool.true_or, if_pos rfl]
      exact Tells.const fun _ => if_pos hc
    · rw [show clashAt st lo hi l l[i] = false from decide_eq_false hc, Bool.false_or]
      exact hih.of_eq fun _ => if_neg hc
theorem check_l1_wear1 (l0 : List S32) (l1 : List S55) (st lo hi : Int) (l : List S67) (hl : l.length < 1000000) (V : Int) (hV : Tells (fun k => wear_Check.l2 k l (l.length : Int) 0 l0 l1 st lo hi l) V) : ∀ (d i : Nat), l.length - i = d → 1 ≤ i →
    Tells (fun k => wear_Check.l1 k l (l.length : Int) (i : Int) l0 l1 st lo hi l) (if ascB (l.drop (i - 1)) = true then V else 8) := by
  intro d
  induction d with
  | zero =>
    intro i hd h0
    rw [ascB_last l (by omega), if_pos rfl]
    exact Tells.succ hV (fun k => by rw [wear_Check.l1, if_neg (by omega)])
  | succ d ih =>
    intro i hd h0
    have hlt : i < l.length := by omega
    have hih := ih (i + 1) (by omega) (by omega)
    rw [show i + 1 - 1 = i by omega] at hih
    rw [ascB_drop l h0 hlt]
    have hp : i - 1 < l.length := by omega
    refine Tells.succ (Tells.bind (b := fun k t => if t ≥ 0 then some 8 else wear_Check.l1 k l (l.length : Int) ((i + 1 : Nat) : Int) l0 l1 st lo hi l) (order_all l[i - 1].f0.f0 l[i - 1].f0.f1 l[i].f0.f0 l[i].f0.f1) ?_) (fun k => by
      rw [wear_Check.l1, if_pos (by omega), if_pos (by omega), if_pos (by omega), if_pos (show (i : Int) > 0 by omega), wrap_pred h0 (by omega), if_pos (by omega), if_pos (by omega), wrap_nat hlt hl, rd_get67 l hlt, rd_get67 l hp])
    have hge := ordv_ge l[i - 1].f0.f0 l[i - 1].f0.f1 l[i].f0.f0 l[i].f0.f1
    by_cases hc : behindB l[i].f0.f0 l[i].f0.f1 l[i - 1].f0.f0 l[i - 1].f0.f1 = true
    · rw [hc, Bool.true_and]
      exact hih.of_eq fun _ => if_neg (fun h => (hge.1 h) hc)
    · rw [Bool.eq_false_iff.2 hc, Bool.false_and, if_neg (by decide)]
      exact Tells.const fun _ => if_pos (hge.2 hc)
theorem check_l1_wear (l0 : List S32) (l1 : List S55) (st lo hi : Int) (l : List S67) (hl : l.length < 1000000) (V : Int) (hV : Tells (fun k => wear_Check.l2 k l (l.length : Int) 0 l0 l1 st lo hi l) V) :
    Tells (fun k => wear_Check.l1 k l (l.length : Int) 0 l0 l1 st lo hi l) (if ascB l = true then V else 8) := by
  have h1 := check_l1_wear1 l0 l1 st lo hi l hl V hV (l.length - 1) 1 rfl (Nat.le_refl _)
  rw [show 1 - 1 = 0 from rfl, List.drop_zero] at h1
  by_cases hn : 0 < l.length
  · exact Tells.succ h1 (fun k => by
      rw [wear_Check.l1, if_pos (by omega), if_pos (by omega), if_pos (by omega), if_neg (show ¬ (0 : Int) > 0 by omega), show wrap64 (0 + 1) = ((1 : Nat) : Int) by rw [wrap_in (by omega) (by omega)]; rfl])
  · obtain rfl : l = [] := List.eq_nil_of_length_eq_zero (by omega)
    exact Tells.succ hV (fun k => by rw [wear_Check.l1, if_neg (by simp)])
end Go.Proofs.Ytcfpclehogdmbaa.Q
end
section
namespace Go.Proofs.Ytcfpclehogdmbaa.Q
open Go.RowKit Go.Proofs.YtcfpclehogdmbaaW.PrintWords Go.Proofs.YtcfpclehogdmbaaW.PrintLast Go.Proofs.YtcfpclehogdmbaaW.PrintMore
set_option linter.unusedVariables false
set_option linter.unusedSimpArgs false
theorem mx_max (a b : Int) : mx a b = max a b := by unfold mx; split <;> omega
theorem mn_min (a b : Int) : mn a b = min a b := by unfold mn; split <;> omega
def dst (a b : S32) : Int := max (a.f0 - b.f0) (b.f0 - a.f0) + max (a.f1 - b.f1) (b.f1 - a.f1)
theorem dst_nn (a b : S32) : 0 ≤ dst a b := by unfold dst; omega
theorem dst_self (a : S32) : dst a a = 0 := by unfold dst; omega
theorem dst_tri (a b c : S32) : dst a c ≤ dst b a + dst b c := by unfold dst; omega
theorem dst_le (a b : S32) (ha : inP a) (hb : inP b) : dst a b ≤ 800 := by unfold dst inP at *; omega
theorem farV_plain (a b : S32) (ha : inP a) (hb : inP b) : farV a b = dst a b := by
  unfold farV dst inP at *
  rw [mx_max, mx_max]
  rw [wrap_in (n := a.f0 - b.f0) (by omega) (by omega), wrap_in (n := b.f0 - a.f0) (by omega) (by omega), wrap_in (n := a.f1 - b.f1) (by omega) (by omega), wrap_in (n := b.f1 - a.f1) (by omega) (by omega)]
  exact wrap_in (by omega) (by omega)
def okM (m : S67) : Prop := inP m.f0 ∧ 0 ≤ m.f1.f0 ∧ m.f1.f0 ≤ m.f1.f1 ∧ m.f1.f1 ≤ 2000
theorem st_mul (st : Int) (h : 0 ≤ st ∧ st ≤ 1000) (a b : S32) (ha : inP a) (hb : inP b) : 0 ≤ st * dst a b ∧ st * dst a b ≤ 800000 := by
  have h1 := dst_nn a b
  have h2 := dst_le a b ha hb
  refine ⟨Int.mul_nonneg h.1 h1, ?_⟩
  have := Int.mul_le_mul h.2 h2 h1 (by omega : (0 : Int) ≤ 1000)
  omega
theorem bstep_plain (st p0 p1 : Int) (b : Int × Int) (m : S67) (hst : 0 ≤ st ∧ st ≤ 1000) (hp : inP ⟨p0, p1⟩) (hm : okM m) : bstep st p0 p1 b m = (max b.1 (m.f1.f0 - st * dst ⟨p0, p1⟩ m.f0), min b.2 (m.f1.f1 + st * dst ⟨p0, p1⟩ m.f0)) := by
  unfold bstep
  rw [farV_plain _ _ hp hm.1, mx_max, mn_min]
  have h1 := st_mul st hst _ _ hp hm.1
  have h2 := hm.2
  rw [wrap_in (n := st * dst ⟨p0, p1⟩ m.f0) (by omega) (by omega), wrap_in (by omega) (by omega), wrap_in (by omega) (by omega)]
theorem fold_le (st p0 p1 : Int) (hst : 0 ≤ st ∧ st ≤ 1000) (hp : inP ⟨p0, p1⟩) (x : Int) : ∀ (l : List S67) (b : Int × Int), (∀ m ∈ l, okM m) →
    ((l.foldl (bstep st p0 p1) b).1 ≤ x ↔ b.1 ≤ x ∧ ∀ m ∈ l, m.f1.f0 - st * dst ⟨p0, p1⟩ m.f0 ≤ x) := by
  intro l
  induction l with
  | nil => intro b _; simp
  | cons m t ih =>
    intro b hm
    rw [List.foldl_cons, ih _ (fun y hy => hm y (List.mem_cons_of_mem _ hy)), bstep_plain st p0 p1 b m hst hp (hm m List.mem_cons_self)]
    simp only [List.forall_mem_cons]
    constructor
    · rintro ⟨h1, h2⟩; exact ⟨by omega, by omega, h2⟩
    · rintro ⟨h1, h2, h3⟩; exact ⟨by omega, h3⟩
theorem le_fold (st p0 p1 : Int) (hst : 0 ≤ st ∧ st ≤ 1000) (hp : inP ⟨p0, p1⟩) (x : Int) : ∀ (l : List S67) (b : Int × Int), (∀ m ∈ l, okM m) →
    (x ≤ (l.foldl (bstep st p0 p1) b).2 ↔ x ≤ b.2 ∧ ∀ m ∈ l, x ≤ m.f1.f1 + st * dst ⟨p0, p1⟩ m.f0) := by
  intro l
  induction l with
  | nil => intro b _; simp
  | cons m t ih =>
    intro b hm
    rw [List.foldl_cons, ih _ (fun y hy => hm y (List.mem_cons_of_mem _ hy)), bstep_plain st p0 p1 b m hst hp (hm m List.mem_cons_self)]
    simp only [List.forall_mem_cons]
    constructor
    · rintro ⟨h1, h2⟩; exact ⟨by omega, by omega, h2⟩
    · rintro ⟨h1, h2, h3⟩; exact ⟨by omega, h3⟩
theorem low_le (st lo hi p0 p1 : Int) (l : List S67) (hst : 0 ≤ st ∧ st ≤ 1000) (hp : inP ⟨p0, p1⟩) (hm : ∀ m ∈ l, okM m) (x : Int) : (boundsV st lo hi p0 p1 l).1 ≤ x ↔ lo ≤ x ∧ ∀ m ∈ l, m.f1.f0 - st * dst ⟨p0, p1⟩ m.f0 ≤ x := fold_le st p0 p1 hst hp x l (lo, hi) hm
theorem le_high (st lo hi p0 p1 : Int) (l : List S67) (hst : 0 ≤ st ∧ st ≤ 1000) (hp : inP ⟨p0, p1⟩) (hm : ∀ m ∈ l, okM m) (x : Int) : x ≤ (boundsV st lo hi p0 p1 l).2 ↔ x ≤ hi ∧ ∀ m ∈ l, x ≤ m.f1.f1 + st * dst ⟨p0, p1⟩ m.f0 := le_fold st p0 p1 hst hp x l (lo, hi) hm
def Agrees (st lo hi : Int) (l : List S67) : Prop := ∀ a ∈ l, a.f1.f0 ≤ hi ∧ lo ≤ a.f1.f1 ∧ ∀ b ∈ l, a.f1.f0 ≤ b.f1.f1 + st * dst a.f0 b.f0
theorem agrees_iff (st lo hi : Int) (l : List S67) (hst : 0 ≤ st ∧ st ≤ 1000) (hm : ∀ m ∈ l, okM m) : l.all (agreeOne st lo hi l) = true ↔ Agrees st lo hi l := by
  rw [List.all_eq_true]
  unfold Agrees
  refine forall_congr' fun a => forall_congr' fun ha => ?_
  have e : ∀ b ∈ l, (clashB st a b = false ↔ a.f1.f0 ≤ b.f1.f1 + st * dst a.f0 b.f0) := fun b hb => by
    have h1 := st_mul st hst _ _ (hm a ha).1 (hm b hb).1
    have h2 := (hm b hb).2
    unfold clashB
    rw [farV_plain _ _ (hm a ha).1 (hm b hb).1, wrap_in (n := st * dst a.f0 b.f0) (by omega) (by omega), wrap_in (by omega) (by omega), decide_eq_false_iff_not]
    omega
  unfold agreeOne
  simp only [Bool.and_eq_true, Bool.not_eq_true', decide_eq_false_iff_not, List.any_eq_false, and_assoc]
  constructor
  · rintro ⟨h1, h2, h3⟩
    exact ⟨by omega, by omega, fun b hb => (e b hb).1 (Bool.eq_false_iff.2 (h3 b hb))⟩
  · rintro ⟨h1, h2, h3⟩
    exact ⟨by omega, by omega, fun b hb => Bool.eq_false_iff.1 ((e b hb).2 (h3 b hb))⟩
theorem clash_iff (st lo hi : Int) (l : List S67) (hst : 0 ≤ st ∧ st ≤ 1000) (hlh : lo ≤ hi) (hm : ∀ m ∈ l, okM m) : l.any (clashAt st lo hi l) = false ↔ Agrees st lo hi l := by
  rw [List.any_eq_false]
  unfold clashAt Agrees
  simp only [decide_eq_true_eq, Int.not_lt, gt_iff_lt]
  constructor
  · intro h a ha
    have hb := h a ha
    have hpa : inP ⟨a.f0.f0, a.f0.f1⟩ := (hm a ha).1
    rw [low_le st lo hi _ _ l hst hpa hm, le_high st lo hi _ _ l hst hpa hm] at hb
    obtain ⟨⟨h1, h2⟩, h3⟩ := hb
    have ds : dst ⟨a.f0.f0, a.f0.f1⟩ a.f0 = 0 := dst_self a.f0
    have h4 := (le_high st lo hi _ _ l hst hpa hm _).1 (h3 a ha)
    rw [ds, Int.mul_zero] at h4
    have h5 := h2 a ha
    rw [ds, Int.mul_zero] at h5
    refine ⟨by omega, by omega, fun b hb2 => ?_⟩
    have := h4.2 b hb2
    have e : dst ⟨a.f0.f0, a.f0.f1⟩ b.f0 = dst a.f0 b.f0 := rfl
    rw [e] at this
    omega
  · intro h m hmm
    have hpm : inP ⟨m.f0.f0, m.f0.f1⟩ := (hm m hmm).1
    rw [low_le st lo hi _ _ l hst hpm hm, le_high st lo hi _ _ l hst hpm hm]
    refine ⟨⟨hlh, fun k hk => ?_⟩, fun j hj => ?_⟩
    · have h1 := (h k hk).2.1
      have h2 := (st_mul st hst _ _ hpm (hm k hk).1).1
      omega
    · rw [le_high st lo hi _ _ l hst hpm hm]
      have h2 := (st_mul st hst _ _ hpm (hm j hj).1).1
      refine ⟨?_, fun k hk => ?_⟩
      · have h1 := (h j hj).1
        omega
      · have h1 := (h j hj).2.2 k hk
        have h3 := Int.mul_le_mul_of_nonneg_left (dst_tri j.f0 ⟨m.f0.f0, m.f0.f1⟩ k.f0) hst.1
        rw [Int.mul_add] at h3
        omega
end Go.Proofs.Ytcfpclehogdmbaa.Q
end
section
namespace Go.Proofs.Ytcfpclehogdmbaa.Q
open Go.RowKit Go.Proofs.YtcfpclehogdmbaaW.PrintWords Go.Proofs.YtcfpclehogdmbaaW.PrintLast Go.Proofs.YtcfpclehogdmbaaW.PrintMore
set_option linter.unusedVariables false
set_option linter.unusedSimpArgs false
theorem Tells.of_eq' {α : Type} {g : Nat → Option α} {v v' : α} (h : Tells g v) (e : v = v') : Tells g v' := e ▸ h
theorem in_wear (a lo hi : Int) : wear_in.f a lo hi = some (decide (lo ≤ a ∧ a ≤ hi)) := by
  unfold wear_in.f
  by_cases h : lo ≤ a
  · rw [if_pos h]; simp [h]
  · rw [if_neg h]; simp [h]
theorem rd_get55 (l : List S55) {i : Nat} (h : i < l.length) : rd_T55 l (i : Int) = l[i] := by simp [rd_T55, List.getD_eq_getElem?_getD, List.getElem?_eq_getElem h]
theorem check_l0_ref (l0 : List S32) (l1 : List S55) (st lo hi : Int) (l : List S67) (hl : l1.length < 1000000) (V : Int)
    (hV : Tells (fun k => (thatchref07_in.f st 0 1000).bind fun t265 => (if t265 = true then ((thatchref07_span.f lo hi 2000).bind fun t266 => (thatchref07_Check.j1 k (!t266) l0 l1 st lo hi l)) else (thatchref07_Check.j1 k true l0 l1 st lo hi l))) V) : ∀ (d i : Nat), l1.length - i = d → i ≤ l1.length →
    Tells (fun k => thatchref07_Check.l0 k (i : Int) l0 l1 st lo hi l) (if (l1.drop i).any api_Box_wear_Check_1.bad = true then 1 else V) := by
  intro d
  induction d with
  | zero =>
    intro i hd hi2
    obtain rfl : i = l1.length := by omega
    rw [List.drop_length, List.any_nil, if_neg (by decide)]
    exact Tells.succ hV (fun k => by rw [thatchref07_Check.l0, if_neg (by omega)])
  | succ d ih =>
    intro i hd hi2
    have hlt : i < l1.length := by omega
    have hih := ih (i + 1) (by omega) (by omega)
    rw [List.drop_eq_getElem_cons hlt, List.any_cons]
    have hstep : ∀ k, thatchref07_Check.l0 (k + 1) (i : Int) l0 l1 st lo hi l = if api_Box_wear_Check_1.bad l1[i] = true then some 1 else thatchref07_Check.l0 k ((i + 1 : Nat) : Int) l0 l1 st lo hi l := fun k => by
      rw [thatchref07_Check.l0, if_pos (by omega), if_pos (by omega), wrap_nat hlt hl, rd_get55 l1 hlt]
      unfold api_Box_wear_Check_1.bad
      by_cases c1 : l1[i].f0.f0 ≥ l1[i].f1.f0
      · rw [if_pos c1, if_pos (by simp [c1])]
      · rw [if_neg c1]
        by_cases c2 : l1[i].f0.f1 ≥ l1[i].f1.f1
        · rw [if_pos c2, if_pos (by simp [c2])]
        · rw [if_neg c2, if_neg (by simp [c1, c2])]
    by_cases hc : api_Box_wear_Check_1.bad l1[i] = true
    · rw [hc, Bool.true_or, if_pos rfl]
      exact Tells.succ (h := fun _ => some 1) (Tells.const fun _ => rfl) (fun k => by rw [hstep, if_pos hc])
    · rw [Bool.eq_false_iff.2 hc, Bool.false_or]
      exact Tells.succ hih (fun k => by rw [hstep, if_neg hc])
def checkV (l0 : List S32) (l1 : List S55) (st lo hi : Int) (l : List S67) : Int :=
  if wear_checkOutline.err l0 = 0 then
    (if l1.length > 6 then 3 else if l1.any api_Box_wear_Check_1.bad = true then 1 else
      if 0 ≤ st ∧ st ≤ 1000 ∧ spanB lo hi 2000 = true then
        (if l.length > 40 then 3 else markE l0 l1 (if ascB l = true then (if l.all (agreeOne st lo hi l) = true then 0 else 10) else 8) l)
      else 1)
  else wear_checkOutline.err l0
theorem markE_same (l0 : List S32) (l1 : List S55) (V V' : Int) : ∀ (l : List S67), ((∀ m ∈ l, okM m) → V = V') → markE l0 l1 V l = markE l0 l1 V' l := by
  intro l
  induction l with
  | nil => intro h; exact h (by simp)
  | cons m t ih =>
    intro h
    unfold markE
    by_cases c0 : wear_has.b l0 l1 m.f0.f0 m.f0.f1 = true
    · rw [if_pos c0, if_pos c0]
      by_cases c1 : spanB m.f1.f0 m.f1.f1 2000 = true
      · rw [if_pos c1, if_pos c1]
        refine ih fun ht => h ?_
        rw [List.forall_mem_cons]
        refine ⟨?_, ht⟩
        have e0 : 0 ≤ m.f0.f0 ∧ m.f0.f0 ≤ 400 ∧ 0 ≤ m.f0.f1 ∧ m.f0.f1 ≤ 400 := by
          have := c0
          unfold wear_has.b at this
          simp only [Bool.and_eq_true, decide_eq_true_eq] at this
          exact this.1.1
        have e1 : 0 ≤ m.f1.f0 ∧ m.f1.f0 ≤ m.f1.f1 ∧ m.f1.f1 ≤ 2000 := by
          have := c1
          unfold spanB at this
          exact of_decide_eq_true this
        exact ⟨e0, e1⟩
      · rw [if_neg c1, if_neg c1]
    · rw [if_neg c0, if_neg c0]
theorem check_ref (l0 : List S32) (l1 : List S55) (st lo hi : Int) (l : List S67) (h0 : l0.length < 1000000) (h1 : l1.length < 1000000) (hl : l.length < 1000000) : Tells (fun k => thatchref07_Check.f k l0 l1 st lo hi l) (checkV l0 l1 st lo hi l) := by
  have t2 := check_l2_ref l0 l1 st lo hi l hl (l.length - 1) 1 rfl (Nat.le_refl _)
  rw [show 1 - 1 = 0 from rfl, List.drop_zero] at t2
  have t1 := check_l1_ref l0 l1 st lo hi l h0 h1 hl _ t2 l.length 0 (by omega) (by omega)
  rw [List.drop_zero] at t1
  have tj : ∀ b, Tells (fun k => thatchref07_Check.j1 k b l0 l1 st lo hi l) (if b = true then 1 else if l.length > 40 then 3 else markE l0 l1 (if ascB l = true then (if l.all (agreeOne st lo hi l) = true then 0 else 10) else 8) l) := fun b => by
    cases b with
    | true => exact Tells.succ (h := fun _ => some 1) (Tells.const fun _ => rfl) (fun k => by rw [thatchref07_Check.j1, if_pos rfl])
    | false =>
      rw [if_neg (by decide)]
      by_cases h40 : l.length > 40
      · rw [if_pos h40]
        exact Tells.succ (h := fun _ => some 3) (Tells.const fun _ => rfl) (fun k => by rw [thatchref07_Check.j1, if_neg (by decide), if_pos (by omega)])
      · rw [if_neg h40]
        exact Tells.succ t1 (fun k => by rw [thatchref07_Check.j1, if_neg (by decide), if_neg (by omega)]; rfl)
  unfold checkV
  refine (Tells.bind (b := fun k t262 => (if t262 = 0 then (if (l1.length : Int) > 6 then (some 3) else (thatchref07_Check.l0 k 0 l0 l1 st lo hi l)) else (some t262))) (outline_tells outline_core l0) ?_).of_eq (fun k => rfl)
  by_cases e0 : wear_checkOutline.err l0 = 0
  · rw [if_pos e0]
    simp only [if_pos e0]
    by_cases e6 : l1.length > 6
    · rw [if_pos e6]
      exact Tells.const fun k => by rw [if_pos (by omega)]
    · rw [if_neg e6]
      have t0 := check_l0_ref l0 l1 st lo hi l h1 (if 0 ≤ st ∧ st ≤ 1000 ∧ spanB lo hi 2000 = true then (if l.length > 40 then 3 else markE l0 l1 (if ascB l = true then (if l.all (agreeOne st lo hi l) = true then 0 else 10) else 8) l) else 1) (by
        by_cases c0 : 0 ≤ st ∧ st ≤ 1000
        · simp only [in07_tells, decide_eq_true c0, Option.bind_some, if_true, span07_tells]
          refine (tj (!(spanB lo hi 2000))).of_eq' ?_
          cases hs : spanB lo hi 2000 with
          | true => rw [if_neg (show ¬ ((!true) = true) by decide), if_pos (show 0 ≤ st ∧ st ≤ 1000 ∧ true = true from ⟨c0.1, c0.2, rfl⟩)]
          | false => rw [if_pos (show (!false) = true from rfl), if_neg (show ¬ (0 ≤ st ∧ st ≤ 1000 ∧ false = true) by simp)]
        · simp only [in07_tells, decide_eq_false c0, Option.bind_some]
          refine (tj true).of_eq' ?_
          rw [if_pos rfl, if_neg (fun h => c0 ⟨h.1, h.2.1⟩)]) l1.length 0 (by omega) (by omega)
      rw [List.drop_zero] at t0
      exact t0.of_eq fun k => by rw [if_neg (by omega)]; rfl
  · rw [if_neg e0]
    exact Tells.const fun k => if_neg e0
theorem check_wear (l0 : List S32) (l1 : List S55) (st lo hi : Int) (l : List S67) (h0 : l0.length < 1000000) (h1 : l1.length < 1000000) (hl : l.length < 1000000) : Tells (fun k => wear_Check.f k l0 l1 st lo hi l) (checkV l0 l1 st lo hi l) := by
  have t2 := check_l2_wear l0 l1 st lo hi l hl l.length 0 (by omega) (by omega)
  rw [List.drop_zero] at t2
  have t1 := check_l1_wear l0 l1 st lo hi l hl _ t2
  have t0 := check_l0_wear l0 l1 st lo hi l hl _ t1 l.length 0 (by omega) (by omega)
  rw [List.drop_zero] at t0
  have tj : ∀ b, Tells (fun k => wear_Check.j0 k b l0 l1 st lo hi l) (if b = true then 1 else if l.length > 40 then 3 else markE l0 l1 (if ascB l = true then (if l.any (clashAt st lo hi l) = true then 10 else 0) else 8) l) := fun b => by
    cases b with
    | true => exact Tells.succ (h := fun _ => some 1) (Tells.const fun _ => rfl) (fun k => by rw [wear_Check.j0, if_pos rfl])
    | false =>
      rw [if_neg (by decide)]
      by_cases h40 : l.length > 40
      · rw [if_pos h40]
        exact Tells.succ (h := fun _ => some 3) (Tells.const fun _ => rfl) (fun k => by rw [wear_Check.j0, if_neg (by decide), if_pos (by omega)])
      · rw [if_neg h40]
        exact Tells.succ t0 (fun k => by rw [wear_Check.j0, if_neg (by decide), if_neg (by omega)]; rfl)
  unfold checkV
  have hf : ∀ k, wear_Check.f k l0 l1 st lo hi l = (if wear_checkOutline.err l0 = 0 then (if (l1.length : Int) > 6 then some 3 else if l1.any api_Box_wear_Check_1.bad = true then some 1 else (if 0 ≤ st ∧ st ≤ 1000 then wear_Check.j0 k (!(spanB lo hi 2000)) l0 l1 st lo hi l else wear_Check.j0 k true l0 l1 st lo hi l)) else some (wear_checkOutline.err l0)) := fun k => by
    simp only [wear_Check.f, wear_checkOutline.f, Option.bind_some, api_Box_wear_Check_1.f, in_wear, spans_tells, decide_eq_true_eq]
  refine Tells.of_eq ?_ hf
  by_cases e0 : wear_checkOutline.err l0 = 0
  · simp only [if_pos e0]
    by_cases e6 : l1.length > 6
    · rw [if_pos e6]
      exact Tells.const fun k => by rw [if_pos (by omega)]
    · rw [if_neg e6]
      refine Tells.of_eq ?_ (fun k => if_neg (by omega))
      by_cases eb : l1.any api_Box_wear_Check_1.bad = true
      · simp only [if_pos eb]; exact Tells.const fun _ => rfl
      · simp only [if_neg eb]
        by_cases c0 : 0 ≤ st ∧ st ≤ 1000
        · simp only [if_pos c0]
          refine (tj (!(spanB lo hi 2000))).of_eq' ?_
          cases hs : spanB lo hi 2000 with
          | true =>
            rw [if_neg (show ¬ ((!true) = true) by decide), if_pos (show 0 ≤ st ∧ st ≤ 1000 ∧ true = true from ⟨c0.1, c0.2, rfl⟩)]
            by_cases h40 : l.length > 40
            · rw [if_pos h40, if_pos h40]
            · rw [if_neg h40, if_neg h40]
              refine markE_same l0 l1 _ _ l fun hm => ?_
              have hlh : lo ≤ hi := by
                unfold spanB at hs
                have := of_decide_eq_true hs
                omega
              have e1 := clash_iff st lo hi l c0 hlh hm
              have e2 := agrees_iff st lo hi l c0 hm
              cases ascB l with
              | false => rfl
              | true =>
                rw [if_pos rfl, if_pos rfl]
                by_cases ha : Agrees st lo hi l
                · rw [if_neg (by rw [e1.2 ha]; decide), if_pos (e2.2 ha)]
                · rw [if_pos (by cases hx : l.any (clashAt st lo hi l) with
                    | true => rfl
                    | false => exact absurd (e1.1 hx) ha), if_neg (fun h => ha (e2.1 h))]
          | false => rw [if_pos (show (!false) = true from rfl), if_neg (show ¬ (0 ≤ st ∧ st ≤ 1000 ∧ false = true) by simp)]
        · simp only [if_neg c0]
          refine (tj true).of_eq' ?_
          rw [if_pos rfl, if_neg (fun h => c0 ⟨h.1, h.2.1⟩)]
  · simp only [if_neg e0]; exact Tells.const fun _ => rfl
end Go.Proofs.Ytcfpclehogdmbaa.Q
end
section
namespace Go.Proofs.Ytcfpclehogdmbaa.Q
open Go.RowKit Go.Proofs.YtcfpclehogdmbaaW.PrintWords Go.Proofs.YtcfpclehogdmbaaW.PrintLast Go.Proofs.YtcfpclehogdmbaaW.PrintMore
attribute [local go_sem] max2_int min2_int max_two min_two max_three min_three max_four min_four   -- for this text's walks alone
set_option linter.unusedVariables false
set_option linter.unusedSimpArgs false
def api_Pt_44.f (l0 : List (S32)) : Option (List (S32)) := if l0.length < 1000000 then some l0 else none
set_option maxHeartbeats 1000000 in
set_option maxRecDepth 100000 in
theorem api_Pt_44.calls (A0 : Option Addr) (c0 : Nat) (l0 : List (S32)) (r : List (S32)) (w : World) (hr0 : Kd.C k32 w A0 l0.length l0) (hc0 : l0.length ≤ c0) (h : api_Pt_44.f l0 = some r) :
    Calls Try.prog 44 #[.slice A0 l0.length c0] w fun e w' => ∃ v0_ : Value, e = .returned v0_ ∧ Kd.R k32 32 w' w.heap.size (fun _ => True) v0_ r ∧ Below w.heap.size w w' := by
  have hlen : l0.length < 1000000 := by
    unfold api_Pt_44.f at h
    by_cases hh : l0.length < 1000000
    · exact hh
    rw [if_neg hh] at h; cases h
  obtain rfl : l0 = r := by unfold api_Pt_44.f at h; rw [if_pos hlen] at h; exact Option.some.inj h
  clear h
  have HLEN := Aside0.mk hlen
  clear hlen
  cases A0 with
  | none =>
    have h0 : l0 = [] := by
      rcases Nat.eq_zero_or_pos l0.length with h | h
      · exact List.eq_nil_of_length_eq_zero h
      obtain ⟨ad, c, e, _⟩ := Kd.C_get hr0 z32 0 (by omega) (by omega)
      cases e
    subst h0
    clear hr0
    have hq : ∀ W : World, (binOp .eql 22 (.slice none 0 c0) (.slice none 0 0)).run Try.prog W = .ok (.bool true) W := fun W => Lib.run_eql_slice_nil W 22 32 _ _ c0 0 0 Try.underlying22
    go_enter Try.func44, Try.ntmps44
    go_wp2
    go_ret
    exact ⟨_, rfl, Kd.R_nil _ _ _ _ _, Below.refl _ _⟩
  | some ad =>
    have HR0 := Aside0.mk hr0
    have HC0 := Aside0.mk hc0
    clear hr0 hc0
    have hq : ∀ W : World, (binOp .eql 22 (.slice (some ad) l0.length c0) (.slice none 0 0)).run Try.prog W = .ok (.bool false) W := fun W => Lib.run_eql_slice_nil W 22 32 _ _ c0 0 0 Try.underlying22
    go_enter Try.func44, Try.ntmps44
    go_wp2_with (first
      | ((with_reducible refine gate_dst (N := 5) rfl ?_); refine Kd.R_lit (w0 := w) k32 w.heap.size 32 ?hg (N := 5) ?hd (xs := ([] : List (S32))) (inner := []) (ok := fun _ => True) (okp := fun _ => True) ?hr ?hp (fun _ hk => hk) trivial (Below.refl _ _) (Nat.le_refl _) (by simp) ?_; (case hd => rfl); (case hg => rfl); (case hr => first | (go_simp; done) | (go_simp; rfl)); (case hp => exact Reps.none _ _); intro v1 w1 ho hb hg_ hnew_; have HO := Aside0.mk ho; have HB := Aside0.mk hb; clear ho hb hg_ hnew_)
      | ((with_reducible refine gate_builtin (b := .append) (xs := #[.tmp 5, .tmp 6]) rfl ?_); at_builtin; refine Kd.R_append_rows k32 (w0 := w) w.heap.size rfl (.tmp 5) (.tmp 6) 22 32 (.agg #[(.int .i64 0), (.int .i64 0)]) 16 rfl Try.underlying22 info32 rfl (by decide) (by omega) v1 ([] : List (S32)) l0 _ _ _ (fun _ => True) (fun _ => False) rfl rfl HO.out (Kd.C_below HR0.out HB.out) (fun _ _ h => h) (fun _ h => h.elim) (fun _ _ => trivial) HB.out HB.out.size (by have := HLEN.out; simp; omega) ?_; intro v2 w2 ho hb hg hat; have HO2 := Aside0.mk ho; have HB2 := Aside0.mk hb; clear ho hb hg hat))
    go_ret
    exact ⟨_, rfl, HO2.out, HB2.out⟩
end Go.Proofs.Ytcfpclehogdmbaa.Q
end
section
namespace Go.Proofs.Ytcfpclehogdmbaa.Q
open Go.RowKit Go.Proofs.YtcfpclehogdmbaaW.PrintWords Go.Proofs.YtcfpclehogdmbaaW.PrintLast Go.Proofs.YtcfpclehogdmbaaW.PrintMore
attribute [local go_sem] max2_int min2_int max_two min_two max_three min_three max_four min_four   -- for this text's walks alone
set_option linter.unusedVariables false
set_option linter.unusedSimpArgs false
def api_Box_45.f (l0 : List (S55)) : Option (List (S55)) := if l0.length < 1000000 then some l0 else none
set_option maxHeartbeats 1000000 in
set_option maxRecDepth 100000 in
theorem api_Box_45.calls (A0 : Option Addr) (c0 : Nat) (l0 : List (S55)) (r : List (S55)) (w : World) (hr0 : Kd.C k55 w A0 l0.length l0) (hc0 : l0.length ≤ c0) (h : api_Box_45.f l0 = some r) :
    Calls Try.prog 45 #[.slice A0 l0.length c0] w fun e w' => ∃ v0_ : Value, e = .returned v0_ ∧ Kd.R k55 55 w' w.heap.size (fun _ => True) v0_ r ∧ Below w.heap.size w w' := by
  have hlen : l0.length < 1000000 := by
    unfold api_Box_45.f at h
    by_cases hh : l0.length < 1000000
    · exact hh
    rw [if_neg hh] at h; cases h
  obtain rfl : l0 = r := by unfold api_Box_45.f at h; rw [if_pos hlen] at h; exact Option.some.inj h
  clear h
  have HLEN := Aside0.mk hlen
  clear hlen
  cases A0 with
  | none =>
    have h0 : l0 = [] := by
      rcases Nat.eq_zero_or_pos l0.length with h | h
      · exact List.eq_nil_of_length_eq_zero h
      obtain ⟨ad, c, e, _⟩ := Kd.C_get hr0 z55 0 (by omega) (by omega)
      cases e
    subst h0
    clear hr0
    have hq : ∀ W : World, (binOp .eql 23 (.slice none 0 c0) (.slice none 0 0)).run Try.prog W = .ok (.bool true) W := fun W => Lib.run_eql_slice_nil W 23 55 _ _ c0 0 0 Try.underlying23
    go_enter Try.func45, Try.ntmps45
    go_wp2
    go_ret
    exact ⟨_, rfl, Kd.R_nil _ _ _ _ _, Below.refl _ _⟩
  | some ad =>
    have HR0 := Aside0.mk hr0
    have HC0 := Aside0.mk hc0
    clear hr0 hc0
    have hq : ∀ W : World, (binOp .eql 23 (.slice (some ad) l0.length c0) (.slice none 0 0)).run Try.prog W = .ok (.bool false) W := fun W => Lib.run_eql_slice_nil W 23 55 _ _ c0 0 0 Try.underlying23
    go_enter Try.func45, Try.ntmps45
    go_wp2_with (first
      | ((with_reducible refine gate_dst (N := 5) rfl ?_); refine Kd.R_lit (w0 := w) k55 w.heap.size 55 ?hg (N := 5) ?hd (xs := ([] : List (S55))) (inner := []) (ok := fun _ => True) (okp := fun _ => True) ?hr ?hp (fun _ hk => hk) trivial (Below.refl _ _) (Nat.le_refl _) (by simp) ?_; (case hd => rfl); (case hg => rfl); (case hr => first | (go_simp; done) | (go_simp; rfl)); (case hp => exact Reps.none _ _); intro v1 w1 ho hb hg_ hnew_; have HO := Aside0.mk ho; have HB := Aside0.mk hb; clear ho hb hg_ hnew_)
      | ((with_reducible refine gate_builtin (b := .append) (xs := #[.tmp 5, .tmp 6]) rfl ?_); at_builtin; refine Kd.R_append_rows k55 (w0 := w) w.heap.size rfl (.tmp 5) (.tmp 6) 23 55 (.agg #[(.int .i64 0), (.int .i64 0), (.int .i64 0), (.int .i64 0)]) 32 rfl Try.underlying23 info55 rfl (by decide) (by omega) v1 ([] : List (S55)) l0 _ _ _ (fun _ => True) (fun _ => False) rfl rfl HO.out (Kd.C_below HR0.out HB.out) (fun _ _ h => h) (fun _ h => h.elim) (fun _ _ => trivial) HB.out HB.out.size (by have := HLEN.out; simp; omega) ?_; intro v2 w2 ho hb hg hat; have HO2 := Aside0.mk ho; have HB2 := Aside0.mk hb; clear ho hb hg hat))
    go_ret
    exact ⟨_, rfl, HO2.out, HB2.out⟩
end Go.Proofs.Ytcfpclehogdmbaa.Q
end
section
namespace Go.Proofs.Ytcfpclehogdmbaa.Q
open Go.RowKit Go.Proofs.YtcfpclehogdmbaaW.PrintWords Go.Proofs.YtcfpclehogdmbaaW.PrintLast Go.Proofs.YtcfpclehogdmbaaW.PrintMore
attribute [local go_sem] max2_int min2_int max_two min_two max_three min_three max_four min_four   -- for this text's walks alone
set_option linter.unusedVariables false
set_option linter.unusedSimpArgs false
def api_Mark_46.f (l0 : List (S67)) : Option (List (S67)) := if l0.length < 1000000 then some l0 else none
set_option maxHeartbeats 1000000 in
set_option maxRecDepth 100000 in
theorem api_Mark_46.calls (A0 : Option Addr) (c0 : Nat) (l0 : List (S67)) (r : List (S67)) (w : World) (hr0 : Kd.C k67 w A0 l0.length l0) (hc0 : l0.length ≤ c0) (h : api_Mark_46.f l0 = some r) :
    Calls Try.prog 46 #[.slice A0 l0.length c0] w fun e w' => ∃ v0_ : Value, e = .returned v0_ ∧ Kd.R k67 67 w' w.heap.size (fun _ => True) v0_ r ∧ Below w.heap.size w w' := by
  have hlen : l0.length < 1000000 := by
    unfold api_Mark_46.f at h
    by_cases hh : l0.length < 1000000
    · exact hh
    rw [if_neg hh] at h; cases h
  obtain rfl : l0 = r := by unfold api_Mark_46.f at h; rw [if_pos hlen] at h; exact Option.some.inj h
  clear h
  have HLEN := Aside0.mk hlen
  clear hlen
  cases A0 with
  | none =>
    have h0 : l0 = [] := by
      rcases Nat.eq_zero_or_pos l0.length with h | h
      · exact List.eq_nil_of_length_eq_zero h
      obtain ⟨ad, c, e, _⟩ := Kd.C_get hr0 z67 0 (by omega) (by omega)
      cases e
    subst h0
    clear hr0
    have hq : ∀ W : World, (binOp .eql 28 (.slice none 0 c0) (.slice none 0 0)).run Try.prog W = .ok (.bool true) W := fun W => Lib.run_eql_slice_nil W 28 67 _ _ c0 0 0 Try.underlying28
    go_enter Try.func46, Try.ntmps46
    go_wp2
    go_ret
    exact ⟨_, rfl, Kd.R_nil _ _ _ _ _, Below.refl _ _⟩
  | some ad =>
    have HR0 := Aside0.mk hr0
    have HC0 := Aside0.mk hc0
    clear hr0 hc0
    have hq : ∀ W : World, (binOp .eql 28 (.slice (some ad) l0.length c0) (.slice none 0 0)).run Try.prog W = .ok (.bool false) W := fun W => Lib.run_eql_slice_nil W 28 67 _ _ c0 0 0 Try.underlying28
    go_enter Try.func46, Try.ntmps46
    go_wp2_with (first
      | ((with_reducible refine gate_dst (N := 5) rfl ?_); refine Kd.R_lit (w0 := w) k67 w.heap.size 67 ?hg (N := 5) ?hd (xs := ([] : List (S67))) (inner := []) (ok := fun _ => True) (okp := fun _ => True) ?hr ?hp (fun _ hk => hk) trivial (Below.refl _ _) (Nat.le_refl _) (by simp) ?_; (case hd => rfl); (case hg => rfl); (case hr => first | (go_simp; done) | (go_simp; rfl)); (case hp => exact Reps.none _ _); intro v1 w1 ho hb hg_ hnew_; have HO := Aside0.mk ho; have HB := Aside0.mk hb; clear ho hb hg_ hnew_)
      | ((with_reducible refine gate_builtin (b := .append) (xs := #[.tmp 5, .tmp 6]) rfl ?_); at_builtin; refine Kd.R_append_rows k67 (w0 := w) w.heap.size rfl (.tmp 5) (.tmp 6) 28 67 (.agg #[(.int .i64 0), (.int .i64 0), (.int .i64 0), (.int .i64 0)]) 32 rfl Try.underlying28 info67 rfl (by decide) (by omega) v1 ([] : List (S67)) l0 _ _ _ (fun _ => True) (fun _ => False) rfl rfl HO.out (Kd.C_below HR0.out HB.out) (fun _ _ h => h) (fun _ h => h.elim) (fun _ _ => trivial) HB.out HB.out.size (by have := HLEN.out; simp; omega) ?_; intro v2 w2 ho hb hg hat; have HO2 := Aside0.mk ho; have HB2 := Aside0.mk hb; clear ho hb hg hat))
    go_ret
    exact ⟨_, rfl, HO2.out, HB2.out⟩
end Go.Proofs.Ytcfpclehogdmbaa.Q
end
section
namespace Go.Proofs.Ytcfpclehogdmbaa.Q
open Go.RowKit Go.Proofs.YtcfpclehogdmbaaW.PrintWords Go.Proofs.YtcfpclehogdmbaaW.PrintLast Go.Proofs.YtcfpclehogdmbaaW.PrintMore
attribute [local go_sem] max2_int min2_int max_two min_two max_three min_three max_four min_four   -- for this text's walks alone
set_option linter.unusedVariables false
set_option linter.unusedSimpArgs false
def wear_twin.f (l0_0 : List (S32)) (l0_1 : List (S55)) (a0_2 : Int) (a0_3 : Int) (a0_4 : Int) (l0_5 : List (S67)) : Option ((List (S32)) × (List (S55)) × Int × Int × Int × (List (S67))) := (api_Pt_44.f l0_0).bind fun t202 => ((api_Box_45.f l0_1).bind fun t205 => ((api_Mark_46.f l0_5).bind fun t208 => (some (t202, t205, a0_2, a0_3, a0_4, t208))))
def wear_twin.T1 : Bool × List (List Nat × List Nat) := (true, [([], []), ([0], [0]), ([1], [1]), ([2], [2]), ([], []), ([4], [4]), ([5], [5]), ([6, 3], [6]), ([3, 7], [3, 7]), ([0, 1, 2, 3, 4, 5, 6, 7, 8], []), ([9, 8, 7, 0, 1, 2, 3, 4, 5, 6, 7, 8], [8, 9])])
def wear_twin.B1 : List Nat := [0, 1, 3, 7, 0, 16, 48, 127, 255, 511, 1023]
theorem wear_twin.tab1 : rtab .any (opsOf Try.f23 1) = wear_twin.T1 := by kernel_rfl
theorem wear_twin.bits1 : waitsOk wear_twin.T1.2 wear_twin.B1 = true := by kernel_rfl
set_option maxHeartbeats 8000000 in
set_option maxRecDepth 100000 in
theorem wear_twin.calls (A0_0 : Option Addr) (c0_0 : Nat) (l0_0 : List (S32)) (A0_1 : Option Addr) (c0_1 : Nat) (l0_1 : List (S55)) (a0_2 : Int) (a0_3 : Int) (a0_4 : Int) (A0_5 : Option Addr) (c0_5 : Nat) (l0_5 : List (S67)) (r1 : List (S32)) (r2 : List (S55)) (r3 : Int) (r4 : Int) (r5 : Int) (r6 : List (S67)) (w : World) (hr0_0 : Kd.C k32 w A0_0 l0_0.length l0_0) (hc0_0 : l0_0.length ≤ c0_0) (hr0_1 : Kd.C k55 w A0_1 l0_1.length l0_1) (hc0_1 : l0_1.length ≤ c0_1) (hr0_5 : Kd.C k67 w A0_5 l0_5.length l0_5) (hc0_5 : l0_5.length ≤ c0_5) (h : wear_twin.f l0_0 l0_1 a0_2 a0_3 a0_4 l0_5 = some (r1, r2, r3, r4, r5, r6)) :
  Calls Try.prog 23 #[.agg #[.slice A0_0 l0_0.length c0_0, .slice A0_1 l0_1.length c0_1, .int .i64 a0_2, .int .i64 a0_3, .int .i64 a0_4, .slice A0_5 l0_5.length c0_5]] w fun e w' => ∃ v0_ v1_ v5_ : Value, e = .returned (.agg #[v0_, v1_, .int .i64 r3, .int .i64 r4, .int .i64 r5, v5_]) ∧ Kd.R k32 32 w' w.heap.size (fun _ => True) v0_ r1 ∧ Kd.R k55 55 w' w.heap.size (fun _ => True) v1_ r2 ∧ Kd.R k67 67 w' w.heap.size (fun _ => True) v5_ r6 ∧ Below w.heap.size w w' := by
 have hu30 := Try.underlying30
 have hu25 := Try.underlying25
 have HR0_0 := Aside0.mk hr0_0
 have HC0_0 := Aside0.mk hc0_0
 clear hr0_0 hc0_0
 have HR0_1 := Aside0.mk hr0_1
 have HC0_1 := Aside0.mk hc0_1
 clear hr0_1 hc0_1
 have HR0_5 := Aside0.mk hr0_5
 have HC0_5 := Aside0.mk hc0_5
 clear hr0_5 hc0_5
 have HB := Aside0.mk (Below.refl w.heap.size w)
 have H : ((api_Pt_44.f l0_0).bind fun t202 => ((api_Box_45.f l0_1).bind fun t205 => ((api_Mark_46.f l0_5).bind fun t208 => (some (t202, t205, a0_2, a0_3, a0_4, t208))))) = some (r1, r2, r3, r4, r5, r6) := h
 clear h
 replace H := Option.bind_eq_some_iff.mp H
 obtain ⟨t202, A20, H⟩ := H
 replace H : ((api_Box_45.f l0_1).bind fun t205 => ((api_Mark_46.f l0_5).bind fun t208 => (some (t202, t205, a0_2, a0_3, a0_4, t208)))) = some (r1, r2, r3, r4, r5, r6) := H
 have A2 := Aside0.mk A20
 clear A20
 replace H := Option.bind_eq_some_iff.mp H
 obtain ⟨t205, A30, H⟩ := H
 replace H : ((api_Mark_46.f l0_5).bind fun t208 => (some (t202, t205, a0_2, a0_3, a0_4, t208))) = some (r1, r2, r3, r4, r5, r6) := H
 have A3 := Aside0.mk A30
 clear A30
 replace H := Option.bind_eq_some_iff.mp H
 obtain ⟨t208, A40, H⟩ := H
 replace H : (some (t202, t205, a0_2, a0_3, a0_4, t208)) = some (r1, r2, r3, r4, r5, r6) := H
 have A4 := Aside0.mk A40
 clear A40
 simp only [Option.some.injEq, Prod.mk.injEq] at H
 obtain ⟨rfl, rfl, rfl, rfl, rfl, rfl⟩ := H
 go_enter Try.func23, Try.ntmps23
 try go_wp2_with (first | ((with_reducible refine gate_dst (N := 1) rfl ?_); refine zx 1 #[.slice A0_0 l0_0.length c0_0, .slice A0_1 l0_1.length c0_1, .int .i64 a0_2, .int .i64 a0_3, .int .i64 a0_4, .slice A0_5 l0_5.length c0_5] 30 ?_; intro gb200 hg w5 hbox hb; have n0_ := zY HB hb; have n1_ := Aside0.mk (hbox); have n2_ := zS hg HB; have n3_ := zS hg HB; clear HB; have HB := n0_; have BK200 := n1_; have GW200 := n2_; have GE200 := n3_; clear n0_ n1_ n2_ n3_; clear hb hbox hg) | ((with_reducible refine gate_dst (N := 2) rfl ?_); refine zx 2 #[.slice none 0 0, .slice none 0 0, .int .i64 0, .int .i64 0, .int .i64 0, .slice none 0 0] 30 ?_; intro gb201 hg w6 hbox hb; have n0_ := zD BK200 hb; have n1_ := zY HB hb; have n2_ := Aside0.mk (hbox); have n3_ := zS hg HB; have n4_ := zS hg HB; have n5_ := zN hg BK200; have n6_ := zM hg BK200; clear BK200; clear HB; have BK200 := n0_; have HB := n1_; have BK201 := n2_; have GW201 := n3_; have GE201 := n4_; have NB200_201 := n5_; have NB201_200 := n6_; clear n0_ n1_ n2_ n3_ n4_ n5_ n6_; clear hb hbox hg))
 have n0_ := Aside0.mk (blk_drew BK200.out)
 have n1_ := Aside0.mk (blk_drew BK201.out)
 have n2_ := Aside0.mk (below_drew1 HB.out)
 clear BK200; clear BK201; clear HB
 have BK200 := n0_
 have BK201 := n1_
 have HB := n2_
 clear n0_ n1_ n2_
 refine start_ (n := 11) (S := fun w' => w'.cell? ⟨gb200, 0, none⟩ = some (.slice A0_0 l0_0.length c0_0) ∧ w'.cell? ⟨gb200, 1, none⟩ = some (.slice A0_1 l0_1.length c0_1) ∧ w'.cell? ⟨gb200, 2, none⟩ = some (.int .i64 a0_2) ∧ w'.cell? ⟨gb200, 3, none⟩ = some (.int .i64 a0_3) ∧ w'.cell? ⟨gb200, 4, none⟩ = some (.int .i64 a0_4) ∧ w'.cell? ⟨gb200, 5, none⟩ = some (.slice A0_5 l0_5.length c0_5)) (ds := [10]) #[Z0, Z0, Z0, Z0, Z0, Z0, Z0, Z0, Z0, Z0, Z0] (by kernel_rfl) rfl rfl ⟨(blk_cell BK200.out 0).trans rfl, (blk_cell BK200.out 1).trans rfl, (blk_cell BK200.out 2).trans rfl, (blk_cell BK200.out 3).trans rfl, (blk_cell BK200.out 4).trans rfl, (blk_cell BK200.out 5).trans rfl⟩ (fun hHeld => ?_); refine with_tabW wear_twin.tab1 wear_twin.bits1 (fun HT_ HW_ => ?_)
 generalize w6.drew = w7 at BK200 BK201 HB hHeld ⊢
 refine zp 0 (some 3) #[Z1, Z0, Z0, Z0, Z0, Z0, Z0, Z0, Z0, Z0, Z0] rfl rfl (any_of HT_.out (by kernel_rfl)) ?_
 refine zp 1 (some 4) #[Z1, Z1, Z0, Z0, Z0, Z0, Z0, Z0, Z0, Z0, Z0] rfl rfl (any_of HT_.out (by kernel_rfl)) ?_
 refine zp 4 (some 7) #[Z1, Z1, Z0, Z0, Z1, Z0, Z0, Z0, Z0, Z0, Z0] rfl rfl (any_of HT_.out (by kernel_rfl)) ?_
 refine zp 5 (some 8) #[Z1, Z1, Z0, Z0, Z1, Z1, Z0, Z0, Z0, Z0, Z0] rfl rfl (any_of HT_.out (by kernel_rfl)) ?_
 refine take_ (i := 2) (N := some 5) (v := ?_) (a' := ?_) #[Z1, Z1, Z1, Z0, Z1, Z1, Z0, Z0, Z0, Z0, Z0] rfl rfl (take_ofW HT_.out HW_.out (by kernel_rfl)) (fun _ _ _ h => h) (Or.inl ⟨by rfl, ?_⟩) hHeld ?_ ?_
 rotate_left; · rintro w' ⟨s0, s1, s2, s3, s4, s5⟩; go_simp; with_reducible rfl
 rotate_left; · simp only [Act.put, List.setIfInBounds_toArray, List.set_cons_zero, List.set_cons_succ, i64_w, i32_w]; rfl
 refine take_ (i := 6) (N := some 9) (v := ?_) (a' := ?_) #[Z1, Z1, Z1, Z0, Z1, Z1, Z1, Z0, Z0, Z0, Z0] rfl rfl (take_ofW HT_.out HW_.out (by kernel_rfl)) (fun _ _ _ h => h) (Or.inl ⟨by rfl, ?_⟩) hHeld ?_ ?_
 rotate_left; · rintro w' ⟨s0, s1, s2, s3, s4, s5⟩; go_simp; with_reducible rfl
 rotate_left; · simp only [Act.put, List.setIfInBounds_toArray, List.set_cons_zero, List.set_cons_succ, i64_w, i32_w]; rfl
 refine one_ (i := 3) (N := some 6) #[Z1, Z1, Z1, Z1, Z1, Z1, Z1, Z0, Z0, Z0, Z0] rfl rfl (one_of HT_.out (by kernel_rfl)) (by decide) (fun K hK => ?_)
 refine goes_ Try.func44 (by kernel_rfl) rfl #[.slice A0_0 l0_0.length c0_0] (by rfl) rfl rfl za ?_
 with_reducible refine (api_Pt_44.calls _ _ l0_0 t202 _ ?side1 ?side2 A2.out).mono ?_
 (case side1 => exact zl HR0_0 HB)
 (case side2 => exact HC0_0.out)
 rintro e w8 ⟨v203, rfl, ho0, hb⟩
 refine ⟨_, rfl, ?_⟩
 have n0_ := Aside0.mk (Kd.R_lower ho0 (below_size (zw HB)))
 have n1_ := zD BK200 hb
 have n2_ := zD BK201 hb
 have n3_ := zY HB hb
 clear BK200; clear BK201; clear HB
 have HO204 := n0_
 have BK200 := n1_
 have BK201 := n2_
 have HB := n3_
 clear n0_ n1_ n2_ n3_
 (try clear hb)
 (try clear hb2)
 (try clear hk)
 (try clear hi)
 (try clear ho0)
 refine hK.out _ _ ⟨(blk_cell BK200.out 0).trans rfl, (blk_cell BK200.out 1).trans rfl, (blk_cell BK200.out 2).trans rfl, (blk_cell BK200.out 3).trans rfl, (blk_cell BK200.out 4).trans rfl, (blk_cell BK200.out 5).trans rfl⟩ (fun hHeld => ?_)
 clear hK K
 refine norm_ (a' := ?_) ?_ ?_
 rotate_left
 ·show Act.put _ (some 6) _ = _
  simp only [Act.put, List.setIfInBounds_toArray, List.set_cons_zero, List.set_cons_succ, i64_w, i32_w]
  rfl
 refine one_ (i := 7) (N := some 10) #[Z1, Z1, Z1, Z1, Z1, Z1, Z1, Z1, Z0, Z0, Z0] rfl rfl (one_of HT_.out (by kernel_rfl)) (by decide) (fun K hK => ?_)
 refine goes_ Try.func45 (by kernel_rfl) rfl #[.slice A0_1 l0_1.length c0_1] (by rfl) rfl rfl za ?_
 with_reducible refine (api_Box_45.calls _ _ l0_1 t205 _ ?side1 ?side2 A3.out).mono ?_
 (case side1 => exact zl HR0_1 HB)
 (case side2 => exact HC0_1.out)
 rintro e w9 ⟨v206, rfl, ho0, hb⟩
 refine ⟨_, rfl, ?_⟩
 have n0_ := Aside0.mk (Kd.R_below (zt HO204) hb)
 have n1_ := Aside0.mk (Kd.R_lower ho0 (below_size (zw HB)))
 have n2_ := zD BK200 hb
 have n3_ := zD BK201 hb
 have n4_ := zY HB hb
 clear HO204; clear BK200; clear BK201; clear HB
 have HO204 := n0_
 have HO207 := n1_
 have BK200 := n2_
 have BK201 := n3_
 have HB := n4_
 clear n0_ n1_ n2_ n3_ n4_
 (try clear hb)
 (try clear hb2)
 (try clear hk)
 (try clear hi)
 (try clear ho0)
 obtain ⟨Ao10, co10, eo10⟩ := Kd.R_slice HO207.out
 (first | subst eo10 | (injection eo10 with f1_ f2_ f3_; have f4_ := f1_.symm; have f5_ := f3_.symm; clear f1_ f2_ f3_; subst f4_; subst f5_))
 obtain ⟨Ao11, co11, eo11⟩ := Kd.R_slice HO204.out
 (first | subst eo11 | (injection eo11 with f1_ f2_ f3_; have f4_ := f1_.symm; have f5_ := f3_.symm; clear f1_ f2_ f3_; subst f4_; subst f5_))
 refine hK.out _ _ ⟨(blk_cell BK200.out 0).trans rfl, (blk_cell BK200.out 1).trans rfl, (blk_cell BK200.out 2).trans rfl, (blk_cell BK200.out 3).trans rfl, (blk_cell BK200.out 4).trans rfl, (blk_cell BK200.out 5).trans rfl⟩ (fun hHeld => ?_)
 clear hK K
 refine norm_ (a' := ?_) ?_ ?_
 rotate_left
 ·show Act.put _ (some 10) _ = _
  simp only [Act.put, List.setIfInBounds_toArray, List.set_cons_zero, List.set_cons_succ, i64_w, i32_w]
  rfl
 refine zp 8 (some 11) #[Z1, Z1, Z1, Z1, Z1, Z1, Z1, Z1, Z1, Z0, Z0] rfl rfl (any_of HT_.out (by kernel_rfl)) ?_
 refine zp 9 (some 12) #[Z1, Z1, Z1, Z1, Z1, Z1, Z1, Z1, Z1, Z1, Z0] rfl rfl (any_of HT_.out (by kernel_rfl)) ?_
 refine last_ (i := 10) (N := none) #[Z1, Z1, Z1, Z1, Z1, Z1, Z1, Z1, Z1, Z1, Z1] rfl rfl (one_of HT_.out (by kernel_rfl)) (by decide) (fun K hK => ?_)
 have hs12 : w9.cell? ⟨gb200, 0, none⟩ = some (.slice A0_0 l0_0.length c0_0) := (blk_cell BK200.out 0).trans rfl
 have hfs12 := blk_frozen BK200.out 0
 have hns12_1 := NB201_200.out
 have hms12_1 := NB200_201.out
 have hs13 : w9.cell? ⟨gb200, 1, none⟩ = some (.slice A0_1 l0_1.length c0_1) := (blk_cell BK200.out 1).trans rfl
 have hfs13 := blk_frozen BK200.out 1
 have hns13_1 := NB201_200.out
 have hms13_1 := NB200_201.out
 refine skip_ (w1 := ?_) (by rfl) rfl ?_ ?_
 rotate_left
 ·go_simp
  rfl
 refine hK.out _ _ ?_
 clear hK K
 refine done_ (done_of HT_.out (by kernel_rfl)) ?_
 have hnb14 := NB200_201.out
 have hnc14 := NB201_200.out
 obtain ⟨hcz15_0, hcz15_1, hcz15_2, hcz15_3, hcz15_4, hcz15_5, hfz15_0, hfz15_1, hfz15_2, hfz15_3, hfz15_4, hfz15_5⟩ := zk6 BK200
 try go_wp2_with (first | ((with_reducible refine gate_callee (f := 46) rfl ?_); refine goesL_ (some 15) rfl rfl Try.func46 (by kernel_rfl) rfl #[.slice A0_5 l0_5.length c0_5] rfl za ?_; (with_reducible refine (api_Mark_46.calls _ _ l0_5 t208 _ ?side1 ?side2 A4.out).mono ?_); (case side1 => exact Kd.C_below HR0_5.out (zw HB)); (case side2 => exact HC0_5.out); rintro e w16 ⟨v209, rfl, ho0, hb⟩; refine ⟨_, rfl, ?_⟩; have n0_ := Aside0.mk (Kd.R_below (zF HO204 BK200) hb); have n1_ := Aside0.mk (Kd.R_below (zF HO207 BK200) hb); have n2_ := Aside0.mk (Kd.R_lower ho0 (below_size (zw HB))); have n3_ := Aside0.mk (blk_below (g := gb200) (o := .cells #[.slice Ao11 t202.length co11, .slice Ao10 t205.length co10, .int .i64 a0_2, .int .i64 a0_3, .int .i64 a0_4, .slice A0_5 l0_5.length c0_5] 30 (0, 0)) (by refine zQ ?_; refine blk_put (cs := #[.slice Ao11 t202.length co11, .slice A0_1 l0_1.length c0_1, .int .i64 a0_2, .int .i64 a0_3, .int .i64 a0_4, .slice A0_5 l0_5.length c0_5]) ?_ 1 _ rfl; refine zQ ?_; refine blk_put (cs := #[.slice A0_0 l0_0.length c0_0, .slice A0_1 l0_1.length c0_1, .int .i64 a0_2, .int .i64 a0_3, .int .i64 a0_4, .slice A0_5 l0_5.length c0_5]) ?_ 0 _ rfl; (with_reducible repeat (first | refine blk_drewN ?_ _ | refine blk_drew ?_ | refine blk_alloc ?_ _)); exact BK200.out) hb); have n4_ := Aside0.mk (blk_below (g := gb201) (o := .cells #[.slice none 0 0, .slice none 0 0, .int .i64 0, .int .i64 0, .int .i64 0, .slice none 0 0] 30 (0, 0)) (zv BK201) hb); have n5_ := zY HB hb; clear HO204; clear HO207; clear BK200; clear BK201; clear HB; have HO204 := n0_; have HO207 := n1_; have HO210 := n2_; have BK200 := n3_; have BK201 := n4_; have HB := n5_; clear n0_ n1_ n2_ n3_ n4_ n5_; (try clear hb); (try clear hb2); (try clear hk); (try clear hi); (try clear ho0); obtain ⟨Ao17, co17, eo17⟩ := Kd.R_slice HO210.out; subst eo17; obtain ⟨hcz18_0, hcz18_1, hcz18_2, hcz18_3, hcz18_4, hcz18_5, hfz18_0, hfz18_1, hfz18_2, hfz18_3, hfz18_4, hfz18_5⟩ := zk6 BK200; obtain ⟨hcz19_0, hcz19_1, hcz19_2, hcz19_3, hcz19_4, hcz19_5, hfz19_0, hfz19_1, hfz19_2, hfz19_3, hfz19_4, hfz19_5⟩ := zk6 BK201))
 refine bodyPost_ret (results_cell_row rfl _ _ gb201 30 #[.slice Ao11 t202.length co11, .slice Ao10 t205.length co10, .int .i64 a0_2, .int .i64 a0_3, .int .i64 a0_4, .slice Ao17 t208.length co17] (0, 0) _ rfl (by refine zQ ?_; refine blk_put (cs := #[.slice Ao11 t202.length co11, .slice Ao10 t205.length co10, .int .i64 a0_2, .int .i64 a0_3, .int .i64 a0_4, .slice none 0 0]) ?_ 5 _ rfl; refine zQ ?_; refine blk_put (cs := #[.slice Ao11 t202.length co11, .slice Ao10 t205.length co10, .int .i64 a0_2, .int .i64 a0_3, .int .i64 0, .slice none 0 0]) ?_ 4 _ rfl; refine zQ ?_; refine blk_put (cs := #[.slice Ao11 t202.length co11, .slice Ao10 t205.length co10, .int .i64 a0_2, .int .i64 0, .int .i64 0, .slice none 0 0]) ?_ 3 _ rfl; refine zQ ?_; refine blk_put (cs := #[.slice Ao11 t202.length co11, .slice Ao10 t205.length co10, .int .i64 0, .int .i64 0, .int .i64 0, .slice none 0 0]) ?_ 2 _ rfl; refine zQ ?_; refine blk_put (cs := #[.slice Ao11 t202.length co11, .slice none 0 0, .int .i64 0, .int .i64 0, .int .i64 0, .slice none 0 0]) ?_ 1 _ rfl; refine zQ ?_; refine blk_put (cs := #[.slice none 0 0, .slice none 0 0, .int .i64 0, .int .i64 0, .int .i64 0, .slice none 0 0]) ?_ 0 _ rfl; refine zQ ?_; refine blk_far ?_ NB201_200.out _; (with_reducible repeat (first | refine blk_drewN ?_ _ | refine blk_drew ?_ | refine blk_alloc ?_ _)); exact BK201.out) Try.underlying30 rfl (by kernel_rfl)) rfl ?_
 exact ⟨_, _, _, ze, by (with_reducible repeat (first | apply Kd.R_alloc | apply Kd.R_drewN | apply Kd.R_drew)); exact Kd.R_mono (Kd.R_far (p := ⟨gb201, 5, none⟩) (Kd.R_far (p := ⟨gb201, 4, none⟩) (Kd.R_far (p := ⟨gb201, 3, none⟩) (Kd.R_far (p := ⟨gb201, 2, none⟩) (Kd.R_far (p := ⟨gb201, 1, none⟩) (Kd.R_far (p := ⟨gb201, 0, none⟩) (Kd.R_far (p := ⟨gb200, 5, none⟩) (Kd.R_types (Kd.R_types HO204.out BK200.out (by decide)) BK201.out (by decide)) (fun _ hk => hk.1.2) (.slice Ao17 t208.length co17)) (fun _ hk => hk.2) (.slice Ao11 t202.length co11)) (fun _ hk => hk.2) (.slice Ao10 t205.length co10)) (fun _ hk => hk.2) (.int .i64 a0_2)) (fun _ hk => hk.2) (.int .i64 a0_3)) (fun _ hk => hk.2) (.int .i64 a0_4)) (fun _ hk => hk.2) (.slice Ao17 t208.length co17)) (fun _ hk => trivial), by (with_reducible repeat (first | apply Kd.R_alloc | apply Kd.R_drewN | apply Kd.R_drew)); exact Kd.R_mono (Kd.R_far (p := ⟨gb201, 5, none⟩) (Kd.R_far (p := ⟨gb201, 4, none⟩) (Kd.R_far (p := ⟨gb201, 3, none⟩) (Kd.R_far (p := ⟨gb201, 2, none⟩) (Kd.R_far (p := ⟨gb201, 1, none⟩) (Kd.R_far (p := ⟨gb201, 0, none⟩) (Kd.R_far (p := ⟨gb200, 5, none⟩) (Kd.R_types (Kd.R_types HO207.out BK200.out (by decide)) BK201.out (by decide)) (fun _ hk => hk.1.2) (.slice Ao17 t208.length co17)) (fun _ hk => hk.2) (.slice Ao11 t202.length co11)) (fun _ hk => hk.2) (.slice Ao10 t205.length co10)) (fun _ hk => hk.2) (.int .i64 a0_2)) (fun _ hk => hk.2) (.int .i64 a0_3)) (fun _ hk => hk.2) (.int .i64 a0_4)) (fun _ hk => hk.2) (.slice Ao17 t208.length co17)) (fun _ hk => trivial), by (with_reducible repeat (first | apply Kd.R_alloc | apply Kd.R_drewN | apply Kd.R_drew)); exact Kd.R_mono (Kd.R_far (p := ⟨gb201, 5, none⟩) (Kd.R_far (p := ⟨gb201, 4, none⟩) (Kd.R_far (p := ⟨gb201, 3, none⟩) (Kd.R_far (p := ⟨gb201, 2, none⟩) (Kd.R_far (p := ⟨gb201, 1, none⟩) (Kd.R_far (p := ⟨gb201, 0, none⟩) (Kd.R_far (p := ⟨gb200, 5, none⟩) (Kd.R_types (Kd.R_types HO210.out BK200.out (by decide)) BK201.out (by decide)) (fun _ hk => hk.1.2) (.slice Ao17 t208.length co17)) (fun _ hk => hk.2) (.slice Ao11 t202.length co11)) (fun _ hk => hk.2) (.slice Ao10 t205.length co10)) (fun _ hk => hk.2) (.int .i64 a0_2)) (fun _ hk => hk.2) (.int .i64 a0_3)) (fun _ hk => hk.2) (.int .i64 a0_4)) (fun _ hk => hk.2) (.slice Ao17 t208.length co17)) (fun _ hk => trivial), zw HB⟩
end Go.Proofs.Ytcfpclehogdmbaa.Q
end
section
namespace Go.Proofs.Ytcfpclehogdmbaa.Q
open Go.RowKit Go.Proofs.YtcfpclehogdmbaaW.PrintWords Go.Proofs.YtcfpclehogdmbaaW.PrintLast Go.Proofs.YtcfpclehogdmbaaW.PrintMore
attribute [local go_sem] max2_int min2_int max_two min_two max_three min_three max_four min_four   -- for this text's walks alone
set_option linter.unusedVariables false
set_option linter.unusedSimpArgs false
theorem run_copy_rowN {P : Program} (w : World) (dT sT ty elem : TypeId) (g o dLen dCap : Nat) (a : Addr) (sLen sCap : Nat) (cur : Array Value) (t : TypeId) (sz m : Nat) (cs : List Value)
    (hu : P.underlying dT = some (.slice elem)) (hs : (P.info? elem).map (·.size) = some sz)
    (hg : w.heap[g]? = some (.cells cur t (0, 0))) (hm : Nat.min sLen dLen = m) (hn : cs.length = m * sz)
    (hsrc : ∀ j v, cs[j]? = some v → w.cell? (a.add j) = some v) (hfit : o + cs.length ≤ cur.size) (h1 : ∀ v ∈ cs, v.oneCell' = true) :
    (Builtin.copy_ #[dT, sT] ty #[.slice (some ⟨g, o, none⟩) dLen dCap, .slice (some a) sLen sCap]).run P w =
      .ok (goInt m) (w.setRow g (cur.toList.take o ++ cs ++ cur.toList.drop (o + cs.length)).toArray) := by
  have hl := run_loadCells_list (P := P) w a cs hsrc
  have hst := run_storeCells_at P g o t cs 0 cur w hg (by simpa using hfit) h1
  cases hq : P.info? elem with
  | none => simp [hq] at hs
  | some i =>
    have hi : i.size = sz := by simpa [hq] using hs
    simp [Builtin.copy_, run_underlying hu, Builtin.lenOf, Builtin.firstCells, sizeOf, typeInfo, hq, hi, hm, ← hn, hl, hst]
theorem wpList_copy_runM {P : Program} (w : World) {ops : Array Oper} {rest : List Oper} {o : Oper} {a : Act} {Q : Exit → Act → World → Prop} (hgd : o.guard = none) (d s : Operand) (t t' : TypeId)
    (ho : o.op = .call { callee := .builtin .copy, args := #[d, s], argTypes := #[t, t'] }) (v u : Value) (hd : a.eval d = v) (hs : a.eval s = u) {v' : Value} {w' : World}
    (hr : (Builtin.copy_ #[t, t'] o.type #[v, u]).run P w = .ok v' w') (h : wpList P ops Q rest (a.put o.dst v') w') : wpList P ops Q (o :: rest) a w :=
  wpList_plain hgd fun K hK => by
    unfold Oper.wp execOp
    simp only [ho, resolve, invoke, builtin, Sem.run_bind, Sem.run_pure, Result.andThen_ok, List.map_toArray, List.map_cons, List.map_nil, hd, hs, hr]
    exact hK _ _ h
theorem step_copy_runM {P : Program} {ops : Array Oper} {o : Oper} {a : Act} {w : World} {K : Act → World → Prop} {Q : Exit → Act → World → Prop} {E : Prop}
    (hg : o.guard = none) (d x : Operand) (dT sT : TypeId) (hop : o.op = Op.call { callee := Callee.builtin Builtin.copy, args := #[d, x], argTypes := #[dT, sT] })
    (v u : Value) (hd : a.eval d = v) (hx : a.eval x = u) {v' : Value} {w' : World} (hr : (Builtin.copy_ #[dT, sT] o.type #[v, u]).run P w = .ok v' w') (hK : K (a.put o.dst v') w') :
    if Region.wanted o (yielded ops a.tmps) = true then Oper.wp P o a w K Q else E := by
  have hw : Region.wanted o (yielded ops a.tmps) = true := by simp [Region.wanted, hg]
  rw [if_pos hw]
  unfold Oper.wp
  simp [execOp, hop, resolve, invoke, builtin, hd, hx, hr, Result.andThen]
  exact hK
def spl (L : List Value) (o : Nat) (cs : List Value) : List Value := L.take o ++ cs ++ L.drop (o + cs.length)
theorem spl_length (L : List Value) (o : Nat) (cs : List Value) (h : o + cs.length ≤ L.length) : (spl L o cs).length = L.length := by simp [spl]; omega
theorem spl_take (L : List Value) (o k : Nat) (cs : List Value) (h : o + cs.length ≤ L.length) (hk : k ≤ o) : (spl L o cs).take k = L.take k := by
  unfold spl
  rw [List.append_assoc, List.take_append_of_le_length (by simp; omega), List.take_take, Nat.min_eq_left hk]
theorem spl_drop (L : List Value) (o : Nat) (cs : List Value) (h : o + cs.length ≤ L.length) : (spl L o cs).drop o = cs ++ L.drop (o + cs.length) := by
  unfold spl
  rw [List.append_assoc, List.drop_append_of_le_length (by simp; omega), List.drop_of_length_le (by simp; omega), List.nil_append]
theorem spl_take_all (L : List Value) (o : Nat) (cs : List Value) (h : o + cs.length ≤ L.length) : (spl L o cs).take (o + cs.length) = L.take o ++ cs := by
  unfold spl
  rw [List.take_append_of_le_length (by simp; omega), List.take_of_length_le (by simp; omega)]
theorem spl_two_a (L : List Value) (o e : Nat) (E C : List Value) (he : E.length = e) (h : o + e + C.length ≤ L.length) : (spl (spl L o E) (o + e) C).take (o + e + C.length) = L.take o ++ (E ++ C) := by
  subst he
  rw [spl_take_all _ _ _ (by rw [spl_length _ _ _ (by omega)]; omega), spl_take_all _ _ _ (by omega), List.append_assoc]
theorem spl_two_b (L : List Value) (o e : Nat) (E C : List Value) (he : E.length = e) (h : o + e + C.length ≤ L.length) : (spl (spl L (o + e) C) o E).take (o + e + C.length) = L.take o ++ (E ++ C) := by
  subst he
  have h1 : (spl L (o + E.length) C).length = L.length := spl_length _ _ _ (by omega)
  rw [show spl (spl L (o + E.length) C) o E = (spl L (o + E.length) C).take o ++ (E ++ (spl L (o + E.length) C).drop (o + E.length)) by unfold spl; rw [List.append_assoc],
    spl_take _ _ _ _ (by omega) (by omega), spl_drop _ _ _ (by omega)]
  rw [← List.append_assoc, ← List.append_assoc, List.take_append_of_le_length (by simp; omega), List.take_of_length_le (by simp; omega), List.append_assoc]
def encM (x : S67) : List Value := [.int .i64 x.f0.f0, .int .i64 x.f0.f1, .int .i64 x.f1.f0, .int .i64 x.f1.f1]
def Em (x : S67) (c : List Value) : Prop := c = encM x
theorem own_open {w : World} {base : Nat} {ok : Nat → Prop} {v : Value} {xs : List S67} (h : Kd.R k67 67 w base ok v xs) : (v = .slice none 0 0 ∧ xs = []) ∨ ∃ g cap cur, v = .slice (some ⟨g, 0, none⟩) xs.length cap ∧ base ≤ g ∧ ok g ∧ w.heap[g]? = some (.cells cur 67 (0, 0)) ∧ xs.length ≤ cap ∧ cap ≤ maxLen ∧ cur.size = cap * 4 ∧ Reps Em 4 xs (cur.toList.take (xs.length * 4)) := by
  obtain ⟨h1, inner, ⟨h2, h3⟩, h4⟩ := h
  rcases h3 with ⟨rfl, h0⟩ | ⟨g, cap, cur, rfl, hg, hh, hn, hc, hs, ht⟩
  · exact .inl ⟨rfl, List.eq_nil_of_length_eq_zero h0⟩
  subst ht
  exact .inr ⟨g, cap, cur, rfl, hg, h1 g rfl, hh, hn, hc, hs, h4.imp_ fun p c hp => k67_openM hp⟩
theorem own_close {w : World} {base : Nat} {ok : Nat → Prop} {g cap : Nat} {cur : Array Value} {xs : List S67} (hg : base ≤ g) (hok : ok g) (h : w.heap[g]? = some (.cells cur 67 (0, 0))) (hn : xs.length ≤ cap) (hc : cap ≤ maxLen) (hs : cur.size = cap * 4)
    (hr : Reps Em 4 xs (cur.toList.take (xs.length * 4))) : Kd.R k67 67 w base ok (.slice (some ⟨g, 0, none⟩) xs.length cap) xs :=
  ⟨fun k hk => by obtain rfl : g = k := by simpa [Value.ownBlock] using hk
                  exact hok, _, ⟨hr.1, .inr ⟨g, cap, cur, rfl, hg, h, hn, hc, hs, rfl⟩⟩, hr.imp_ fun p c hp => by rw [show c = encM p from hp]; exact k67_mkM _ _ _ p⟩
theorem Em_one (y : S67) : Reps Em 4 [y] (encM y) := ⟨rfl, fun j p h => by
  cases j with
  | zero => obtain rfl : y = p := by simpa using h
            rfl
  | succ j => simp at h⟩
theorem Em_insert {xs : List S67} {L : List Value} (h : Reps Em 4 xs L) (i : Nat) (hi : i ≤ xs.length) (y : S67) : Reps Em 4 (xs.take i ++ ([y] ++ xs.drop i)) (L.take (i * 4) ++ (encM y ++ L.drop (i * 4))) :=
  Kd.reps_append (Kd.reps_take h hi) (Kd.reps_append (Em_one y) (Kd.reps_drop h))
section
open Go.Shelf
theorem src_of_block {w : World} {g : Nat} {L : List Value} {cur : Array Value} {t : TypeId} (h : w.heap[g]? = some (.cells cur t (0, 0))) (o : Nat) {cs : List Value} (hcs : ∀ j v, cs[j]? = some v → cur.toList[o + j]? = some v) :
    ∀ j v, cs[j]? = some v → w.cell? ((⟨g, o, none⟩ : Addr).add j) = some v := fun j v hj => by
  have := blk_cell h (o + j)
  rw [Addr.add_lit, this]
  simpa using hcs j v hj
theorem oneCell_block {xs : List S67} {L : List Value} (h : Reps Em 4 xs L) : ∀ v ∈ L, v.oneCell' = true := by
  intro v hv
  obtain ⟨k, hk, rfl⟩ := List.getElem_of_mem hv
  have hl := h.1
  have hj : k / 4 < xs.length := by omega
  have h2 := h.2 (k / 4) xs[k / 4] (List.getElem?_eq_getElem hj)
  have h3 : ((L.drop (k / 4 * 4)).take 4)[k % 4]? = some L[k] := by
    rw [List.getElem?_take, if_pos (by omega), List.getElem?_drop, show k / 4 * 4 + k % 4 = k by omega, List.getElem?_eq_getElem hk]
  rw [show (L.drop (k / 4 * 4)).take 4 = encM xs[k / 4] from h2] at h3
  have h4 := List.mem_of_getElem? h3
  simp [encM] at h4
  rcases h4 with h4 | h4 | h4 | h4 <;> rw [h4] <;> rfl
set_option maxHeartbeats 4000000 in
set_option maxRecDepth 100000 in
theorem insert.shift (b cap n i vb : Nat) (cur : Array Value) (xs : List S67) (y : S67) (w : World) (hxn : xs.length = n) (hi : i < n) (hroom : n + 1 ≤ cap) (hc63 : cap ≤ 9223372036854775807) (hvb : vb ≠ b)
    (hb : w.heap[b]? = some (.cells cur 67 (0, 0))) (hsz : cur.size = cap * 4) (hr : Reps Em 4 xs (cur.toList.take (n * 4))) (hv : w.heap[vb]? = some (.cells (encM y).toArray 67 (0, 0))) :
    Calls Try.prog 27 #[.slice (some ⟨b, 0, none⟩) n cap, .int .i64 i, .slice (some ⟨vb, 0, none⟩) 1 1] w fun e w' =>
      e = .returned (.slice (some ⟨b, 0, none⟩) (n + 1) cap) ∧ ∃ L : List Value, w' = w.drew.setRow b L.toArray ∧ L.length = cap * 4 ∧ L.take ((n + 1) * 4) = (cur.toList.take (n * 4)).take (i * 4) ++ (encM y ++ (cur.toList.take (n * 4)).drop (i * 4)) := by
  have u28 := run_underlying Try.underlying28
  have hu28 := Try.underlying28
  have hu67 := Try.underlying67
  have hz1 : ¬ ((1 : Int) = 0) := by omega
  have hz2 : ¬ ((i : Int) = (n : Int)) := by omega
  have hsz4 : (Try.prog.info? 67).map (·.size) = some 4 := by kernel_rfl
  have hsize : ∀ W : World, (Go.sizeOf 67).run Try.prog W = .ok 4 W := fun W => by
    obtain ⟨i0, hi0, hq⟩ := Option.map_eq_some_iff.1 hsz4
    simp [sizeOf, typeInfo, hi0, hq]
  have hsh : w.shape? vb = some (67, 4) := by simp [World.shape?, hv, encM]
  have hsb : w.shape? b = some (67, cap * 4) := by simp [World.shape?, hb, hsz]
  have hov : ∀ lb cb, (callFunc 49 #[.slice (some ⟨vb, 0, none⟩) 1 1, .slice (some ⟨b, (i + 1) * 4, none⟩) lb cb]).run Try.prog w = .ok (.value (.bool false)) w := fun lb cb => by
    rw [run_callFunc_extern Try.func49 (by kernel_rfl) (by kernel_rfl) (by kernel_rfl) (e := Extern.SlicesOverlaps.overlaps #[28, 28] #[4]) (by kernel_rfl),
      Lib.run_overlaps_apart w 28 4 67 Try.underlying28 4 hsize ⟨vb, 0, none⟩ ⟨b, (i + 1) * 4, none⟩ 1 1 lb cb hvb 67 67 4 (cap * 4) hsh hsb (by omega) (blk_frozen hv 0) (blk_frozen hv 4)]
    rfl
  have hw1 : IntKind.i64.wrap ((i : Int) + 1) = (i : Int) + 1 := by rw [IntKind.wrap_i64]; omega
  have hw2 : wrap64 ((i : Int) + 1) = (i : Int) + 1 := IntWalk.wrap64_in _ (by omega)
  have hw3 : wrap64 ((n : Int) + 1) = (n : Int) + 1 := IntWalk.wrap64_in _ (by omega)
  have hb1 : (0 : Int) ≤ (i : Int) + 1 := by omega
  have hin : i ≤ n := by omega
  have htn : ((i : Int) + 1).toNat = i + 1 := by omega
  have htn2 : ((n : Int) + 1).toNat = n + 1 := by omega
  have hb2 : ¬ (cap = i + 1) := by omega
  have hb3 : (i : Int) ≤ (n : Int) + 1 := by omega
  have hb4 : ¬ (cap = i) := by omega
  obtain ⟨R, hR⟩ : ∃ R, R = cur.toList.take (n * 4) := ⟨_, rfl⟩
  have hLl : cur.toList.length = cap * 4 := by simpa using hsz
  have hRl : R.length = n * 4 := by rw [hR, List.length_take]; omega
  rw [← hR] at hr ⊢
  have hR1 := oneCell_block hr
  obtain ⟨C, hC⟩ : ∃ C, C = R.drop (i * 4) := ⟨_, rfl⟩
  have hCl : C.length = (n - i) * 4 := by rw [hC, List.length_drop, hRl]; omega
  have hC1 : ∀ v ∈ C, v.oneCell' = true := fun v hv => hR1 v (List.mem_of_mem_drop (hC ▸ hv))
  have hbd : w.drew.heap[b]? = some (.cells cur 67 (0, 0)) := hb
  have hcp1 : ∀ ty dc sc, (Builtin.copy_ #[28, 28] ty #[.slice (some ⟨b, (i + 1) * 4, none⟩) (n - i) dc, .slice (some ⟨b, i * 4, none⟩) (n + 1 - i) sc]).run Try.prog w.drew = .ok (goInt ((n - i : Nat) : Int)) (w.drew.setRow b (spl cur.toList ((i + 1) * 4) C).toArray) := fun ty dc sc =>
    run_copy_rowN w.drew 28 28 ty 67 b ((i + 1) * 4) (n - i) dc ⟨b, i * 4, none⟩ (n + 1 - i) sc cur 67 4 (n - i) C Try.underlying28 hsz4 hbd (by simp only [Nat.min_def]; split <;> omega) hCl
      (src_of_block (L := []) hbd (i * 4) (fun j v hj => by
        rw [hC, List.getElem?_drop, hR, List.getElem?_take] at hj
        split at hj
        · exact hj
        cases hj)) (by rw [hCl]; have : cur.size = cap * 4 := hsz; omega) hC1
  have hs1 : (spl cur.toList ((i + 1) * 4) C).length = cap * 4 := by rw [spl_length _ _ _ (by rw [hCl]; omega)]; exact hLl
  have hb2' : (w.drew.setRow b (spl cur.toList ((i + 1) * 4) C).toArray).heap[b]? = some (.cells (spl cur.toList ((i + 1) * 4) C).toArray 67 (0, 0)) := setRow_heap _ _ _ _ _ _ hbd
  have hv2 : (w.drew.setRow b (spl cur.toList ((i + 1) * 4) C).toArray).heap[vb]? = some (.cells (encM y).toArray 67 (0, 0)) := (setRow_other _ _ _ _ hvb).trans hv
  obtain ⟨S1, hS1⟩ : ∃ S1, S1 = spl cur.toList ((i + 1) * 4) C := ⟨_, rfl⟩
  rw [← hS1] at hcp1 hb2' hv2 hs1
  have hcp2 : ∀ ty dc, (Builtin.copy_ #[28, 28] ty #[.slice (some ⟨b, i * 4, none⟩) (n + 1 - i) dc, .slice (some ⟨vb, 0, none⟩) 1 1]).run Try.prog (w.drew.setRow b S1.toArray) = .ok (goInt ((1 : Nat) : Int)) ((w.drew.setRow b S1.toArray).setRow b (spl S1 (i * 4) (encM y)).toArray) := fun ty dc =>
    run_copy_rowN _ 28 28 ty 67 b (i * 4) (n + 1 - i) dc ⟨vb, 0, none⟩ 1 1 S1.toArray 67 4 1 (encM y) Try.underlying28 hsz4 hb2' (by simp only [Nat.min_def]; split <;> omega) rfl
      (src_of_block (L := []) hv2 0 (fun j v hj => by simpa using hj)) (by simp [encM]; omega) (oneCell_block (Em_one y))
  have hfin : (spl S1 (i * 4) (encM y)).take ((n + 1) * 4) = R.take (i * 4) ++ (encM y ++ R.drop (i * 4)) := by
    have h1 := spl_two_b cur.toList (i * 4) 4 (encM y) C rfl (by rw [hCl]; omega)
    rw [show i * 4 + 4 = (i + 1) * 4 by omega, hCl, show (i + 1) * 4 + (n - i) * 4 = (n + 1) * 4 by omega, ← hS1] at h1
    rw [h1, hR, List.take_take, Nat.min_eq_left (by omega), hC, hR]
  have hfl : (spl S1 (i * 4) (encM y)).length = cap * 4 := by rw [spl_length _ _ _ (by simp [encM]; omega)]; exact hs1
  clear hC hCl hC1 hR1 hbd hs1 hb2' hv2 hRl hLl hR hr hS1
  have mixed : Try.prog.follows Departure.mixedOrders = true := by kernel_rfl
  go_enter Try.func27, Try.ntmps27
  go_wp2_with (simp only [hov])
  go_region_law_o (refine step_copy_runM rfl _ _ 28 28 rfl _ _ (by simp [Act.eval, Act.put]) (by simp [Act.eval, Act.put]) (hcp1 _ _ _) ?_)
  go_wp2_with (at_builtin; refine wpList_copy_runM _ rfl _ _ 28 28 rfl _ _ rfl rfl (hcp2 _ _) ?_)
  go_ret
  exact ⟨rfl, _, setRow_setRow _ _ _ _, hfl, hfin⟩
end
section
open Go.Shelf
theorem below_setRowM {B g : Nat} {w0 w : World} (hb : Below B w0 w) (hBg : B ≤ g) (cs : Array Value) : Below B w0 (w.setRow g cs) :=
  hb.trans ⟨rfl, rfl, rfl, by simp [World.setRow], fun k hk => setRow_other w g k cs (by omega)⟩
set_option maxHeartbeats 4000000 in
set_option maxRecDepth 100000 in
theorem insert.grow (b cap n i vb : Nat) (cur : Array Value) (xs : List S67) (y : S67) (w : World) (hxn : xs.length = n) (hi : i < n) (hnc : n ≤ cap) (hroom : cap < n + 1) (hbig : (n + 1) * 32 ≤ 140737488355328)
    (hb : w.heap[b]? = some (.cells cur 67 (0, 0))) (hsz : cur.size = cap * 4) (hr : Reps Em 4 xs (cur.toList.take (n * 4))) (hv : w.heap[vb]? = some (.cells (encM y).toArray 67 (0, 0))) :
    Calls Try.prog 27 #[.slice (some ⟨b, 0, none⟩) n cap, .int .i64 i, .slice (some ⟨vb, 0, none⟩) 1 1] w fun e w' => ∃ (G : Nat) (L : List Value),
      e = .returned (.slice (some ⟨w.heap.size, 0, none⟩) (n + 1) G) ∧ w'.heap[w.heap.size]? = some (.cells L.toArray 67 (0, 0)) ∧ L.length = G * 4 ∧ n + 1 ≤ G ∧ G ≤ maxLen ∧ Below w.heap.size w w' ∧ L.take ((n + 1) * 4) = (cur.toList.take (n * 4)).take (i * 4) ++ (encM y ++ (cur.toList.take (n * 4)).drop (i * 4)) := by
  have hGi0 : ∀ G : Nat, n + 1 ≤ G → ¬ (G = i) := fun G h => by omega
  have hGim0 : ∀ G : Nat, n + 1 ≤ G → ¬ (G = i + 1) := fun G h => by omega
  have hci : ¬ (cap = i) := by omega
  have hw2 : wrap64 ((i : Int) + 1) = (i : Int) + 1 := IntWalk.wrap64_in _ (by omega)
  have hw1 : IntKind.i64.wrap ((i : Int) + 1) = (i : Int) + 1 := by rw [IntKind.wrap_i64]; omega
  have hw3 : wrap64 ((n : Int) + 1) = (n : Int) + 1 := IntWalk.wrap64_in _ (by omega)
  have hw4 : wrap64 ((n : Int) + 1 - (i : Int)) = (n : Int) + 1 - (i : Int) := IntWalk.wrap64_in _ (by omega)
  have hb1 : (0 : Int) ≤ (i : Int) + 1 := by omega
  have hin : i ≤ n := by omega
  have htn : ((i : Int) + 1).toNat = i + 1 := by omega
  have hb3 : (i : Int) ≤ (n : Int) := by omega
  have u28 := run_underlying Try.underlying28
  have u3 := run_underlying Try.underlying3
  have hu28 := Try.underlying28
  have hu67 := Try.underlying67
  obtain ⟨i0, hi0, hq0⟩ := Option.map_eq_some_iff.1 info67
  simp only [Prod.mk.injEq] at hq0
  obtain ⟨hz0, hzs, hzb⟩ := hq0
  have hsz4 : (Try.prog.info? 67).map (·.size) = some 4 := by rw [hi0]; simp [hzs]
  have hz1 : ¬ ((1 : Int) = 0) := by omega
  have hz2 : ¬ ((i : Int) = (n : Int)) := by omega
  have hz3 : (cap : Int) < (n : Int) + 1 := by omega
  have hbw : b < w.heap.size := (Array.getElem?_eq_some_iff.1 hb).1
  have hvw : vb < w.heap.size := (Array.getElem?_eq_some_iff.1 hv).1
  have hkk : (n : Int) + 1 - (i : Int) = ((n + 1 - i : Nat) : Int) := by omega
  have hik : i + (n + 1 - i) = n + 1 := by omega
  obtain ⟨R, hR⟩ : ∃ R, R = cur.toList.take (n * 4) := ⟨_, rfl⟩
  have hLl : cur.toList.length = cap * 4 := by simpa using hsz
  have hRl : R.length = n * 4 := by rw [hR, List.length_take]; omega
  rw [← hR] at hr ⊢
  have hR1 := oneCell_block hr
  obtain ⟨C, hC⟩ : ∃ C, C = R.drop (i * 4) := ⟨_, rfl⟩
  have hCl : C.length = (n - i) * 4 := by rw [hC, List.length_drop, hRl]; omega
  have hC1 : ∀ v ∈ C, v.oneCell' = true := fun v hv => hR1 v (List.mem_of_mem_drop (hC ▸ hv))
  have hol : (R.take (i * 4)).length = i * 4 := by rw [List.length_take, hRl]; omega
  have hold : (Builtin.firstCells i0.size i (.slice (some ⟨b, 0, none⟩) i cap)).run Try.prog w.drew = .ok (R.take (i * 4)).toArray w.drew := by
    rw [hzs]
    exact run_firstCells_some w.drew 4 i ⟨b, 0, none⟩ i cap (R.take (i * 4)) hol (src_of_block (L := []) hb 0 (fun j v hj => by
      rw [List.getElem?_take] at hj
      split at hj
      · rw [hR, List.getElem?_take] at hj
        split at hj
        · simpa using hj
        cases hj
      cases hj))
  have hrz : ∀ ty, (Builtin.append_ #[28, 3] ty #[.slice (some ⟨b, 0, none⟩) i cap, .int .i64 ((n : Int) + 1 - (i : Int))]).run Try.prog w =
      .ok (.slice (some ⟨w.heap.size, 0, none⟩) (n + 1) (grownCap w (n + 1) cap 67)) (w.drew.alloc (.cells ((R.take (i * 4)).toArray ++ Builtin.zeroCells (Value.agg #[(.int .i64 0), (.int .i64 0), (.int .i64 0), (.int .i64 0)]).cells (n + 1 - i) ++ Builtin.zeroCells (Value.agg #[(.int .i64 0), (.int .i64 0), (.int .i64 0), (.int .i64 0)]).cells (grownCap w (n + 1) cap 67 - (n + 1))) 67)) := fun ty => by
    have h := Lib.run_append_grow_zeros w 28 3 ty 67 i0 _ .i64 .i64 Try.underlying28 Try.underlying3 hi0 hz0 (some ⟨b, 0, none⟩) i cap (R.take (i * 4)) hold (n + 1 - i) (by omega) (by omega) (by omega) (by omega) (by rw [hzb]; omega) (by rw [hzb, hik]; exact growslice_fits hroom hbig)
    rw [hik] at h
    rw [hkk]
    exact h
  obtain ⟨G, hG⟩ : ∃ G, G = grownCap w (n + 1) cap 67 := ⟨_, rfl⟩
  have hGn : n + 1 ≤ G := by rw [hG]; exact grownCap_ge w _ _ _
  have hG63 : G ≤ maxLen := by
    have := grownCap_le_maxLen w (n + 1) cap 67 (by unfold maxLen; omega)
    rw [← hG] at this
    exact this
  have hG64 : G ≤ 9223372036854775807 := by unfold maxLen at hG63; omega
  obtain ⟨ROW, hROW⟩ : ∃ ROW : List Value, ROW = ((R.take (i * 4)).toArray ++ Builtin.zeroCells (Value.agg #[(.int .i64 0), (.int .i64 0), (.int .i64 0), (.int .i64 0)]).cells (n + 1 - i) ++ Builtin.zeroCells (Value.agg #[(.int .i64 0), (.int .i64 0), (.int .i64 0), (.int .i64 0)]).cells (G - (n + 1))).toList := ⟨_, rfl⟩
  have hRO : ROW.toArray = ((R.take (i * 4)).toArray ++ Builtin.zeroCells (Value.agg #[(.int .i64 0), (.int .i64 0), (.int .i64 0), (.int .i64 0)]).cells (n + 1 - i) ++ Builtin.zeroCells (Value.agg #[(.int .i64 0), (.int .i64 0), (.int .i64 0), (.int .i64 0)]).cells (G - (n + 1))) := by rw [hROW]
  have hROl : ROW.length = G * 4 := by
    rw [hROW, Array.length_toList]
    have e1 : ∀ m, (Builtin.zeroCells (Value.agg #[(.int .i64 0), (.int .i64 0), (.int .i64 0), (.int .i64 0)]).cells m).size = m * 4 := fun m => by simp [Builtin.zeroCells, Value.cells]
    rw [Array.size_append, Array.size_append, e1, e1, List.size_toArray, hol]
    omega
  have hROt : ROW.take (i * 4) = R.take (i * 4) := by
    rw [hROW, Array.toList_append, Array.toList_append, List.append_assoc, List.take_append_of_le_length (by simp [hol]), List.take_of_length_le (by simp [hol])]
  rw [← hG, ← hRO] at hrz
  have hnew : (w.drew.alloc (.cells ROW.toArray 67)).heap[w.heap.size]? = some (.cells ROW.toArray 67 (0, 0)) := World.alloc_heap_new w.drew _
  have hcpA : ∀ (W : World), W.heap[w.heap.size]? = some (.cells ROW.toArray 67 (0, 0)) → W.heap[vb]? = some (.cells (encM y).toArray 67 (0, 0)) → ∀ ty dc, (Builtin.copy_ #[28, 28] ty #[.slice (some ⟨w.heap.size, i * 4, none⟩) (n + 1 - i) dc, .slice (some ⟨vb, 0, none⟩) 1 1]).run Try.prog W = .ok (goInt ((1 : Nat) : Int)) (W.setRow w.heap.size (spl ROW (i * 4) (encM y)).toArray) := fun W h1 h2 ty dc =>
    run_copy_rowN W 28 28 ty 67 w.heap.size (i * 4) (n + 1 - i) dc ⟨vb, 0, none⟩ 1 1 ROW.toArray 67 4 1 (encM y) Try.underlying28 hsz4 h1 (by simp only [Nat.min_def]; split <;> omega) rfl
      (src_of_block (L := []) h2 0 (fun j v hj => by simpa using hj)) (by simp [encM]; omega) (oneCell_block (Em_one y))
  obtain ⟨S1, hS1⟩ : ∃ S1, S1 = spl ROW (i * 4) (encM y) := ⟨_, rfl⟩
  have hs1 : S1.length = G * 4 := by rw [hS1, spl_length _ _ _ (by simp [encM]; omega)]; exact hROl
  rw [← hS1] at hcpA
  have hcpB : ∀ (W : World), W.heap[w.heap.size]? = some (.cells S1.toArray 67 (0, 0)) → W.heap[b]? = some (.cells cur 67 (0, 0)) → ∀ ty dc sc, (Builtin.copy_ #[28, 28] ty #[.slice (some ⟨w.heap.size, (i + 1) * 4, none⟩) (n - i) dc, .slice (some ⟨b, i * 4, none⟩) (n - i) sc]).run Try.prog W = .ok (goInt ((n - i : Nat) : Int)) (W.setRow w.heap.size (spl S1 ((i + 1) * 4) C).toArray) := fun W h1 h2 ty dc sc =>
    run_copy_rowN W 28 28 ty 67 w.heap.size ((i + 1) * 4) (n - i) dc ⟨b, i * 4, none⟩ (n - i) sc S1.toArray 67 4 (n - i) C Try.underlying28 hsz4 h1 (by simp only [Nat.min_def]; split <;> omega) hCl
      (src_of_block (L := []) h2 (i * 4) (fun j v hj => by
        rw [hC, List.getElem?_drop, hR, List.getElem?_take] at hj
        split at hj
        · exact hj
        cases hj)) (by rw [hCl]; simp; omega) hC1
  have hfin : (spl S1 ((i + 1) * 4) C).take ((n + 1) * 4) = R.take (i * 4) ++ (encM y ++ R.drop (i * 4)) := by
    have h1 := spl_two_a ROW (i * 4) 4 (encM y) C rfl (by rw [hCl]; omega)
    rw [show i * 4 + 4 = (i + 1) * 4 by omega, hCl, show (i + 1) * 4 + (n - i) * 4 = (n + 1) * 4 by omega, ← hS1] at h1
    rw [h1, hROt, hC]
  have hfl : (spl S1 ((i + 1) * 4) C).length = G * 4 := by rw [spl_length _ _ _ (by rw [hCl]; omega)]; exact hs1
  have hGi : ¬ (G = i) := hGi0 G hGn
  have hGim : ¬ (G = i + 1) := hGim0 G hGn
  have hkb : (w.drew.alloc (.cells ROW.toArray 67)).heap[b]? = some (.cells cur 67 (0, 0)) := (Below.heap_alloc _ _ _ (by simpa using hbw)).trans hb
  have hkv : (w.drew.alloc (.cells ROW.toArray 67)).heap[vb]? = some (.cells (encM y).toArray 67 (0, 0)) := (Below.heap_alloc _ _ _ (by simpa using hvw)).trans hv
  have hS2 : (w.drew.alloc (.cells ROW.toArray 67)).heap = (w.alloc (.cells ROW.toArray 67)).heap := rfl
  have hA := hcpA ((w.alloc (.cells ROW.toArray 67)).drew) hnew hkv
  have hB1 : ((((w.alloc (.cells ROW.toArray 67)).drew).setRow w.heap.size S1.toArray).drew).heap[w.heap.size]? = some (.cells S1.toArray 67 (0, 0)) := setRow_heap _ _ _ _ _ _ (show ((w.alloc (.cells ROW.toArray 67)).drew).heap[w.heap.size]? = _ from hnew)
  have hB2 : ((((w.alloc (.cells ROW.toArray 67)).drew).setRow w.heap.size S1.toArray).drew).heap[b]? = some (.cells cur 67 (0, 0)) := (setRow_other _ _ _ _ (Nat.ne_of_lt hbw)).trans hkb
  have hBB := hcpB _ hB1 hB2
  have hlast : ((((w.alloc (.cells ROW.toArray 67)).drew).setRow w.heap.size S1.toArray).drew.setRow w.heap.size (spl S1 ((i + 1) * 4) C).toArray).heap[w.heap.size]? = some (.cells (spl S1 ((i + 1) * 4) C).toArray 67 (0, 0)) := setRow_heap _ _ _ _ _ _ hB1
  have hbel : Below w.heap.size w ((((w.alloc (.cells ROW.toArray 67)).drew).setRow w.heap.size S1.toArray).drew.setRow w.heap.size (spl S1 ((i + 1) * 4) C).toArray) :=
    below_setRowM (below_setRowM (((Below.refl _ w).alloc (Nat.le_refl _) _).drew) (Nat.le_refl _) _).drew (Nat.le_refl _) _
  clear hGi0 hGim0 hkk hik hold hRO hROW hROl hROt hnew hcpA hcpB hC hCl hC1 hR1 hS1 hs1 hR hRl hLl hol hr hG hB1 hB2 hkb hkv hS2
  have mixed : Try.prog.follows Departure.mixedOrders = true := by kernel_rfl
  go_enter Try.func27, Try.ntmps27
  go_wp2_with (first
    | (at_builtin; refine Lib.wpList_append_run _ rfl _ _ _ _ rfl _ _ rfl rfl _ _ (hrz _) ?_)
    | (at_builtin; refine wpList_copy_runM _ rfl _ _ 28 28 rfl _ _ rfl rfl (hA _ _) ?_))
  go_region_law_o (refine step_copy_runM rfl _ _ 28 28 rfl _ _ (by simp [Act.eval, Act.put]) (by simp [Act.eval, Act.put]) (hBB _ _ _) ?_)
  go_wp2
  go_ret
  exact ⟨G, _, rfl, hlast, hfl, hGn, hG63, hbel, hfin⟩
end
section
open Go.Shelf
theorem C_one {w : World} {g : Nat} {y : S67} (h : w.heap[g]? = some (.cells (encM y).toArray 67 (0, 0))) : Kd.C k67 w (some ⟨g, 0, none⟩) 1 [y] :=
  (Kd.R_reads' (own_close (xs := [y]) (base := 0) (ok := fun _ => True) (cap := 1) (Nat.zero_le _) trivial h (by simp) (by unfold maxLen; omega) rfl (Em_one y))).2.2
set_option maxHeartbeats 4000000 in
set_option maxRecDepth 100000 in
theorem insert.calls (vs : Value) (xs : List S67) (i vb : Nat) (y : S67) (w0 w : World) (hB : Below w0.heap.size w0 w) (hs : Kd.R k67 67 w w0.heap.size (fun _ => True) vs xs) (hi : i ≤ xs.length) (hlen : xs.length < 1000)
    (hv : w.heap[vb]? = some (.cells (encM y).toArray 67 (0, 0))) (hvb : vs.ownBlock ≠ some vb) :
    Calls Try.prog 27 #[vs, .int .i64 i, .slice (some ⟨vb, 0, none⟩) 1 1] w fun e w' => ∃ v', e = .returned v' ∧ Kd.R k67 67 w' w0.heap.size (fun _ => True) v' (xs.take i ++ ([y] ++ xs.drop i)) ∧ Below w0.heap.size w0 w' ∧ w.grownBy w' vs.ownBlock := by
  by_cases hin : i = xs.length
  · subst hin
    have hu28 := Try.underlying28
    rw [List.take_length, List.drop_length, List.append_nil]
    have HS := Aside0.mk hs
    have HB := Aside0.mk hB
    have HV := Aside0.mk hv
    have HL := Aside0.mk hlen
    obtain ⟨A, c, hvs⟩ := Kd.R_slice hs
    subst hvs
    have HC := Aside0.mk (C_one hv)
    have hnc : xs.length ≤ c := by
      rcases own_open hs with ⟨h1, h2⟩ | ⟨g, cap, cur, h1, _, _, _, h2, _⟩
      · rw [h2]; simp
      have := congrArg (fun v => match v with | Value.slice _ _ c => c | _ => 0) h1
      simp at this
      omega
    clear hs hB hv hlen hi
    go_enter Try.func27, Try.ntmps27
    go_wp2_with ((with_reducible refine gate_builtin (b := .append) (xs := #[.tmp 23, .tmp 24]) rfl ?_); at_builtin; refine Kd.R_append_rows k67 (w0 := w0) w0.heap.size rfl (.tmp 23) (.tmp 24) 28 67 (.agg #[(.int .i64 0), (.int .i64 0), (.int .i64 0), (.int .i64 0)]) 32 rfl Try.underlying28 info67 rfl (by decide) (by omega) (.slice A xs.length c) xs [y] _ _ _ (fun _ => True) (fun _ => False) rfl rfl HS.out HC.out (fun _ _ h => h) (fun _ h => h.elim) (fun _ _ => trivial) HB.out HB.out.size (by have := HL.out; omega) ?_; intro v2 w2 ho hb hg hat; have HO2 := Aside0.mk ho; have HB2 := Aside0.mk hb; have HG2 := Aside0.mk hg; clear ho hb hg hat)
    all_goals
      go_ret
      exact ⟨_, rfl, HO2.out, HB2.out, by cases A <;> exact HG2.out⟩
  rcases own_open hs with ⟨h1, h2⟩ | ⟨g, cap, cur, rfl, hg, _, hh, hn, hc, hsz, hr⟩
  · subst h2; simp at hi; simp [hi] at hin
  have hmx : cap ≤ 9223372036854775807 := by unfold maxLen at hc; omega
  have hlen2 : (xs.take i ++ ([y] ++ xs.drop i)).length = xs.length + 1 := by simp; omega
  by_cases hroom : xs.length + 1 ≤ cap
  · refine (insert.shift g cap xs.length i vb cur xs y w rfl (by omega) hroom hmx (by intro h; subst h; exact hvb rfl) hh hsz hr hv).mono ?_
    rintro e w' ⟨rfl, L, rfl, hl, ht⟩
    refine ⟨_, rfl, ?_, below_setRowM hB.drew hg _, ⟨rfl, rfl, rfl, by simp [World.setRow], fun k hk hne => setRow_other _ _ _ _ (fun h => hne (by rw [h]; rfl))⟩⟩
    rw [← hlen2]
    refine own_close hg trivial (setRow_heap _ _ _ _ _ _ (show w.drew.heap[g]? = _ from hh)) (by omega) hc (by simpa using hl) ?_
    rw [hlen2]
    show Reps Em 4 _ (L.take ((xs.length + 1) * 4))
    rw [ht]
    exact Em_insert hr i hi y
  refine (insert.grow g cap xs.length i vb cur xs y w rfl (by omega) hn (by omega) (by omega) hh hsz hr hv).mono ?_
  rintro e w' ⟨G, L, rfl, hhe, hl, hG, hGm, hbe, ht⟩
  refine ⟨_, rfl, ?_, hB.trans (hbe.mono hB.size), ⟨hbe.os, hbe.tape, hbe.output, hbe.size, fun k hk hne => hbe.block k hk⟩⟩
  rw [← hlen2]
  refine own_close (cap := G) hB.size trivial hhe (by omega) hGm (by simpa using hl) ?_
  rw [hlen2]
  show Reps Em 4 _ (L.take ((xs.length + 1) * 4))
  rw [ht]
  exact Em_insert hr i hi y
end
end Go.Proofs.Ytcfpclehogdmbaa.Q
end
