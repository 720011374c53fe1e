/- part 2 of a proof over the translation: walks that a program of ours has printed and shortened, and plain laws; each says what stands in it -/
import Derived.Test.YtcfpclehogdmbaaPB0
import Derived.Test.YtcfpclehogdmbaaPB1
section
namespace Go.Proofs.Ytcfpclehogdmbaa.Q
open Go.RowKit Go.Proofs.YtcfpclehogdmbaaW.PrintWords Go.Proofs.YtcfpclehogdmbaaW.PrintLast Go.Proofs.YtcfpclehogdmbaaW.PrintMore
attribute [local go_sem] max2_int min2_int max_two min_two max_three min_three max_four min_four   -- for this text's walks alone
set_option linter.unusedVariables false
set_option linter.unusedSimpArgs false
mutual
def thatchref07_agree.l0 : Nat → Int → List (S32) → List (S55) → Int → Int → Int → List (S67) → Option (Bool)
 | 0, _, _, _, _, _, _, _ => none
 | k + 1, x3, x256000, x256001, x256002, x256003, x256004, x256005 => if x3 < (x256005.length : Int) then (if 0 ≤ x3 then (if ((rd_T67 x256005 x3).f1.f0) > x256004 then (thatchref07_agree.j1 k x3 true x256000 x256001 x256002 x256003 x256004 x256005 ((rd_T67 x256005 x3).f0.f0) ((rd_T67 x256005 x3).f0.f1) ((rd_T67 x256005 x3).f1.f0) ((rd_T67 x256005 x3).f1.f1)) else (thatchref07_agree.j1 k x3 (decide (((rd_T67 x256005 x3).f1.f1) < x256003)) x256000 x256001 x256002 x256003 x256004 x256005 ((rd_T67 x256005 x3).f0.f0) ((rd_T67 x256005 x3).f0.f1) ((rd_T67 x256005 x3).f1.f0) ((rd_T67 x256005 x3).f1.f1))) else (none)) else (some true)
def thatchref07_agree.j1 : Nat → Int → Bool → List (S32) → List (S55) → Int → Int → Int → List (S67) → Int → Int → Int → Int → Option (Bool)
 | 0, _, _, _, _, _, _, _, _, _, _, _, _ => none
 | k + 1, x3, x34, x256000, x256001, x256002, x256003, x256004, x256005, x258000, x258001, x258002, x258003 => if x34 = true then (some false) else (thatchref07_agree.l1 k x3 0 x256000 x256001 x256002 x256003 x256004 x256005 x258000 x258001 x258002 x258003)
def thatchref07_agree.l1 : Nat → Int → Int → List (S32) → List (S55) → Int → Int → Int → List (S67) → Int → Int → Int → Int → Option (Bool)
 | 0, _, _, _, _, _, _, _, _, _, _, _, _ => none
 | k + 1, x3, x5, x256000, x256001, x256002, x256003, x256004, x256005, x258000, x258001, x258002, x258003 => if x5 < (x256005.length : Int) then (if 0 ≤ x5 then ((thatchref07_far.f x258000 x258001 ((rd_T67 x256005 x5).f0.f0) ((rd_T67 x256005 x5).f0.f1)).bind fun t260 => (if x258002 > (wrap64 (((rd_T67 x256005 x5).f1.f1) + (wrap64 (x256002 * t260)))) then (some false) else (thatchref07_agree.l1 k x3 (wrap64 (x5 + 1)) x256000 x256001 x256002 x256003 x256004 x256005 x258000 x258001 x258002 x258003))) else (none)) else (thatchref07_agree.l0 k (wrap64 (x3 + 1)) x256000 x256001 x256002 x256003 x256004 x256005)
end
def thatchref07_agree.f (k : Nat) (l0_0 : List (S32)) (l0_1 : List (S55)) (a0_2 : Int) (a0_3 : Int) (a0_4 : Int) (l0_5 : List (S67)) : Option (Bool) := thatchref07_agree.l0 k 0 l0_0 l0_1 a0_2 a0_3 a0_4 l0_5
def thatchref07_agree.T11 : Bool × List (List Nat × List Nat) := (true, [([], []), ([0], [0]), ([1], [1]), ([], []), ([3], [3]), ([4], [4]), ([], []), ([6], [6]), ([], []), ([8], [8]), ([], []), ([10], [10]), ([9, 11], [9, 11]), ([7, 12], [7, 12]), ([5, 13], [5, 13]), ([2, 14], [2, 14])])
def thatchref07_agree.B11 : List Nat := [0, 1, 3, 0, 8, 24, 0, 64, 0, 256, 0, 1024, 3840, 8128, 16376, 32767]
theorem thatchref07_agree.tab11 : rtab .any (opsOf Try.f53 11) = thatchref07_agree.T11 := by kernel_rfl
theorem thatchref07_agree.bits11 : waitsOk thatchref07_agree.T11.2 thatchref07_agree.B11 = true := by kernel_rfl
set_option maxHeartbeats 8000000 in
set_option maxRecDepth 100000 in
theorem thatchref07_agree.calls (k : Nat) (A0_0 : Option Addr) (c0_0 : Nat) (l0_0 : List (S32)) (A0_1 : Option Addr) (c0_1 : Nat) (l0_1 : List (S55)) (a0_2 : Int) (a0_3 : Int) (a0_4 : Int) (A0_5 : Option Addr) (c0_5 : Nat) (l0_5 : List (S67)) (r : Bool) (w : World) (hr0_0 : Kd.C k32 w A0_0 l0_0.length l0_0) (hc0_0 : l0_0.length ≤ c0_0) (hr0_1 : Kd.C k55 w A0_1 l0_1.length l0_1) (hc0_1 : l0_1.length ≤ c0_1) (hr0_5 : Kd.C k67 w A0_5 l0_5.length l0_5) (hc0_5 : l0_5.length ≤ c0_5) (h : thatchref07_agree.f k l0_0 l0_1 a0_2 a0_3 a0_4 l0_5 = some r) :
  Calls Try.prog 53 #[.agg #[.slice A0_0 l0_0.length c0_0, .slice A0_1 l0_1.length c0_1, .int .i64 a0_2, .int .i64 a0_3, .int .i64 a0_4, .slice A0_5 l0_5.length c0_5]] w fun e w' => e = .returned (.bool r) ∧ Below w.heap.size w w' := by
 have hu30 := Try.underlying30
 have hu67 := Try.underlying67
 have hu32 := Try.underlying32
 have HR0_0 := Aside0.mk hr0_0
 have HC0_0 := Aside0.mk hc0_0
 clear hr0_0 hc0_0
 have HR0_1 := Aside0.mk hr0_1
 have HC0_1 := Aside0.mk hc0_1
 clear hr0_1 hc0_1
 have HR0_5 := Aside0.mk hr0_5
 have HC0_5 := Aside0.mk hc0_5
 clear hr0_5 hc0_5
 have HB := Aside0.mk (Below.refl w.heap.size w)
 have H : (thatchref07_agree.l0 k 0 l0_0 l0_1 a0_2 a0_3 a0_4 l0_5) = some r := h
 clear h
 have H' := Aside0.mk H
 clear H
 go_enter Try.func53, Try.ntmps53
 go_wp2_with (first | ((with_reducible refine gate_dst (N := 1) rfl ?_); refine zx 1 #[.slice A0_0 l0_0.length c0_0, .slice A0_1 l0_1.length c0_1, .int .i64 a0_2, .int .i64 a0_3, .int .i64 a0_4, .slice A0_5 l0_5.length c0_5] 30 ?_; intro gb255 hg w2 hbox hb; have n0_ := zY HB hb; have n1_ := Aside0.mk (hbox); have n2_ := zS hg HB; have n3_ := zS hg HB; clear HB; have HB := n0_; have BK255 := n1_; have GW255 := n2_; have GE255 := n3_; clear n0_ n1_ n2_ n3_; clear hb hbox hg))
 go_loopg [3] k (fun kq v3 w' => ∃ (x3_1 : Int), v3 = .int .i64 x3_1 ∧ Aside0 (thatchref07_agree.l0 kq x3_1 l0_0 l0_1 a0_2 a0_3 a0_4 l0_5 = some r) ∧ Aside0 (kq ≤ k) ∧ Aside0 (w'.heap[gb255]? = some (.cells #[(.slice A0_0 l0_0.length c0_0), (.slice A0_1 l0_1.length c0_1), .int .i64 a0_2, .int .i64 a0_3, .int .i64 a0_4, (.slice A0_5 l0_5.length c0_5)] 30 (0, 0))) ∧ Aside0 (Below w.heap.size w w'))
 case atStart => exact ⟨(0), zq, H', ⟨Nat.le_refl _⟩, ⟨zb BK255⟩, ⟨zw HB⟩⟩
 case round =>
  clear H'; try clear p2
  obtain ⟨x3_1, rfl, HA, HK1, BK255, HB⟩ := hrel
  cases gk with
  | zero => exact absurd HA.out (by simp [thatchref07_agree.l0])
  | succ k1 =>
   have H := HA.out
   clear HA
   simp only [thatchref07_agree.l0] at H
   by_cases c3 : x3_1 < (l0_5.length : Int)
   ·rw [if_pos c3] at H
    have c3b0 : decide (x3_1 < (l0_5.length : Int)) = true := decide_eq_true c3
    clear c3
    by_cases c4 : 0 ≤ x3_1
    ·rw [if_pos c4] at H
     have c4b0 : decide (0 ≤ x3_1) = true := decide_eq_true c4
     clear c4
     have HC5 := Aside0.mk H
     clear H
     obtain ⟨hcz6_0, hcz6_1, hcz6_2, hcz6_3, hcz6_4, hcz6_5, hfz6_0, hfz6_1, hfz6_2, hfz6_3, hfz6_4, hfz6_5⟩ := zk6 BK255
     have p256 : 0 ≤ (x3_1 : Int) := of_decide_eq_true zj
     have q256 : x3_1 < (l0_5.length : Int) := of_decide_eq_true zj
     obtain ⟨ad256, e256, hx256_0, hx256_1, hx256_2, hx256_3⟩ := at_T67 HR0_5.out x3_1 p256 q256
     cases e256
     replace hx256_0 := zu hx256_0 HB
     replace hx256_1 := zu hx256_1 HB
     replace hx256_2 := zu hx256_2 HB
     replace hx256_3 := zu hx256_3 HB
     replace p256 := eq_true p256
     replace q256 := eq_true q256
     go_upto_region 5 with (first | ((with_reducible refine gate_dst (N := 4) rfl ?_); refine zx 4 #[.int .i64 0, .int .i64 0, .int .i64 0, .int .i64 0] 67 ?_; intro gb257 hg w7 hbox hb; have n0_ := zD BK255 hb; have n1_ := zY HB hb; have n2_ := Aside0.mk (hbox); have n3_ := zS hg HB; have n4_ := zS hg HB; have n5_ := zN hg BK255; have n6_ := zM hg BK255; clear BK255; clear HB; have BK255 := n0_; have HB := n1_; have BK257 := n2_; have GW257 := n3_; have GE257 := n4_; have NB255_257 := n5_; have NB257_255 := n6_; clear n0_ n1_ n2_ n3_ n4_ n5_ n6_; clear hb hbox hg; have hnb8 := NB257_255.out; have hnc8 := NB255_257.out; obtain ⟨hcz9_0, hcz9_1, hcz9_2, hcz9_3, hfz9_0, hfz9_1, hfz9_2, hfz9_3⟩ := zk4 BK257))
     (try simp only [Act.put, List.setIfInBounds_toArray, List.set_cons_zero, List.set_cons_succ])
     go_cut [34] (fun v34 wc => ∃ (kq : Nat) (x34_4 : Bool), v34 = .bool x34_4 ∧ Aside0 (thatchref07_agree.j1 kq x3_1 x34_4 l0_0 l0_1 a0_2 a0_3 a0_4 l0_5 ((rd_T67 l0_5 x3_1).f0.f0) ((rd_T67 l0_5 x3_1).f0.f1) ((rd_T67 l0_5 x3_1).f1.f0) ((rd_T67 l0_5 x3_1).f1.f1) = some r) ∧ Aside0 (kq ≤ k1) ∧ Aside0 (wc.heap[gb255]? = some (.cells #[(.slice A0_0 l0_0.length c0_0), (.slice A0_1 l0_1.length c0_1), .int .i64 a0_2, .int .i64 a0_3, .int .i64 a0_4, (.slice (some ad256) l0_5.length c0_5)] 30 (0, 0))) ∧ Aside0 (wc.heap[gb257]? = some (.cells #[.int .i64 ((rd_T67 l0_5 x3_1).f0.f0), .int .i64 ((rd_T67 l0_5 x3_1).f0.f1), .int .i64 ((rd_T67 l0_5 x3_1).f1.f0), .int .i64 ((rd_T67 l0_5 x3_1).f1.f1)] 67 (0, 0))) ∧ Aside0 (Below w.heap.size w wc))
     case first =>
      have H := HC5.out
      clear HC5
      by_cases c10 : ((rd_T67 l0_5 x3_1).f1.f0) > a0_4
      ·rw [if_pos c10] at H
       have c10b0 : decide (a0_4 < ((rd_T67 l0_5 x3_1).f1.f0)) = true := decide_eq_true c10
       clear c10
       (first | rw [c10b0] | (simp only [i64_w, i32_w]; rw [c10b0]) | skip)
       have H' := Aside0.mk H
       clear H
       have hnb11 := NB257_255.out
       have hnc11 := NB255_257.out
       obtain ⟨hcz12_0, hcz12_1, hcz12_2, hcz12_3, hfz12_0, hfz12_1, hfz12_2, hfz12_3⟩ := zk4 BK257
       obtain ⟨hcz13_0, hcz13_1, hcz13_2, hcz13_3, hcz13_4, hcz13_5, hfz13_0, hfz13_1, hfz13_2, hfz13_3, hfz13_4, hfz13_5⟩ := zk6 BK255
       go_wp2
       go_meet
       case rel => exact ⟨_, (true), zq, H', ⟨by have := HK1.out; first | omega | exact Nat.le_refl _⟩, ⟨zv BK255⟩, ⟨by refine zQ ?_; refine blk_put (cs := #[.int .i64 ((rd_T67 l0_5 x3_1).f0.f0), .int .i64 ((rd_T67 l0_5 x3_1).f0.f1), .int .i64 ((rd_T67 l0_5 x3_1).f1.f0), .int .i64 0]) ?_ 3 _ rfl; refine zQ ?_; refine blk_put (cs := #[.int .i64 ((rd_T67 l0_5 x3_1).f0.f0), .int .i64 ((rd_T67 l0_5 x3_1).f0.f1), .int .i64 0, .int .i64 0]) ?_ 2 _ rfl; refine zQ ?_; refine blk_put (cs := #[.int .i64 ((rd_T67 l0_5 x3_1).f0.f0), .int .i64 0, .int .i64 0, .int .i64 0]) ?_ 1 _ rfl; refine zQ ?_; refine blk_put (cs := #[.int .i64 0, .int .i64 0, .int .i64 0, .int .i64 0]) ?_ 0 _ rfl; (with_reducible repeat (first | refine blk_drewN ?_ _ | refine blk_drew ?_ | refine blk_alloc ?_ _)); exact BK257.out⟩, ⟨zw HB⟩⟩
      rw [if_neg c10] at H
      have c10b0 : decide (a0_4 < ((rd_T67 l0_5 x3_1).f1.f0)) = false := decide_eq_false c10
      clear c10
      (first | rw [c10b0] | (simp only [i64_w, i32_w]; rw [c10b0]) | skip)
      have H' := Aside0.mk H
      clear H
      have hnb14 := NB257_255.out
      have hnc14 := NB255_257.out
      obtain ⟨hcz15_0, hcz15_1, hcz15_2, hcz15_3, hfz15_0, hfz15_1, hfz15_2, hfz15_3⟩ := zk4 BK257
      obtain ⟨hcz16_0, hcz16_1, hcz16_2, hcz16_3, hcz16_4, hcz16_5, hfz16_0, hfz16_1, hfz16_2, hfz16_3, hfz16_4, hfz16_5⟩ := zk6 BK255
      go_wp2
      go_meet
      case rel => exact ⟨_, (decide (((rd_T67 l0_5 x3_1).f1.f1) < a0_3)), zq, H', ⟨by have := HK1.out; first | omega | exact Nat.le_refl _⟩, ⟨zv BK255⟩, ⟨by refine zQ ?_; refine blk_put (cs := #[.int .i64 ((rd_T67 l0_5 x3_1).f0.f0), .int .i64 ((rd_T67 l0_5 x3_1).f0.f1), .int .i64 ((rd_T67 l0_5 x3_1).f1.f0), .int .i64 0]) ?_ 3 _ rfl; refine zQ ?_; refine blk_put (cs := #[.int .i64 ((rd_T67 l0_5 x3_1).f0.f0), .int .i64 ((rd_T67 l0_5 x3_1).f0.f1), .int .i64 0, .int .i64 0]) ?_ 2 _ rfl; refine zQ ?_; refine blk_put (cs := #[.int .i64 ((rd_T67 l0_5 x3_1).f0.f0), .int .i64 0, .int .i64 0, .int .i64 0]) ?_ 1 _ rfl; refine zQ ?_; refine blk_put (cs := #[.int .i64 0, .int .i64 0, .int .i64 0, .int .i64 0]) ?_ 0 _ rfl; (with_reducible repeat (first | refine blk_drewN ?_ _ | refine blk_drew ?_ | refine blk_alloc ?_ _)); exact BK257.out⟩, ⟨zw HB⟩⟩
     case rest =>
      clear HC5; try clear c1; try clear p2; try clear q2; try clear hx2; try clear c3; try clear c3b0; try clear c4; try clear c4b0; try clear c5; try clear c8; try clear c10; try clear c10b0; try clear c11; try clear c14; try clear hcz12_0 hcz12_1 hcz12_2 hcz12_3; try clear hcz13_0 hcz13_1 hcz13_2 hcz13_3 hcz13_4 hcz13_5; try clear hcz15_0 hcz15_1 hcz15_2 hcz15_3; try clear hcz16_0 hcz16_1 hcz16_2 hcz16_3 hcz16_4 hcz16_5; try clear hcz6_0 hcz6_1 hcz6_2 hcz6_3 hcz6_4 hcz6_5; try clear hcz9_0 hcz9_1 hcz9_2 hcz9_3; try clear hfz12_0 hfz12_1 hfz12_2 hfz12_3; try clear hfz13_0 hfz13_1 hfz13_2 hfz13_3 hfz13_4 hfz13_5; try clear hfz15_0 hfz15_1 hfz15_2 hfz15_3; try clear hfz16_0 hfz16_1 hfz16_2 hfz16_3 hfz16_4 hfz16_5; try clear hfz6_0 hfz6_1 hfz6_2 hfz6_3 hfz6_4 hfz6_5; try clear hfz9_0 hfz9_1 hfz9_2 hfz9_3; try clear hx256_0; try clear hx256_1; try clear hx256_2; try clear hx256_3; try clear p2; try clear p256; try clear q256
      obtain ⟨kq, x34_4, rfl, HA, HJ4, BK255, BK257, HB⟩ := hcut
      cases kq with
      | zero => exact absurd HA.out (by simp [thatchref07_agree.j1])
      | succ kj4 =>
       have H := HA.out
       clear HA
       simp only [thatchref07_agree.j1] at H
       by_cases c17 : x34_4 = true
       ·subst c17
        have H1 : (some false) = some r := by rw [if_pos rfl] at H; exact H
        clear H
        have H := H1
        clear H1
        obtain rfl := Option.some.inj H
        go_wp2
        go_ret
        exact ⟨ze, zw HB⟩
       replace c17 := Bool.eq_false_iff.mpr c17
       subst c17
       have H1 : (thatchref07_agree.l1 kj4 x3_1 0 l0_0 l0_1 a0_2 a0_3 a0_4 l0_5 ((rd_T67 l0_5 x3_1).f0.f0) ((rd_T67 l0_5 x3_1).f0.f1) ((rd_T67 l0_5 x3_1).f1.f0) ((rd_T67 l0_5 x3_1).f1.f1)) = some r := by rw [if_neg (show ¬ (false = true) by decide)] at H; exact H
       clear H
       have H := H1
       clear H1
       have H' := Aside0.mk H
       clear H
       go_wp2
       go_loopg [5] kj4 (fun kq v5 w' => ∃ (x5_3 : Int), v5 = .int .i64 x5_3 ∧ Aside0 (thatchref07_agree.l1 kq x3_1 x5_3 l0_0 l0_1 a0_2 a0_3 a0_4 l0_5 ((rd_T67 l0_5 x3_1).f0.f0) ((rd_T67 l0_5 x3_1).f0.f1) ((rd_T67 l0_5 x3_1).f1.f0) ((rd_T67 l0_5 x3_1).f1.f1) = some r) ∧ Aside0 (kq ≤ kj4) ∧ Aside0 (w'.heap[gb255]? = some (.cells #[(.slice A0_0 l0_0.length c0_0), (.slice A0_1 l0_1.length c0_1), .int .i64 a0_2, .int .i64 a0_3, .int .i64 a0_4, (.slice (some ad256) l0_5.length c0_5)] 30 (0, 0))) ∧ Aside0 (w'.heap[gb257]? = some (.cells #[.int .i64 ((rd_T67 l0_5 x3_1).f0.f0), .int .i64 ((rd_T67 l0_5 x3_1).f0.f1), .int .i64 ((rd_T67 l0_5 x3_1).f1.f0), .int .i64 ((rd_T67 l0_5 x3_1).f1.f1)] 67 (0, 0))) ∧ Aside0 (Below w.heap.size w w'))
       case atStart => exact ⟨(0), zq, H', ⟨Nat.le_refl _⟩, ⟨zb BK255⟩, ⟨zb BK257⟩, ⟨zw HB⟩⟩
       case round =>
        clear H'; try clear c1; try clear p2; try clear q2; try clear hx2; try clear c3; try clear c3b0; try clear c4; try clear c4b0; try clear c5; try clear c8; try clear c10; try clear c10b0; try clear c11; try clear c14; try clear c17; try clear hcz12_0 hcz12_1 hcz12_2 hcz12_3; try clear hcz13_0 hcz13_1 hcz13_2 hcz13_3 hcz13_4 hcz13_5; try clear hcz15_0 hcz15_1 hcz15_2 hcz15_3; try clear hcz16_0 hcz16_1 hcz16_2 hcz16_3 hcz16_4 hcz16_5; try clear hcz6_0 hcz6_1 hcz6_2 hcz6_3 hcz6_4 hcz6_5; try clear hcz9_0 hcz9_1 hcz9_2 hcz9_3; try clear hfz12_0 hfz12_1 hfz12_2 hfz12_3; try clear hfz13_0 hfz13_1 hfz13_2 hfz13_3 hfz13_4 hfz13_5; try clear hfz15_0 hfz15_1 hfz15_2 hfz15_3; try clear hfz16_0 hfz16_1 hfz16_2 hfz16_3 hfz16_4 hfz16_5; try clear hfz6_0 hfz6_1 hfz6_2 hfz6_3 hfz6_4 hfz6_5; try clear hfz9_0 hfz9_1 hfz9_2 hfz9_3; try clear hx256_0; try clear hx256_1; try clear hx256_2; try clear hx256_3; try clear p2; try clear p256; try clear q2; try clear q256
        obtain ⟨x5_3, rfl, HA, HK3, BK255, BK257, HB⟩ := hrel
        cases gk with
        | zero => exact absurd HA.out (by simp [thatchref07_agree.l1])
        | succ k3 =>
         have H := HA.out
         clear HA
         simp only [thatchref07_agree.l1] at H
         by_cases c18 : x5_3 < (l0_5.length : Int)
         ·rw [if_pos c18] at H
          have c18b0 : decide (x5_3 < (l0_5.length : Int)) = true := decide_eq_true c18
          clear c18
          by_cases c19 : 0 ≤ x5_3
          ·rw [if_pos c19] at H
           have c19b0 : decide (0 ≤ x5_3) = true := decide_eq_true c19
           clear c19
           replace H := Option.bind_eq_some_iff.mp H
           obtain ⟨t260, A200, H⟩ := H
           replace H : (if ((rd_T67 l0_5 x3_1).f1.f0) > (wrap64 (((rd_T67 l0_5 x5_3).f1.f1) + (wrap64 (a0_2 * t260)))) then (some false) else (thatchref07_agree.l1 k3 x3_1 (wrap64 (x5_3 + 1)) l0_0 l0_1 a0_2 a0_3 a0_4 l0_5 ((rd_T67 l0_5 x3_1).f0.f0) ((rd_T67 l0_5 x3_1).f0.f1) ((rd_T67 l0_5 x3_1).f1.f0) ((rd_T67 l0_5 x3_1).f1.f1))) = some r := H
           have A20 := Aside0.mk A200
           clear A200
           by_cases c21 : ((rd_T67 l0_5 x3_1).f1.f0) > (wrap64 (((rd_T67 l0_5 x5_3).f1.f1) + (wrap64 (a0_2 * t260))))
           ·rw [if_pos c21] at H
            have c21b0 : decide ((wrap64 (((rd_T67 l0_5 x5_3).f1.f1) + (wrap64 (a0_2 * t260)))) < ((rd_T67 l0_5 x3_1).f1.f0)) = true := decide_eq_true c21
            clear c21
            obtain rfl := Option.some.inj H
            have hnb22 := NB255_257.out
            have hnc22 := NB257_255.out
            obtain ⟨hcz23_0, hcz23_1, hcz23_2, hcz23_3, hcz23_4, hcz23_5, hfz23_0, hfz23_1, hfz23_2, hfz23_3, hfz23_4, hfz23_5⟩ := zk6 BK255
            have p258 : 0 ≤ (x5_3 : Int) := of_decide_eq_true zj
            have q258 : x5_3 < (l0_5.length : Int) := of_decide_eq_true zj
            obtain ⟨ad258, e258, hx258_0, hx258_1, hx258_2, hx258_3⟩ := at_T67 HR0_5.out x5_3 p258 q258
            obtain rfl : ad256 = ad258 := (by injection e258)
            replace hx258_0 := zu hx258_0 HB
            replace hx258_1 := zu hx258_1 HB
            replace hx258_2 := zu hx258_2 HB
            replace hx258_3 := zu hx258_3 HB
            replace p258 := eq_true p258
            replace q258 := eq_true q258
            try go_wp2_with (first | ((with_reducible refine gate_dst (N := 6) rfl ?_); refine zx 6 #[.int .i64 0, .int .i64 0, .int .i64 0, .int .i64 0] 67 ?_; intro gb259 hg w24 hbox hb; have n0_ := zD BK255 hb; have n1_ := zD BK257 hb; have n2_ := zY HB hb; have n3_ := Aside0.mk (hbox); have n4_ := zS hg HB; have n5_ := zS hg HB; have n6_ := zN hg BK255; have n7_ := zM hg BK255; have n8_ := zN hg BK257; have n9_ := zM hg BK257; clear BK255; clear BK257; clear HB; have BK255 := n0_; have BK257 := n1_; have HB := n2_; have BK259 := n3_; have GW259 := n4_; have GE259 := n5_; have NB255_259 := n6_; have NB259_255 := n7_; have NB257_259 := n8_; have NB259_257 := n9_; clear n0_ n1_ n2_ n3_ n4_ n5_ n6_ n7_ n8_ n9_; clear hb hbox hg; have hnb25 := NB259_255.out; have hnc25 := NB255_259.out; have hnb26 := NB259_257.out; have hnc26 := NB257_259.out; obtain ⟨hcz27_0, hcz27_1, hcz27_2, hcz27_3, hfz27_0, hfz27_1, hfz27_2, hfz27_3⟩ := zk4 BK259))
            have n0_ : Aside0 (((((w24.setCell ⟨gb259, 0, none⟩ (.int .i64 ((rd_T67 l0_5 x5_3).f0.f0))).setCell ⟨gb259, 1, none⟩ (.int .i64 ((rd_T67 l0_5 x5_3).f0.f1))).setCell ⟨gb259, 2, none⟩ (.int .i64 ((rd_T67 l0_5 x5_3).f1.f0))).setCell ⟨gb259, 3, none⟩ (.int .i64 ((rd_T67 l0_5 x5_3).f1.f1))).heap[gb255]? = some (.cells #[.slice A0_0 l0_0.length c0_0, .slice A0_1 l0_1.length c0_1, .int .i64 a0_2, .int .i64 a0_3, .int .i64 a0_4, .slice (some ad256) l0_5.length c0_5] 30 (0, 0))) := ⟨zv BK255⟩
            have n1_ : Aside0 (((((w24.setCell ⟨gb259, 0, none⟩ (.int .i64 ((rd_T67 l0_5 x5_3).f0.f0))).setCell ⟨gb259, 1, none⟩ (.int .i64 ((rd_T67 l0_5 x5_3).f0.f1))).setCell ⟨gb259, 2, none⟩ (.int .i64 ((rd_T67 l0_5 x5_3).f1.f0))).setCell ⟨gb259, 3, none⟩ (.int .i64 ((rd_T67 l0_5 x5_3).f1.f1))).heap[gb257]? = some (.cells #[.int .i64 ((rd_T67 l0_5 x3_1).f0.f0), .int .i64 ((rd_T67 l0_5 x3_1).f0.f1), .int .i64 ((rd_T67 l0_5 x3_1).f1.f0), .int .i64 ((rd_T67 l0_5 x3_1).f1.f1)] 67 (0, 0))) := ⟨zv BK257⟩
            have n2_ : Aside0 (((((w24.setCell ⟨gb259, 0, none⟩ (.int .i64 ((rd_T67 l0_5 x5_3).f0.f0))).setCell ⟨gb259, 1, none⟩ (.int .i64 ((rd_T67 l0_5 x5_3).f0.f1))).setCell ⟨gb259, 2, none⟩ (.int .i64 ((rd_T67 l0_5 x5_3).f1.f0))).setCell ⟨gb259, 3, none⟩ (.int .i64 ((rd_T67 l0_5 x5_3).f1.f1))).heap[gb259]? = some (.cells #[.int .i64 ((rd_T67 l0_5 x5_3).f0.f0), .int .i64 ((rd_T67 l0_5 x5_3).f0.f1), .int .i64 ((rd_T67 l0_5 x5_3).f1.f0), .int .i64 ((rd_T67 l0_5 x5_3).f1.f1)] 67 (0, 0))) := ⟨by refine zQ ?_; refine blk_put (cs := #[.int .i64 ((rd_T67 l0_5 x5_3).f0.f0), .int .i64 ((rd_T67 l0_5 x5_3).f0.f1), .int .i64 ((rd_T67 l0_5 x5_3).f1.f0), .int .i64 0]) ?_ 3 _ rfl; refine zQ ?_; refine blk_put (cs := #[.int .i64 ((rd_T67 l0_5 x5_3).f0.f0), .int .i64 ((rd_T67 l0_5 x5_3).f0.f1), .int .i64 0, .int .i64 0]) ?_ 2 _ rfl; refine zQ ?_; refine blk_put (cs := #[.int .i64 ((rd_T67 l0_5 x5_3).f0.f0), .int .i64 0, .int .i64 0, .int .i64 0]) ?_ 1 _ rfl; refine zQ ?_; refine blk_put (cs := #[.int .i64 0, .int .i64 0, .int .i64 0, .int .i64 0]) ?_ 0 _ rfl; (with_reducible repeat (first | refine blk_drewN ?_ _ | refine blk_drew ?_ | refine blk_alloc ?_ _)); exact BK259.out⟩
            have n3_ : Aside0 (Below w.heap.size w ((((w24.setCell ⟨gb259, 0, none⟩ (.int .i64 ((rd_T67 l0_5 x5_3).f0.f0))).setCell ⟨gb259, 1, none⟩ (.int .i64 ((rd_T67 l0_5 x5_3).f0.f1))).setCell ⟨gb259, 2, none⟩ (.int .i64 ((rd_T67 l0_5 x5_3).f1.f0))).setCell ⟨gb259, 3, none⟩ (.int .i64 ((rd_T67 l0_5 x5_3).f1.f1)))) := ⟨zw HB⟩
            (try clear BK255)
            (try clear BK257)
            (try clear BK259)
            (try clear HB)
            generalize ((((w24.setCell ⟨gb259, 0, none⟩ (.int .i64 ((rd_T67 l0_5 x5_3).f0.f0))).setCell ⟨gb259, 1, none⟩ (.int .i64 ((rd_T67 l0_5 x5_3).f0.f1))).setCell ⟨gb259, 2, none⟩ (.int .i64 ((rd_T67 l0_5 x5_3).f1.f0))).setCell ⟨gb259, 3, none⟩ (.int .i64 ((rd_T67 l0_5 x5_3).f1.f1))) = w28 at n0_ n1_ n2_ n3_ ⊢
            have BK255 := n0_
            have BK257 := n1_
            have BK259 := n2_
            have HB := n3_
            clear n0_ n1_ n2_ n3_
            have n0_ := Aside0.mk (blk_drew BK255.out)
            have n1_ := Aside0.mk (blk_drew BK257.out)
            have n2_ := Aside0.mk (blk_drew BK259.out)
            have n3_ := Aside0.mk (below_drew1 HB.out)
            clear BK255; clear BK257; clear BK259; clear HB
            have BK255 := n0_
            have BK257 := n1_
            have BK259 := n2_
            have HB := n3_
            clear n0_ n1_ n2_ n3_
            refine start_ (n := 16) (S := fun w' => w'.cell? ⟨gb257, 0, none⟩ = some (.int .i64 ((rd_T67 l0_5 x3_1).f0.f0)) ∧ w'.cell? ⟨gb257, 1, none⟩ = some (.int .i64 ((rd_T67 l0_5 x3_1).f0.f1)) ∧ w'.cell? ⟨gb257, 2, none⟩ = some (.int .i64 ((rd_T67 l0_5 x3_1).f1.f0)) ∧ w'.cell? ⟨gb257, 3, none⟩ = some (.int .i64 ((rd_T67 l0_5 x3_1).f1.f1)) ∧ w'.cell? ⟨gb259, 0, none⟩ = some (.int .i64 ((rd_T67 l0_5 x5_3).f0.f0)) ∧ w'.cell? ⟨gb259, 1, none⟩ = some (.int .i64 ((rd_T67 l0_5 x5_3).f0.f1)) ∧ w'.cell? ⟨gb259, 2, none⟩ = some (.int .i64 ((rd_T67 l0_5 x5_3).f1.f0)) ∧ w'.cell? ⟨gb259, 3, none⟩ = some (.int .i64 ((rd_T67 l0_5 x5_3).f1.f1)) ∧ w'.cell? ⟨gb255, 0, none⟩ = some (.slice A0_0 l0_0.length c0_0) ∧ w'.cell? ⟨gb255, 1, none⟩ = some (.slice A0_1 l0_1.length c0_1) ∧ w'.cell? ⟨gb255, 2, none⟩ = some (.int .i64 a0_2) ∧ w'.cell? ⟨gb255, 3, none⟩ = some (.int .i64 a0_3) ∧ w'.cell? ⟨gb255, 4, none⟩ = some (.int .i64 a0_4) ∧ w'.cell? ⟨gb255, 5, none⟩ = some (.slice (some ad256) l0_5.length c0_5)) (ds := []) #[Z0, Z0, Z0, Z0, Z0, Z0, Z0, Z0, Z0, Z0, Z0, Z0, Z0, Z0, Z0, Z0] (by kernel_rfl) rfl rfl ⟨(blk_cell BK257.out 0).trans rfl, (blk_cell BK257.out 1).trans rfl, (blk_cell BK257.out 2).trans rfl, (blk_cell BK257.out 3).trans rfl, (blk_cell BK259.out 0).trans rfl, (blk_cell BK259.out 1).trans rfl, (blk_cell BK259.out 2).trans rfl, (blk_cell BK259.out 3).trans rfl, (blk_cell BK255.out 0).trans rfl, (blk_cell BK255.out 1).trans rfl, (blk_cell BK255.out 2).trans rfl, (blk_cell BK255.out 3).trans rfl, (blk_cell BK255.out 4).trans rfl, (blk_cell BK255.out 5).trans rfl⟩ (fun hHeld => ?_); refine with_tabW thatchref07_agree.tab11 thatchref07_agree.bits11 (fun HT_ HW_ => ?_)
            generalize w28.drew = w29 at BK255 BK257 BK259 HB hHeld ⊢
            refine zp 0 (some 47) #[Z1, Z0, Z0, Z0, Z0, Z0, Z0, Z0, Z0, Z0, Z0, Z0, Z0, Z0, Z0, Z0] rfl rfl (any_of HT_.out (by kernel_rfl)) ?_
            refine zp 1 (some 48) #[Z1, Z1, Z0, Z0, Z0, Z0, Z0, Z0, Z0, Z0, Z0, Z0, Z0, Z0, Z0, Z0] rfl rfl (any_of HT_.out (by kernel_rfl)) ?_
            refine zp 3 (some 50) #[Z1, Z1, Z0, Z1, Z0, Z0, Z0, Z0, Z0, Z0, Z0, Z0, Z0, Z0, Z0, Z0] rfl rfl (any_of HT_.out (by kernel_rfl)) ?_
            refine zp 4 (some 51) #[Z1, Z1, Z0, Z1, Z1, Z0, Z0, Z0, Z0, Z0, Z0, Z0, Z0, Z0, Z0, Z0] rfl rfl (any_of HT_.out (by kernel_rfl)) ?_
            refine zp 6 (some 53) #[Z1, Z1, Z0, Z1, Z1, Z0, Z1, Z0, Z0, Z0, Z0, Z0, Z0, Z0, Z0, Z0] rfl rfl (any_of HT_.out (by kernel_rfl)) ?_
            refine zp 8 (some 55) #[Z1, Z1, Z0, Z1, Z1, Z0, Z1, Z0, Z1, Z0, Z0, Z0, Z0, Z0, Z0, Z0] rfl rfl (any_of HT_.out (by kernel_rfl)) ?_
            refine zp 10 (some 57) #[Z1, Z1, Z0, Z1, Z1, Z0, Z1, Z0, Z1, Z0, Z1, Z0, Z0, Z0, Z0, Z0] rfl rfl (any_of HT_.out (by kernel_rfl)) ?_
            refine take_ (i := 2) (N := some 49) (v := ?_) (a' := ?_) #[Z1, Z1, Z1, Z1, Z1, Z0, Z1, Z0, Z1, Z0, Z1, Z0, Z0, Z0, Z0, Z0] rfl rfl (take_ofW HT_.out HW_.out (by kernel_rfl)) (fun _ _ _ h => h) (Or.inl ⟨by rfl, ?_⟩) hHeld ?_ ?_
            rotate_left; · rintro w' ⟨s0, s1, s2, s3, s4, s5, s6, s7, s8, s9, s10, s11, s12, s13⟩; go_simp; with_reducible rfl
            rotate_left; · simp only [Act.put, List.setIfInBounds_toArray, List.set_cons_zero, List.set_cons_succ, i64_w, i32_w]; rfl
            refine take_ (i := 5) (N := some 52) (v := ?_) (a' := ?_) #[Z1, Z1, Z1, Z1, Z1, Z1, Z1, Z0, Z1, Z0, Z1, Z0, Z0, Z0, Z0, Z0] rfl rfl (take_ofW HT_.out HW_.out (by kernel_rfl)) (fun _ _ _ h => h) (Or.inl ⟨by rfl, ?_⟩) hHeld ?_ ?_
            rotate_left; · rintro w' ⟨s0, s1, s2, s3, s4, s5, s6, s7, s8, s9, s10, s11, s12, s13⟩; go_simp; with_reducible rfl
            rotate_left; · simp only [Act.put, List.setIfInBounds_toArray, List.set_cons_zero, List.set_cons_succ, i64_w, i32_w]; rfl
            refine take_ (i := 7) (N := some 54) (v := ?_) (a' := ?_) #[Z1, Z1, Z1, Z1, Z1, Z1, Z1, Z1, Z1, Z0, Z1, Z0, Z0, Z0, Z0, Z0] rfl rfl (take_ofW HT_.out HW_.out (by kernel_rfl)) (fun _ _ _ h => h) (Or.inl ⟨by rfl, ?_⟩) hHeld ?_ ?_
            rotate_left; · rintro w' ⟨s0, s1, s2, s3, s4, s5, s6, s7, s8, s9, s10, s11, s12, s13⟩; go_simp; with_reducible rfl
            rotate_left; · simp only [Act.put, List.setIfInBounds_toArray, List.set_cons_zero, List.set_cons_succ, i64_w, i32_w]; rfl
            refine take_ (i := 9) (N := some 56) (v := ?_) (a' := ?_) #[Z1, Z1, Z1, Z1, Z1, Z1, Z1, Z1, Z1, Z1, Z1, Z0, Z0, Z0, Z0, Z0] rfl rfl (take_ofW HT_.out HW_.out (by kernel_rfl)) (fun _ _ _ h => h) (Or.inl ⟨by rfl, ?_⟩) hHeld ?_ ?_
            rotate_left; · rintro w' ⟨s0, s1, s2, s3, s4, s5, s6, s7, s8, s9, s10, s11, s12, s13⟩; go_simp; with_reducible rfl
            rotate_left; · simp only [Act.put, List.setIfInBounds_toArray, List.set_cons_zero, List.set_cons_succ, i64_w, i32_w]; rfl
            refine take_ (i := 11) (N := some 58) (v := ?_) (a' := ?_) #[Z1, Z1, Z1, Z1, Z1, Z1, Z1, Z1, Z1, Z1, Z1, Z1, Z0, Z0, Z0, Z0] rfl rfl (take_ofW HT_.out HW_.out (by kernel_rfl)) (fun _ _ _ h => h) (Or.inl ⟨by rfl, ?_⟩) hHeld ?_ ?_
            rotate_left; · rintro w' ⟨s0, s1, s2, s3, s4, s5, s6, s7, s8, s9, s10, s11, s12, s13⟩; go_simp; with_reducible rfl
            rotate_left; · simp only [Act.put, List.setIfInBounds_toArray, List.set_cons_zero, List.set_cons_succ, i64_w, i32_w]; rfl
            refine one_ (i := 12) (N := some 59) #[Z1, Z1, Z1, Z1, Z1, Z1, Z1, Z1, Z1, Z1, Z1, Z1, Z1, Z0, Z0, Z0] rfl rfl (one_of HT_.out (by kernel_rfl)) (by decide) (fun K hK => ?_)
            refine goes_ Try.func64 (by kernel_rfl) rfl #[.agg #[.int .i64 ((rd_T67 l0_5 x3_1).f0.f0), .int .i64 ((rd_T67 l0_5 x3_1).f0.f1)], .agg #[.int .i64 ((rd_T67 l0_5 x5_3).f0.f0), .int .i64 ((rd_T67 l0_5 x5_3).f0.f1)]] (by rfl) rfl rfl za ?_
            with_reducible refine (thatchref07_far.calls ((rd_T67 l0_5 x3_1).f0.f0) ((rd_T67 l0_5 x3_1).f0.f1) ((rd_T67 l0_5 x5_3).f0.f0) ((rd_T67 l0_5 x5_3).f0.f1) t260 _ A20.out).mono ?_
            rintro e w30 ⟨rfl, hb⟩
            refine ⟨_, rfl, ?_⟩
            have n0_ := zD BK255 hb
            have n1_ := zD BK257 hb
            have n2_ := zD BK259 hb
            have n3_ := zY HB hb
            clear BK255; clear BK257; clear BK259; clear HB
            have BK255 := n0_
            have BK257 := n1_
            have BK259 := n2_
            have HB := n3_
            clear n0_ n1_ n2_ n3_
            (try clear hb)
            (try clear hb2)
            (try clear hk)
            (try clear hi)
            refine hK.out _ _ ⟨(blk_cell BK257.out 0).trans rfl, (blk_cell BK257.out 1).trans rfl, (blk_cell BK257.out 2).trans rfl, (blk_cell BK257.out 3).trans rfl, (blk_cell BK259.out 0).trans rfl, (blk_cell BK259.out 1).trans rfl, (blk_cell BK259.out 2).trans rfl, (blk_cell BK259.out 3).trans rfl, (blk_cell BK255.out 0).trans rfl, (blk_cell BK255.out 1).trans rfl, (blk_cell BK255.out 2).trans rfl, (blk_cell BK255.out 3).trans rfl, (blk_cell BK255.out 4).trans rfl, (blk_cell BK255.out 5).trans rfl⟩ (fun hHeld => ?_)
            clear hK K
            refine norm_ (a' := ?_) ?_ ?_
            rotate_left
            ·show Act.put _ (some 59) _ = _
             simp only [Act.put, List.setIfInBounds_toArray, List.set_cons_zero, List.set_cons_succ, i64_w, i32_w]
             rfl
            refine zp 13 (some 60) #[Z1, Z1, Z1, Z1, Z1, Z1, Z1, Z1, Z1, Z1, Z1, Z1, Z1, Z1, Z0, Z0] rfl rfl (any_of HT_.out (by kernel_rfl)) ?_
            refine zp 14 (some 61) #[Z1, Z1, Z1, Z1, Z1, Z1, Z1, Z1, Z1, Z1, Z1, Z1, Z1, Z1, Z1, Z0] rfl rfl (any_of HT_.out (by kernel_rfl)) ?_
            refine zp 15 (some 62) #[Z1, Z1, Z1, Z1, Z1, Z1, Z1, Z1, Z1, Z1, Z1, Z1, Z1, Z1, Z1, Z1] rfl rfl (any_of HT_.out (by kernel_rfl)) ?_
            refine done_ (done_of HT_.out (by kernel_rfl)) ?_
            try go_wp2
            go_ret
            exact ⟨ze, zw HB⟩
           rw [if_neg c21] at H
           have c21b0 : decide ((wrap64 (((rd_T67 l0_5 x5_3).f1.f1) + (wrap64 (a0_2 * t260)))) < ((rd_T67 l0_5 x3_1).f1.f0)) = false := decide_eq_false c21
           clear c21
           have H' := Aside0.mk H
           clear H
           have hnb31 := NB255_257.out
           have hnc31 := NB257_255.out
           obtain ⟨hcz32_0, hcz32_1, hcz32_2, hcz32_3, hcz32_4, hcz32_5, hfz32_0, hfz32_1, hfz32_2, hfz32_3, hfz32_4, hfz32_5⟩ := zk6 BK255
           have p258 : 0 ≤ (x5_3 : Int) := of_decide_eq_true zj
           have q258 : x5_3 < (l0_5.length : Int) := of_decide_eq_true zj
           obtain ⟨ad258, e258, hx258_0, hx258_1, hx258_2, hx258_3⟩ := at_T67 HR0_5.out x5_3 p258 q258
           obtain rfl : ad256 = ad258 := (by injection e258)
           replace hx258_0 := zu hx258_0 HB
           replace hx258_1 := zu hx258_1 HB
           replace hx258_2 := zu hx258_2 HB
           replace hx258_3 := zu hx258_3 HB
           replace p258 := eq_true p258
           replace q258 := eq_true q258
           try go_wp2_with (first | ((with_reducible refine gate_dst (N := 6) rfl ?_); refine zx 6 #[.int .i64 0, .int .i64 0, .int .i64 0, .int .i64 0] 67 ?_; intro gb259 hg w33 hbox hb; have n0_ := zD BK255 hb; have n1_ := zD BK257 hb; have n2_ := zY HB hb; have n3_ := Aside0.mk (hbox); have n4_ := zS hg HB; have n5_ := zS hg HB; have n6_ := zN hg BK255; have n7_ := zM hg BK255; have n8_ := zN hg BK257; have n9_ := zM hg BK257; clear BK255; clear BK257; clear HB; have BK255 := n0_; have BK257 := n1_; have HB := n2_; have BK259 := n3_; have GW259 := n4_; have GE259 := n5_; have NB255_259 := n6_; have NB259_255 := n7_; have NB257_259 := n8_; have NB259_257 := n9_; clear n0_ n1_ n2_ n3_ n4_ n5_ n6_ n7_ n8_ n9_; clear hb hbox hg; have hnb34 := NB259_255.out; have hnc34 := NB255_259.out; have hnb35 := NB259_257.out; have hnc35 := NB257_259.out; obtain ⟨hcz36_0, hcz36_1, hcz36_2, hcz36_3, hfz36_0, hfz36_1, hfz36_2, hfz36_3⟩ := zk4 BK259))
           have n0_ : Aside0 (((((w33.setCell ⟨gb259, 0, none⟩ (.int .i64 ((rd_T67 l0_5 x5_3).f0.f0))).setCell ⟨gb259, 1, none⟩ (.int .i64 ((rd_T67 l0_5 x5_3).f0.f1))).setCell ⟨gb259, 2, none⟩ (.int .i64 ((rd_T67 l0_5 x5_3).f1.f0))).setCell ⟨gb259, 3, none⟩ (.int .i64 ((rd_T67 l0_5 x5_3).f1.f1))).heap[gb255]? = some (.cells #[.slice A0_0 l0_0.length c0_0, .slice A0_1 l0_1.length c0_1, .int .i64 a0_2, .int .i64 a0_3, .int .i64 a0_4, .slice (some ad256) l0_5.length c0_5] 30 (0, 0))) := ⟨zv BK255⟩
           have n1_ : Aside0 (((((w33.setCell ⟨gb259, 0, none⟩ (.int .i64 ((rd_T67 l0_5 x5_3).f0.f0))).setCell ⟨gb259, 1, none⟩ (.int .i64 ((rd_T67 l0_5 x5_3).f0.f1))).setCell ⟨gb259, 2, none⟩ (.int .i64 ((rd_T67 l0_5 x5_3).f1.f0))).setCell ⟨gb259, 3, none⟩ (.int .i64 ((rd_T67 l0_5 x5_3).f1.f1))).heap[gb257]? = some (.cells #[.int .i64 ((rd_T67 l0_5 x3_1).f0.f0), .int .i64 ((rd_T67 l0_5 x3_1).f0.f1), .int .i64 ((rd_T67 l0_5 x3_1).f1.f0), .int .i64 ((rd_T67 l0_5 x3_1).f1.f1)] 67 (0, 0))) := ⟨zv BK257⟩
           have n2_ : Aside0 (((((w33.setCell ⟨gb259, 0, none⟩ (.int .i64 ((rd_T67 l0_5 x5_3).f0.f0))).setCell ⟨gb259, 1, none⟩ (.int .i64 ((rd_T67 l0_5 x5_3).f0.f1))).setCell ⟨gb259, 2, none⟩ (.int .i64 ((rd_T67 l0_5 x5_3).f1.f0))).setCell ⟨gb259, 3, none⟩ (.int .i64 ((rd_T67 l0_5 x5_3).f1.f1))).heap[gb259]? = some (.cells #[.int .i64 ((rd_T67 l0_5 x5_3).f0.f0), .int .i64 ((rd_T67 l0_5 x5_3).f0.f1), .int .i64 ((rd_T67 l0_5 x5_3).f1.f0), .int .i64 ((rd_T67 l0_5 x5_3).f1.f1)] 67 (0, 0))) := ⟨by refine zQ ?_; refine blk_put (cs := #[.int .i64 ((rd_T67 l0_5 x5_3).f0.f0), .int .i64 ((rd_T67 l0_5 x5_3).f0.f1), .int .i64 ((rd_T67 l0_5 x5_3).f1.f0), .int .i64 0]) ?_ 3 _ rfl; refine zQ ?_; refine blk_put (cs := #[.int .i64 ((rd_T67 l0_5 x5_3).f0.f0), .int .i64 ((rd_T67 l0_5 x5_3).f0.f1), .int .i64 0, .int .i64 0]) ?_ 2 _ rfl; refine zQ ?_; refine blk_put (cs := #[.int .i64 ((rd_T67 l0_5 x5_3).f0.f0), .int .i64 0, .int .i64 0, .int .i64 0]) ?_ 1 _ rfl; refine zQ ?_; refine blk_put (cs := #[.int .i64 0, .int .i64 0, .int .i64 0, .int .i64 0]) ?_ 0 _ rfl; (with_reducible repeat (first | refine blk_drewN ?_ _ | refine blk_drew ?_ | refine blk_alloc ?_ _)); exact BK259.out⟩
           have n3_ : Aside0 (Below w.heap.size w ((((w33.setCell ⟨gb259, 0, none⟩ (.int .i64 ((rd_T67 l0_5 x5_3).f0.f0))).setCell ⟨gb259, 1, none⟩ (.int .i64 ((rd_T67 l0_5 x5_3).f0.f1))).setCell ⟨gb259, 2, none⟩ (.int .i64 ((rd_T67 l0_5 x5_3).f1.f0))).setCell ⟨gb259, 3, none⟩ (.int .i64 ((rd_T67 l0_5 x5_3).f1.f1)))) := ⟨zw HB⟩
           (try clear BK255)
           (try clear BK257)
           (try clear BK259)
           (try clear HB)
           generalize ((((w33.setCell ⟨gb259, 0, none⟩ (.int .i64 ((rd_T67 l0_5 x5_3).f0.f0))).setCell ⟨gb259, 1, none⟩ (.int .i64 ((rd_T67 l0_5 x5_3).f0.f1))).setCell ⟨gb259, 2, none⟩ (.int .i64 ((rd_T67 l0_5 x5_3).f1.f0))).setCell ⟨gb259, 3, none⟩ (.int .i64 ((rd_T67 l0_5 x5_3).f1.f1))) = w37 at n0_ n1_ n2_ n3_ ⊢
           have BK255 := n0_
           have BK257 := n1_
           have BK259 := n2_
           have HB := n3_
           clear n0_ n1_ n2_ n3_
           have n0_ := Aside0.mk (blk_drew BK255.out)
           have n1_ := Aside0.mk (blk_drew BK257.out)
           have n2_ := Aside0.mk (blk_drew BK259.out)
           have n3_ := Aside0.mk (below_drew1 HB.out)
           clear BK255; clear BK257; clear BK259; clear HB
           have BK255 := n0_
           have BK257 := n1_
           have BK259 := n2_
           have HB := n3_
           clear n0_ n1_ n2_ n3_
           refine start_ (n := 16) (S := fun w' => w'.cell? ⟨gb257, 0, none⟩ = some (.int .i64 ((rd_T67 l0_5 x3_1).f0.f0)) ∧ w'.cell? ⟨gb257, 1, none⟩ = some (.int .i64 ((rd_T67 l0_5 x3_1).f0.f1)) ∧ w'.cell? ⟨gb257, 2, none⟩ = some (.int .i64 ((rd_T67 l0_5 x3_1).f1.f0)) ∧ w'.cell? ⟨gb257, 3, none⟩ = some (.int .i64 ((rd_T67 l0_5 x3_1).f1.f1)) ∧ w'.cell? ⟨gb259, 0, none⟩ = some (.int .i64 ((rd_T67 l0_5 x5_3).f0.f0)) ∧ w'.cell? ⟨gb259, 1, none⟩ = some (.int .i64 ((rd_T67 l0_5 x5_3).f0.f1)) ∧ w'.cell? ⟨gb259, 2, none⟩ = some (.int .i64 ((rd_T67 l0_5 x5_3).f1.f0)) ∧ w'.cell? ⟨gb259, 3, none⟩ = some (.int .i64 ((rd_T67 l0_5 x5_3).f1.f1)) ∧ w'.cell? ⟨gb255, 0, none⟩ = some (.slice A0_0 l0_0.length c0_0) ∧ w'.cell? ⟨gb255, 1, none⟩ = some (.slice A0_1 l0_1.length c0_1) ∧ w'.cell? ⟨gb255, 2, none⟩ = some (.int .i64 a0_2) ∧ w'.cell? ⟨gb255, 3, none⟩ = some (.int .i64 a0_3) ∧ w'.cell? ⟨gb255, 4, none⟩ = some (.int .i64 a0_4) ∧ w'.cell? ⟨gb255, 5, none⟩ = some (.slice (some ad256) l0_5.length c0_5)) (ds := []) #[Z0, Z0, Z0, Z0, Z0, Z0, Z0, Z0, Z0, Z0, Z0, Z0, Z0, Z0, Z0, Z0] (by kernel_rfl) rfl rfl ⟨(blk_cell BK257.out 0).trans rfl, (blk_cell BK257.out 1).trans rfl, (blk_cell BK257.out 2).trans rfl, (blk_cell BK257.out 3).trans rfl, (blk_cell BK259.out 0).trans rfl, (blk_cell BK259.out 1).trans rfl, (blk_cell BK259.out 2).trans rfl, (blk_cell BK259.out 3).trans rfl, (blk_cell BK255.out 0).trans rfl, (blk_cell BK255.out 1).trans rfl, (blk_cell BK255.out 2).trans rfl, (blk_cell BK255.out 3).trans rfl, (blk_cell BK255.out 4).trans rfl, (blk_cell BK255.out 5).trans rfl⟩ (fun hHeld => ?_); refine with_tabW thatchref07_agree.tab11 thatchref07_agree.bits11 (fun HT_ HW_ => ?_)
           generalize w37.drew = w38 at BK255 BK257 BK259 HB hHeld ⊢
           refine zp 0 (some 47) #[Z1, Z0, Z0, Z0, Z0, Z0, Z0, Z0, Z0, Z0, Z0, Z0, Z0, Z0, Z0, Z0] rfl rfl (any_of HT_.out (by kernel_rfl)) ?_
           refine zp 1 (some 48) #[Z1, Z1, Z0, Z0, Z0, Z0, Z0, Z0, Z0, Z0, Z0, Z0, Z0, Z0, Z0, Z0] rfl rfl (any_of HT_.out (by kernel_rfl)) ?_
           refine zp 3 (some 50) #[Z1, Z1, Z0, Z1, Z0, Z0, Z0, Z0, Z0, Z0, Z0, Z0, Z0, Z0, Z0, Z0] rfl rfl (any_of HT_.out (by kernel_rfl)) ?_
           refine zp 4 (some 51) #[Z1, Z1, Z0, Z1, Z1, Z0, Z0, Z0, Z0, Z0, Z0, Z0, Z0, Z0, Z0, Z0] rfl rfl (any_of HT_.out (by kernel_rfl)) ?_
           refine zp 6 (some 53) #[Z1, Z1, Z0, Z1, Z1, Z0, Z1, Z0, Z0, Z0, Z0, Z0, Z0, Z0, Z0, Z0] rfl rfl (any_of HT_.out (by kernel_rfl)) ?_
           refine zp 8 (some 55) #[Z1, Z1, Z0, Z1, Z1, Z0, Z1, Z0, Z1, Z0, Z0, Z0, Z0, Z0, Z0, Z0] rfl rfl (any_of HT_.out (by kernel_rfl)) ?_
           refine zp 10 (some 57) #[Z1, Z1, Z0, Z1, Z1, Z0, Z1, Z0, Z1, Z0, Z1, Z0, Z0, Z0, Z0, Z0] rfl rfl (any_of HT_.out (by kernel_rfl)) ?_
           refine take_ (i := 2) (N := some 49) (v := ?_) (a' := ?_) #[Z1, Z1, Z1, Z1, Z1, Z0, Z1, Z0, Z1, Z0, Z1, Z0, Z0, Z0, Z0, Z0] rfl rfl (take_ofW HT_.out HW_.out (by kernel_rfl)) (fun _ _ _ h => h) (Or.inl ⟨by rfl, ?_⟩) hHeld ?_ ?_
           rotate_left; · rintro w' ⟨s0, s1, s2, s3, s4, s5, s6, s7, s8, s9, s10, s11, s12, s13⟩; go_simp; with_reducible rfl
           rotate_left; · simp only [Act.put, List.setIfInBounds_toArray, List.set_cons_zero, List.set_cons_succ, i64_w, i32_w]; rfl
           refine take_ (i := 5) (N := some 52) (v := ?_) (a' := ?_) #[Z1, Z1, Z1, Z1, Z1, Z1, Z1, Z0, Z1, Z0, Z1, Z0, Z0, Z0, Z0, Z0] rfl rfl (take_ofW HT_.out HW_.out (by kernel_rfl)) (fun _ _ _ h => h) (Or.inl ⟨by rfl, ?_⟩) hHeld ?_ ?_
           rotate_left; · rintro w' ⟨s0, s1, s2, s3, s4, s5, s6, s7, s8, s9, s10, s11, s12, s13⟩; go_simp; with_reducible rfl
           rotate_left; · simp only [Act.put, List.setIfInBounds_toArray, List.set_cons_zero, List.set_cons_succ, i64_w, i32_w]; rfl
           refine take_ (i := 7) (N := some 54) (v := ?_) (a' := ?_) #[Z1, Z1, Z1, Z1, Z1, Z1, Z1, Z1, Z1, Z0, Z1, Z0, Z0, Z0, Z0, Z0] rfl rfl (take_ofW HT_.out HW_.out (by kernel_rfl)) (fun _ _ _ h => h) (Or.inl ⟨by rfl, ?_⟩) hHeld ?_ ?_
           rotate_left; · rintro w' ⟨s0, s1, s2, s3, s4, s5, s6, s7, s8, s9, s10, s11, s12, s13⟩; go_simp; with_reducible rfl
           rotate_left; · simp only [Act.put, List.setIfInBounds_toArray, List.set_cons_zero, List.set_cons_succ, i64_w, i32_w]; rfl
           refine take_ (i := 9) (N := some 56) (v := ?_) (a' := ?_) #[Z1, Z1, Z1, Z1, Z1, Z1, Z1, Z1, Z1, Z1, Z1, Z0, Z0, Z0, Z0, Z0] rfl rfl (take_ofW HT_.out HW_.out (by kernel_rfl)) (fun _ _ _ h => h) (Or.inl ⟨by rfl, ?_⟩) hHeld ?_ ?_
           rotate_left; · rintro w' ⟨s0, s1, s2, s3, s4, s5, s6, s7, s8, s9, s10, s11, s12, s13⟩; go_simp; with_reducible rfl
           rotate_left; · simp only [Act.put, List.setIfInBounds_toArray, List.set_cons_zero, List.set_cons_succ, i64_w, i32_w]; rfl
           refine take_ (i := 11) (N := some 58) (v := ?_) (a' := ?_) #[Z1, Z1, Z1, Z1, Z1, Z1, Z1, Z1, Z1, Z1, Z1, Z1, Z0, Z0, Z0, Z0] rfl rfl (take_ofW HT_.out HW_.out (by kernel_rfl)) (fun _ _ _ h => h) (Or.inl ⟨by rfl, ?_⟩) hHeld ?_ ?_
           rotate_left; · rintro w' ⟨s0, s1, s2, s3, s4, s5, s6, s7, s8, s9, s10, s11, s12, s13⟩; go_simp; with_reducible rfl
           rotate_left; · simp only [Act.put, List.setIfInBounds_toArray, List.set_cons_zero, List.set_cons_succ, i64_w, i32_w]; rfl
           refine one_ (i := 12) (N := some 59) #[Z1, Z1, Z1, Z1, Z1, Z1, Z1, Z1, Z1, Z1, Z1, Z1, Z1, Z0, Z0, Z0] rfl rfl (one_of HT_.out (by kernel_rfl)) (by decide) (fun K hK => ?_)
           refine goes_ Try.func64 (by kernel_rfl) rfl #[.agg #[.int .i64 ((rd_T67 l0_5 x3_1).f0.f0), .int .i64 ((rd_T67 l0_5 x3_1).f0.f1)], .agg #[.int .i64 ((rd_T67 l0_5 x5_3).f0.f0), .int .i64 ((rd_T67 l0_5 x5_3).f0.f1)]] (by rfl) rfl rfl za ?_
           with_reducible refine (thatchref07_far.calls ((rd_T67 l0_5 x3_1).f0.f0) ((rd_T67 l0_5 x3_1).f0.f1) ((rd_T67 l0_5 x5_3).f0.f0) ((rd_T67 l0_5 x5_3).f0.f1) t260 _ A20.out).mono ?_
           rintro e w39 ⟨rfl, hb⟩
           refine ⟨_, rfl, ?_⟩
           have n0_ := zD BK255 hb
           have n1_ := zD BK257 hb
           have n2_ := zD BK259 hb
           have n3_ := zY HB hb
           clear BK255; clear BK257; clear BK259; clear HB
           have BK255 := n0_
           have BK257 := n1_
           have BK259 := n2_
           have HB := n3_
           clear n0_ n1_ n2_ n3_
           (try clear hb)
           (try clear hb2)
           (try clear hk)
           (try clear hi)
           refine hK.out _ _ ⟨(blk_cell BK257.out 0).trans rfl, (blk_cell BK257.out 1).trans rfl, (blk_cell BK257.out 2).trans rfl, (blk_cell BK257.out 3).trans rfl, (blk_cell BK259.out 0).trans rfl, (blk_cell BK259.out 1).trans rfl, (blk_cell BK259.out 2).trans rfl, (blk_cell BK259.out 3).trans rfl, (blk_cell BK255.out 0).trans rfl, (blk_cell BK255.out 1).trans rfl, (blk_cell BK255.out 2).trans rfl, (blk_cell BK255.out 3).trans rfl, (blk_cell BK255.out 4).trans rfl, (blk_cell BK255.out 5).trans rfl⟩ (fun hHeld => ?_)
           clear hK K
           refine norm_ (a' := ?_) ?_ ?_
           rotate_left
           ·show Act.put _ (some 59) _ = _
            simp only [Act.put, List.setIfInBounds_toArray, List.set_cons_zero, List.set_cons_succ, i64_w, i32_w]
            rfl
           refine zp 13 (some 60) #[Z1, Z1, Z1, Z1, Z1, Z1, Z1, Z1, Z1, Z1, Z1, Z1, Z1, Z1, Z0, Z0] rfl rfl (any_of HT_.out (by kernel_rfl)) ?_
           refine zp 14 (some 61) #[Z1, Z1, Z1, Z1, Z1, Z1, Z1, Z1, Z1, Z1, Z1, Z1, Z1, Z1, Z1, Z0] rfl rfl (any_of HT_.out (by kernel_rfl)) ?_
           refine zp 15 (some 62) #[Z1, Z1, Z1, Z1, Z1, Z1, Z1, Z1, Z1, Z1, Z1, Z1, Z1, Z1, Z1, Z1] rfl rfl (any_of HT_.out (by kernel_rfl)) ?_
           refine done_ (done_of HT_.out (by kernel_rfl)) ?_
           try go_wp2
           go_roundg k3
           case measure => have := HK1.out; have := HJ4.out; have := HK3.out; omega
           case rel => exact ⟨(wrap64 (x5_3 + 1)), zq, H', ⟨by have := HK1.out; have := HJ4.out; have := HK3.out; omega⟩, ⟨zb BK255⟩, ⟨zb BK257⟩, ⟨zw HB⟩⟩
          rw [if_neg c19] at H
          exact absurd H (by simp)
         rw [if_neg c18] at H
         have c18b0 : decide (x5_3 < (l0_5.length : Int)) = false := decide_eq_false c18
         clear c18
         have H' := Aside0.mk H
         clear H
         have hnb40 := NB255_257.out
         have hnc40 := NB257_255.out
         obtain ⟨hcz41_0, hcz41_1, hcz41_2, hcz41_3, hcz41_4, hcz41_5, hfz41_0, hfz41_1, hfz41_2, hfz41_3, hfz41_4, hfz41_5⟩ := zk6 BK255
         go_wp2
         go_roundg k3
         case measure => have := HK1.out; have := HJ4.out; have := HK3.out; omega
         case rel => exact ⟨(wrap64 (x3_1 + 1)), zq, H', ⟨by have := HK1.out; have := HJ4.out; have := HK3.out; omega⟩, ⟨zb BK255⟩, ⟨zw HB⟩⟩
    rw [if_neg c4] at H
    exact absurd H (by simp)
   rw [if_neg c3] at H
   have c3b0 : decide (x3_1 < (l0_5.length : Int)) = false := decide_eq_false c3
   clear c3
   obtain rfl := Option.some.inj H
   obtain ⟨hcz42_0, hcz42_1, hcz42_2, hcz42_3, hcz42_4, hcz42_5, hfz42_0, hfz42_1, hfz42_2, hfz42_3, hfz42_4, hfz42_5⟩ := zk6 BK255
   go_wp2
   go_ret
   exact ⟨ze, zw HB⟩
end Go.Proofs.Ytcfpclehogdmbaa.Q
end
section
namespace Go.Proofs.Ytcfpclehogdmbaa.Q
open Go.RowKit Go.Proofs.YtcfpclehogdmbaaW.PrintWords Go.Proofs.YtcfpclehogdmbaaW.PrintLast Go.Proofs.YtcfpclehogdmbaaW.PrintMore
set_option linter.unusedVariables false
set_option linter.unusedSimpArgs false
def farV (a b : S32) : Int := wrap64 ((mx (wrap64 (a.f0 - b.f0)) (wrap64 (b.f0 - a.f0))) + (mx (wrap64 (a.f1 - b.f1)) (wrap64 (b.f1 - a.f1))))
def clashB (st : Int) (a b : S67) : Bool := decide (a.f1.f0 > wrap64 (b.f1.f1 + wrap64 (st * farV a.f0 b.f0)))
def agreeOne (st lo hi : Int) (l : List S67) (a : S67) : Bool := !(decide (a.f1.f0 > hi)) && !(decide (a.f1.f1 < lo)) && !(l.any (clashB st a))
theorem rd_get67 (l : List S67) {i : Nat} (h : i < l.length) : rd_T67 l (i : Int) = l[i] := by simp [rd_T67, List.getD_eq_getElem?_getD, List.getElem?_eq_getElem h]
theorem agree_l1 (l0 : List S32) (l1 : List S55) (st lo hi : Int) (l : List S67) (hl : l.length < 1000000) (i : Nat) (hi2 : i < l.length) (a : S67) (V : Bool) (h1 : Tells (fun k => thatchref07_agree.l0 k ((i + 1 : Nat) : Int) l0 l1 st lo hi l) V) : ∀ (d t : Nat), l.length - t = d → t ≤ l.length →
    Tells (fun k => thatchref07_agree.l1 k (i : Int) (t : Int) l0 l1 st lo hi l a.f0.f0 a.f0.f1 a.f1.f0 a.f1.f1) (!((l.drop t).any (clashB st a)) && V) := by
  intro d
  induction d with
  | zero =>
    intro t hd ht
    obtain rfl : t = l.length := by omega
    rw [List.drop_length, List.any_nil, Bool.not_false, Bool.true_and]
    exact Tells.succ h1 (fun k => by rw [thatchref07_agree.l1, if_neg (by omega), wrap_nat hi2 hl])
  | succ d ih =>
    intro t hd ht
    have hlt : t < l.length := by omega
    have hih := ih (t + 1) (by omega) (by omega)
    rw [List.drop_eq_getElem_cons hlt, List.any_cons]
    have hstep : ∀ k, thatchref07_agree.l1 (k + 1) (i : Int) (t : Int) l0 l1 st lo hi l a.f0.f0 a.f0.f1 a.f1.f0 a.f1.f1 = if clashB st a l[t] = true then some false else thatchref07_agree.l1 k (i : Int) ((t + 1 : Nat) : Int) l0 l1 st lo hi l a.f0.f0 a.f0.f1 a.f1.f0 a.f1.f1 := fun k => by
      rw [thatchref07_agree.l1, if_pos (by omega), if_pos (by omega), wrap_nat hlt hl, rd_get67 l hlt]
      simp only [thatchref07_far.f, Option.bind_some, clashB, decide_eq_true_eq]
      rfl
    by_cases hc : clashB st a l[t] = true
    · rw [hc, Bool.true_or, Bool.not_true, Bool.false_and]
      exact Tells.succ (h := fun _ => some false) (Tells.const fun _ => rfl) (fun k => by rw [hstep, if_pos hc])
    · rw [Bool.eq_false_iff.2 hc, Bool.false_or]
      exact Tells.succ hih (fun k => by rw [hstep, if_neg hc])
theorem agree_l0 (l0 : List S32) (l1 : List S55) (st lo hi : Int) (l : List S67) (hl : l.length < 1000000) : ∀ (d i : Nat), l.length - i = d → i ≤ l.length →
    Tells (fun k => thatchref07_agree.l0 k (i : Int) l0 l1 st lo hi l) ((l.drop i).all (agreeOne st lo hi l)) := by
  intro d
  induction d with
  | zero =>
    intro i hd hi2
    obtain rfl : i = l.length := by omega
    rw [List.drop_length, List.all_nil]
    exact Tells.succ (h := fun _ => some true) (Tells.const fun _ => rfl) (fun k => by rw [thatchref07_agree.l0, if_neg (by omega)])
  | succ d ih =>
    intro i hd hi2
    have hlt : i < l.length := by omega
    have h1 := agree_l1 l0 l1 st lo hi l hl i hlt l[i] _ (ih (i + 1) (by omega) (by omega)) l.length 0 (by omega) (by omega)
    rw [List.drop_zero] at h1
    rw [List.drop_eq_getElem_cons hlt, List.all_cons]
    have hj : Tells (fun k => thatchref07_agree.j1 k (i : Int) (decide (l[i].f1.f0 > hi) || decide (l[i].f1.f1 < lo)) l0 l1 st lo hi l l[i].f0.f0 l[i].f0.f1 l[i].f1.f0 l[i].f1.f1) (agreeOne st lo hi l l[i] && (l.drop (i + 1)).all (agreeOne st lo hi l)) := by
      cases hb : (decide (l[i].f1.f0 > hi) || decide (l[i].f1.f1 < lo)) with
      | true =>
        have e : agreeOne st lo hi l l[i] = false := by
          unfold agreeOne
          rcases Bool.or_eq_true_iff.1 hb with h | h
          · rw [h]; rfl
          · rw [h]; simp
        rw [e, Bool.false_and]
        exact Tells.succ (h := fun _ => some false) (Tells.const fun _ => rfl) (fun k => by rw [thatchref07_agree.j1, if_pos rfl])
      | false =>
        obtain ⟨e1, e2⟩ := Bool.or_eq_false_iff.1 hb
        have e : agreeOne st lo hi l l[i] = !(l.any (clashB st l[i])) := by unfold agreeOne; rw [e1, e2]; rfl
        rw [e]
        exact Tells.succ h1 (fun k => by rw [thatchref07_agree.j1, if_neg (by decide)]; rfl)
    refine Tells.succ hj (fun k => ?_)
    rw [thatchref07_agree.l0, if_pos (by omega), if_pos (by omega), rd_get67 l hlt]
    by_cases hc : l[i].f1.f0 > hi
    · rw [if_pos hc, decide_eq_true hc, Bool.true_or]
    · rw [if_neg hc, decide_eq_false hc, Bool.false_or]
end Go.Proofs.Ytcfpclehogdmbaa.Q
end
section
namespace Go.Proofs.Ytcfpclehogdmbaa.Q
open Go.RowKit Go.Proofs.YtcfpclehogdmbaaW.PrintWords Go.Proofs.YtcfpclehogdmbaaW.PrintLast Go.Proofs.YtcfpclehogdmbaaW.PrintMore
attribute [local go_sem] max2_int min2_int max_two min_two max_three min_three max_four min_four   -- for this text's walks alone
set_option linter.unusedVariables false
set_option linter.unusedSimpArgs false
mutual
def thatchref07_Check.l0 : Nat → Int → List (S32) → List (S55) → Int → Int → Int → List (S67) → Option (Int)
 | 0, _, _, _, _, _, _, _ => none
 | k + 1, x4, x262000, x262001, x262002, x262003, x262004, x262005 => if x4 < (x262001.length : Int) then (if 0 ≤ x4 then (if ((rd_T55 x262001 x4).f0.f0) ≥ ((rd_T55 x262001 x4).f1.f0) then (some 1) else (if ((rd_T55 x262001 x4).f0.f1) ≥ ((rd_T55 x262001 x4).f1.f1) then (some 1) else (thatchref07_Check.l0 k (wrap64 (x4 + 1)) x262000 x262001 x262002 x262003 x262004 x262005))) else (none)) else ((thatchref07_in.f x262002 0 1000).bind fun t265 => (if t265 = true then ((thatchref07_span.f x262003 x262004 2000).bind fun t266 => (thatchref07_Check.j1 k (!t266) x262000 x262001 x262002 x262003 x262004 x262005)) else (thatchref07_Check.j1 k true x262000 x262001 x262002 x262003 x262004 x262005)))
def thatchref07_Check.j1 : Nat → Bool → List (S32) → List (S55) → Int → Int → Int → List (S67) → Option (Int)
 | 0, _, _, _, _, _, _, _ => none
 | k + 1, x59, x262000, x262001, x262002, x262003, x262004, x262005 => if x59 = true then (some 1) else (if (x262005.length : Int) > 40 then (some 3) else (thatchref07_Check.l1 k 0 x262000 x262001 x262002 x262003 x262004 x262005))
def thatchref07_Check.l1 : Nat → Int → List (S32) → List (S55) → Int → Int → Int → List (S67) → Option (Int)
 | 0, _, _, _, _, _, _, _ => none
 | k + 1, x6, x262000, x262001, x262002, x262003, x262004, x262005 => if x6 < (x262005.length : Int) then (if 0 ≤ x6 then ((thatchref07_on.f k x262000 x262001 ((rd_T67 x262005 x6).f0.f0) ((rd_T67 x262005 x6).f0.f1)).bind fun t268 => (if t268 = true then ((thatchref07_span.f ((rd_T67 x262005 x6).f1.f0) ((rd_T67 x262005 x6).f1.f1) 2000).bind fun t270 => (if t270 = true then (thatchref07_Check.l1 k (wrap64 (x6 + 1)) x262000 x262001 x262002 x262003 x262004 x262005) else (some 1))) else (some 7))) else (none)) else (thatchref07_Check.l2 k 1 x262000 x262001 x262002 x262003 x262004 x262005)
def thatchref07_Check.l2 : Nat → Int → List (S32) → List (S55) → Int → Int → Int → List (S67) → Option (Int)
 | 0, _, _, _, _, _, _, _ => none
 | k + 1, x7, x262000, x262001, x262002, x262003, x262004, x262005 => if x7 < (x262005.length : Int) then (if 0 ≤ x7 then (if 0 ≤ (wrap64 (x7 - 1)) then (if (wrap64 (x7 - 1)) < (x262005.length : Int) then ((thatchref07_behind.f ((rd_T67 x262005 x7).f0.f0) ((rd_T67 x262005 x7).f0.f1) ((rd_T67 x262005 (wrap64 (x7 - 1))).f0.f0) ((rd_T67 x262005 (wrap64 (x7 - 1))).f0.f1)).bind fun t273 => (if t273 = true then (thatchref07_Check.l2 k (wrap64 (x7 + 1)) x262000 x262001 x262002 x262003 x262004 x262005) else (some 8))) else (none)) else (none)) else (none)) else ((thatchref07_agree.f k x262000 x262001 x262002 x262003 x262004 x262005).bind fun t274 => (if t274 = true then (some 0) else (some 10)))
end
def thatchref07_Check.f (k : Nat) (l0_0 : List (S32)) (l0_1 : List (S55)) (a0_2 : Int) (a0_3 : Int) (a0_4 : Int) (l0_5 : List (S67)) : Option (Int) := (thatchref07_outline.f k l0_0).bind fun t262 => (if t262 = 0 then (if (l0_1.length : Int) > 6 then (some 3) else (thatchref07_Check.l0 k 0 l0_0 l0_1 a0_2 a0_3 a0_4 l0_5)) else (some t262))
def thatchref07_Check.T19 : Bool × List (List Nat × List Nat) := (true, [([], []), ([0], [0]), ([], []), ([2], [2]), ([], []), ([3, 4], [3, 4]), ([5], [5]), ([6], [6]), ([1, 7], [1, 7]), ([8], [8])])
def thatchref07_Check.B19 : List Nat := [0, 1, 0, 4, 0, 28, 60, 124, 255, 511]
theorem thatchref07_Check.tab19 : rtab .any (opsOf Try.f28 19) = thatchref07_Check.T19 := by kernel_rfl
theorem thatchref07_Check.bits19 : waitsOk thatchref07_Check.T19.2 thatchref07_Check.B19 = true := by kernel_rfl
def thatchref07_Check.T26 : Bool × List (List Nat × List Nat) := (true, [([], []), ([0], [0]), ([], []), ([1, 2], [1, 2]), ([3], [3]), ([4], [4]), ([], []), ([6], [6]), ([], []), ([8], [8]), ([7, 9], [7, 9]), ([10], [10]), ([11], [11]), ([5, 12], [5, 12]), ([13], [13])])
def thatchref07_Check.B26 : List Nat := [0, 1, 0, 7, 15, 31, 0, 64, 0, 256, 960, 1984, 4032, 8191, 16383]
theorem thatchref07_Check.tab26 : rtab .any (opsOf Try.f28 26) = thatchref07_Check.T26 := by kernel_rfl
theorem thatchref07_Check.bits26 : waitsOk thatchref07_Check.T26.2 thatchref07_Check.B26 = true := by kernel_rfl
set_option maxHeartbeats 8000000 in
set_option maxRecDepth 100000 in
theorem thatchref07_Check.calls (k : Nat) (A0_0 : Option Addr) (c0_0 : Nat) (l0_0 : List (S32)) (A0_1 : Option Addr) (c0_1 : Nat) (l0_1 : List (S55)) (a0_2 : Int) (a0_3 : Int) (a0_4 : Int) (A0_5 : Option Addr) (c0_5 : Nat) (l0_5 : List (S67)) (r : Int) (w : World) (hr0_0 : Kd.C k32 w A0_0 l0_0.length l0_0) (hc0_0 : l0_0.length ≤ c0_0) (hr0_1 : Kd.C k55 w A0_1 l0_1.length l0_1) (hc0_1 : l0_1.length ≤ c0_1) (hr0_5 : Kd.C k67 w A0_5 l0_5.length l0_5) (hc0_5 : l0_5.length ≤ c0_5) (h : thatchref07_Check.f k l0_0 l0_1 a0_2 a0_3 a0_4 l0_5 = some r) :
  Calls Try.prog 28 #[.agg #[.slice A0_0 l0_0.length c0_0, .slice A0_1 l0_1.length c0_1, .int .i64 a0_2, .int .i64 a0_3, .int .i64 a0_4, .slice A0_5 l0_5.length c0_5]] w fun e w' => e = .returned (.int .i64 r) ∧ Below w.heap.size w w' := by
 have hu30 := Try.underlying30
 have hu55 := Try.underlying55
 have hu27 := Try.underlying27
 have hu25 := Try.underlying25
 have hu32 := Try.underlying32
 have HR0_0 := Aside0.mk hr0_0
 have HC0_0 := Aside0.mk hc0_0
 clear hr0_0 hc0_0
 have HR0_1 := Aside0.mk hr0_1
 have HC0_1 := Aside0.mk hc0_1
 clear hr0_1 hc0_1
 have HR0_5 := Aside0.mk hr0_5
 have HC0_5 := Aside0.mk hc0_5
 clear hr0_5 hc0_5
 have HB := Aside0.mk (Below.refl w.heap.size w)
 have H : ((thatchref07_outline.f k l0_0).bind fun t262 => (if t262 = 0 then (if (l0_1.length : Int) > 6 then (some 3) else (thatchref07_Check.l0 k 0 l0_0 l0_1 a0_2 a0_3 a0_4 l0_5)) else (some t262))) = some r := h
 clear h
 replace H := Option.bind_eq_some_iff.mp H
 obtain ⟨t262, A20, H⟩ := H
 replace H : (if t262 = 0 then (if (l0_1.length : Int) > 6 then (some 3) else (thatchref07_Check.l0 k 0 l0_0 l0_1 a0_2 a0_3 a0_4 l0_5)) else (some t262)) = some r := H
 have A2 := Aside0.mk A20
 clear A20
 by_cases c3 : t262 = 0
 ·rw [if_pos c3] at H
  have c3b0 : (t262 == 0) = true := beq_iff_eq.mpr c3
  have c3b1 : (t262 != 0) = false := bne_eq_false_iff_eq.mpr c3
  clear c3
  by_cases c4 : (l0_1.length : Int) > 6
  ·rw [if_pos c4] at H
   have c4b0 : decide (6 < (l0_1.length : Int)) = true := decide_eq_true c4
   have c4b1 : decide (6 < l0_1.length) = true := decide_eq_true (by omega)
   clear c4
   obtain rfl := Option.some.inj H
   go_enter Try.func28, Try.ntmps28
   go_wp2_with (first | ((with_reducible refine gate_dst (N := 1) rfl ?_); refine zx 1 #[.slice A0_0 l0_0.length c0_0, .slice A0_1 l0_1.length c0_1, .int .i64 a0_2, .int .i64 a0_3, .int .i64 a0_4, .slice A0_5 l0_5.length c0_5] 30 ?_; intro gb261 hg w5 hbox hb; have n0_ := zY HB hb; have n1_ := Aside0.mk (hbox); have n2_ := zS hg HB; have n3_ := zS hg HB; clear HB; have HB := n0_; have BK261 := n1_; have GW261 := n2_; have GE261 := n3_; clear n0_ n1_ n2_ n3_; clear hb hbox hg; obtain ⟨hcz6_0, hcz6_1, hcz6_2, hcz6_3, hcz6_4, hcz6_5, hfz6_0, hfz6_1, hfz6_2, hfz6_3, hfz6_4, hfz6_5⟩ := zk6 BK261) | ((with_reducible refine gate_callee (f := 51) rfl ?_); refine goesL_ (some 11) rfl rfl Try.func51 (by kernel_rfl) rfl #[.slice A0_0 l0_0.length c0_0] rfl za ?_; (with_reducible refine (thatchref07_outline.calls k _ _ l0_0 t262 _ ?side1 ?side2 A2.out).mono ?_); (case side1 => exact zl HR0_0 HB); (case side2 => exact HC0_0.out); rintro e w7 ⟨rfl, hb⟩; refine ⟨_, rfl, ?_⟩; have n0_ := zD BK261 hb; have n1_ := zY HB hb; clear BK261; clear HB; have BK261 := n0_; have HB := n1_; clear n0_ n1_; (try clear hb); (try clear hb2); (try clear hk); (try clear hi); obtain ⟨hcz8_0, hcz8_1, hcz8_2, hcz8_3, hcz8_4, hcz8_5, hfz8_0, hfz8_1, hfz8_2, hfz8_3, hfz8_4, hfz8_5⟩ := zk6 BK261))
   go_ret
   exact ⟨ze, zw HB⟩
  rw [if_neg c4] at H
  have c4b0 : decide (6 < (l0_1.length : Int)) = false := decide_eq_false c4
  have c4b1 : decide (6 < l0_1.length) = false := decide_eq_false (by omega)
  clear c4
  have H' := Aside0.mk H
  clear H
  go_enter Try.func28, Try.ntmps28
  go_wp2_with (first | ((with_reducible refine gate_dst (N := 1) rfl ?_); refine zx 1 #[.slice A0_0 l0_0.length c0_0, .slice A0_1 l0_1.length c0_1, .int .i64 a0_2, .int .i64 a0_3, .int .i64 a0_4, .slice A0_5 l0_5.length c0_5] 30 ?_; intro gb261 hg w9 hbox hb; have n0_ := zY HB hb; have n1_ := Aside0.mk (hbox); have n2_ := zS hg HB; have n3_ := zS hg HB; clear HB; have HB := n0_; have BK261 := n1_; have GW261 := n2_; have GE261 := n3_; clear n0_ n1_ n2_ n3_; clear hb hbox hg; obtain ⟨hcz10_0, hcz10_1, hcz10_2, hcz10_3, hcz10_4, hcz10_5, hfz10_0, hfz10_1, hfz10_2, hfz10_3, hfz10_4, hfz10_5⟩ := zk6 BK261) | ((with_reducible refine gate_callee (f := 51) rfl ?_); refine goesL_ (some 11) rfl rfl Try.func51 (by kernel_rfl) rfl #[.slice A0_0 l0_0.length c0_0] rfl za ?_; (with_reducible refine (thatchref07_outline.calls k _ _ l0_0 t262 _ ?side1 ?side2 A2.out).mono ?_); (case side1 => exact zl HR0_0 HB); (case side2 => exact HC0_0.out); rintro e w11 ⟨rfl, hb⟩; refine ⟨_, rfl, ?_⟩; have n0_ := zD BK261 hb; have n1_ := zY HB hb; clear BK261; clear HB; have BK261 := n0_; have HB := n1_; clear n0_ n1_; (try clear hb); (try clear hb2); (try clear hk); (try clear hi); obtain ⟨hcz12_0, hcz12_1, hcz12_2, hcz12_3, hcz12_4, hcz12_5, hfz12_0, hfz12_1, hfz12_2, hfz12_3, hfz12_4, hfz12_5⟩ := zk6 BK261))
  go_loopg [4] k (fun kq v4 w' => ∃ (x4_1 : Int), v4 = .int .i64 x4_1 ∧ Aside0 (thatchref07_Check.l0 kq x4_1 l0_0 l0_1 a0_2 a0_3 a0_4 l0_5 = some r) ∧ Aside0 (kq ≤ k) ∧ Aside0 (w'.heap[gb261]? = some (.cells #[(.slice A0_0 l0_0.length c0_0), (.slice A0_1 l0_1.length c0_1), .int .i64 a0_2, .int .i64 a0_3, .int .i64 a0_4, (.slice A0_5 l0_5.length c0_5)] 30 (0, 0))) ∧ Aside0 (Below w.heap.size w w'))
  case atStart => exact ⟨(0), zq, H', ⟨Nat.le_refl _⟩, ⟨zb BK261⟩, ⟨zw HB⟩⟩
  case round =>
   clear H'; try clear c2; try clear p2; try clear c3; try clear c3b0; try clear c3b1; try clear c4; try clear c4b0; try clear c4b1; try clear c5; try clear hcz10_0 hcz10_1 hcz10_2 hcz10_3 hcz10_4 hcz10_5; try clear hcz12_0 hcz12_1 hcz12_2 hcz12_3 hcz12_4 hcz12_5; try clear hcz6_0 hcz6_1 hcz6_2 hcz6_3 hcz6_4 hcz6_5; try clear hcz8_0 hcz8_1 hcz8_2 hcz8_3 hcz8_4 hcz8_5; try clear hfz10_0 hfz10_1 hfz10_2 hfz10_3 hfz10_4 hfz10_5; try clear hfz12_0 hfz12_1 hfz12_2 hfz12_3 hfz12_4 hfz12_5; try clear hfz6_0 hfz6_1 hfz6_2 hfz6_3 hfz6_4 hfz6_5; try clear hfz8_0 hfz8_1 hfz8_2 hfz8_3 hfz8_4 hfz8_5
   obtain ⟨x4_1, rfl, HA, HK1, BK261, HB⟩ := hrel
   cases gk with
   | zero => exact absurd HA.out (by simp [thatchref07_Check.l0])
   | succ k1 =>
    have H := HA.out
    clear HA
    simp only [thatchref07_Check.l0] at H
    by_cases c13 : x4_1 < (l0_1.length : Int)
    ·rw [if_pos c13] at H
     have c13b0 : decide (x4_1 < (l0_1.length : Int)) = true := decide_eq_true c13
     clear c13
     by_cases c14 : 0 ≤ x4_1
     ·rw [if_pos c14] at H
      have c14b0 : decide (0 ≤ x4_1) = true := decide_eq_true c14
      clear c14
      by_cases c15 : ((rd_T55 l0_1 x4_1).f0.f0) ≥ ((rd_T55 l0_1 x4_1).f1.f0)
      ·rw [if_pos c15] at H
       have c15b0 : decide (((rd_T55 l0_1 x4_1).f1.f0) ≤ ((rd_T55 l0_1 x4_1).f0.f0)) = true := decide_eq_true c15
       clear c15
       obtain rfl := Option.some.inj H
       obtain ⟨hcz16_0, hcz16_1, hcz16_2, hcz16_3, hcz16_4, hcz16_5, hfz16_0, hfz16_1, hfz16_2, hfz16_3, hfz16_4, hfz16_5⟩ := zk6 BK261
       have p263 : 0 ≤ (x4_1 : Int) := of_decide_eq_true zj
       have q263 : x4_1 < (l0_1.length : Int) := of_decide_eq_true zj
       obtain ⟨ad263, e263, hx263_0, hx263_1, hx263_2, hx263_3⟩ := at_T55 HR0_1.out x4_1 p263 q263
       cases e263
       replace hx263_0 := zu hx263_0 HB
       replace hx263_1 := zu hx263_1 HB
       replace hx263_2 := zu hx263_2 HB
       replace hx263_3 := zu hx263_3 HB
       replace p263 := eq_true p263
       replace q263 := eq_true q263
       go_wp2_with (first | ((with_reducible refine gate_dst (N := 5) rfl ?_); refine zx 5 #[.int .i64 0, .int .i64 0, .int .i64 0, .int .i64 0] 55 ?_; intro gb264 hg w17 hbox hb; have n0_ := zD BK261 hb; have n1_ := zY HB hb; have n2_ := Aside0.mk (hbox); have n3_ := zS hg HB; have n4_ := zS hg HB; have n5_ := zN hg BK261; have n6_ := zM hg BK261; clear BK261; clear HB; have BK261 := n0_; have HB := n1_; have BK264 := n2_; have GW264 := n3_; have GE264 := n4_; have NB261_264 := n5_; have NB264_261 := n6_; clear n0_ n1_ n2_ n3_ n4_ n5_ n6_; clear hb hbox hg; have hnb18 := NB264_261.out; have hnc18 := NB261_264.out; obtain ⟨hcz19_0, hcz19_1, hcz19_2, hcz19_3, hfz19_0, hfz19_1, hfz19_2, hfz19_3⟩ := zk4 BK264))
       go_ret
       exact ⟨ze, zw HB⟩
      rw [if_neg c15] at H
      have c15b0 : decide (((rd_T55 l0_1 x4_1).f1.f0) ≤ ((rd_T55 l0_1 x4_1).f0.f0)) = false := decide_eq_false c15
      clear c15
      by_cases c20 : ((rd_T55 l0_1 x4_1).f0.f1) ≥ ((rd_T55 l0_1 x4_1).f1.f1)
      ·rw [if_pos c20] at H
       have c20b0 : decide (((rd_T55 l0_1 x4_1).f1.f1) ≤ ((rd_T55 l0_1 x4_1).f0.f1)) = true := decide_eq_true c20
       clear c20
       obtain rfl := Option.some.inj H
       obtain ⟨hcz21_0, hcz21_1, hcz21_2, hcz21_3, hcz21_4, hcz21_5, hfz21_0, hfz21_1, hfz21_2, hfz21_3, hfz21_4, hfz21_5⟩ := zk6 BK261
       have p263 : 0 ≤ (x4_1 : Int) := of_decide_eq_true zj
       have q263 : x4_1 < (l0_1.length : Int) := of_decide_eq_true zj
       obtain ⟨ad263, e263, hx263_0, hx263_1, hx263_2, hx263_3⟩ := at_T55 HR0_1.out x4_1 p263 q263
       cases e263
       replace hx263_0 := zu hx263_0 HB
       replace hx263_1 := zu hx263_1 HB
       replace hx263_2 := zu hx263_2 HB
       replace hx263_3 := zu hx263_3 HB
       replace p263 := eq_true p263
       replace q263 := eq_true q263
       go_wp2_with (first | ((with_reducible refine gate_dst (N := 5) rfl ?_); refine zx 5 #[.int .i64 0, .int .i64 0, .int .i64 0, .int .i64 0] 55 ?_; intro gb264 hg w22 hbox hb; have n0_ := zD BK261 hb; have n1_ := zY HB hb; have n2_ := Aside0.mk (hbox); have n3_ := zS hg HB; have n4_ := zS hg HB; have n5_ := zN hg BK261; have n6_ := zM hg BK261; clear BK261; clear HB; have BK261 := n0_; have HB := n1_; have BK264 := n2_; have GW264 := n3_; have GE264 := n4_; have NB261_264 := n5_; have NB264_261 := n6_; clear n0_ n1_ n2_ n3_ n4_ n5_ n6_; clear hb hbox hg; have hnb23 := NB264_261.out; have hnc23 := NB261_264.out; obtain ⟨hcz24_0, hcz24_1, hcz24_2, hcz24_3, hfz24_0, hfz24_1, hfz24_2, hfz24_3⟩ := zk4 BK264))
       go_ret
       exact ⟨ze, zw HB⟩
      rw [if_neg c20] at H
      have c20b0 : decide (((rd_T55 l0_1 x4_1).f1.f1) ≤ ((rd_T55 l0_1 x4_1).f0.f1)) = false := decide_eq_false c20
      clear c20
      have H' := Aside0.mk H
      clear H
      obtain ⟨hcz25_0, hcz25_1, hcz25_2, hcz25_3, hcz25_4, hcz25_5, hfz25_0, hfz25_1, hfz25_2, hfz25_3, hfz25_4, hfz25_5⟩ := zk6 BK261
      have p263 : 0 ≤ (x4_1 : Int) := of_decide_eq_true zj
      have q263 : x4_1 < (l0_1.length : Int) := of_decide_eq_true zj
      obtain ⟨ad263, e263, hx263_0, hx263_1, hx263_2, hx263_3⟩ := at_T55 HR0_1.out x4_1 p263 q263
      cases e263
      replace hx263_0 := zu hx263_0 HB
      replace hx263_1 := zu hx263_1 HB
      replace hx263_2 := zu hx263_2 HB
      replace hx263_3 := zu hx263_3 HB
      replace p263 := eq_true p263
      replace q263 := eq_true q263
      go_wp2_with (first | ((with_reducible refine gate_dst (N := 5) rfl ?_); refine zx 5 #[.int .i64 0, .int .i64 0, .int .i64 0, .int .i64 0] 55 ?_; intro gb264 hg w26 hbox hb; have n0_ := zD BK261 hb; have n1_ := zY HB hb; have n2_ := Aside0.mk (hbox); have n3_ := zS hg HB; have n4_ := zS hg HB; have n5_ := zN hg BK261; have n6_ := zM hg BK261; clear BK261; clear HB; have BK261 := n0_; have HB := n1_; have BK264 := n2_; have GW264 := n3_; have GE264 := n4_; have NB261_264 := n5_; have NB264_261 := n6_; clear n0_ n1_ n2_ n3_ n4_ n5_ n6_; clear hb hbox hg; have hnb27 := NB264_261.out; have hnc27 := NB261_264.out; obtain ⟨hcz28_0, hcz28_1, hcz28_2, hcz28_3, hfz28_0, hfz28_1, hfz28_2, hfz28_3⟩ := zk4 BK264))
      go_roundg k1
      case measure => have := HK1.out; omega
      case rel => exact ⟨(wrap64 (x4_1 + 1)), zq, H', ⟨by have := HK1.out; omega⟩, ⟨zv BK261⟩, ⟨zw HB⟩⟩
     rw [if_neg c14] at H
     exact absurd H (by simp)
    rw [if_neg c13] at H
    have c13b0 : decide (x4_1 < (l0_1.length : Int)) = false := decide_eq_false c13
    clear c13
    have HC29 := Aside0.mk H
    clear H
    obtain ⟨hcz30_0, hcz30_1, hcz30_2, hcz30_3, hcz30_4, hcz30_5, hfz30_0, hfz30_1, hfz30_2, hfz30_3, hfz30_4, hfz30_5⟩ := zk6 BK261
    go_upto_region 12 with (fail)
    go_cut [59] (fun v59 wc => ∃ (kq : Nat) (x59_28 : Bool), v59 = .bool x59_28 ∧ Aside0 (thatchref07_Check.j1 kq x59_28 l0_0 l0_1 a0_2 a0_3 a0_4 l0_5 = some r) ∧ Aside0 (kq ≤ k1) ∧ Aside0 (wc.heap[gb261]? = some (.cells #[(.slice A0_0 l0_0.length c0_0), (.slice A0_1 l0_1.length c0_1), .int .i64 a0_2, .int .i64 a0_3, .int .i64 a0_4, (.slice A0_5 l0_5.length c0_5)] 30 (0, 0))) ∧ Aside0 (Below w.heap.size w wc))
    case first =>
     have H := HC29.out
     clear HC29
     replace H := Option.bind_eq_some_iff.mp H
     obtain ⟨t265, A310, H⟩ := H
     replace H : (if t265 = true then ((thatchref07_span.f a0_3 a0_4 2000).bind fun t266 => (thatchref07_Check.j1 k1 (!t266) l0_0 l0_1 a0_2 a0_3 a0_4 l0_5)) else (thatchref07_Check.j1 k1 true l0_0 l0_1 a0_2 a0_3 a0_4 l0_5)) = some r := H
     have A31 := Aside0.mk A310
     clear A310
     by_cases c32 : t265 = true
     ·subst c32
      have H1 : ((thatchref07_span.f a0_3 a0_4 2000).bind fun t266 => (thatchref07_Check.j1 k1 (!t266) l0_0 l0_1 a0_2 a0_3 a0_4 l0_5)) = some r := by rw [if_pos rfl] at H; exact H
      clear H
      have H := H1
      clear H1
      replace H := Option.bind_eq_some_iff.mp H
      obtain ⟨t266, A330, H⟩ := H
      replace H : (thatchref07_Check.j1 k1 (!t266) l0_0 l0_1 a0_2 a0_3 a0_4 l0_5) = some r := H
      have A33 := Aside0.mk A330
      clear A330
      have H' := Aside0.mk H
      clear H
      obtain ⟨hcz34_0, hcz34_1, hcz34_2, hcz34_3, hcz34_4, hcz34_5, hfz34_0, hfz34_1, hfz34_2, hfz34_3, hfz34_4, hfz34_5⟩ := zk6 BK261
      go_wp2_with (first | ((with_reducible refine gate_callee (f := 30) rfl ?_); refine goesL_ (some 52) rfl rfl Try.func30 (by kernel_rfl) rfl #[.int .i64 a0_2, .int .i64 0, .int .i64 1000] rfl za ?_; (with_reducible refine (thatchref07_in.calls a0_2 0 1000 true _ A31.out).mono ?_); rintro e w' ⟨rfl, ⟨nd, rfl⟩⟩; refine ⟨_, rfl, ?_⟩) | (go_at_call 52; (with_reducible refine (thatchref07_span.calls a0_3 a0_4 2000 t266 _ A33.out).mono ?_); rintro e w35 ⟨rfl, hb⟩; have n0_ := zD BK261 hb; have n1_ := zY HB hb; clear BK261; clear HB; have BK261 := n0_; have HB := n1_; clear n0_ n1_; (try clear hb); (try clear hb2); (try clear hk); (try clear hi)))
      go_meet
      case rel => exact ⟨_, (!t266), zq, H', ⟨by have := HK1.out; first | omega | exact Nat.le_refl _⟩, ⟨zb BK261⟩, ⟨zw HB⟩⟩
     replace c32 := Bool.eq_false_iff.mpr c32
     subst c32
     have H1 : (thatchref07_Check.j1 k1 true l0_0 l0_1 a0_2 a0_3 a0_4 l0_5) = some r := by rw [if_neg (show ¬ (false = true) by decide)] at H; exact H
     clear H
     have H := H1
     clear H1
     have H' := Aside0.mk H
     clear H
     obtain ⟨hcz36_0, hcz36_1, hcz36_2, hcz36_3, hcz36_4, hcz36_5, hfz36_0, hfz36_1, hfz36_2, hfz36_3, hfz36_4, hfz36_5⟩ := zk6 BK261
     go_wp2_with (first | ((with_reducible refine gate_callee (f := 30) rfl ?_); refine goesL_ (some 52) rfl rfl Try.func30 (by kernel_rfl) rfl #[.int .i64 a0_2, .int .i64 0, .int .i64 1000] rfl za ?_; (with_reducible refine (thatchref07_in.calls a0_2 0 1000 false _ A31.out).mono ?_); rintro e w' ⟨rfl, ⟨nd, rfl⟩⟩; refine ⟨_, rfl, ?_⟩))
     go_meet
     case rel => exact ⟨_, (true), zq, H', ⟨by have := HK1.out; first | omega | exact Nat.le_refl _⟩, ⟨zb BK261⟩, ⟨zw HB⟩⟩
    case rest =>
     clear HC29; try clear c1; try clear c2; try clear p2; try clear q2; try clear hx2; try clear c3; try clear c3b0; try clear c3b1; try clear c4; try clear c4b0; try clear c4b1; try clear c5; try clear p6; try clear c13; try clear c13b0; try clear c14; try clear c14b0; try clear c15; try clear c15b0; try clear c18; try clear c20; try clear c20b0; try clear c23; try clear p26; try clear q26; try clear hx26; try clear c27; try clear c28; try clear c30; try clear c32; try clear hcz10_0 hcz10_1 hcz10_2 hcz10_3 hcz10_4 hcz10_5; try clear hcz12_0 hcz12_1 hcz12_2 hcz12_3 hcz12_4 hcz12_5; try clear hcz16_0 hcz16_1 hcz16_2 hcz16_3 hcz16_4 hcz16_5; try clear hcz19_0 hcz19_1 hcz19_2 hcz19_3; try clear hcz21_0 hcz21_1 hcz21_2 hcz21_3 hcz21_4 hcz21_5; try clear hcz24_0 hcz24_1 hcz24_2 hcz24_3; try clear hcz25_0 hcz25_1 hcz25_2 hcz25_3 hcz25_4 hcz25_5; try clear hcz28_0 hcz28_1 hcz28_2 hcz28_3; try clear hcz30_0 hcz30_1 hcz30_2 hcz30_3 hcz30_4 hcz30_5; try clear hcz34_0 hcz34_1 hcz34_2 hcz34_3 hcz34_4 hcz34_5; try clear hcz36_0 hcz36_1 hcz36_2 hcz36_3 hcz36_4 hcz36_5; try clear hcz6_0 hcz6_1 hcz6_2 hcz6_3 hcz6_4 hcz6_5; try clear hcz8_0 hcz8_1 hcz8_2 hcz8_3 hcz8_4 hcz8_5; try clear hfz10_0 hfz10_1 hfz10_2 hfz10_3 hfz10_4 hfz10_5; try clear hfz12_0 hfz12_1 hfz12_2 hfz12_3 hfz12_4 hfz12_5; try clear hfz16_0 hfz16_1 hfz16_2 hfz16_3 hfz16_4 hfz16_5; try clear hfz19_0 hfz19_1 hfz19_2 hfz19_3; try clear hfz21_0 hfz21_1 hfz21_2 hfz21_3 hfz21_4 hfz21_5; try clear hfz24_0 hfz24_1 hfz24_2 hfz24_3; try clear hfz25_0 hfz25_1 hfz25_2 hfz25_3 hfz25_4 hfz25_5; try clear hfz28_0 hfz28_1 hfz28_2 hfz28_3; try clear hfz30_0 hfz30_1 hfz30_2 hfz30_3 hfz30_4 hfz30_5; try clear hfz34_0 hfz34_1 hfz34_2 hfz34_3 hfz34_4 hfz34_5; try clear hfz36_0 hfz36_1 hfz36_2 hfz36_3 hfz36_4 hfz36_5; try clear hfz6_0 hfz6_1 hfz6_2 hfz6_3 hfz6_4 hfz6_5; try clear hfz8_0 hfz8_1 hfz8_2 hfz8_3 hfz8_4 hfz8_5; try clear hx263_0; try clear hx263_1; try clear hx263_2; try clear hx263_3; try clear p2; try clear p263; try clear q263
     obtain ⟨kq, x59_28, rfl, HA, HJ28, BK261, HB⟩ := hcut
     cases kq with
     | zero => exact absurd HA.out (by simp [thatchref07_Check.j1])
     | succ kj28 =>
      have H := HA.out
      clear HA
      simp only [thatchref07_Check.j1] at H
      by_cases c37 : x59_28 = true
      ·subst c37
       have H1 : (some 1) = some r := by rw [if_pos rfl] at H; exact H
       clear H
       have H := H1
       clear H1
       obtain rfl := Option.some.inj H
       go_wp2
       go_ret
       exact ⟨ze, zw HB⟩
      replace c37 := Bool.eq_false_iff.mpr c37
      subst c37
      have H1 : (if (l0_5.length : Int) > 40 then (some 3) else (thatchref07_Check.l1 kj28 0 l0_0 l0_1 a0_2 a0_3 a0_4 l0_5)) = some r := by rw [if_neg (show ¬ (false = true) by decide)] at H; exact H
      clear H
      have H := H1
      clear H1
      by_cases c38 : (l0_5.length : Int) > 40
      ·rw [if_pos c38] at H
       have c38b0 : decide (40 < (l0_5.length : Int)) = true := decide_eq_true c38
       have c38b1 : decide (40 < l0_5.length) = true := decide_eq_true (by omega)
       clear c38
       obtain rfl := Option.some.inj H
       obtain ⟨hcz39_0, hcz39_1, hcz39_2, hcz39_3, hcz39_4, hcz39_5, hfz39_0, hfz39_1, hfz39_2, hfz39_3, hfz39_4, hfz39_5⟩ := zk6 BK261
       go_wp2
       go_ret
       exact ⟨ze, zw HB⟩
      rw [if_neg c38] at H
      have c38b0 : decide (40 < (l0_5.length : Int)) = false := decide_eq_false c38
      have c38b1 : decide (40 < l0_5.length) = false := decide_eq_false (by omega)
      clear c38
      have H' := Aside0.mk H
      clear H
      obtain ⟨hcz40_0, hcz40_1, hcz40_2, hcz40_3, hcz40_4, hcz40_5, hfz40_0, hfz40_1, hfz40_2, hfz40_3, hfz40_4, hfz40_5⟩ := zk6 BK261
      go_wp2
      go_loopg [6] kj28 (fun kq v6 w' => ∃ (x6_3 : Int), v6 = .int .i64 x6_3 ∧ Aside0 (thatchref07_Check.l1 kq x6_3 l0_0 l0_1 a0_2 a0_3 a0_4 l0_5 = some r) ∧ Aside0 (kq ≤ kj28) ∧ Aside0 (w'.heap[gb261]? = some (.cells #[(.slice A0_0 l0_0.length c0_0), (.slice A0_1 l0_1.length c0_1), .int .i64 a0_2, .int .i64 a0_3, .int .i64 a0_4, (.slice A0_5 l0_5.length c0_5)] 30 (0, 0))) ∧ Aside0 (Below w.heap.size w w'))
      case atStart => exact ⟨(0), zq, H', ⟨Nat.le_refl _⟩, ⟨zb BK261⟩, ⟨zw HB⟩⟩
      case round =>
       clear H'; try clear c1; try clear c2; try clear p2; try clear q2; try clear hx2; try clear c3; try clear c3b0; try clear c3b1; try clear c4; try clear c4b0; try clear c4b1; try clear c5; try clear p6; try clear c13; try clear c13b0; try clear c14; try clear c14b0; try clear c15; try clear c15b0; try clear c18; try clear c20; try clear c20b0; try clear c23; try clear p26; try clear q26; try clear hx26; try clear c27; try clear c28; try clear c30; try clear c32; try clear c37; try clear c38; try clear c38b0; try clear c38b1; try clear hcz10_0 hcz10_1 hcz10_2 hcz10_3 hcz10_4 hcz10_5; try clear hcz12_0 hcz12_1 hcz12_2 hcz12_3 hcz12_4 hcz12_5; try clear hcz16_0 hcz16_1 hcz16_2 hcz16_3 hcz16_4 hcz16_5; try clear hcz19_0 hcz19_1 hcz19_2 hcz19_3; try clear hcz21_0 hcz21_1 hcz21_2 hcz21_3 hcz21_4 hcz21_5; try clear hcz24_0 hcz24_1 hcz24_2 hcz24_3; try clear hcz25_0 hcz25_1 hcz25_2 hcz25_3 hcz25_4 hcz25_5; try clear hcz28_0 hcz28_1 hcz28_2 hcz28_3; try clear hcz30_0 hcz30_1 hcz30_2 hcz30_3 hcz30_4 hcz30_5; try clear hcz34_0 hcz34_1 hcz34_2 hcz34_3 hcz34_4 hcz34_5; try clear hcz36_0 hcz36_1 hcz36_2 hcz36_3 hcz36_4 hcz36_5; try clear hcz39_0 hcz39_1 hcz39_2 hcz39_3 hcz39_4 hcz39_5; try clear hcz40_0 hcz40_1 hcz40_2 hcz40_3 hcz40_4 hcz40_5; try clear hcz6_0 hcz6_1 hcz6_2 hcz6_3 hcz6_4 hcz6_5; try clear hcz8_0 hcz8_1 hcz8_2 hcz8_3 hcz8_4 hcz8_5; try clear hfz10_0 hfz10_1 hfz10_2 hfz10_3 hfz10_4 hfz10_5; try clear hfz12_0 hfz12_1 hfz12_2 hfz12_3 hfz12_4 hfz12_5; try clear hfz16_0 hfz16_1 hfz16_2 hfz16_3 hfz16_4 hfz16_5; try clear hfz19_0 hfz19_1 hfz19_2 hfz19_3; try clear hfz21_0 hfz21_1 hfz21_2 hfz21_3 hfz21_4 hfz21_5; try clear hfz24_0 hfz24_1 hfz24_2 hfz24_3; try clear hfz25_0 hfz25_1 hfz25_2 hfz25_3 hfz25_4 hfz25_5; try clear hfz28_0 hfz28_1 hfz28_2 hfz28_3; try clear hfz30_0 hfz30_1 hfz30_2 hfz30_3 hfz30_4 hfz30_5; try clear hfz34_0 hfz34_1 hfz34_2 hfz34_3 hfz34_4 hfz34_5; try clear hfz36_0 hfz36_1 hfz36_2 hfz36_3 hfz36_4 hfz36_5; try clear hfz39_0 hfz39_1 hfz39_2 hfz39_3 hfz39_4 hfz39_5; try clear hfz40_0 hfz40_1 hfz40_2 hfz40_3 hfz40_4 hfz40_5; try clear hfz6_0 hfz6_1 hfz6_2 hfz6_3 hfz6_4 hfz6_5; try clear hfz8_0 hfz8_1 hfz8_2 hfz8_3 hfz8_4 hfz8_5; try clear hx263_0; try clear hx263_1; try clear hx263_2; try clear hx263_3; try clear p2; try clear p26; try clear p263; try clear p6; try clear q2; try clear q26; try clear q263
       obtain ⟨x6_3, rfl, HA, HK3, BK261, HB⟩ := hrel
       cases gk with
       | zero => exact absurd HA.out (by simp [thatchref07_Check.l1])
       | succ k3 =>
        have H := HA.out
        clear HA
        simp only [thatchref07_Check.l1] at H
        by_cases c41 : x6_3 < (l0_5.length : Int)
        ·rw [if_pos c41] at H
         have c41b0 : decide (x6_3 < (l0_5.length : Int)) = true := decide_eq_true c41
         clear c41
         by_cases c42 : 0 ≤ x6_3
         ·rw [if_pos c42] at H
          have c42b0 : decide (0 ≤ x6_3) = true := decide_eq_true c42
          clear c42
          replace H := Option.bind_eq_some_iff.mp H
          obtain ⟨t268, A430, H⟩ := H
          replace H : (if t268 = true then ((thatchref07_span.f ((rd_T67 l0_5 x6_3).f1.f0) ((rd_T67 l0_5 x6_3).f1.f1) 2000).bind fun t270 => (if t270 = true then (thatchref07_Check.l1 k3 (wrap64 (x6_3 + 1)) l0_0 l0_1 a0_2 a0_3 a0_4 l0_5) else (some 1))) else (some 7)) = some r := H
          have A43 := Aside0.mk A430
          clear A430
          by_cases c44 : t268 = true
          ·subst c44
           have H1 : ((thatchref07_span.f ((rd_T67 l0_5 x6_3).f1.f0) ((rd_T67 l0_5 x6_3).f1.f1) 2000).bind fun t270 => (if t270 = true then (thatchref07_Check.l1 k3 (wrap64 (x6_3 + 1)) l0_0 l0_1 a0_2 a0_3 a0_4 l0_5) else (some 1))) = some r := by rw [if_pos rfl] at H; exact H
           clear H
           have H := H1
           clear H1
           replace H := Option.bind_eq_some_iff.mp H
           obtain ⟨t270, A450, H⟩ := H
           replace H : (if t270 = true then (thatchref07_Check.l1 k3 (wrap64 (x6_3 + 1)) l0_0 l0_1 a0_2 a0_3 a0_4 l0_5) else (some 1)) = some r := H
           have A45 := Aside0.mk A450
           clear A450
           by_cases c46 : t270 = true
           ·subst c46
            have H1 : (thatchref07_Check.l1 k3 (wrap64 (x6_3 + 1)) l0_0 l0_1 a0_2 a0_3 a0_4 l0_5) = some r := by rw [if_pos rfl] at H; exact H
            clear H
            have H := H1
            clear H1
            have H' := Aside0.mk H
            clear H
            obtain ⟨hcz47_0, hcz47_1, hcz47_2, hcz47_3, hcz47_4, hcz47_5, hfz47_0, hfz47_1, hfz47_2, hfz47_3, hfz47_4, hfz47_5⟩ := zk6 BK261
            try go_wp2
            have n0_ := Aside0.mk (blk_drew BK261.out)
            have n1_ := Aside0.mk (below_drew1 HB.out)
            clear BK261; clear HB
            have BK261 := n0_
            have HB := n1_
            clear n0_ n1_
            have p267 : 0 ≤ (x6_3 : Int) := of_decide_eq_true zj
            have q267 : x6_3 < (l0_5.length : Int) := of_decide_eq_true zj
            obtain ⟨ad267, e267, hx267_0, hx267_1, hx267_2, hx267_3⟩ := at_T67 HR0_5.out x6_3 p267 q267
            have hw267_3 := hx267_3
            have hw267_2 := hx267_2
            have hw267_1 := hx267_1
            have hw267_0 := hx267_0
            cases e267
            replace hx267_0 := zu hx267_0 HB
            replace hx267_1 := zu hx267_1 HB
            replace hx267_2 := zu hx267_2 HB
            replace hx267_3 := zu hx267_3 HB
            replace p267 := eq_true p267
            replace q267 := eq_true q267
            refine start_ (n := 10) (S := fun w' => w'.cell? ⟨gb261, 0, none⟩ = some (.slice A0_0 l0_0.length c0_0) ∧ w'.cell? ⟨gb261, 1, none⟩ = some (.slice A0_1 l0_1.length c0_1) ∧ w'.cell? ⟨gb261, 2, none⟩ = some (.int .i64 a0_2) ∧ w'.cell? ⟨gb261, 3, none⟩ = some (.int .i64 a0_3) ∧ w'.cell? ⟨gb261, 4, none⟩ = some (.int .i64 a0_4) ∧ w'.cell? ⟨gb261, 5, none⟩ = some (.slice (some ad267) l0_5.length c0_5) ∧ w'.cell? (ad267.add ((x6_3).toNat * 4)) = some (.int .i64 ((rd_T67 l0_5 x6_3).f0.f0)) ∧ w'.cell? ⟨(ad267.add ((x6_3).toNat * 4)).block, (ad267.add ((x6_3).toNat * 4)).off + 1, none⟩ = some (.int .i64 ((rd_T67 l0_5 x6_3).f0.f1)) ∧ w'.cell? ⟨(ad267.add ((x6_3).toNat * 4)).block, (ad267.add ((x6_3).toNat * 4)).off + 2, none⟩ = some (.int .i64 ((rd_T67 l0_5 x6_3).f1.f0)) ∧ w'.cell? ⟨(ad267.add ((x6_3).toNat * 4)).block, (ad267.add ((x6_3).toNat * 4)).off + 3, none⟩ = some (.int .i64 ((rd_T67 l0_5 x6_3).f1.f1))) (ds := []) #[Z0, Z0, Z0, Z0, Z0, Z0, Z0, Z0, Z0, Z0] (by kernel_rfl) rfl rfl ⟨(blk_cell BK261.out 0).trans rfl, (blk_cell BK261.out 1).trans rfl, (blk_cell BK261.out 2).trans rfl, (blk_cell BK261.out 3).trans rfl, (blk_cell BK261.out 4).trans rfl, (blk_cell BK261.out 5).trans rfl, (zu hw267_0 HB), (zu hw267_1 HB), (zu hw267_2 HB), (zu hw267_3 HB)⟩ (fun hHeld => ?_); refine with_tabW thatchref07_Check.tab19 thatchref07_Check.bits19 (fun HT_ HW_ => ?_)
            generalize wr.drew = w48 at BK261 HB hx267_0 hx267_1 hx267_2 hx267_3 hHeld ⊢
            refine zp 0 (some 71) #[Z1, Z0, Z0, Z0, Z0, Z0, Z0, Z0, Z0, Z0] rfl rfl (any_of HT_.out (by kernel_rfl)) ?_
            refine zp 2 (some 73) #[Z1, Z0, Z1, Z0, Z0, Z0, Z0, Z0, Z0, Z0] rfl rfl (any_of HT_.out (by kernel_rfl)) ?_
            refine zp 4 (some 75) #[Z1, Z0, Z1, Z0, Z1, Z0, Z0, Z0, Z0, Z0] rfl rfl (any_of HT_.out (by kernel_rfl)) ?_
            refine take_ (i := 1) (N := some 72) (v := ?_) (a' := ?_) #[Z1, Z1, Z1, Z0, Z1, Z0, Z0, Z0, Z0, Z0] rfl rfl (take_ofW HT_.out HW_.out (by kernel_rfl)) (fun _ _ _ h => h) (Or.inl ⟨by rfl, ?_⟩) hHeld ?_ ?_
            rotate_left; · rintro w' ⟨s0, s1, s2, s3, s4, s5, s6, s7, s8, s9⟩; go_simp; with_reducible rfl
            rotate_left; · simp only [Act.put, List.setIfInBounds_toArray, List.set_cons_zero, List.set_cons_succ, i64_w, i32_w]; rfl
            refine take_ (i := 3) (N := some 74) (v := ?_) (a' := ?_) #[Z1, Z1, Z1, Z1, Z1, Z0, Z0, Z0, Z0, Z0] rfl rfl (take_ofW HT_.out HW_.out (by kernel_rfl)) (fun _ _ _ h => h) (Or.inl ⟨by rfl, ?_⟩) hHeld ?_ ?_
            rotate_left; · rintro w' ⟨s0, s1, s2, s3, s4, s5, s6, s7, s8, s9⟩; go_simp; with_reducible rfl
            rotate_left; · simp only [Act.put, List.setIfInBounds_toArray, List.set_cons_zero, List.set_cons_succ, i64_w, i32_w]; rfl
            refine zp 5 (some 76) #[Z1, Z1, Z1, Z1, Z1, Z1, Z0, Z0, Z0, Z0] rfl rfl (any_of HT_.out (by kernel_rfl)) ?_
            refine zp 6 (some 77) #[Z1, Z1, Z1, Z1, Z1, Z1, Z1, Z0, Z0, Z0] rfl rfl (any_of HT_.out (by kernel_rfl)) ?_
            refine take_ (i := 7) (N := some 78) (v := ?_) (a' := ?_) #[Z1, Z1, Z1, Z1, Z1, Z1, Z1, Z1, Z0, Z0] rfl rfl (take_ofW HT_.out HW_.out (by kernel_rfl)) (fun _ _ _ h => h) (Or.inl ⟨by rfl, ?_⟩) hHeld ?_ ?_
            rotate_left; · rintro w' ⟨s0, s1, s2, s3, s4, s5, s6, s7, s8, s9⟩; go_simp; with_reducible rfl
            rotate_left; · simp only [Act.put, List.setIfInBounds_toArray, List.set_cons_zero, List.set_cons_succ, i64_w, i32_w]; rfl
            refine one_ (i := 8) (N := some 79) #[Z1, Z1, Z1, Z1, Z1, Z1, Z1, Z1, Z1, Z0] rfl rfl (one_of HT_.out (by kernel_rfl)) (by decide) (fun K hK => ?_)
            refine goes_ Try.func29 (by kernel_rfl) rfl #[.agg #[.slice A0_0 l0_0.length c0_0, .slice A0_1 l0_1.length c0_1], .agg #[.int .i64 ((rd_T67 l0_5 x6_3).f0.f0), .int .i64 ((rd_T67 l0_5 x6_3).f0.f1)]] (by rfl) rfl rfl za ?_
            with_reducible refine (thatchref07_on.calls k3 _ _ l0_0 _ _ l0_1 ((rd_T67 l0_5 x6_3).f0.f0) ((rd_T67 l0_5 x6_3).f0.f1) true _ ?side1 ?side2 ?side3 ?side4 A43.out).mono ?_
            (case side1 => exact zl HR0_0 HB)
            (case side2 => exact HC0_0.out)
            (case side3 => exact zl HR0_1 HB)
            (case side4 => exact HC0_1.out)
            rintro e w49 ⟨rfl, hb⟩
            refine ⟨_, rfl, ?_⟩
            have n0_ := zD BK261 hb
            have n1_ := zY HB hb
            clear BK261; clear HB
            have BK261 := n0_
            have HB := n1_
            clear n0_ n1_
            (try clear hb)
            (try clear hb2)
            (try clear hk)
            (try clear hi)
            refine hK.out _ _ ⟨(blk_cell BK261.out 0).trans rfl, (blk_cell BK261.out 1).trans rfl, (blk_cell BK261.out 2).trans rfl, (blk_cell BK261.out 3).trans rfl, (blk_cell BK261.out 4).trans rfl, (blk_cell BK261.out 5).trans rfl, (zu hw267_0 HB), (zu hw267_1 HB), (zu hw267_2 HB), (zu hw267_3 HB)⟩ (fun hHeld => ?_)
            clear hK K
            refine norm_ (a' := ?_) ?_ ?_
            rotate_left
            ·show Act.put _ (some 79) _ = _
             simp only [Act.put, List.setIfInBounds_toArray, List.set_cons_zero, List.set_cons_succ, i64_w, i32_w]
             rfl
            refine zp 9 (some 80) #[Z1, Z1, Z1, Z1, Z1, Z1, Z1, Z1, Z1, Z1] rfl rfl (any_of HT_.out (by kernel_rfl)) ?_
            refine done_ (done_of HT_.out (by kernel_rfl)) ?_
            obtain ⟨hcz50_0, hcz50_1, hcz50_2, hcz50_3, hcz50_4, hcz50_5, hfz50_0, hfz50_1, hfz50_2, hfz50_3, hfz50_4, hfz50_5⟩ := zk6 BK261
            have p269 : 0 ≤ (x6_3 : Int) := of_decide_eq_true zj
            have q269 : x6_3 < (l0_5.length : Int) := of_decide_eq_true zj
            obtain ⟨ad269, e269, hx269_0, hx269_1, hx269_2, hx269_3⟩ := at_T67 HR0_5.out x6_3 p269 q269
            obtain rfl : ad267 = ad269 := (by injection e269)
            replace hx269_0 := zu hx269_0 HB
            replace hx269_1 := zu hx269_1 HB
            replace hx269_2 := zu hx269_2 HB
            replace hx269_3 := zu hx269_3 HB
            replace p269 := eq_true p269
            replace q269 := eq_true q269
            try go_wp2_with (first | ((with_reducible refine gate_callee (f := 52) rfl ?_); refine goesL_ (some 87) rfl rfl Try.func52 (by kernel_rfl) rfl #[.agg #[.int .i64 ((rd_T67 l0_5 x6_3).f1.f0), .int .i64 ((rd_T67 l0_5 x6_3).f1.f1)], .int .i64 2000] rfl za ?_; (with_reducible refine (thatchref07_span.calls ((rd_T67 l0_5 x6_3).f1.f0) ((rd_T67 l0_5 x6_3).f1.f1) 2000 true _ A45.out).mono ?_); rintro e w51 ⟨rfl, hb⟩; refine ⟨_, rfl, ?_⟩; have n0_ := zD BK261 hb; have n1_ := zY HB hb; clear BK261; clear HB; have BK261 := n0_; have HB := n1_; clear n0_ n1_; (try clear hb); (try clear hb2); (try clear hk); (try clear hi)))
            go_roundg k3
            case measure => have := HK1.out; have := HJ28.out; have := HK3.out; omega
            case rel => exact ⟨(wrap64 (x6_3 + 1)), zq, H', ⟨by have := HK1.out; have := HJ28.out; have := HK3.out; omega⟩, ⟨zb BK261⟩, ⟨zw HB⟩⟩
           replace c46 := Bool.eq_false_iff.mpr c46
           subst c46
           have H1 : (some 1) = some r := by rw [if_neg (show ¬ (false = true) by decide)] at H; exact H
           clear H
           have H := H1
           clear H1
           obtain rfl := Option.some.inj H
           obtain ⟨hcz52_0, hcz52_1, hcz52_2, hcz52_3, hcz52_4, hcz52_5, hfz52_0, hfz52_1, hfz52_2, hfz52_3, hfz52_4, hfz52_5⟩ := zk6 BK261
           try go_wp2
           have n0_ := Aside0.mk (blk_drew BK261.out)
           have n1_ := Aside0.mk (below_drew1 HB.out)
           clear BK261; clear HB
           have BK261 := n0_
           have HB := n1_
           clear n0_ n1_
           have p267 : 0 ≤ (x6_3 : Int) := of_decide_eq_true zj
           have q267 : x6_3 < (l0_5.length : Int) := of_decide_eq_true zj
           obtain ⟨ad267, e267, hx267_0, hx267_1, hx267_2, hx267_3⟩ := at_T67 HR0_5.out x6_3 p267 q267
           have hw267_3 := hx267_3
           have hw267_2 := hx267_2
           have hw267_1 := hx267_1
           have hw267_0 := hx267_0
           cases e267
           replace hx267_0 := zu hx267_0 HB
           replace hx267_1 := zu hx267_1 HB
           replace hx267_2 := zu hx267_2 HB
           replace hx267_3 := zu hx267_3 HB
           replace p267 := eq_true p267
           replace q267 := eq_true q267
           refine start_ (n := 10) (S := fun w' => w'.cell? ⟨gb261, 0, none⟩ = some (.slice A0_0 l0_0.length c0_0) ∧ w'.cell? ⟨gb261, 1, none⟩ = some (.slice A0_1 l0_1.length c0_1) ∧ w'.cell? ⟨gb261, 2, none⟩ = some (.int .i64 a0_2) ∧ w'.cell? ⟨gb261, 3, none⟩ = some (.int .i64 a0_3) ∧ w'.cell? ⟨gb261, 4, none⟩ = some (.int .i64 a0_4) ∧ w'.cell? ⟨gb261, 5, none⟩ = some (.slice (some ad267) l0_5.length c0_5) ∧ w'.cell? (ad267.add ((x6_3).toNat * 4)) = some (.int .i64 ((rd_T67 l0_5 x6_3).f0.f0)) ∧ w'.cell? ⟨(ad267.add ((x6_3).toNat * 4)).block, (ad267.add ((x6_3).toNat * 4)).off + 1, none⟩ = some (.int .i64 ((rd_T67 l0_5 x6_3).f0.f1)) ∧ w'.cell? ⟨(ad267.add ((x6_3).toNat * 4)).block, (ad267.add ((x6_3).toNat * 4)).off + 2, none⟩ = some (.int .i64 ((rd_T67 l0_5 x6_3).f1.f0)) ∧ w'.cell? ⟨(ad267.add ((x6_3).toNat * 4)).block, (ad267.add ((x6_3).toNat * 4)).off + 3, none⟩ = some (.int .i64 ((rd_T67 l0_5 x6_3).f1.f1))) (ds := []) #[Z0, Z0, Z0, Z0, Z0, Z0, Z0, Z0, Z0, Z0] (by kernel_rfl) rfl rfl ⟨(blk_cell BK261.out 0).trans rfl, (blk_cell BK261.out 1).trans rfl, (blk_cell BK261.out 2).trans rfl, (blk_cell BK261.out 3).trans rfl, (blk_cell BK261.out 4).trans rfl, (blk_cell BK261.out 5).trans rfl, (zu hw267_0 HB), (zu hw267_1 HB), (zu hw267_2 HB), (zu hw267_3 HB)⟩ (fun hHeld => ?_); refine with_tabW thatchref07_Check.tab19 thatchref07_Check.bits19 (fun HT_ HW_ => ?_)
           generalize wr.drew = w53 at BK261 HB hx267_0 hx267_1 hx267_2 hx267_3 hHeld ⊢
           refine zp 0 (some 71) #[Z1, Z0, Z0, Z0, Z0, Z0, Z0, Z0, Z0, Z0] rfl rfl (any_of HT_.out (by kernel_rfl)) ?_
           refine zp 2 (some 73) #[Z1, Z0, Z1, Z0, Z0, Z0, Z0, Z0, Z0, Z0] rfl rfl (any_of HT_.out (by kernel_rfl)) ?_
           refine zp 4 (some 75) #[Z1, Z0, Z1, Z0, Z1, Z0, Z0, Z0, Z0, Z0] rfl rfl (any_of HT_.out (by kernel_rfl)) ?_
           refine take_ (i := 1) (N := some 72) (v := ?_) (a' := ?_) #[Z1, Z1, Z1, Z0, Z1, Z0, Z0, Z0, Z0, Z0] rfl rfl (take_ofW HT_.out HW_.out (by kernel_rfl)) (fun _ _ _ h => h) (Or.inl ⟨by rfl, ?_⟩) hHeld ?_ ?_
           rotate_left; · rintro w' ⟨s0, s1, s2, s3, s4, s5, s6, s7, s8, s9⟩; go_simp; with_reducible rfl
           rotate_left; · simp only [Act.put, List.setIfInBounds_toArray, List.set_cons_zero, List.set_cons_succ, i64_w, i32_w]; rfl
           refine take_ (i := 3) (N := some 74) (v := ?_) (a' := ?_) #[Z1, Z1, Z1, Z1, Z1, Z0, Z0, Z0, Z0, Z0] rfl rfl (take_ofW HT_.out HW_.out (by kernel_rfl)) (fun _ _ _ h => h) (Or.inl ⟨by rfl, ?_⟩) hHeld ?_ ?_
           rotate_left; · rintro w' ⟨s0, s1, s2, s3, s4, s5, s6, s7, s8, s9⟩; go_simp; with_reducible rfl
           rotate_left; · simp only [Act.put, List.setIfInBounds_toArray, List.set_cons_zero, List.set_cons_succ, i64_w, i32_w]; rfl
           refine zp 5 (some 76) #[Z1, Z1, Z1, Z1, Z1, Z1, Z0, Z0, Z0, Z0] rfl rfl (any_of HT_.out (by kernel_rfl)) ?_
           refine zp 6 (some 77) #[Z1, Z1, Z1, Z1, Z1, Z1, Z1, Z0, Z0, Z0] rfl rfl (any_of HT_.out (by kernel_rfl)) ?_
           refine take_ (i := 7) (N := some 78) (v := ?_) (a' := ?_) #[Z1, Z1, Z1, Z1, Z1, Z1, Z1, Z1, Z0, Z0] rfl rfl (take_ofW HT_.out HW_.out (by kernel_rfl)) (fun _ _ _ h => h) (Or.inl ⟨by rfl, ?_⟩) hHeld ?_ ?_
           rotate_left; · rintro w' ⟨s0, s1, s2, s3, s4, s5, s6, s7, s8, s9⟩; go_simp; with_reducible rfl
           rotate_left; · simp only [Act.put, List.setIfInBounds_toArray, List.set_cons_zero, List.set_cons_succ, i64_w, i32_w]; rfl
           refine one_ (i := 8) (N := some 79) #[Z1, Z1, Z1, Z1, Z1, Z1, Z1, Z1, Z1, Z0] rfl rfl (one_of HT_.out (by kernel_rfl)) (by decide) (fun K hK => ?_)
           refine goes_ Try.func29 (by kernel_rfl) rfl #[.agg #[.slice A0_0 l0_0.length c0_0, .slice A0_1 l0_1.length c0_1], .agg #[.int .i64 ((rd_T67 l0_5 x6_3).f0.f0), .int .i64 ((rd_T67 l0_5 x6_3).f0.f1)]] (by rfl) rfl rfl za ?_
           with_reducible refine (thatchref07_on.calls k3 _ _ l0_0 _ _ l0_1 ((rd_T67 l0_5 x6_3).f0.f0) ((rd_T67 l0_5 x6_3).f0.f1) true _ ?side1 ?side2 ?side3 ?side4 A43.out).mono ?_
           (case side1 => exact zl HR0_0 HB)
           (case side2 => exact HC0_0.out)
           (case side3 => exact zl HR0_1 HB)
           (case side4 => exact HC0_1.out)
           rintro e w54 ⟨rfl, hb⟩
           refine ⟨_, rfl, ?_⟩
           have n0_ := zD BK261 hb
           have n1_ := zY HB hb
           clear BK261; clear HB
           have BK261 := n0_
           have HB := n1_
           clear n0_ n1_
           (try clear hb)
           (try clear hb2)
           (try clear hk)
           (try clear hi)
           refine hK.out _ _ ⟨(blk_cell BK261.out 0).trans rfl, (blk_cell BK261.out 1).trans rfl, (blk_cell BK261.out 2).trans rfl, (blk_cell BK261.out 3).trans rfl, (blk_cell BK261.out 4).trans rfl, (blk_cell BK261.out 5).trans rfl, (zu hw267_0 HB), (zu hw267_1 HB), (zu hw267_2 HB), (zu hw267_3 HB)⟩ (fun hHeld => ?_)
           clear hK K
           refine norm_ (a' := ?_) ?_ ?_
           rotate_left
           ·show Act.put _ (some 79) _ = _
            simp only [Act.put, List.setIfInBounds_toArray, List.set_cons_zero, List.set_cons_succ, i64_w, i32_w]
            rfl
           refine zp 9 (some 80) #[Z1, Z1, Z1, Z1, Z1, Z1, Z1, Z1, Z1, Z1] rfl rfl (any_of HT_.out (by kernel_rfl)) ?_
           refine done_ (done_of HT_.out (by kernel_rfl)) ?_
           obtain ⟨hcz55_0, hcz55_1, hcz55_2, hcz55_3, hcz55_4, hcz55_5, hfz55_0, hfz55_1, hfz55_2, hfz55_3, hfz55_4, hfz55_5⟩ := zk6 BK261
           have p269 : 0 ≤ (x6_3 : Int) := of_decide_eq_true zj
           have q269 : x6_3 < (l0_5.length : Int) := of_decide_eq_true zj
           obtain ⟨ad269, e269, hx269_0, hx269_1, hx269_2, hx269_3⟩ := at_T67 HR0_5.out x6_3 p269 q269
           obtain rfl : ad267 = ad269 := (by injection e269)
           replace hx269_0 := zu hx269_0 HB
           replace hx269_1 := zu hx269_1 HB
           replace hx269_2 := zu hx269_2 HB
           replace hx269_3 := zu hx269_3 HB
           replace p269 := eq_true p269
           replace q269 := eq_true q269
           try go_wp2_with (first | ((with_reducible refine gate_callee (f := 52) rfl ?_); refine goesL_ (some 87) rfl rfl Try.func52 (by kernel_rfl) rfl #[.agg #[.int .i64 ((rd_T67 l0_5 x6_3).f1.f0), .int .i64 ((rd_T67 l0_5 x6_3).f1.f1)], .int .i64 2000] rfl za ?_; (with_reducible refine (thatchref07_span.calls ((rd_T67 l0_5 x6_3).f1.f0) ((rd_T67 l0_5 x6_3).f1.f1) 2000 false _ A45.out).mono ?_); rintro e w56 ⟨rfl, hb⟩; refine ⟨_, rfl, ?_⟩; have n0_ := zD BK261 hb; have n1_ := zY HB hb; clear BK261; clear HB; have BK261 := n0_; have HB := n1_; clear n0_ n1_; (try clear hb); (try clear hb2); (try clear hk); (try clear hi)))
           go_ret
           exact ⟨ze, zw HB⟩
          replace c44 := Bool.eq_false_iff.mpr c44
          subst c44
          have H1 : (some 7) = some r := by rw [if_neg (show ¬ (false = true) by decide)] at H; exact H
          clear H
          have H := H1
          clear H1
          obtain rfl := Option.some.inj H
          obtain ⟨hcz57_0, hcz57_1, hcz57_2, hcz57_3, hcz57_4, hcz57_5, hfz57_0, hfz57_1, hfz57_2, hfz57_3, hfz57_4, hfz57_5⟩ := zk6 BK261
          try go_wp2
          have n0_ := Aside0.mk (blk_drew BK261.out)
          have n1_ := Aside0.mk (below_drew1 HB.out)
          clear BK261; clear HB
          have BK261 := n0_
          have HB := n1_
          clear n0_ n1_
          have p267 : 0 ≤ (x6_3 : Int) := of_decide_eq_true zj
          have q267 : x6_3 < (l0_5.length : Int) := of_decide_eq_true zj
          obtain ⟨ad267, e267, hx267_0, hx267_1, hx267_2, hx267_3⟩ := at_T67 HR0_5.out x6_3 p267 q267
          have hw267_3 := hx267_3
          have hw267_2 := hx267_2
          have hw267_1 := hx267_1
          have hw267_0 := hx267_0
          cases e267
          replace hx267_0 := zu hx267_0 HB
          replace hx267_1 := zu hx267_1 HB
          replace hx267_2 := zu hx267_2 HB
          replace hx267_3 := zu hx267_3 HB
          replace p267 := eq_true p267
          replace q267 := eq_true q267
          refine start_ (n := 10) (S := fun w' => w'.cell? ⟨gb261, 0, none⟩ = some (.slice A0_0 l0_0.length c0_0) ∧ w'.cell? ⟨gb261, 1, none⟩ = some (.slice A0_1 l0_1.length c0_1) ∧ w'.cell? ⟨gb261, 2, none⟩ = some (.int .i64 a0_2) ∧ w'.cell? ⟨gb261, 3, none⟩ = some (.int .i64 a0_3) ∧ w'.cell? ⟨gb261, 4, none⟩ = some (.int .i64 a0_4) ∧ w'.cell? ⟨gb261, 5, none⟩ = some (.slice (some ad267) l0_5.length c0_5) ∧ w'.cell? (ad267.add ((x6_3).toNat * 4)) = some (.int .i64 ((rd_T67 l0_5 x6_3).f0.f0)) ∧ w'.cell? ⟨(ad267.add ((x6_3).toNat * 4)).block, (ad267.add ((x6_3).toNat * 4)).off + 1, none⟩ = some (.int .i64 ((rd_T67 l0_5 x6_3).f0.f1)) ∧ w'.cell? ⟨(ad267.add ((x6_3).toNat * 4)).block, (ad267.add ((x6_3).toNat * 4)).off + 2, none⟩ = some (.int .i64 ((rd_T67 l0_5 x6_3).f1.f0)) ∧ w'.cell? ⟨(ad267.add ((x6_3).toNat * 4)).block, (ad267.add ((x6_3).toNat * 4)).off + 3, none⟩ = some (.int .i64 ((rd_T67 l0_5 x6_3).f1.f1))) (ds := []) #[Z0, Z0, Z0, Z0, Z0, Z0, Z0, Z0, Z0, Z0] (by kernel_rfl) rfl rfl ⟨(blk_cell BK261.out 0).trans rfl, (blk_cell BK261.out 1).trans rfl, (blk_cell BK261.out 2).trans rfl, (blk_cell BK261.out 3).trans rfl, (blk_cell BK261.out 4).trans rfl, (blk_cell BK261.out 5).trans rfl, (zu hw267_0 HB), (zu hw267_1 HB), (zu hw267_2 HB), (zu hw267_3 HB)⟩ (fun hHeld => ?_); refine with_tabW thatchref07_Check.tab19 thatchref07_Check.bits19 (fun HT_ HW_ => ?_)
          generalize wr.drew = w58 at BK261 HB hx267_0 hx267_1 hx267_2 hx267_3 hHeld ⊢
          refine zp 0 (some 71) #[Z1, Z0, Z0, Z0, Z0, Z0, Z0, Z0, Z0, Z0] rfl rfl (any_of HT_.out (by kernel_rfl)) ?_
          refine zp 2 (some 73) #[Z1, Z0, Z1, Z0, Z0, Z0, Z0, Z0, Z0, Z0] rfl rfl (any_of HT_.out (by kernel_rfl)) ?_
          refine zp 4 (some 75) #[Z1, Z0, Z1, Z0, Z1, Z0, Z0, Z0, Z0, Z0] rfl rfl (any_of HT_.out (by kernel_rfl)) ?_
          refine take_ (i := 1) (N := some 72) (v := ?_) (a' := ?_) #[Z1, Z1, Z1, Z0, Z1, Z0, Z0, Z0, Z0, Z0] rfl rfl (take_ofW HT_.out HW_.out (by kernel_rfl)) (fun _ _ _ h => h) (Or.inl ⟨by rfl, ?_⟩) hHeld ?_ ?_
          rotate_left; · rintro w' ⟨s0, s1, s2, s3, s4, s5, s6, s7, s8, s9⟩; go_simp; with_reducible rfl
          rotate_left; · simp only [Act.put, List.setIfInBounds_toArray, List.set_cons_zero, List.set_cons_succ, i64_w, i32_w]; rfl
          refine take_ (i := 3) (N := some 74) (v := ?_) (a' := ?_) #[Z1, Z1, Z1, Z1, Z1, Z0, Z0, Z0, Z0, Z0] rfl rfl (take_ofW HT_.out HW_.out (by kernel_rfl)) (fun _ _ _ h => h) (Or.inl ⟨by rfl, ?_⟩) hHeld ?_ ?_
          rotate_left; · rintro w' ⟨s0, s1, s2, s3, s4, s5, s6, s7, s8, s9⟩; go_simp; with_reducible rfl
          rotate_left; · simp only [Act.put, List.setIfInBounds_toArray, List.set_cons_zero, List.set_cons_succ, i64_w, i32_w]; rfl
          refine zp 5 (some 76) #[Z1, Z1, Z1, Z1, Z1, Z1, Z0, Z0, Z0, Z0] rfl rfl (any_of HT_.out (by kernel_rfl)) ?_
          refine zp 6 (some 77) #[Z1, Z1, Z1, Z1, Z1, Z1, Z1, Z0, Z0, Z0] rfl rfl (any_of HT_.out (by kernel_rfl)) ?_
          refine take_ (i := 7) (N := some 78) (v := ?_) (a' := ?_) #[Z1, Z1, Z1, Z1, Z1, Z1, Z1, Z1, Z0, Z0] rfl rfl (take_ofW HT_.out HW_.out (by kernel_rfl)) (fun _ _ _ h => h) (Or.inl ⟨by rfl, ?_⟩) hHeld ?_ ?_
          rotate_left; · rintro w' ⟨s0, s1, s2, s3, s4, s5, s6, s7, s8, s9⟩; go_simp; with_reducible rfl
          rotate_left; · simp only [Act.put, List.setIfInBounds_toArray, List.set_cons_zero, List.set_cons_succ, i64_w, i32_w]; rfl
          refine one_ (i := 8) (N := some 79) #[Z1, Z1, Z1, Z1, Z1, Z1, Z1, Z1, Z1, Z0] rfl rfl (one_of HT_.out (by kernel_rfl)) (by decide) (fun K hK => ?_)
          refine goes_ Try.func29 (by kernel_rfl) rfl #[.agg #[.slice A0_0 l0_0.length c0_0, .slice A0_1 l0_1.length c0_1], .agg #[.int .i64 ((rd_T67 l0_5 x6_3).f0.f0), .int .i64 ((rd_T67 l0_5 x6_3).f0.f1)]] (by rfl) rfl rfl za ?_
          with_reducible refine (thatchref07_on.calls k3 _ _ l0_0 _ _ l0_1 ((rd_T67 l0_5 x6_3).f0.f0) ((rd_T67 l0_5 x6_3).f0.f1) false _ ?side1 ?side2 ?side3 ?side4 A43.out).mono ?_
          (case side1 => exact zl HR0_0 HB)
          (case side2 => exact HC0_0.out)
          (case side3 => exact zl HR0_1 HB)
          (case side4 => exact HC0_1.out)
          rintro e w59 ⟨rfl, hb⟩
          refine ⟨_, rfl, ?_⟩
          have n0_ := zD BK261 hb
          have n1_ := zY HB hb
          clear BK261; clear HB
          have BK261 := n0_
          have HB := n1_
          clear n0_ n1_
          (try clear hb)
          (try clear hb2)
          (try clear hk)
          (try clear hi)
          refine hK.out _ _ ⟨(blk_cell BK261.out 0).trans rfl, (blk_cell BK261.out 1).trans rfl, (blk_cell BK261.out 2).trans rfl, (blk_cell BK261.out 3).trans rfl, (blk_cell BK261.out 4).trans rfl, (blk_cell BK261.out 5).trans rfl, (zu hw267_0 HB), (zu hw267_1 HB), (zu hw267_2 HB), (zu hw267_3 HB)⟩ (fun hHeld => ?_)
          clear hK K
          refine norm_ (a' := ?_) ?_ ?_
          rotate_left
          ·show Act.put _ (some 79) _ = _
           simp only [Act.put, List.setIfInBounds_toArray, List.set_cons_zero, List.set_cons_succ, i64_w, i32_w]
           rfl
          refine zp 9 (some 80) #[Z1, Z1, Z1, Z1, Z1, Z1, Z1, Z1, Z1, Z1] rfl rfl (any_of HT_.out (by kernel_rfl)) ?_
          refine done_ (done_of HT_.out (by kernel_rfl)) ?_
          try go_wp2
          go_ret
          exact ⟨ze, zw HB⟩
         rw [if_neg c42] at H
         exact absurd H (by simp)
        rw [if_neg c41] at H
        have c41b0 : decide (x6_3 < (l0_5.length : Int)) = false := decide_eq_false c41
        clear c41
        have H' := Aside0.mk H
        clear H
        obtain ⟨hcz60_0, hcz60_1, hcz60_2, hcz60_3, hcz60_4, hcz60_5, hfz60_0, hfz60_1, hfz60_2, hfz60_3, hfz60_4, hfz60_5⟩ := zk6 BK261
        go_wp2
        go_loopg [7] k3 (fun kq v7 w' => ∃ (x7_4 : Int), v7 = .int .i64 x7_4 ∧ Aside0 (thatchref07_Check.l2 kq x7_4 l0_0 l0_1 a0_2 a0_3 a0_4 l0_5 = some r) ∧ Aside0 (kq ≤ k3) ∧ Aside0 (w'.heap[gb261]? = some (.cells #[(.slice A0_0 l0_0.length c0_0), (.slice A0_1 l0_1.length c0_1), .int .i64 a0_2, .int .i64 a0_3, .int .i64 a0_4, (.slice A0_5 l0_5.length c0_5)] 30 (0, 0))) ∧ Aside0 (Below w.heap.size w w'))
        case atStart => exact ⟨(1), zq, H', ⟨Nat.le_refl _⟩, ⟨zb BK261⟩, ⟨zw HB⟩⟩
        case round =>
         clear H'; try clear c2; try clear p2; try clear q2; try clear hx2; try clear c4; try clear c5; try clear p6; try clear p26; try clear q26; try clear hx26; try clear c29; try clear c41; try clear c41b0; try clear c42; try clear c42b0; try clear c44; try clear c46; try clear c52; try clear hcz47_0 hcz47_1 hcz47_2 hcz47_3 hcz47_4 hcz47_5; try clear hcz50_0 hcz50_1 hcz50_2 hcz50_3 hcz50_4 hcz50_5; try clear hcz52_0 hcz52_1 hcz52_2 hcz52_3 hcz52_4 hcz52_5; try clear hcz55_0 hcz55_1 hcz55_2 hcz55_3 hcz55_4 hcz55_5; try clear hcz57_0 hcz57_1 hcz57_2 hcz57_3 hcz57_4 hcz57_5; try clear hcz60_0 hcz60_1 hcz60_2 hcz60_3 hcz60_4 hcz60_5; try clear hfz25_2 hfz25_3 hfz25_4 hfz25_5; try clear hfz28_0 hfz28_1 hfz28_2 hfz28_3; try clear hfz30_0 hfz30_1 hfz30_2 hfz30_3 hfz30_4 hfz30_5; try clear hfz34_0 hfz34_1 hfz34_2 hfz34_3 hfz34_4 hfz34_5; try clear hfz36_0 hfz36_1 hfz36_2 hfz36_3 hfz36_4 hfz36_5; try clear hfz39_0 hfz39_1 hfz39_2 hfz39_3 hfz39_4 hfz39_5; try clear hfz40_0 hfz40_1 hfz40_2 hfz40_3 hfz40_4 hfz40_5; try clear hfz47_0 hfz47_1 hfz47_2 hfz47_3 hfz47_4 hfz47_5; try clear hfz50_0 hfz50_1 hfz50_2 hfz50_3 hfz50_4 hfz50_5; try clear hfz52_0 hfz52_1 hfz52_2 hfz52_3 hfz52_4 hfz52_5; try clear hfz55_0 hfz55_1 hfz55_2 hfz55_3 hfz55_4 hfz55_5; try clear hfz57_0 hfz57_1 hfz57_2 hfz57_3 hfz57_4 hfz57_5; try clear hfz60_0 hfz60_1 hfz60_2 hfz60_3 hfz60_4 hfz60_5; try clear hfz6_0 hfz6_1 hfz6_2 hfz6_3 hfz6_4 hfz6_5; try clear hfz8_0 hfz8_1 hfz8_2 hfz8_3 hfz8_4 hfz8_5; try clear hx263_0; try clear hx263_1; try clear hx263_2; try clear hx263_3; try clear hx267_0; try clear hx267_1; try clear hx267_2; try clear hx267_3; try clear hx269_0; try clear hx269_1; try clear hx269_2; try clear hx269_3; try clear p2; try clear p26; try clear p263; try clear p267; try clear p269; try clear p6; try clear q2; try clear q26; try clear q263; try clear q267; try clear q269
         obtain ⟨x7_4, rfl, HA, HK4, BK261, HB⟩ := hrel
         cases gk with
         | zero => exact absurd HA.out (by simp [thatchref07_Check.l2])
         | succ k4 =>
          have H := HA.out
          clear HA
          simp only [thatchref07_Check.l2] at H
          by_cases c61 : x7_4 < (l0_5.length : Int)
          ·rw [if_pos c61] at H
           have c61b0 : decide (x7_4 < (l0_5.length : Int)) = true := decide_eq_true c61
           clear c61
           by_cases c62 : 0 ≤ x7_4
           ·rw [if_pos c62] at H
            have c62b0 : decide (0 ≤ x7_4) = true := decide_eq_true c62
            clear c62
            obtain ⟨ji63, hji63⟩ : ∃ j_ : Int, (wrap64 (x7_4 - 1)) = j_ := ⟨_, rfl⟩
            replace H : (if 0 ≤ (ji63) then (if (ji63) < (l0_5.length : Int) then ((thatchref07_behind.f ((rd_T67 l0_5 x7_4).f0.f0) ((rd_T67 l0_5 x7_4).f0.f1) ((rd_T67 l0_5 (ji63)).f0.f0) ((rd_T67 l0_5 (ji63)).f0.f1)).bind fun t273 => (if t273 = true then (thatchref07_Check.l2 k4 (wrap64 (x7_4 + 1)) l0_0 l0_1 a0_2 a0_3 a0_4 l0_5) else (some 8))) else (none)) else (none)) = some r := by first | (rw [hji63] at H; exact H) | (simp only [hji63] at H ⊢; exact H)
            have hji63w : (IntKind.i64.wrap (x7_4 - 1)) = ji63 := (i64_w _).trans hji63
            by_cases c64 : 0 ≤ (ji63)
            ·rw [if_pos c64] at H
             have c64b0 : decide (0 ≤ (ji63)) = true := decide_eq_true c64
             clear c64
             by_cases c65 : (ji63) < (l0_5.length : Int)
             ·rw [if_pos c65] at H
              have c65b0 : decide ((ji63) < (l0_5.length : Int)) = true := decide_eq_true c65
              clear c65
              replace H := Option.bind_eq_some_iff.mp H
              obtain ⟨t273, A660, H⟩ := H
              replace H : (if t273 = true then (thatchref07_Check.l2 k4 (wrap64 (x7_4 + 1)) l0_0 l0_1 a0_2 a0_3 a0_4 l0_5) else (some 8)) = some r := H
              have A66 := Aside0.mk A660
              clear A660
              by_cases c67 : t273 = true
              ·subst c67
               have H1 : (thatchref07_Check.l2 k4 (wrap64 (x7_4 + 1)) l0_0 l0_1 a0_2 a0_3 a0_4 l0_5) = some r := by rw [if_pos rfl] at H; exact H
               clear H
               have H := H1
               clear H1
               have H' := Aside0.mk H
               clear H
               obtain ⟨hcz68_0, hcz68_1, hcz68_2, hcz68_3, hcz68_4, hcz68_5, hfz68_0, hfz68_1, hfz68_2, hfz68_3, hfz68_4, hfz68_5⟩ := zk6 BK261
               try go_wp2
               have n0_ := Aside0.mk (blk_drew BK261.out)
               have n1_ := Aside0.mk (below_drew1 HB.out)
               clear BK261; clear HB
               have BK261 := n0_
               have HB := n1_
               clear n0_ n1_
               have p271 : 0 ≤ (x7_4 : Int) := of_decide_eq_true zj
               have q271 : x7_4 < (l0_5.length : Int) := of_decide_eq_true zj
               obtain ⟨ad271, e271, hx271_0, hx271_1, hx271_2, hx271_3⟩ := at_T67 HR0_5.out x7_4 p271 q271
               have hw271_3 := hx271_3
               have hw271_2 := hx271_2
               have hw271_1 := hx271_1
               have hw271_0 := hx271_0
               cases e271
               replace hx271_0 := zu hx271_0 HB
               replace hx271_1 := zu hx271_1 HB
               replace hx271_2 := zu hx271_2 HB
               replace hx271_3 := zu hx271_3 HB
               replace p271 := eq_true p271
               replace q271 := eq_true q271
               have p272 : 0 ≤ ((ji63) : Int) := of_decide_eq_true zj
               have q272 : (ji63) < (l0_5.length : Int) := of_decide_eq_true zj
               obtain ⟨ad272, e272, hx272_0, hx272_1, hx272_2, hx272_3⟩ := at_T67 HR0_5.out (ji63) p272 q272
               have hw272_3 := hx272_3
               have hw272_2 := hx272_2
               have hw272_1 := hx272_1
               have hw272_0 := hx272_0
               obtain rfl : ad271 = ad272 := (by injection e272)
               replace hx272_0 := zu hx272_0 HB
               replace hx272_1 := zu hx272_1 HB
               replace hx272_2 := zu hx272_2 HB
               replace hx272_3 := zu hx272_3 HB
               replace p272 := eq_true p272
               replace q272 := eq_true q272
               refine start_ (n := 15) (S := fun w' => w'.cell? ⟨gb261, 0, none⟩ = some (.slice A0_0 l0_0.length c0_0) ∧ w'.cell? ⟨gb261, 1, none⟩ = some (.slice A0_1 l0_1.length c0_1) ∧ w'.cell? ⟨gb261, 2, none⟩ = some (.int .i64 a0_2) ∧ w'.cell? ⟨gb261, 3, none⟩ = some (.int .i64 a0_3) ∧ w'.cell? ⟨gb261, 4, none⟩ = some (.int .i64 a0_4) ∧ w'.cell? ⟨gb261, 5, none⟩ = some (.slice (some ad271) l0_5.length c0_5) ∧ w'.cell? (ad271.add ((x7_4).toNat * 4)) = some (.int .i64 ((rd_T67 l0_5 x7_4).f0.f0)) ∧ w'.cell? ⟨(ad271.add ((x7_4).toNat * 4)).block, (ad271.add ((x7_4).toNat * 4)).off + 1, none⟩ = some (.int .i64 ((rd_T67 l0_5 x7_4).f0.f1)) ∧ w'.cell? ⟨(ad271.add ((x7_4).toNat * 4)).block, (ad271.add ((x7_4).toNat * 4)).off + 2, none⟩ = some (.int .i64 ((rd_T67 l0_5 x7_4).f1.f0)) ∧ w'.cell? ⟨(ad271.add ((x7_4).toNat * 4)).block, (ad271.add ((x7_4).toNat * 4)).off + 3, none⟩ = some (.int .i64 ((rd_T67 l0_5 x7_4).f1.f1)) ∧ w'.cell? (ad271.add (((ji63)).toNat * 4)) = some (.int .i64 ((rd_T67 l0_5 (ji63)).f0.f0)) ∧ w'.cell? ⟨(ad271.add (((ji63)).toNat * 4)).block, (ad271.add (((ji63)).toNat * 4)).off + 1, none⟩ = some (.int .i64 ((rd_T67 l0_5 (ji63)).f0.f1)) ∧ w'.cell? ⟨(ad271.add (((ji63)).toNat * 4)).block, (ad271.add (((ji63)).toNat * 4)).off + 2, none⟩ = some (.int .i64 ((rd_T67 l0_5 (ji63)).f1.f0)) ∧ w'.cell? ⟨(ad271.add (((ji63)).toNat * 4)).block, (ad271.add (((ji63)).toNat * 4)).off + 3, none⟩ = some (.int .i64 ((rd_T67 l0_5 (ji63)).f1.f1))) (ds := []) #[Z0, Z0, Z0, Z0, Z0, Z0, Z0, Z0, Z0, Z0, Z0, Z0, Z0, Z0, Z0] (by kernel_rfl) rfl rfl ⟨(blk_cell BK261.out 0).trans rfl, (blk_cell BK261.out 1).trans rfl, (blk_cell BK261.out 2).trans rfl, (blk_cell BK261.out 3).trans rfl, (blk_cell BK261.out 4).trans rfl, (blk_cell BK261.out 5).trans rfl, (zu hw271_0 HB), (zu hw271_1 HB), (zu hw271_2 HB), (zu hw271_3 HB), (zu hw272_0 HB), (zu hw272_1 HB), (zu hw272_2 HB), (zu hw272_3 HB)⟩ (fun hHeld => ?_); refine with_tabW thatchref07_Check.tab26 thatchref07_Check.bits26 (fun HT_ HW_ => ?_)
               generalize wr.drew = w69 at BK261 HB hx271_0 hx271_1 hx271_2 hx271_3 hx272_0 hx272_1 hx272_2 hx272_3 hHeld ⊢
               refine zp 0 (some 96) #[Z1, Z0, Z0, Z0, Z0, Z0, Z0, Z0, Z0, Z0, Z0, Z0, Z0, Z0, Z0] rfl rfl (any_of HT_.out (by kernel_rfl)) ?_
               refine zp 2 (some 98) #[Z1, Z0, Z1, Z0, Z0, Z0, Z0, Z0, Z0, Z0, Z0, Z0, Z0, Z0, Z0] rfl rfl (any_of HT_.out (by kernel_rfl)) ?_
               refine zp 6 (some 102) #[Z1, Z0, Z1, Z0, Z0, Z0, Z1, Z0, Z0, Z0, Z0, Z0, Z0, Z0, Z0] rfl rfl (any_of HT_.out (by kernel_rfl)) ?_
               refine zp 8 (some 104) #[Z1, Z0, Z1, Z0, Z0, Z0, Z1, Z0, Z1, Z0, Z0, Z0, Z0, Z0, Z0] rfl rfl (any_of HT_.out (by kernel_rfl)) ?_
               refine zp 9 (some 105) #[Z1, Z0, Z1, Z0, Z0, Z0, Z1, Z0, Z1, Z1, Z0, Z0, Z0, Z0, Z0] rfl rfl (any_of HT_.out (by kernel_rfl)) ?_
               refine take_ (i := 1) (N := some 97) (v := ?_) (a' := ?_) #[Z1, Z1, Z1, Z0, Z0, Z0, Z1, Z0, Z1, Z1, Z0, Z0, Z0, Z0, Z0] rfl rfl (take_ofW HT_.out HW_.out (by kernel_rfl)) (fun _ _ _ h => h) (Or.inl ⟨by rfl, ?_⟩) hHeld ?_ ?_
               rotate_left; · rintro w' ⟨s0, s1, s2, s3, s4, s5, s6, s7, s8, s9, s10, s11, s12, s13⟩; go_simp; with_reducible rfl
               rotate_left; · simp only [Act.put, List.setIfInBounds_toArray, List.set_cons_zero, List.set_cons_succ, i64_w, i32_w]; rfl
               refine zp 3 (some 99) #[Z1, Z1, Z1, Z1, Z0, Z0, Z1, Z0, Z1, Z1, Z0, Z0, Z0, Z0, Z0] rfl rfl (any_of HT_.out (by kernel_rfl)) ?_
               refine zp 4 (some 100) #[Z1, Z1, Z1, Z1, Z1, Z0, Z1, Z0, Z1, Z1, Z0, Z0, Z0, Z0, Z0] rfl rfl (any_of HT_.out (by kernel_rfl)) ?_
               refine take_ (i := 5) (N := some 101) (v := ?_) (a' := ?_) #[Z1, Z1, Z1, Z1, Z1, Z1, Z1, Z0, Z1, Z1, Z0, Z0, Z0, Z0, Z0] rfl rfl (take_ofW HT_.out HW_.out (by kernel_rfl)) (fun _ _ _ h => h) (Or.inl ⟨by rfl, ?_⟩) hHeld ?_ ?_
               rotate_left; · rintro w' ⟨s0, s1, s2, s3, s4, s5, s6, s7, s8, s9, s10, s11, s12, s13⟩; go_simp; with_reducible rfl
               rotate_left; · simp only [Act.put, List.setIfInBounds_toArray, List.set_cons_zero, List.set_cons_succ, i64_w, i32_w]; rfl
               refine take_ (i := 7) (N := some 103) (v := ?_) (a' := ?_) #[Z1, Z1, Z1, Z1, Z1, Z1, Z1, Z1, Z1, Z1, Z0, Z0, Z0, Z0, Z0] rfl rfl (take_ofW HT_.out HW_.out (by kernel_rfl)) (fun _ _ _ h => h) (Or.inl ⟨by rfl, ?_⟩) hHeld ?_ ?_
               rotate_left; · rintro w' ⟨s0, s1, s2, s3, s4, s5, s6, s7, s8, s9, s10, s11, s12, s13⟩; go_simp; with_reducible rfl
               rotate_left; · simp only [Act.put, List.setIfInBounds_toArray, List.set_cons_zero, List.set_cons_succ, i64_w, i32_w]; rfl
               refine zp 10 (some 106) #[Z1, Z1, Z1, Z1, Z1, Z1, Z1, Z1, Z1, Z1, Z1, Z0, Z0, Z0, Z0] rfl rfl (any_of HT_.out (by kernel_rfl)) ?_
               refine zp 11 (some 107) #[Z1, Z1, Z1, Z1, Z1, Z1, Z1, Z1, Z1, Z1, Z1, Z1, Z0, Z0, Z0] rfl rfl (any_of HT_.out (by kernel_rfl)) ?_
               refine take_ (i := 12) (N := some 108) (v := ?_) (a' := ?_) #[Z1, Z1, Z1, Z1, Z1, Z1, Z1, Z1, Z1, Z1, Z1, Z1, Z1, Z0, Z0] rfl rfl (take_ofW HT_.out HW_.out (by kernel_rfl)) (fun _ _ _ h => h) (Or.inl ⟨by rfl, ?_⟩) hHeld ?_ ?_
               rotate_left; · rintro w' ⟨s0, s1, s2, s3, s4, s5, s6, s7, s8, s9, s10, s11, s12, s13⟩; go_simp; with_reducible rfl
               rotate_left; · simp only [Act.put, List.setIfInBounds_toArray, List.set_cons_zero, List.set_cons_succ, i64_w, i32_w]; rfl
               refine one_ (i := 13) (N := some 109) #[Z1, Z1, Z1, Z1, Z1, Z1, Z1, Z1, Z1, Z1, Z1, Z1, Z1, Z1, Z0] rfl rfl (one_of HT_.out (by kernel_rfl)) (by decide) (fun K hK => ?_)
               refine goes_ Try.func32 (by kernel_rfl) rfl #[.agg #[.int .i64 ((rd_T67 l0_5 x7_4).f0.f0), .int .i64 ((rd_T67 l0_5 x7_4).f0.f1)], .agg #[.int .i64 ((rd_T67 l0_5 (ji63)).f0.f0), .int .i64 ((rd_T67 l0_5 (ji63)).f0.f1)]] (by rfl) rfl rfl (by (try simp only [List.map_toArray, List.map_cons, List.map_nil]); first | done | (simp only [hji63]; rfl) | rfl | (simp only [List.length_drop, List.length_take]; rfl)) ?_
               with_reducible refine (thatchref07_behind.calls ((rd_T67 l0_5 x7_4).f0.f0) ((rd_T67 l0_5 x7_4).f0.f1) ((rd_T67 l0_5 (ji63)).f0.f0) ((rd_T67 l0_5 (ji63)).f0.f1) true _ A66.out).mono ?_
               rintro e w70 ⟨rfl, hb⟩
               refine ⟨_, rfl, ?_⟩
               have n0_ := zD BK261 hb
               have n1_ := zY HB hb
               clear BK261; clear HB
               have BK261 := n0_
               have HB := n1_
               clear n0_ n1_
               (try clear hb)
               (try clear hb2)
               (try clear hk)
               (try clear hi)
               refine hK.out _ _ ⟨(blk_cell BK261.out 0).trans rfl, (blk_cell BK261.out 1).trans rfl, (blk_cell BK261.out 2).trans rfl, (blk_cell BK261.out 3).trans rfl, (blk_cell BK261.out 4).trans rfl, (blk_cell BK261.out 5).trans rfl, (zu hw271_0 HB), (zu hw271_1 HB), (zu hw271_2 HB), (zu hw271_3 HB), (zu hw272_0 HB), (zu hw272_1 HB), (zu hw272_2 HB), (zu hw272_3 HB)⟩ (fun hHeld => ?_)
               clear hK K
               refine norm_ (a' := ?_) ?_ ?_
               rotate_left
               ·show Act.put _ (some 109) _ = _
                simp only [Act.put, List.setIfInBounds_toArray, List.set_cons_zero, List.set_cons_succ, i64_w, i32_w]
                rfl
               refine zp 14 (some 110) #[Z1, Z1, Z1, Z1, Z1, Z1, Z1, Z1, Z1, Z1, Z1, Z1, Z1, Z1, Z1] rfl rfl (any_of HT_.out (by kernel_rfl)) ?_
               refine done_ (done_of HT_.out (by kernel_rfl)) ?_
               try go_wp2
               go_roundg k4
               case measure => have := HK1.out; have := HJ28.out; have := HK3.out; have := HK4.out; omega
               case rel => exact ⟨(wrap64 (x7_4 + 1)), zq, H', ⟨by have := HK1.out; have := HJ28.out; have := HK3.out; have := HK4.out; omega⟩, ⟨zb BK261⟩, ⟨zw HB⟩⟩
              replace c67 := Bool.eq_false_iff.mpr c67
              subst c67
              have H1 : (some 8) = some r := by rw [if_neg (show ¬ (false = true) by decide)] at H; exact H
              clear H
              have H := H1
              clear H1
              obtain rfl := Option.some.inj H
              obtain ⟨hcz71_0, hcz71_1, hcz71_2, hcz71_3, hcz71_4, hcz71_5, hfz71_0, hfz71_1, hfz71_2, hfz71_3, hfz71_4, hfz71_5⟩ := zk6 BK261
              try go_wp2
              have n0_ := Aside0.mk (blk_drew BK261.out)
              have n1_ := Aside0.mk (below_drew1 HB.out)
              clear BK261; clear HB
              have BK261 := n0_
              have HB := n1_
              clear n0_ n1_
              have p271 : 0 ≤ (x7_4 : Int) := of_decide_eq_true zj
              have q271 : x7_4 < (l0_5.length : Int) := of_decide_eq_true zj
              obtain ⟨ad271, e271, hx271_0, hx271_1, hx271_2, hx271_3⟩ := at_T67 HR0_5.out x7_4 p271 q271
              have hw271_3 := hx271_3
              have hw271_2 := hx271_2
              have hw271_1 := hx271_1
              have hw271_0 := hx271_0
              cases e271
              replace hx271_0 := zu hx271_0 HB
              replace hx271_1 := zu hx271_1 HB
              replace hx271_2 := zu hx271_2 HB
              replace hx271_3 := zu hx271_3 HB
              replace p271 := eq_true p271
              replace q271 := eq_true q271
              have p272 : 0 ≤ ((ji63) : Int) := of_decide_eq_true zj
              have q272 : (ji63) < (l0_5.length : Int) := of_decide_eq_true zj
              obtain ⟨ad272, e272, hx272_0, hx272_1, hx272_2, hx272_3⟩ := at_T67 HR0_5.out (ji63) p272 q272
              have hw272_3 := hx272_3
              have hw272_2 := hx272_2
              have hw272_1 := hx272_1
              have hw272_0 := hx272_0
              obtain rfl : ad271 = ad272 := (by injection e272)
              replace hx272_0 := zu hx272_0 HB
              replace hx272_1 := zu hx272_1 HB
              replace hx272_2 := zu hx272_2 HB
              replace hx272_3 := zu hx272_3 HB
              replace p272 := eq_true p272
              replace q272 := eq_true q272
              refine start_ (n := 15) (S := fun w' => w'.cell? ⟨gb261, 0, none⟩ = some (.slice A0_0 l0_0.length c0_0) ∧ w'.cell? ⟨gb261, 1, none⟩ = some (.slice A0_1 l0_1.length c0_1) ∧ w'.cell? ⟨gb261, 2, none⟩ = some (.int .i64 a0_2) ∧ w'.cell? ⟨gb261, 3, none⟩ = some (.int .i64 a0_3) ∧ w'.cell? ⟨gb261, 4, none⟩ = some (.int .i64 a0_4) ∧ w'.cell? ⟨gb261, 5, none⟩ = some (.slice (some ad271) l0_5.length c0_5) ∧ w'.cell? (ad271.add ((x7_4).toNat * 4)) = some (.int .i64 ((rd_T67 l0_5 x7_4).f0.f0)) ∧ w'.cell? ⟨(ad271.add ((x7_4).toNat * 4)).block, (ad271.add ((x7_4).toNat * 4)).off + 1, none⟩ = some (.int .i64 ((rd_T67 l0_5 x7_4).f0.f1)) ∧ w'.cell? ⟨(ad271.add ((x7_4).toNat * 4)).block, (ad271.add ((x7_4).toNat * 4)).off + 2, none⟩ = some (.int .i64 ((rd_T67 l0_5 x7_4).f1.f0)) ∧ w'.cell? ⟨(ad271.add ((x7_4).toNat * 4)).block, (ad271.add ((x7_4).toNat * 4)).off + 3, none⟩ = some (.int .i64 ((rd_T67 l0_5 x7_4).f1.f1)) ∧ w'.cell? (ad271.add (((ji63)).toNat * 4)) = some (.int .i64 ((rd_T67 l0_5 (ji63)).f0.f0)) ∧ w'.cell? ⟨(ad271.add (((ji63)).toNat * 4)).block, (ad271.add (((ji63)).toNat * 4)).off + 1, none⟩ = some (.int .i64 ((rd_T67 l0_5 (ji63)).f0.f1)) ∧ w'.cell? ⟨(ad271.add (((ji63)).toNat * 4)).block, (ad271.add (((ji63)).toNat * 4)).off + 2, none⟩ = some (.int .i64 ((rd_T67 l0_5 (ji63)).f1.f0)) ∧ w'.cell? ⟨(ad271.add (((ji63)).toNat * 4)).block, (ad271.add (((ji63)).toNat * 4)).off + 3, none⟩ = some (.int .i64 ((rd_T67 l0_5 (ji63)).f1.f1))) (ds := []) #[Z0, Z0, Z0, Z0, Z0, Z0, Z0, Z0, Z0, Z0, Z0, Z0, Z0, Z0, Z0] (by kernel_rfl) rfl rfl ⟨(blk_cell BK261.out 0).trans rfl, (blk_cell BK261.out 1).trans rfl, (blk_cell BK261.out 2).trans rfl, (blk_cell BK261.out 3).trans rfl, (blk_cell BK261.out 4).trans rfl, (blk_cell BK261.out 5).trans rfl, (zu hw271_0 HB), (zu hw271_1 HB), (zu hw271_2 HB), (zu hw271_3 HB), (zu hw272_0 HB), (zu hw272_1 HB), (zu hw272_2 HB), (zu hw272_3 HB)⟩ (fun hHeld => ?_); refine with_tabW thatchref07_Check.tab26 thatchref07_Check.bits26 (fun HT_ HW_ => ?_)
              generalize wr.drew = w72 at BK261 HB hx271_0 hx271_1 hx271_2 hx271_3 hx272_0 hx272_1 hx272_2 hx272_3 hHeld ⊢
              refine zp 0 (some 96) #[Z1, Z0, Z0, Z0, Z0, Z0, Z0, Z0, Z0, Z0, Z0, Z0, Z0, Z0, Z0] rfl rfl (any_of HT_.out (by kernel_rfl)) ?_
              refine zp 2 (some 98) #[Z1, Z0, Z1, Z0, Z0, Z0, Z0, Z0, Z0, Z0, Z0, Z0, Z0, Z0, Z0] rfl rfl (any_of HT_.out (by kernel_rfl)) ?_
              refine zp 6 (some 102) #[Z1, Z0, Z1, Z0, Z0, Z0, Z1, Z0, Z0, Z0, Z0, Z0, Z0, Z0, Z0] rfl rfl (any_of HT_.out (by kernel_rfl)) ?_
              refine zp 8 (some 104) #[Z1, Z0, Z1, Z0, Z0, Z0, Z1, Z0, Z1, Z0, Z0, Z0, Z0, Z0, Z0] rfl rfl (any_of HT_.out (by kernel_rfl)) ?_
              refine zp 9 (some 105) #[Z1, Z0, Z1, Z0, Z0, Z0, Z1, Z0, Z1, Z1, Z0, Z0, Z0, Z0, Z0] rfl rfl (any_of HT_.out (by kernel_rfl)) ?_
              refine take_ (i := 1) (N := some 97) (v := ?_) (a' := ?_) #[Z1, Z1, Z1, Z0, Z0, Z0, Z1, Z0, Z1, Z1, Z0, Z0, Z0, Z0, Z0] rfl rfl (take_ofW HT_.out HW_.out (by kernel_rfl)) (fun _ _ _ h => h) (Or.inl ⟨by rfl, ?_⟩) hHeld ?_ ?_
              rotate_left; · rintro w' ⟨s0, s1, s2, s3, s4, s5, s6, s7, s8, s9, s10, s11, s12, s13⟩; go_simp; with_reducible rfl
              rotate_left; · simp only [Act.put, List.setIfInBounds_toArray, List.set_cons_zero, List.set_cons_succ, i64_w, i32_w]; rfl
              refine zp 3 (some 99) #[Z1, Z1, Z1, Z1, Z0, Z0, Z1, Z0, Z1, Z1, Z0, Z0, Z0, Z0, Z0] rfl rfl (any_of HT_.out (by kernel_rfl)) ?_
              refine zp 4 (some 100) #[Z1, Z1, Z1, Z1, Z1, Z0, Z1, Z0, Z1, Z1, Z0, Z0, Z0, Z0, Z0] rfl rfl (any_of HT_.out (by kernel_rfl)) ?_
              refine take_ (i := 5) (N := some 101) (v := ?_) (a' := ?_) #[Z1, Z1, Z1, Z1, Z1, Z1, Z1, Z0, Z1, Z1, Z0, Z0, Z0, Z0, Z0] rfl rfl (take_ofW HT_.out HW_.out (by kernel_rfl)) (fun _ _ _ h => h) (Or.inl ⟨by rfl, ?_⟩) hHeld ?_ ?_
              rotate_left; · rintro w' ⟨s0, s1, s2, s3, s4, s5, s6, s7, s8, s9, s10, s11, s12, s13⟩; go_simp; with_reducible rfl
              rotate_left; · simp only [Act.put, List.setIfInBounds_toArray, List.set_cons_zero, List.set_cons_succ, i64_w, i32_w]; rfl
              refine take_ (i := 7) (N := some 103) (v := ?_) (a' := ?_) #[Z1, Z1, Z1, Z1, Z1, Z1, Z1, Z1, Z1, Z1, Z0, Z0, Z0, Z0, Z0] rfl rfl (take_ofW HT_.out HW_.out (by kernel_rfl)) (fun _ _ _ h => h) (Or.inl ⟨by rfl, ?_⟩) hHeld ?_ ?_
              rotate_left; · rintro w' ⟨s0, s1, s2, s3, s4, s5, s6, s7, s8, s9, s10, s11, s12, s13⟩; go_simp; with_reducible rfl
              rotate_left; · simp only [Act.put, List.setIfInBounds_toArray, List.set_cons_zero, List.set_cons_succ, i64_w, i32_w]; rfl
              refine zp 10 (some 106) #[Z1, Z1, Z1, Z1, Z1, Z1, Z1, Z1, Z1, Z1, Z1, Z0, Z0, Z0, Z0] rfl rfl (any_of HT_.out (by kernel_rfl)) ?_
              refine zp 11 (some 107) #[Z1, Z1, Z1, Z1, Z1, Z1, Z1, Z1, Z1, Z1, Z1, Z1, Z0, Z0, Z0] rfl rfl (any_of HT_.out (by kernel_rfl)) ?_
              refine take_ (i := 12) (N := some 108) (v := ?_) (a' := ?_) #[Z1, Z1, Z1, Z1, Z1, Z1, Z1, Z1, Z1, Z1, Z1, Z1, Z1, Z0, Z0] rfl rfl (take_ofW HT_.out HW_.out (by kernel_rfl)) (fun _ _ _ h => h) (Or.inl ⟨by rfl, ?_⟩) hHeld ?_ ?_
              rotate_left; · rintro w' ⟨s0, s1, s2, s3, s4, s5, s6, s7, s8, s9, s10, s11, s12, s13⟩; go_simp; with_reducible rfl
              rotate_left; · simp only [Act.put, List.setIfInBounds_toArray, List.set_cons_zero, List.set_cons_succ, i64_w, i32_w]; rfl
              refine one_ (i := 13) (N := some 109) #[Z1, Z1, Z1, Z1, Z1, Z1, Z1, Z1, Z1, Z1, Z1, Z1, Z1, Z1, Z0] rfl rfl (one_of HT_.out (by kernel_rfl)) (by decide) (fun K hK => ?_)
              refine goes_ Try.func32 (by kernel_rfl) rfl #[.agg #[.int .i64 ((rd_T67 l0_5 x7_4).f0.f0), .int .i64 ((rd_T67 l0_5 x7_4).f0.f1)], .agg #[.int .i64 ((rd_T67 l0_5 (ji63)).f0.f0), .int .i64 ((rd_T67 l0_5 (ji63)).f0.f1)]] (by rfl) rfl rfl (by (try simp only [List.map_toArray, List.map_cons, List.map_nil]); first | done | (simp only [hji63]; rfl) | rfl | (simp only [List.length_drop, List.length_take]; rfl)) ?_
              with_reducible refine (thatchref07_behind.calls ((rd_T67 l0_5 x7_4).f0.f0) ((rd_T67 l0_5 x7_4).f0.f1) ((rd_T67 l0_5 (ji63)).f0.f0) ((rd_T67 l0_5 (ji63)).f0.f1) false _ A66.out).mono ?_
              rintro e w73 ⟨rfl, hb⟩
              refine ⟨_, rfl, ?_⟩
              have n0_ := zD BK261 hb
              have n1_ := zY HB hb
              clear BK261; clear HB
              have BK261 := n0_
              have HB := n1_
              clear n0_ n1_
              (try clear hb)
              (try clear hb2)
              (try clear hk)
              (try clear hi)
              refine hK.out _ _ ⟨(blk_cell BK261.out 0).trans rfl, (blk_cell BK261.out 1).trans rfl, (blk_cell BK261.out 2).trans rfl, (blk_cell BK261.out 3).trans rfl, (blk_cell BK261.out 4).trans rfl, (blk_cell BK261.out 5).trans rfl, (zu hw271_0 HB), (zu hw271_1 HB), (zu hw271_2 HB), (zu hw271_3 HB), (zu hw272_0 HB), (zu hw272_1 HB), (zu hw272_2 HB), (zu hw272_3 HB)⟩ (fun hHeld => ?_)
              clear hK K
              refine norm_ (a' := ?_) ?_ ?_
              rotate_left
              ·show Act.put _ (some 109) _ = _
               simp only [Act.put, List.setIfInBounds_toArray, List.set_cons_zero, List.set_cons_succ, i64_w, i32_w]
               rfl
              refine zp 14 (some 110) #[Z1, Z1, Z1, Z1, Z1, Z1, Z1, Z1, Z1, Z1, Z1, Z1, Z1, Z1, Z1] rfl rfl (any_of HT_.out (by kernel_rfl)) ?_
              refine done_ (done_of HT_.out (by kernel_rfl)) ?_
              try go_wp2
              go_ret
              exact ⟨by first | rfl | (simp [errW_none, errW_some] <;> rfl) | (simp only [← hji63]; first | rfl | (simp [errW_none, errW_some] <;> rfl)) | (simp [*, errW_none, errW_some] <;> rfl), zw HB⟩
             rw [if_neg c65] at H
             exact absurd H (by simp)
            rw [if_neg c64] at H
            exact absurd H (by simp)
           rw [if_neg c62] at H
           exact absurd H (by simp)
          rw [if_neg c61] at H
          have c61b0 : decide (x7_4 < (l0_5.length : Int)) = false := decide_eq_false c61
          clear c61
          replace H := Option.bind_eq_some_iff.mp H
          obtain ⟨t274, A740, H⟩ := H
          replace H : (if t274 = true then (some 0) else (some 10)) = some r := H
          have A74 := Aside0.mk A740
          clear A740
          by_cases c75 : t274 = true
          ·subst c75
           have H1 : (some 0) = some r := by rw [if_pos rfl] at H; exact H
           clear H
           have H := H1
           clear H1
           obtain rfl := Option.some.inj H
           obtain ⟨hcz76_0, hcz76_1, hcz76_2, hcz76_3, hcz76_4, hcz76_5, hfz76_0, hfz76_1, hfz76_2, hfz76_3, hfz76_4, hfz76_5⟩ := zk6 BK261
           go_wp2_with (first | ((with_reducible refine gate_callee (f := 53) rfl ?_); refine goesL_ (some 112) rfl rfl Try.func53 (by kernel_rfl) rfl #[.agg #[.slice A0_0 l0_0.length c0_0, .slice A0_1 l0_1.length c0_1, .int .i64 a0_2, .int .i64 a0_3, .int .i64 a0_4, .slice A0_5 l0_5.length c0_5]] rfl za ?_; (with_reducible refine (thatchref07_agree.calls k4 _ _ l0_0 _ _ l0_1 a0_2 a0_3 a0_4 _ _ l0_5 true _ ?side1 ?side2 ?side3 ?side4 ?side5 ?side6 A74.out).mono ?_); (case side1 => exact zl HR0_0 HB); (case side2 => exact HC0_0.out); (case side3 => exact zl HR0_1 HB); (case side4 => exact HC0_1.out); (case side5 => exact zl HR0_5 HB); (case side6 => exact HC0_5.out); rintro e w77 ⟨rfl, hb⟩; refine ⟨_, rfl, ?_⟩; have n0_ := zD BK261 hb; have n1_ := zY HB hb; clear BK261; clear HB; have BK261 := n0_; have HB := n1_; clear n0_ n1_; (try clear hb); (try clear hb2); (try clear hk); (try clear hi)))
           go_ret
           exact ⟨ze, zw HB⟩
          replace c75 := Bool.eq_false_iff.mpr c75
          subst c75
          have H1 : (some 10) = some r := by rw [if_neg (show ¬ (false = true) by decide)] at H; exact H
          clear H
          have H := H1
          clear H1
          obtain rfl := Option.some.inj H
          obtain ⟨hcz78_0, hcz78_1, hcz78_2, hcz78_3, hcz78_4, hcz78_5, hfz78_0, hfz78_1, hfz78_2, hfz78_3, hfz78_4, hfz78_5⟩ := zk6 BK261
          go_wp2_with (first | ((with_reducible refine gate_callee (f := 53) rfl ?_); refine goesL_ (some 112) rfl rfl Try.func53 (by kernel_rfl) rfl #[.agg #[.slice A0_0 l0_0.length c0_0, .slice A0_1 l0_1.length c0_1, .int .i64 a0_2, .int .i64 a0_3, .int .i64 a0_4, .slice A0_5 l0_5.length c0_5]] rfl za ?_; (with_reducible refine (thatchref07_agree.calls k4 _ _ l0_0 _ _ l0_1 a0_2 a0_3 a0_4 _ _ l0_5 false _ ?side1 ?side2 ?side3 ?side4 ?side5 ?side6 A74.out).mono ?_); (case side1 => exact zl HR0_0 HB); (case side2 => exact HC0_0.out); (case side3 => exact zl HR0_1 HB); (case side4 => exact HC0_1.out); (case side5 => exact zl HR0_5 HB); (case side6 => exact HC0_5.out); rintro e w79 ⟨rfl, hb⟩; refine ⟨_, rfl, ?_⟩; have n0_ := zD BK261 hb; have n1_ := zY HB hb; clear BK261; clear HB; have BK261 := n0_; have HB := n1_; clear n0_ n1_; (try clear hb); (try clear hb2); (try clear hk); (try clear hi)))
          go_ret
          exact ⟨ze, zw HB⟩
 rw [if_neg c3] at H
 have c3b0 : (t262 == 0) = false := beq_eq_false_iff_ne.mpr c3
 have c3b1 : (t262 != 0) = true := bne_iff_ne.mpr c3
 obtain rfl := Option.some.inj H
 go_enter Try.func28, Try.ntmps28
 go_wp2_with (first | ((with_reducible refine gate_dst (N := 1) rfl ?_); refine zx 1 #[.slice A0_0 l0_0.length c0_0, .slice A0_1 l0_1.length c0_1, .int .i64 a0_2, .int .i64 a0_3, .int .i64 a0_4, .slice A0_5 l0_5.length c0_5] 30 ?_; intro gb261 hg w80 hbox hb; have n0_ := zY HB hb; have n1_ := Aside0.mk (hbox); have n2_ := zS hg HB; have n3_ := zS hg HB; clear HB; have HB := n0_; have BK261 := n1_; have GW261 := n2_; have GE261 := n3_; clear n0_ n1_ n2_ n3_; clear hb hbox hg; obtain ⟨hcz81_0, hcz81_1, hcz81_2, hcz81_3, hcz81_4, hcz81_5, hfz81_0, hfz81_1, hfz81_2, hfz81_3, hfz81_4, hfz81_5⟩ := zk6 BK261) | ((with_reducible refine gate_callee (f := 51) rfl ?_); refine goesL_ (some 11) rfl rfl Try.func51 (by kernel_rfl) rfl #[.slice A0_0 l0_0.length c0_0] rfl za ?_; (with_reducible refine (thatchref07_outline.calls k _ _ l0_0 t262 _ ?side1 ?side2 A2.out).mono ?_); (case side1 => exact zl HR0_0 HB); (case side2 => exact HC0_0.out); rintro e w82 ⟨rfl, hb⟩; refine ⟨_, rfl, ?_⟩; have n0_ := zD BK261 hb; have n1_ := zY HB hb; clear BK261; clear HB; have BK261 := n0_; have HB := n1_; clear n0_ n1_; (try clear hb); (try clear hb2); (try clear hk); (try clear hi)))
 go_ret
 exact ⟨ze, zw HB⟩
end Go.Proofs.Ytcfpclehogdmbaa.Q
end
section
namespace Go.Proofs.Ytcfpclehogdmbaa.Q
open Go.RowKit Go.Proofs.YtcfpclehogdmbaaW.PrintWords Go.Proofs.YtcfpclehogdmbaaW.PrintLast Go.Proofs.YtcfpclehogdmbaaW.PrintMore
attribute [local go_sem] max2_int min2_int max_two min_two max_three min_three max_four min_four   -- for this text's walks alone
set_option linter.unusedVariables false
set_option linter.unusedSimpArgs false
set_option maxHeartbeats 1000000 in
theorem check1.calls (x : S55) (W : World) : Calls Try.prog 36 #[.agg #[.int .i64 x.f0.f0, .int .i64 x.f0.f1, .int .i64 x.f1.f0, .int .i64 x.f1.f1]] W fun e W' => e = .returned (.bool (decide (x.f0.f0 ≥ x.f1.f0) || decide (x.f0.f1 ≥ x.f1.f1))) ∧ Below W.heap.size W W' := by
  have hu55 := Try.underlying55
  have hu32 := Try.underlying32
  by_cases c1 : x.f0.f0 ≥ x.f1.f0
  · have b1 : decide (x.f1.f0 ≤ x.f0.f0) = true := decide_eq_true c1
    have B2 := Aside0.mk (show (decide (x.f0.f0 ≥ x.f1.f0) || decide (x.f0.f1 ≥ x.f1.f1)) = true from by simp [c1])
    clear c1
    go_enter Try.func36, Try.ntmps36
    go_wp2
    go_ret
    exact ⟨by rw [B2.out]; rfl, (Below.refl _ _).alloc (Nat.le_refl _) _⟩
  have b1 : decide (x.f1.f0 ≤ x.f0.f0) = false := decide_eq_false c1
  have B2 := Aside0.mk (show (decide (x.f0.f0 ≥ x.f1.f0) || decide (x.f0.f1 ≥ x.f1.f1)) = decide (x.f0.f1 ≥ x.f1.f1) from by simp [c1])
  clear c1
  go_enter Try.func36, Try.ntmps36
  go_wp2
  go_ret
  exact ⟨by rw [B2.out]; rfl, (Below.refl _ _).alloc (Nat.le_refl _) _⟩
def api_Box_wear_Check_1.bad (h : S55) : Bool := decide (h.f0.f0 ≥ h.f1.f0) || decide (h.f0.f1 ≥ h.f1.f1)
def api_Box_wear_Check_1.f (l0 : List (S55)) : Option (Bool) := some (l0.any api_Box_wear_Check_1.bad)
theorem api_Box_wear_Check_1.calls (A0 : Option Addr) (c0 : Nat) (l0 : List (S55)) (r : Bool) (w : World) (hr0 : Kd.C k55 w A0 l0.length l0) (hc0 : l0.length ≤ c0) (h : api_Box_wear_Check_1.f l0 = some r) :
    Calls Try.prog 35 #[.slice A0 l0.length c0, .func (.func 36) #[] #[]] w fun e w' => e = .returned (.bool r) ∧ Below w.heap.size w w' := by
  obtain rfl : l0.any api_Box_wear_Check_1.bad = r := Option.some.inj h
  exact boxes.contains _ #[] api_Box_wear_Check_1.bad A0 c0 l0 w hr0 hc0 (enters_of Try.func36 (by kernel_rfl) rfl) fun x W _ => check1.calls x W
end Go.Proofs.Ytcfpclehogdmbaa.Q
end
section
namespace Go.Proofs.Ytcfpclehogdmbaa.Q
open Go.RowKit Go.Proofs.YtcfpclehogdmbaaW.PrintWords Go.Proofs.YtcfpclehogdmbaaW.PrintLast Go.Proofs.YtcfpclehogdmbaaW.PrintMore
attribute [local go_sem] max2_int min2_int max_two min_two max_three min_three max_four min_four   -- for this text's walks alone
set_option linter.unusedVariables false
set_option linter.unusedSimpArgs false
def cmp_Or_int.l0 : Nat → Int → List Int → Int → Int → Option (Int)
 | 0, _, _, _, _ => none
 | k + 1, x3, x6, x7, x8 => if x8 < x7 then (if 0 ≤ x8 then (if x8 < (x6.length : Int) then (if (rd x6 x8) = x3 then (cmp_Or_int.l0 k x3 x6 x7 (wrap64 (x8 + 1))) else (some (rd x6 x8))) else (none)) else (none)) else (some x3)
def cmp_Or_int.f (k : Nat) (l0 : List Int) : Option (Int) := cmp_Or_int.l0 k 0 l0 (l0.length : Int) 0
theorem cmp_Or_int.mono_l : ∀ k, (∀ y0 y1 y2 y3, LeO (cmp_Or_int.l0 k y0 y1 y2 y3) (cmp_Or_int.l0 (k + 1) y0 y1 y2 y3))
 | 0 => fun _ _ _ _ r h => by simp [cmp_Or_int.l0] at h
 | k + 1 => by
  have ih0 := cmp_Or_int.mono_l k
  ·intro y0 y1 y2 y3
   unfold cmp_Or_int.l0
   repeat' first
   | (with_reducible exact ih0 _ _ _ _)
   | (with_reducible exact LeO.refl _)
   | (with_reducible exact LeO.none _)
   | (with_reducible refine LeO.ite ?_ ?_)
   | (with_reducible refine LeO.bind ?_ (fun _ => ?_))
   | exact ih0 _ _ _ _
   | exact LeO.none _
   | refine LeO.ite ?_ ?_
   | refine LeO.bind ?_ (fun _ => ?_)
theorem cmp_Or_int.mono : ∀ a0 k, LeO (cmp_Or_int.f k a0) (cmp_Or_int.f (k + 1) a0) := by
 intro a0 k
 have ih0 := cmp_Or_int.mono_l k
 unfold cmp_Or_int.f
 repeat' first
   | (with_reducible exact ih0 _ _ _ _)
   | (with_reducible exact LeO.refl _)
   | (with_reducible exact LeO.none _)
   | (with_reducible refine LeO.ite ?_ ?_)
   | (with_reducible refine LeO.bind ?_ (fun _ => ?_))
   | exact ih0 _ _ _ _
   | exact LeO.none _
   | refine LeO.ite ?_ ?_
   | refine LeO.bind ?_ (fun _ => ?_)
set_option maxHeartbeats 8000000 in
set_option maxRecDepth 100000 in
theorem cmp_Or_int.calls (k : Nat) (A0 : Option Addr) (c0 : Nat) (l0 : List Int) (r : Int) (w : World) (hr0 : Kd.C (Kd.int .i64) w A0 l0.length l0) (hc0 : l0.length ≤ c0) (h : cmp_Or_int.f k l0 = some r) :
  Calls Try.prog 47 #[.slice A0 l0.length c0] w fun e w' => e = .returned (.int .i64 r) ∧ Drawn0 w w' := by
 have HR0 := Aside0.mk hr0
 have HC0 := Aside0.mk hc0
 clear hr0 hc0
 have H : (cmp_Or_int.l0 k 0 l0 (l0.length : Int) 0) = some r := h
 clear h
 have H' := Aside0.mk H
 clear H
 go_enter Try.func47, Try.ntmps47
 go_wp2
 go_loopg [8] k (fun kq v8 w' => ∃ (x8_1 : Int), v8 = .int .i64 x8_1 ∧ Aside0 (cmp_Or_int.l0 kq 0 l0 (l0.length : Int) x8_1 = some r) ∧ Aside0 (kq ≤ k) ∧ Drawn0 w w')
 case atStart => exact ⟨(0), zq, H', ⟨Nat.le_refl _⟩, by repeat (first | exact Drawn0.refl _ | apply Drawn0.step)⟩
 case round =>
  clear H'
  obtain ⟨x8_1, rfl, HA, HK1, ⟨m1, rfl⟩⟩ := hrel
  cases gk with
  | zero => exact absurd HA.out (by simp [cmp_Or_int.l0])
  | succ k1 =>
   have H := HA.out
   clear HA
   simp only [cmp_Or_int.l0] at H
   by_cases c2 : x8_1 < (l0.length : Int)
   ·rw [if_pos c2] at H
    have c2b0 : decide (x8_1 < (l0.length : Int)) = true := decide_eq_true c2
    clear c2
    by_cases c3 : 0 ≤ x8_1
    ·rw [if_pos c3] at H
     have c3b0 : decide (0 ≤ x8_1) = true := decide_eq_true c3
     clear c3
     by_cases c4 : x8_1 < (l0.length : Int)
     ·rw [if_pos c4] at H
      have c4b0 : decide (x8_1 < (l0.length : Int)) = true := decide_eq_true c4
      clear c4
      by_cases c5 : (rd l0 x8_1) = 0
      ·rw [if_pos c5] at H
       have c5b0 : ((rd l0 x8_1) == 0) = true := beq_iff_eq.mpr c5
       have c5b1 : ((rd l0 x8_1) != 0) = false := bne_eq_false_iff_eq.mpr c5
       clear c5
       have H' := Aside0.mk H
       clear H
       have p113 : 0 ≤ (x8_1 : Int) := of_decide_eq_true zj
       have q113 : x8_1 < (l0.length : Int) := of_decide_eq_true zj
       obtain ⟨ad113, e113, hx113_0⟩ := Kd.at_int HR0.out x8_1 p113 q113
       cases e113
       replace p113 := eq_true p113
       replace q113 := eq_true q113
       go_wp2
       go_roundg k1
       case measure => have := HK1.out; omega
       case rel => exact ⟨(wrap64 (x8_1 + 1)), zq, H', ⟨by have := HK1.out; omega⟩, by repeat (first | exact Drawn0.refl _ | apply Drawn0.step)⟩
      rw [if_neg c5] at H
      have c5b0 : ((rd l0 x8_1) == 0) = false := beq_eq_false_iff_ne.mpr c5
      have c5b1 : ((rd l0 x8_1) != 0) = true := bne_iff_ne.mpr c5
      obtain rfl := Option.some.inj H
      have p113 : 0 ≤ (x8_1 : Int) := of_decide_eq_true zj
      have q113 : x8_1 < (l0.length : Int) := of_decide_eq_true zj
      obtain ⟨ad113, e113, hx113_0⟩ := Kd.at_int HR0.out x8_1 p113 q113
      cases e113
      replace p113 := eq_true p113
      replace q113 := eq_true q113
      go_wp2
      go_ret
      exact ⟨by first | rfl | (simp; done) | (simp [*]; done), by repeat (first | exact Drawn0.refl _ | apply Drawn0.step)⟩
     rw [if_neg c4] at H
     exact absurd H (by simp)
    rw [if_neg c3] at H
    exact absurd H (by simp)
   rw [if_neg c2] at H
   have c2b0 : decide (x8_1 < (l0.length : Int)) = false := decide_eq_false c2
   clear c2
   obtain rfl := Option.some.inj H
   go_wp2
   go_ret
   exact ⟨by first | rfl | (simp; done) | (simp [*]; done), by repeat (first | exact Drawn0.refl _ | apply Drawn0.step)⟩
def cmp_isNaN_int.f (a0 : Int) : Option (Bool) := some (a0 != a0)
set_option maxHeartbeats 8000000 in
set_option maxRecDepth 100000 in
theorem cmp_isNaN_int.calls (a0 : Int) (r : Bool) (w : World) (h : cmp_isNaN_int.f a0 = some r) :
  Calls Try.prog 61 #[.int .i64 a0] w fun e w' => e = .returned (.bool r) ∧ Drawn0 w w' := by
 have H : (some (a0 != a0)) = some r := h
 clear h
 obtain rfl := Option.some.inj H
 go_enter Try.func61, Try.ntmps61
 go_wp2
 go_ret
 exact ⟨by first | rfl | (simp; done) | (simp [*]; done), by repeat (first | exact Drawn0.refl _ | apply Drawn0.step)⟩
def cmp_Compare_int.f (a0 : Int) (a1 : Int) : Option (Int) := (cmp_isNaN_int.f a0).bind fun t114 => ((cmp_isNaN_int.f a1).bind fun t115 => (if t114 = true then (if t115 = true then (some 0) else (some (-1))) else (if t115 = true then (some 1) else (if a0 < a1 then (some (-1)) else (if a0 > a1 then (some 1) else (some 0))))))
set_option maxHeartbeats 8000000 in
set_option maxRecDepth 100000 in
theorem cmp_Compare_int.calls (a0 : Int) (a1 : Int) (r : Int) (w : World) (h : cmp_Compare_int.f a0 a1 = some r) :
  Calls Try.prog 48 #[.int .i64 a0, .int .i64 a1] w fun e w' => e = .returned (.int .i64 r) ∧ Drawn0 w w' := by
 have H : ((cmp_isNaN_int.f a0).bind fun t114 => ((cmp_isNaN_int.f a1).bind fun t115 => (if t114 = true then (if t115 = true then (some 0) else (some (-1))) else (if t115 = true then (some 1) else (if a0 < a1 then (some (-1)) else (if a0 > a1 then (some 1) else (some 0))))))) = some r := h
 clear h
 replace H := Option.bind_eq_some_iff.mp H
 obtain ⟨t114, A30, H⟩ := H
 replace H : ((cmp_isNaN_int.f a1).bind fun t115 => (if t114 = true then (if t115 = true then (some 0) else (some (-1))) else (if t115 = true then (some 1) else (if a0 < a1 then (some (-1)) else (if a0 > a1 then (some 1) else (some 0)))))) = some r := H
 have A3 := Aside0.mk A30
 clear A30
 replace H := Option.bind_eq_some_iff.mp H
 obtain ⟨t115, A40, H⟩ := H
 replace H : (if t114 = true then (if t115 = true then (some 0) else (some (-1))) else (if t115 = true then (some 1) else (if a0 < a1 then (some (-1)) else (if a0 > a1 then (some 1) else (some 0))))) = some r := H
 have A4 := Aside0.mk A40
 clear A40
 by_cases c5 : t114 = true
 ·subst c5
  have H1 : (if t115 = true then (some 0) else (some (-1))) = some r := by rw [if_pos rfl] at H; exact H
  clear H
  have H := H1
  clear H1
  by_cases c6 : t115 = true
  ·subst c6
   have H1 : (some 0) = some r := by rw [if_pos rfl] at H; exact H
   clear H
   have H := H1
   clear H1
   obtain rfl := Option.some.inj H
   go_enter Try.func48, Try.ntmps48
   go_wp2_with (first | ((with_reducible refine gate_callee (f := 61) rfl ?_); refine goesL_ (some 8) rfl rfl Try.func61 (by kernel_rfl) rfl #[.int .i64 a0] rfl za ?_; (with_reducible refine (cmp_isNaN_int.calls a0 true _ A3.out).mono ?_); rintro e w' ⟨rfl, ⟨nd, rfl⟩⟩; refine ⟨_, rfl, ?_⟩) | ((with_reducible refine gate_callee (f := 61) rfl ?_); refine goesL_ (some 10) rfl rfl Try.func61 (by kernel_rfl) rfl #[.int .i64 a1] rfl za ?_; (with_reducible refine (cmp_isNaN_int.calls a1 true _ A4.out).mono ?_); rintro e w' ⟨rfl, ⟨nd, rfl⟩⟩; refine ⟨_, rfl, ?_⟩))
   go_ret
   exact ⟨by first | rfl | (simp; done) | (simp [*]; done), by repeat (first | exact Drawn0.refl _ | apply Drawn0.step)⟩
  replace c6 := Bool.eq_false_iff.mpr c6
  subst c6
  have H1 : (some (-1)) = some r := by rw [if_neg (show ¬ (false = true) by decide)] at H; exact H
  clear H
  have H := H1
  clear H1
  obtain rfl := Option.some.inj H
  go_enter Try.func48, Try.ntmps48
  go_wp2_with (first | ((with_reducible refine gate_callee (f := 61) rfl ?_); refine goesL_ (some 8) rfl rfl Try.func61 (by kernel_rfl) rfl #[.int .i64 a0] rfl za ?_; (with_reducible refine (cmp_isNaN_int.calls a0 true _ A3.out).mono ?_); rintro e w' ⟨rfl, ⟨nd, rfl⟩⟩; refine ⟨_, rfl, ?_⟩) | ((with_reducible refine gate_callee (f := 61) rfl ?_); refine goesL_ (some 10) rfl rfl Try.func61 (by kernel_rfl) rfl #[.int .i64 a1] rfl za ?_; (with_reducible refine (cmp_isNaN_int.calls a1 false _ A4.out).mono ?_); rintro e w' ⟨rfl, ⟨nd, rfl⟩⟩; refine ⟨_, rfl, ?_⟩))
  go_ret
  exact ⟨by first | rfl | (simp; done) | (simp [*]; done), by repeat (first | exact Drawn0.refl _ | apply Drawn0.step)⟩
 replace c5 := Bool.eq_false_iff.mpr c5
 subst c5
 have H1 : (if t115 = true then (some 1) else (if a0 < a1 then (some (-1)) else (if a0 > a1 then (some 1) else (some 0)))) = some r := by rw [if_neg (show ¬ (false = true) by decide)] at H; exact H
 clear H
 have H := H1
 clear H1
 by_cases c7 : t115 = true
 ·subst c7
  have H1 : (some 1) = some r := by rw [if_pos rfl] at H; exact H
  clear H
  have H := H1
  clear H1
  obtain rfl := Option.some.inj H
  go_enter Try.func48, Try.ntmps48
  go_wp2_with (first | ((with_reducible refine gate_callee (f := 61) rfl ?_); refine goesL_ (some 8) rfl rfl Try.func61 (by kernel_rfl) rfl #[.int .i64 a0] rfl za ?_; (with_reducible refine (cmp_isNaN_int.calls a0 false _ A3.out).mono ?_); rintro e w' ⟨rfl, ⟨nd, rfl⟩⟩; refine ⟨_, rfl, ?_⟩) | ((with_reducible refine gate_callee (f := 61) rfl ?_); refine goesL_ (some 10) rfl rfl Try.func61 (by kernel_rfl) rfl #[.int .i64 a1] rfl za ?_; (with_reducible refine (cmp_isNaN_int.calls a1 true _ A4.out).mono ?_); rintro e w' ⟨rfl, ⟨nd, rfl⟩⟩; refine ⟨_, rfl, ?_⟩))
  go_ret
  exact ⟨by first | rfl | (simp; done) | (simp [*]; done), by repeat (first | exact Drawn0.refl _ | apply Drawn0.step)⟩
 replace c7 := Bool.eq_false_iff.mpr c7
 subst c7
 have H1 : (if a0 < a1 then (some (-1)) else (if a0 > a1 then (some 1) else (some 0))) = some r := by rw [if_neg (show ¬ (false = true) by decide)] at H; exact H
 clear H
 have H := H1
 clear H1
 by_cases c8 : a0 < a1
 ·rw [if_pos c8] at H
  have c8b0 : decide (a0 < a1) = true := decide_eq_true c8
  clear c8
  obtain rfl := Option.some.inj H
  go_enter Try.func48, Try.ntmps48
  go_wp2_with (first | ((with_reducible refine gate_callee (f := 61) rfl ?_); refine goesL_ (some 8) rfl rfl Try.func61 (by kernel_rfl) rfl #[.int .i64 a0] rfl za ?_; (with_reducible refine (cmp_isNaN_int.calls a0 false _ A3.out).mono ?_); rintro e w' ⟨rfl, ⟨nd, rfl⟩⟩; refine ⟨_, rfl, ?_⟩) | ((with_reducible refine gate_callee (f := 61) rfl ?_); refine goesL_ (some 10) rfl rfl Try.func61 (by kernel_rfl) rfl #[.int .i64 a1] rfl za ?_; (with_reducible refine (cmp_isNaN_int.calls a1 false _ A4.out).mono ?_); rintro e w' ⟨rfl, ⟨nd, rfl⟩⟩; refine ⟨_, rfl, ?_⟩))
  go_ret
  exact ⟨by first | rfl | (simp; done) | (simp [*]; done), by repeat (first | exact Drawn0.refl _ | apply Drawn0.step)⟩
 rw [if_neg c8] at H
 have c8b0 : decide (a0 < a1) = false := decide_eq_false c8
 clear c8
 by_cases c9 : a0 > a1
 ·rw [if_pos c9] at H
  have c9b0 : decide (a1 < a0) = true := decide_eq_true c9
  clear c9
  obtain rfl := Option.some.inj H
  go_enter Try.func48, Try.ntmps48
  go_wp2_with (first | ((with_reducible refine gate_callee (f := 61) rfl ?_); refine goesL_ (some 8) rfl rfl Try.func61 (by kernel_rfl) rfl #[.int .i64 a0] rfl za ?_; (with_reducible refine (cmp_isNaN_int.calls a0 false _ A3.out).mono ?_); rintro e w' ⟨rfl, ⟨nd, rfl⟩⟩; refine ⟨_, rfl, ?_⟩) | ((with_reducible refine gate_callee (f := 61) rfl ?_); refine goesL_ (some 10) rfl rfl Try.func61 (by kernel_rfl) rfl #[.int .i64 a1] rfl za ?_; (with_reducible refine (cmp_isNaN_int.calls a1 false _ A4.out).mono ?_); rintro e w' ⟨rfl, ⟨nd, rfl⟩⟩; refine ⟨_, rfl, ?_⟩))
  go_ret
  exact ⟨by first | rfl | (simp; done) | (simp [*]; done), by repeat (first | exact Drawn0.refl _ | apply Drawn0.step)⟩
 rw [if_neg c9] at H
 have c9b0 : decide (a1 < a0) = false := decide_eq_false c9
 clear c9
 obtain rfl := Option.some.inj H
 go_enter Try.func48, Try.ntmps48
 go_wp2_with (first | ((with_reducible refine gate_callee (f := 61) rfl ?_); refine goesL_ (some 8) rfl rfl Try.func61 (by kernel_rfl) rfl #[.int .i64 a0] rfl za ?_; (with_reducible refine (cmp_isNaN_int.calls a0 false _ A3.out).mono ?_); rintro e w' ⟨rfl, ⟨nd, rfl⟩⟩; refine ⟨_, rfl, ?_⟩) | ((with_reducible refine gate_callee (f := 61) rfl ?_); refine goesL_ (some 10) rfl rfl Try.func61 (by kernel_rfl) rfl #[.int .i64 a1] rfl za ?_; (with_reducible refine (cmp_isNaN_int.calls a1 false _ A4.out).mono ?_); rintro e w' ⟨rfl, ⟨nd, rfl⟩⟩; refine ⟨_, rfl, ?_⟩))
 go_ret
 exact ⟨by first | rfl | (simp; done) | (simp [*]; done), by repeat (first | exact Drawn0.refl _ | apply Drawn0.step)⟩
def wear_order.f (k : Nat) (a0_0 : Int) (a0_1 : Int) (a1_0 : Int) (a1_1 : Int) : Option (Int) := (cmp_Compare_int.f a0_1 a1_1).bind fun t118 => ((cmp_Compare_int.f a0_0 a1_0).bind fun t119 => ((cmp_Or_int.f k (([t118, t119] : List Int))).bind fun t123 => (some t123)))
theorem wear_order.mono : ∀ a0 a1 a2 a3 k, LeO (wear_order.f k a0 a1 a2 a3) (wear_order.f (k + 1) a0 a1 a2 a3) := by
 intro a0 a1 a2 a3 k
 unfold wear_order.f
 repeat' first
   | (with_reducible exact cmp_Or_int.mono _ _)
   | (with_reducible exact LeO.refl _)
   | (with_reducible exact LeO.none _)
   | (with_reducible refine LeO.ite ?_ ?_)
   | (with_reducible refine LeO.bind ?_ (fun _ => ?_))
   | exact cmp_Or_int.mono _ _
   | exact LeO.none _
   | refine LeO.ite ?_ ?_
   | refine LeO.bind ?_ (fun _ => ?_)
def wear_order.T1 : Bool × List (List Nat × List Nat) := (true, [([], []), ([0], [0]), ([], []), ([2], [2]), ([1, 3], [1, 3]), ([], []), ([5], [5]), ([], []), ([7], [7]), ([6, 8, 4], [6, 8]), ([4, 9], [4, 9]), ([10, 9], [10]), ([11, 11, 0, 1, 2, 3, 4, 5, 6, 7, 8, 9, 10, 11], [11])])
def wear_order.B1 : List Nat := [0, 1, 0, 4, 15, 0, 32, 0, 128, 511, 1023, 2047, 4095]
theorem wear_order.tab1 : rtab .any (opsOf Try.f26 1) = wear_order.T1 := by kernel_rfl
theorem wear_order.bits1 : waitsOk wear_order.T1.2 wear_order.B1 = true := by kernel_rfl
set_option maxHeartbeats 8000000 in
set_option maxRecDepth 100000 in
theorem wear_order.calls (k : Nat) (a0_0 : Int) (a0_1 : Int) (a1_0 : Int) (a1_1 : Int) (r : Int) (w : World) (h : wear_order.f k a0_0 a0_1 a1_0 a1_1 = some r) :
  Calls Try.prog 26 #[.agg #[.int .i64 a0_0, .int .i64 a0_1], .agg #[.int .i64 a1_0, .int .i64 a1_1]] w fun e w' => e = .returned (.int .i64 r) ∧ Below w.heap.size w w' := by
 have hu32 := Try.underlying32
 have HB := Aside0.mk (Below.refl w.heap.size w)
 have H : ((cmp_Compare_int.f a0_1 a1_1).bind fun t118 => ((cmp_Compare_int.f a0_0 a1_0).bind fun t119 => ((cmp_Or_int.f k (([t118, t119] : List Int))).bind fun t123 => (some t123)))) = some r := h
 clear h
 replace H := Option.bind_eq_some_iff.mp H
 obtain ⟨t118, A30, H⟩ := H
 replace H : ((cmp_Compare_int.f a0_0 a1_0).bind fun t119 => ((cmp_Or_int.f k (([t118, t119] : List Int))).bind fun t123 => (some t123))) = some r := H
 have A3 := Aside0.mk A30
 clear A30
 replace H := Option.bind_eq_some_iff.mp H
 obtain ⟨t119, A40, H⟩ := H
 replace H : ((cmp_Or_int.f k (([t118, t119] : List Int))).bind fun t123 => (some t123)) = some r := H
 have A4 := Aside0.mk A40
 clear A40
 obtain ⟨y120, hy120⟩ : ∃ y_ : List Int, y_ = (([t118, t119] : List Int)) := ⟨_, rfl⟩
 replace H : ((cmp_Or_int.f k y120).bind fun t123 => (some t123)) = some r := by first | (rw [hy120]; with_reducible exact H) | (have H2_ := (Option.bind_some _ _).symm.trans H; rw [hy120]; with_reducible exact H2_) | (have H2_ := (Option.bind_some _ _).symm.trans H; with_reducible exact H2_) | with_reducible exact H | (rw [hy120]; exact H) | exact H
 have Ny120 := Aside0.mk hy120
 clear hy120
 replace H := Option.bind_eq_some_iff.mp H
 obtain ⟨t123, A50, H⟩ := H
 replace H : (some t123) = some r := H
 have A5 := Aside0.mk A50
 clear A50
 obtain rfl := Option.some.inj H
 go_enter Try.func26, Try.ntmps26
 try go_wp2_with (first | ((with_reducible refine gate_dst (N := 2) rfl ?_); refine zx 2 #[.int .i64 a0_0, .int .i64 a0_1] 32 ?_; intro gb116 hg w6 hbox hb; have n0_ := zY HB hb; have n1_ := Aside0.mk (hbox); have n2_ := zS hg HB; have n3_ := zS hg HB; clear HB; have HB := n0_; have BK116 := n1_; have GW116 := n2_; have GE116 := n3_; clear n0_ n1_ n2_ n3_; clear hb hbox hg) | ((with_reducible refine gate_dst (N := 3) rfl ?_); refine zx 3 #[.int .i64 a1_0, .int .i64 a1_1] 32 ?_; intro gb117 hg w7 hbox hb; have n0_ := zD BK116 hb; have n1_ := zY HB hb; have n2_ := Aside0.mk (hbox); have n3_ := zS hg HB; have n4_ := zS hg HB; have n5_ := zN hg BK116; have n6_ := zM hg BK116; clear BK116; clear HB; have BK116 := n0_; have HB := n1_; have BK117 := n2_; have GW117 := n3_; have GE117 := n4_; have NB116_117 := n5_; have NB117_116 := n6_; clear n0_ n1_ n2_ n3_ n4_ n5_ n6_; clear hb hbox hg))
 have n0_ := Aside0.mk (blk_drew BK116.out)
 have n1_ := Aside0.mk (blk_drew BK117.out)
 have n2_ := Aside0.mk (below_drew1 HB.out)
 clear BK116; clear BK117; clear HB
 have BK116 := n0_
 have BK117 := n1_
 have HB := n2_
 clear n0_ n1_ n2_
 refine start_ (n := 13) (S := fun w' => w'.cell? ⟨gb116, 0, none⟩ = some (.int .i64 a0_0) ∧ w'.cell? ⟨gb116, 1, none⟩ = some (.int .i64 a0_1) ∧ w'.cell? ⟨gb117, 0, none⟩ = some (.int .i64 a1_0) ∧ w'.cell? ⟨gb117, 1, none⟩ = some (.int .i64 a1_1)) (ds := []) #[Z0, Z0, Z0, Z0, Z0, Z0, Z0, Z0, Z0, Z0, Z0, Z0, Z0] (by kernel_rfl) rfl rfl ⟨(blk_cell BK116.out 0).trans rfl, (blk_cell BK116.out 1).trans rfl, (blk_cell BK117.out 0).trans rfl, (blk_cell BK117.out 1).trans rfl⟩ (fun hHeld => ?_); refine with_tabW wear_order.tab1 wear_order.bits1 (fun HT_ HW_ => ?_)
 generalize w7.drew = w8 at BK116 BK117 HB hHeld ⊢
 refine zp 0 (some 5) #[Z1, Z0, Z0, Z0, Z0, Z0, Z0, Z0, Z0, Z0, Z0, Z0, Z0] rfl rfl (any_of HT_.out (by kernel_rfl)) ?_
 refine zp 2 (some 7) #[Z1, Z0, Z1, Z0, Z0, Z0, Z0, Z0, Z0, Z0, Z0, Z0, Z0] rfl rfl (any_of HT_.out (by kernel_rfl)) ?_
 refine zp 5 (some 10) #[Z1, Z0, Z1, Z0, Z0, Z1, Z0, Z0, Z0, Z0, Z0, Z0, Z0] rfl rfl (any_of HT_.out (by kernel_rfl)) ?_
 refine zp 7 (some 12) #[Z1, Z0, Z1, Z0, Z0, Z1, Z0, Z1, Z0, Z0, Z0, Z0, Z0] rfl rfl (any_of HT_.out (by kernel_rfl)) ?_
 refine take_ (i := 1) (N := some 6) (v := ?_) (a' := ?_) #[Z1, Z1, Z1, Z0, Z0, Z1, Z0, Z1, Z0, Z0, Z0, Z0, Z0] rfl rfl (take_ofW HT_.out HW_.out (by kernel_rfl)) (fun _ _ _ h => h) (Or.inl ⟨by rfl, ?_⟩) hHeld ?_ ?_
 rotate_left; · rintro w' ⟨s0, s1, s2, s3⟩; go_simp; with_reducible rfl
 rotate_left; · simp only [Act.put, List.setIfInBounds_toArray, List.set_cons_zero, List.set_cons_succ, i64_w, i32_w]; rfl
 refine take_ (i := 3) (N := some 8) (v := ?_) (a' := ?_) #[Z1, Z1, Z1, Z1, Z0, Z1, Z0, Z1, Z0, Z0, Z0, Z0, Z0] rfl rfl (take_ofW HT_.out HW_.out (by kernel_rfl)) (fun _ _ _ h => h) (Or.inl ⟨by rfl, ?_⟩) hHeld ?_ ?_
 rotate_left; · rintro w' ⟨s0, s1, s2, s3⟩; go_simp; with_reducible rfl
 rotate_left; · simp only [Act.put, List.setIfInBounds_toArray, List.set_cons_zero, List.set_cons_succ, i64_w, i32_w]; rfl
 refine take_ (i := 6) (N := some 11) (v := ?_) (a' := ?_) #[Z1, Z1, Z1, Z1, Z0, Z1, Z1, Z1, Z0, Z0, Z0, Z0, Z0] rfl rfl (take_ofW HT_.out HW_.out (by kernel_rfl)) (fun _ _ _ h => h) (Or.inl ⟨by rfl, ?_⟩) hHeld ?_ ?_
 rotate_left; · rintro w' ⟨s0, s1, s2, s3⟩; go_simp; with_reducible rfl
 rotate_left; · simp only [Act.put, List.setIfInBounds_toArray, List.set_cons_zero, List.set_cons_succ, i64_w, i32_w]; rfl
 refine take_ (i := 8) (N := some 13) (v := ?_) (a' := ?_) #[Z1, Z1, Z1, Z1, Z0, Z1, Z1, Z1, Z1, Z0, Z0, Z0, Z0] rfl rfl (take_ofW HT_.out HW_.out (by kernel_rfl)) (fun _ _ _ h => h) (Or.inl ⟨by rfl, ?_⟩) hHeld ?_ ?_
 rotate_left; · rintro w' ⟨s0, s1, s2, s3⟩; go_simp; with_reducible rfl
 rotate_left; · simp only [Act.put, List.setIfInBounds_toArray, List.set_cons_zero, List.set_cons_succ, i64_w, i32_w]; rfl
 refine one_ (i := 4) (N := some 9) #[Z1, Z1, Z1, Z1, Z1, Z1, Z1, Z1, Z1, Z0, Z0, Z0, Z0] rfl rfl (one_of HT_.out (by kernel_rfl)) (by decide) (fun K hK => ?_)
 refine goes_ Try.func48 (by kernel_rfl) rfl #[.int .i64 a0_1, .int .i64 a1_1] (by rfl) rfl rfl za ?_
 with_reducible refine (cmp_Compare_int.calls a0_1 a1_1 t118 _ A3.out).mono ?_
 rintro e w' ⟨rfl, ⟨nd, rfl⟩⟩
 refine ⟨_, rfl, ?_⟩
 refine hK.out _ _ ⟨(blk_cell BK116.out 0).trans rfl, (blk_cell BK116.out 1).trans rfl, (blk_cell BK117.out 0).trans rfl, (blk_cell BK117.out 1).trans rfl⟩ (fun hHeld => ?_)
 clear hK K
 refine norm_ (a' := ?_) ?_ ?_
 rotate_left
 ·show Act.put _ (some 9) _ = _
  simp only [Act.put, List.setIfInBounds_toArray, List.set_cons_zero, List.set_cons_succ, i64_w, i32_w]
  rfl
 refine one_ (i := 9) (N := some 14) #[Z1, Z1, Z1, Z1, Z1, Z1, Z1, Z1, Z1, Z1, Z0, Z0, Z0] rfl rfl (one_of HT_.out (by kernel_rfl)) (by decide) (fun K hK => ?_)
 refine goes_ Try.func48 (by kernel_rfl) rfl #[.int .i64 a0_0, .int .i64 a1_0] (by rfl) rfl rfl za ?_
 with_reducible refine (cmp_Compare_int.calls a0_0 a1_0 t119 _ A4.out).mono ?_
 rintro e w' ⟨rfl, ⟨nd, rfl⟩⟩
 refine ⟨_, rfl, ?_⟩
 refine hK.out _ _ ⟨(blk_cell BK116.out 0).trans rfl, (blk_cell BK116.out 1).trans rfl, (blk_cell BK117.out 0).trans rfl, (blk_cell BK117.out 1).trans rfl⟩ (fun hHeld => ?_)
 clear hK K
 refine norm_ (a' := ?_) ?_ ?_
 rotate_left
 ·show Act.put _ (some 14) _ = _
  simp only [Act.put, List.setIfInBounds_toArray, List.set_cons_zero, List.set_cons_succ, i64_w, i32_w]
  rfl
 refine one_ (i := 10) (N := some 15) #[Z1, Z1, Z1, Z1, Z1, Z1, Z1, Z1, Z1, Z1, Z1, Z0, Z0] rfl rfl (one_of HT_.out (by kernel_rfl)) (by decide) (fun K hK => ?_)
 refine Kd.R_lit_step (Kd.int .i64) _ 3 ?hg (N := 15) ?hd (xs := ([t118, t119] : List Int)) (inner := [.int .i64 t118, .int .i64 t119]) (ok := fun _ => True) (okp := fun _ => True) ?hr ?hp (fun _ hk => hk) trivial (Below.refl _ _) (Nat.le_refl _) (by simp) ?_; (case hd => rfl); (case hg => rfl); (case hr => first | (go_simp; done) | (go_simp; rfl)); (case hp => exact (Reps.one (show Kd.M (Kd.int .i64) _ _ _ t118 [.int .i64 t118] from rfl) (Reps.one (show Kd.M (Kd.int .i64) _ _ _ t119 [.int .i64 t119] from rfl) (Reps.none _ _))))
 intro v121 w9 ho10 hb hg_ hnew_
 clear hg_ hnew_
 (first | rw [← Ny120.out] at ho10 | (simp only [Int.reduceToNat] at ho10; rw [← Ny120.out] at ho10))
 have n0_ := Aside0.mk (Kd.R_lower ho10 (below_size (zw HB)))
 have n1_ := zD BK116 hb
 have n2_ := zD BK117 hb
 have n3_ := zY HB hb
 clear BK116; clear BK117; clear HB
 have HO122 := n0_
 have BK116 := n1_
 have BK117 := n2_
 have HB := n3_
 clear n0_ n1_ n2_ n3_; clear hb ho10
 obtain ⟨Ao11, co11, eo11⟩ := Kd.R_slice HO122.out
 (first | subst eo11 | (injection eo11 with f1_ f2_ f3_; have f4_ := f1_.symm; have f5_ := f3_.symm; clear f1_ f2_ f3_; subst f4_; subst f5_))
 refine hK.out _ _ ⟨(blk_cell BK116.out 0).trans rfl, (blk_cell BK116.out 1).trans rfl, (blk_cell BK117.out 0).trans rfl, (blk_cell BK117.out 1).trans rfl⟩ (fun hHeld => ?_)
 clear hK K
 refine norm_ (a' := ?_) ?_ ?_
 rotate_left
 ·show Act.put _ (some 15) _ = _
  simp only [Act.put, List.setIfInBounds_toArray, List.set_cons_zero, List.set_cons_succ, i64_w, i32_w]
  rfl
 refine one_ (i := 11) (N := some 16) #[Z1, Z1, Z1, Z1, Z1, Z1, Z1, Z1, Z1, Z1, Z1, Z1, Z0] rfl rfl (one_of HT_.out (by kernel_rfl)) (by decide) (fun K hK => ?_)
 refine goes_ Try.func47 (by kernel_rfl) rfl #[.slice Ao11 y120.length co11] (by rfl) rfl rfl za ?_
 with_reducible refine (cmp_Or_int.calls k _ _ y120 t123 _ ?side1 ?side2 A5.out).mono ?_
 (case side1 => exact zr (Kd.R_reads' HO122.out).2.2)
 (case side2 => exact (Kd.R_reads' HO122.out).2.1)
 rintro e w' ⟨rfl, ⟨nd, rfl⟩⟩
 refine ⟨_, rfl, ?_⟩
 refine hK.out _ _ ⟨(blk_cell BK116.out 0).trans rfl, (blk_cell BK116.out 1).trans rfl, (blk_cell BK117.out 0).trans rfl, (blk_cell BK117.out 1).trans rfl⟩ (fun hHeld => ?_)
 clear hK K
 refine norm_ (a' := ?_) ?_ ?_
 rotate_left
 ·show Act.put _ (some 16) _ = _
  simp only [Act.put, List.setIfInBounds_toArray, List.set_cons_zero, List.set_cons_succ, i64_w, i32_w]
  rfl
 refine zp 12 (some 4) #[Z1, Z1, Z1, Z1, Z1, Z1, Z1, Z1, Z1, Z1, Z1, Z1, Z1] rfl rfl (any_of HT_.out (by kernel_rfl)) ?_
 refine done_ (done_of HT_.out (by kernel_rfl)) ?_
 try go_wp2
 go_ret
 exact ⟨ze, zw HB⟩
def wear_far.f (a0_0 : Int) (a0_1 : Int) (a1_0 : Int) (a1_1 : Int) : Option (Int) := some (wrap64 ((mx (wrap64 (a0_0 - a1_0)) (wrap64 (a1_0 - a0_0))) + (mx (wrap64 (a0_1 - a1_1)) (wrap64 (a1_1 - a0_1)))))
set_option maxHeartbeats 8000000 in
set_option maxRecDepth 100000 in
theorem wear_far.calls (a0_0 : Int) (a0_1 : Int) (a1_0 : Int) (a1_1 : Int) (r : Int) (w : World) (h : wear_far.f a0_0 a0_1 a1_0 a1_1 = some r) :
  Calls Try.prog 55 #[.agg #[.int .i64 a0_0, .int .i64 a0_1], .agg #[.int .i64 a1_0, .int .i64 a1_1]] w fun e w' => e = .returned (.int .i64 r) ∧ Below w.heap.size w w' := by
 have hu32 := Try.underlying32
 have HB := Aside0.mk (Below.refl w.heap.size w)
 have H : (some (wrap64 ((mx (wrap64 (a0_0 - a1_0)) (wrap64 (a1_0 - a0_0))) + (mx (wrap64 (a0_1 - a1_1)) (wrap64 (a1_1 - a0_1)))))) = some r := h
 clear h
 obtain ⟨ji3, hji3⟩ : ∃ j_ : Int, (mx (wrap64 (a0_0 - a1_0)) (wrap64 (a1_0 - a0_0))) = j_ := ⟨_, rfl⟩
 replace H : (some (wrap64 ((ji3) + (mx (wrap64 (a0_1 - a1_1)) (wrap64 (a1_1 - a0_1)))))) = some r := by first | (rw [hji3] at H; exact H) | (simp only [hji3] at H ⊢; exact H)
 have hji3_ : (if (wrap64 (a0_0 - a1_0)) < (wrap64 (a1_0 - a0_0)) then (wrap64 (a1_0 - a0_0)) else (wrap64 (a0_0 - a1_0))) = ji3 := hji3
 obtain ⟨ji4, hji4⟩ : ∃ j_ : Int, (mx (wrap64 (a0_1 - a1_1)) (wrap64 (a1_1 - a0_1))) = j_ := ⟨_, rfl⟩
 replace H : (some (wrap64 ((ji3) + (ji4)))) = some r := by first | (rw [hji4] at H; exact H) | (simp only [hji4] at H ⊢; exact H)
 have hji4_ : (if (wrap64 (a0_1 - a1_1)) < (wrap64 (a1_1 - a0_1)) then (wrap64 (a1_1 - a0_1)) else (wrap64 (a0_1 - a1_1))) = ji4 := hji4
 obtain rfl := Option.some.inj H
 go_enter Try.func55, Try.ntmps55
 go_wp2_with (first | ((with_reducible refine gate_dst (N := 2) rfl ?_); refine zx 2 #[.int .i64 a0_0, .int .i64 a0_1] 32 ?_; intro gb124 hg w5 hbox hb; have n0_ := zY HB hb; have n1_ := Aside0.mk (hbox); have n2_ := zS hg HB; have n3_ := zS hg HB; clear HB; have HB := n0_; have BK124 := n1_; have GW124 := n2_; have GE124 := n3_; clear n0_ n1_ n2_ n3_; clear hb hbox hg) | ((with_reducible refine gate_dst (N := 3) rfl ?_); refine zx 3 #[.int .i64 a1_0, .int .i64 a1_1] 32 ?_; intro gb125 hg w6 hbox hb; have n0_ := zD BK124 hb; have n1_ := zY HB hb; have n2_ := Aside0.mk (hbox); have n3_ := zS hg HB; have n4_ := zS hg HB; have n5_ := zN hg BK124; have n6_ := zM hg BK124; clear BK124; clear HB; have BK124 := n0_; have HB := n1_; have BK125 := n2_; have GW125 := n3_; have GE125 := n4_; have NB124_125 := n5_; have NB125_124 := n6_; clear n0_ n1_ n2_ n3_ n4_ n5_ n6_; clear hb hbox hg; have hnb7 := NB124_125.out; have hnc7 := NB125_124.out; obtain ⟨hcz8_0, hcz8_1, hfz8_0, hfz8_1⟩ := zk2 BK124; obtain ⟨hcz9_0, hcz9_1, hfz9_0, hfz9_1⟩ := zk2 BK125))
 go_ret
 exact ⟨by first | rfl | (simp [errW_none, errW_some] <;> rfl) | (simp only [← hji3, ← hji4]; first | rfl | (simp [errW_none, errW_some] <;> rfl)) | (simp [*, errW_none, errW_some] <;> rfl), zw HB⟩
def wear_bounds.l0 : Nat → List (S67) → Int → Int → List (S32) → List (S55) → Int → Int → Int → List (S67) → Int → Int → Int → Int → Option (Int × Int)
 | 0, _, _, _, _, _, _, _, _, _, _, _, _, _ => none
 | k + 1, x12, x13, x14, x127000, x127001, x127002, x127003, x127004, x127005, x128000, x128001, x130000, x130001 => if x14 < x13 then (if 0 ≤ x14 then (if x14 < (x12.length : Int) then ((wear_far.f x128000 x128001 ((rd_T67 x12 x14).f0.f0) ((rd_T67 x12 x14).f0.f1)).bind fun t132 => (wear_bounds.l0 k x12 x13 (wrap64 (x14 + 1)) x127000 x127001 x127002 x127003 x127004 x127005 x128000 x128001 (mx x130000 (wrap64 (((rd_T67 x12 x14).f1.f0) - (wrap64 (x127002 * t132))))) (mn x130001 (wrap64 (((rd_T67 x12 x14).f1.f1) + (wrap64 (x127002 * t132))))))) else (none)) else (none)) else (some (x130000, x130001))
def wear_bounds.f (k : Nat) (l0_0 : List (S32)) (l0_1 : List (S55)) (a0_2 : Int) (a0_3 : Int) (a0_4 : Int) (l0_5 : List (S67)) (a1_0 : Int) (a1_1 : Int) : Option (Int × Int) := wear_bounds.l0 k l0_5 (l0_5.length : Int) 0 l0_0 l0_1 a0_2 a0_3 a0_4 l0_5 a1_0 a1_1 a0_3 a0_4
theorem wear_bounds.mono_l : ∀ k, (∀ y0 y1 y2 y3 y4 y5 y6 y7 y8 y9 y10 y11 y12, LeO (wear_bounds.l0 k y0 y1 y2 y3 y4 y5 y6 y7 y8 y9 y10 y11 y12) (wear_bounds.l0 (k + 1) y0 y1 y2 y3 y4 y5 y6 y7 y8 y9 y10 y11 y12))
 | 0 => fun _ _ _ _ _ _ _ _ _ _ _ _ _ r h => by simp [wear_bounds.l0] at h
 | k + 1 => by
  have ih0 := wear_bounds.mono_l k
  ·intro y0 y1 y2 y3 y4 y5 y6 y7 y8 y9 y10 y11 y12
   unfold wear_bounds.l0
   repeat' first
   | (with_reducible exact ih0 _ _ _ _ _ _ _ _ _ _ _ _ _)
   | (with_reducible exact LeO.refl _)
   | (with_reducible exact LeO.none _)
   | (with_reducible refine LeO.ite ?_ ?_)
   | (with_reducible refine LeO.bind ?_ (fun _ => ?_))
   | exact ih0 _ _ _ _ _ _ _ _ _ _ _ _ _
   | exact LeO.none _
   | refine LeO.ite ?_ ?_
   | refine LeO.bind ?_ (fun _ => ?_)
theorem wear_bounds.mono : ∀ a0 a1 a2 a3 a4 a5 a6 a7 k, LeO (wear_bounds.f k a0 a1 a2 a3 a4 a5 a6 a7) (wear_bounds.f (k + 1) a0 a1 a2 a3 a4 a5 a6 a7) := by
 intro a0 a1 a2 a3 a4 a5 a6 a7 k
 have ih0 := wear_bounds.mono_l k
 unfold wear_bounds.f
 repeat' first
   | (with_reducible exact ih0 _ _ _ _ _ _ _ _ _ _ _ _ _)
   | (with_reducible exact LeO.refl _)
   | (with_reducible exact LeO.none _)
   | (with_reducible refine LeO.ite ?_ ?_)
   | (with_reducible refine LeO.bind ?_ (fun _ => ?_))
   | exact ih0 _ _ _ _ _ _ _ _ _ _ _ _ _
   | exact LeO.none _
   | refine LeO.ite ?_ ?_
   | refine LeO.bind ?_ (fun _ => ?_)
def wear_bounds.T5 : Bool × List (List Nat × List Nat) := (true, [([], []), ([0], [0]), ([], []), ([], []), ([3], [3]), ([2, 4], [2, 4]), ([1, 5], [1, 5]), ([6, 5, 0, 1, 2, 3, 4, 5, 6], [6])])
def wear_bounds.B5 : List Nat := [0, 1, 0, 0, 8, 28, 63, 127]
theorem wear_bounds.tab5 : rtab .any (opsOf Try.f33 5) = wear_bounds.T5 := by kernel_rfl
theorem wear_bounds.bits5 : waitsOk wear_bounds.T5.2 wear_bounds.B5 = true := by kernel_rfl
set_option maxHeartbeats 8000000 in
set_option maxRecDepth 100000 in
theorem wear_bounds.calls (k : Nat) (A0_0 : Option Addr) (c0_0 : Nat) (l0_0 : List (S32)) (A0_1 : Option Addr) (c0_1 : Nat) (l0_1 : List (S55)) (a0_2 : Int) (a0_3 : Int) (a0_4 : Int) (A0_5 : Option Addr) (c0_5 : Nat) (l0_5 : List (S67)) (a1_0 : Int) (a1_1 : Int) (r1 : Int) (r2 : Int) (w : World) (hr0_0 : Kd.C k32 w A0_0 l0_0.length l0_0) (hc0_0 : l0_0.length ≤ c0_0) (hr0_1 : Kd.C k55 w A0_1 l0_1.length l0_1) (hc0_1 : l0_1.length ≤ c0_1) (hr0_5 : Kd.C k67 w A0_5 l0_5.length l0_5) (hc0_5 : l0_5.length ≤ c0_5) (h : wear_bounds.f k l0_0 l0_1 a0_2 a0_3 a0_4 l0_5 a1_0 a1_1 = some (r1, r2)) :
  Calls Try.prog 33 #[.agg #[.slice A0_0 l0_0.length c0_0, .slice A0_1 l0_1.length c0_1, .int .i64 a0_2, .int .i64 a0_3, .int .i64 a0_4, .slice A0_5 l0_5.length c0_5], .agg #[.int .i64 a1_0, .int .i64 a1_1]] w fun e w' => e = .returned (.agg #[.int .i64 r1, .int .i64 r2]) ∧ Below w.heap.size w w' := by
 have hu30 := Try.underlying30
 have hu32 := Try.underlying32
 have hu27 := Try.underlying27
 have hu67 := Try.underlying67
 have HR0_0 := Aside0.mk hr0_0
 have HC0_0 := Aside0.mk hc0_0
 clear hr0_0 hc0_0
 have HR0_1 := Aside0.mk hr0_1
 have HC0_1 := Aside0.mk hc0_1
 clear hr0_1 hc0_1
 have HR0_5 := Aside0.mk hr0_5
 have HC0_5 := Aside0.mk hc0_5
 clear hr0_5 hc0_5
 have HB := Aside0.mk (Below.refl w.heap.size w)
 have H : (wear_bounds.l0 k l0_5 (l0_5.length : Int) 0 l0_0 l0_1 a0_2 a0_3 a0_4 l0_5 a1_0 a1_1 a0_3 a0_4) = some (r1, r2) := h
 clear h
 have H' := Aside0.mk H
 clear H
 go_enter Try.func33, Try.ntmps33
 go_wp2_with (first | ((with_reducible refine gate_dst (N := 2) rfl ?_); refine zx 2 #[.slice A0_0 l0_0.length c0_0, .slice A0_1 l0_1.length c0_1, .int .i64 a0_2, .int .i64 a0_3, .int .i64 a0_4, .slice A0_5 l0_5.length c0_5] 30 ?_; intro gb126 hg w3 hbox hb; have n0_ := zY HB hb; have n1_ := Aside0.mk (hbox); have n2_ := zS hg HB; have n3_ := zS hg HB; clear HB; have HB := n0_; have BK126 := n1_; have GW126 := n2_; have GE126 := n3_; clear n0_ n1_ n2_ n3_; clear hb hbox hg) | ((with_reducible refine gate_dst (N := 3) rfl ?_); refine zx 3 #[.int .i64 a1_0, .int .i64 a1_1] 32 ?_; intro gb127 hg w4 hbox hb; have n0_ := zD BK126 hb; have n1_ := zY HB hb; have n2_ := Aside0.mk (hbox); have n3_ := zS hg HB; have n4_ := zS hg HB; have n5_ := zN hg BK126; have n6_ := zM hg BK126; clear BK126; clear HB; have BK126 := n0_; have HB := n1_; have BK127 := n2_; have GW127 := n3_; have GE127 := n4_; have NB126_127 := n5_; have NB127_126 := n6_; clear n0_ n1_ n2_ n3_ n4_ n5_ n6_; clear hb hbox hg) | ((with_reducible refine gate_dst (N := 4) rfl ?_); refine zx 4 #[.int .i64 0, .int .i64 0] 27 ?_; intro gb128 hg w5 hbox hb; have n0_ := zD BK126 hb; have n1_ := zD BK127 hb; have n2_ := zY HB hb; have n3_ := Aside0.mk (hbox); have n4_ := zS hg HB; have n5_ := zS hg HB; have n6_ := zN hg BK126; have n7_ := zM hg BK126; have n8_ := zN hg BK127; have n9_ := zM hg BK127; clear BK126; clear BK127; clear HB; have BK126 := n0_; have BK127 := n1_; have HB := n2_; have BK128 := n3_; have GW128 := n4_; have GE128 := n5_; have NB126_128 := n6_; have NB128_126 := n7_; have NB127_128 := n8_; have NB128_127 := n9_; clear n0_ n1_ n2_ n3_ n4_ n5_ n6_ n7_ n8_ n9_; clear hb hbox hg; have hnb6 := NB126_127.out; have hnc6 := NB127_126.out; have hnb7 := NB126_128.out; have hnc7 := NB128_126.out; obtain ⟨hcz8_0, hcz8_1, hcz8_2, hcz8_3, hcz8_4, hcz8_5, hfz8_0, hfz8_1, hfz8_2, hfz8_3, hfz8_4, hfz8_5⟩ := zk6 BK126) | ((with_reducible refine gate_dst (N := 5) rfl ?_); refine zx 5 #[.int .i64 0, .int .i64 0] 27 ?_; intro gb129 hg w9 hbox hb; have n0_ := zD BK126 hb; have n1_ := zD BK127 hb; have n2_ := zD BK128 hb; have n3_ := zY HB hb; have n4_ := Aside0.mk (hbox); have n5_ := zS hg HB; have n6_ := zS hg HB; have n7_ := zN hg BK126; have n8_ := zM hg BK126; have n9_ := zN hg BK127; have n10_ := zM hg BK127; have n11_ := zN hg BK128; have n12_ := zM hg BK128; clear BK126; clear BK127; clear BK128; clear HB; have BK126 := n0_; have BK127 := n1_; have BK128 := n2_; have HB := n3_; have BK129 := n4_; have GW129 := n5_; have GE129 := n6_; have NB126_129 := n7_; have NB129_126 := n8_; have NB127_129 := n9_; have NB129_127 := n10_; have NB128_129 := n11_; have NB129_128 := n12_; clear n0_ n1_ n2_ n3_ n4_ n5_ n6_ n7_ n8_ n9_ n10_ n11_ n12_; clear hb hbox hg; have hnb10 := NB129_126.out; have hnc10 := NB126_129.out; have hnb11 := NB129_127.out; have hnc11 := NB127_129.out; have hnb12 := NB129_128.out; have hnc12 := NB128_129.out; obtain ⟨hcz13_0, hcz13_1, hfz13_0, hfz13_1⟩ := zk2 BK129; obtain ⟨hcz14_0, hcz14_1, hcz14_2, hcz14_3, hcz14_4, hcz14_5, hfz14_0, hfz14_1, hfz14_2, hfz14_3, hfz14_4, hfz14_5⟩ := zk6 BK126))
 go_loopg [14] k (fun kq v14 w' => ∃ (x14_1 : Int) (x130000_1 : Int) (x130001_1 : Int), v14 = .int .i64 x14_1 ∧ Aside0 (wear_bounds.l0 kq l0_5 (l0_5.length : Int) x14_1 l0_0 l0_1 a0_2 a0_3 a0_4 l0_5 a1_0 a1_1 x130000_1 x130001_1 = some (r1, r2)) ∧ Aside0 (kq ≤ k) ∧ Aside0 (w'.heap[gb126]? = some (.cells #[(.slice A0_0 l0_0.length c0_0), (.slice A0_1 l0_1.length c0_1), .int .i64 a0_2, .int .i64 a0_3, .int .i64 a0_4, (.slice A0_5 l0_5.length c0_5)] 30 (0, 0))) ∧ Aside0 (w'.heap[gb127]? = some (.cells #[.int .i64 a1_0, .int .i64 a1_1] 32 (0, 0))) ∧ Aside0 (w'.heap[gb128]? = some (.cells #[.int .i64 0, .int .i64 0] 27 (0, 0))) ∧ Aside0 (w'.heap[gb129]? = some (.cells #[.int .i64 x130000_1, .int .i64 x130001_1] 27 (0, 0))) ∧ Aside0 (Below w.heap.size w w'))
 case atStart => exact ⟨(0), (a0_3), (a0_4), zq, H', ⟨Nat.le_refl _⟩, ⟨zv BK126⟩, ⟨zv BK127⟩, ⟨zv BK128⟩, ⟨by refine zQ ?_; refine blk_put (cs := #[.int .i64 a0_3, .int .i64 0]) ?_ 1 _ rfl; refine zQ ?_; refine blk_put (cs := #[.int .i64 0, .int .i64 0]) ?_ 0 _ rfl; (with_reducible repeat (first | refine blk_drewN ?_ _ | refine blk_drew ?_ | refine blk_alloc ?_ _)); exact BK129.out⟩, ⟨zw HB⟩⟩
 case round =>
  clear H'; try clear c1; try clear p2; try clear c3; try clear c6; try clear c7; try clear c10; try clear c11; try clear c12; try clear hcz13_0 hcz13_1; try clear hcz14_0 hcz14_1 hcz14_2 hcz14_3 hcz14_4 hcz14_5; try clear hcz8_0 hcz8_1 hcz8_2 hcz8_3 hcz8_4 hcz8_5; try clear hfz13_0 hfz13_1; try clear hfz14_0 hfz14_1 hfz14_2 hfz14_3 hfz14_4 hfz14_5; try clear hfz8_0 hfz8_1 hfz8_2 hfz8_3 hfz8_4 hfz8_5
  obtain ⟨x14_1, x130000_1, x130001_1, rfl, HA, HK1, BK126, BK127, BK128, BK129, HB⟩ := hrel
  cases gk with
  | zero => exact absurd HA.out (by simp [wear_bounds.l0])
  | succ k1 =>
   have H := HA.out
   clear HA
   simp only [wear_bounds.l0] at H
   by_cases c15 : x14_1 < (l0_5.length : Int)
   ·rw [if_pos c15] at H
    have c15b0 : decide (x14_1 < (l0_5.length : Int)) = true := decide_eq_true c15
    clear c15
    by_cases c16 : 0 ≤ x14_1
    ·rw [if_pos c16] at H
     have c16b0 : decide (0 ≤ x14_1) = true := decide_eq_true c16
     clear c16
     by_cases c17 : x14_1 < (l0_5.length : Int)
     ·rw [if_pos c17] at H
      have c17b0 : decide (x14_1 < (l0_5.length : Int)) = true := decide_eq_true c17
      clear c17
      replace H := Option.bind_eq_some_iff.mp H
      obtain ⟨t132, A180, H⟩ := H
      replace H : (wear_bounds.l0 k1 l0_5 (l0_5.length : Int) (wrap64 (x14_1 + 1)) l0_0 l0_1 a0_2 a0_3 a0_4 l0_5 a1_0 a1_1 (mx x130000_1 (wrap64 (((rd_T67 l0_5 x14_1).f1.f0) - (wrap64 (a0_2 * t132))))) (mn x130001_1 (wrap64 (((rd_T67 l0_5 x14_1).f1.f1) + (wrap64 (a0_2 * t132)))))) = some (r1, r2) := H
      have A18 := Aside0.mk A180
      clear A180
      obtain ⟨ji19, hji19⟩ : ∃ j_ : Int, (mx x130000_1 (wrap64 (((rd_T67 l0_5 x14_1).f1.f0) - (wrap64 (a0_2 * t132))))) = j_ := ⟨_, rfl⟩
      replace H : (wear_bounds.l0 k1 l0_5 (l0_5.length : Int) (wrap64 (x14_1 + 1)) l0_0 l0_1 a0_2 a0_3 a0_4 l0_5 a1_0 a1_1 ji19 (mn x130001_1 (wrap64 (((rd_T67 l0_5 x14_1).f1.f1) + (wrap64 (a0_2 * t132)))))) = some (r1, r2) := by first | (rw [hji19] at H; exact H) | (simp only [hji19] at H ⊢; exact H)
      (try rw [hji19] at A18)
      have hji19_ : (if x130000_1 < (wrap64 (((rd_T67 l0_5 x14_1).f1.f0) - (wrap64 (a0_2 * t132)))) then (wrap64 (((rd_T67 l0_5 x14_1).f1.f0) - (wrap64 (a0_2 * t132)))) else x130000_1) = ji19 := hji19
      obtain ⟨ji20, hji20⟩ : ∃ j_ : Int, (mn x130001_1 (wrap64 (((rd_T67 l0_5 x14_1).f1.f1) + (wrap64 (a0_2 * t132))))) = j_ := ⟨_, rfl⟩
      replace H : (wear_bounds.l0 k1 l0_5 (l0_5.length : Int) (wrap64 (x14_1 + 1)) l0_0 l0_1 a0_2 a0_3 a0_4 l0_5 a1_0 a1_1 ji19 ji20) = some (r1, r2) := by first | (rw [hji20] at H; exact H) | (simp only [hji20] at H ⊢; exact H)
      (try rw [hji20] at A18)
      have hji20_ : (if (wrap64 (((rd_T67 l0_5 x14_1).f1.f1) + (wrap64 (a0_2 * t132)))) < x130001_1 then (wrap64 (((rd_T67 l0_5 x14_1).f1.f1) + (wrap64 (a0_2 * t132)))) else x130001_1) = ji20 := hji20
      have H' := Aside0.mk H
      clear H
      have p130 : 0 ≤ (x14_1 : Int) := of_decide_eq_true zj
      have q130 : x14_1 < (l0_5.length : Int) := of_decide_eq_true zj
      obtain ⟨ad130, e130, hx130_0, hx130_1, hx130_2, hx130_3⟩ := at_T67 HR0_5.out x14_1 p130 q130
      cases e130
      replace hx130_0 := zu hx130_0 HB
      replace hx130_1 := zu hx130_1 HB
      replace hx130_2 := zu hx130_2 HB
      replace hx130_3 := zu hx130_3 HB
      replace p130 := eq_true p130
      replace q130 := eq_true q130
      try go_wp2_with (first | ((with_reducible refine gate_dst (N := 7) rfl ?_); refine zx 7 #[.int .i64 0, .int .i64 0, .int .i64 0, .int .i64 0] 67 ?_; intro gb131 hg w21 hbox hb; have n0_ := zD BK126 hb; have n1_ := zD BK127 hb; have n2_ := zD BK128 hb; have n3_ := zD BK129 hb; have n4_ := zY HB hb; have n5_ := Aside0.mk (hbox); have n6_ := zS hg HB; have n7_ := zS hg HB; have n8_ := zN hg BK126; have n9_ := zM hg BK126; have n10_ := zN hg BK127; have n11_ := zM hg BK127; have n12_ := zN hg BK128; have n13_ := zM hg BK128; have n14_ := zN hg BK129; have n15_ := zM hg BK129; clear BK126; clear BK127; clear BK128; clear BK129; clear HB; have BK126 := n0_; have BK127 := n1_; have BK128 := n2_; have BK129 := n3_; have HB := n4_; have BK131 := n5_; have GW131 := n6_; have GE131 := n7_; have NB126_131 := n8_; have NB131_126 := n9_; have NB127_131 := n10_; have NB131_127 := n11_; have NB128_131 := n12_; have NB131_128 := n13_; have NB129_131 := n14_; have NB131_129 := n15_; clear n0_ n1_ n2_ n3_ n4_ n5_ n6_ n7_ n8_ n9_ n10_ n11_ n12_ n13_ n14_ n15_; clear hb hbox hg; have hnb22 := NB131_126.out; have hnc22 := NB126_131.out; have hnb23 := NB131_127.out; have hnc23 := NB127_131.out; have hnb24 := NB131_128.out; have hnc24 := NB128_131.out; have hnb25 := NB131_129.out; have hnc25 := NB129_131.out; obtain ⟨hcz26_0, hcz26_1, hcz26_2, hcz26_3, hfz26_0, hfz26_1, hfz26_2, hfz26_3⟩ := zk4 BK131))
      have n0_ : Aside0 (((((w21.setCell ⟨gb131, 0, none⟩ (.int .i64 ((rd_T67 l0_5 x14_1).f0.f0))).setCell ⟨gb131, 1, none⟩ (.int .i64 ((rd_T67 l0_5 x14_1).f0.f1))).setCell ⟨gb131, 2, none⟩ (.int .i64 ((rd_T67 l0_5 x14_1).f1.f0))).setCell ⟨gb131, 3, none⟩ (.int .i64 ((rd_T67 l0_5 x14_1).f1.f1))).heap[gb126]? = some (.cells #[.slice A0_0 l0_0.length c0_0, .slice A0_1 l0_1.length c0_1, .int .i64 a0_2, .int .i64 a0_3, .int .i64 a0_4, .slice (some ad130) l0_5.length c0_5] 30 (0, 0))) := ⟨zv BK126⟩
      have n1_ : Aside0 (((((w21.setCell ⟨gb131, 0, none⟩ (.int .i64 ((rd_T67 l0_5 x14_1).f0.f0))).setCell ⟨gb131, 1, none⟩ (.int .i64 ((rd_T67 l0_5 x14_1).f0.f1))).setCell ⟨gb131, 2, none⟩ (.int .i64 ((rd_T67 l0_5 x14_1).f1.f0))).setCell ⟨gb131, 3, none⟩ (.int .i64 ((rd_T67 l0_5 x14_1).f1.f1))).heap[gb127]? = some (.cells #[.int .i64 a1_0, .int .i64 a1_1] 32 (0, 0))) := ⟨zv BK127⟩
      have n2_ : Aside0 (((((w21.setCell ⟨gb131, 0, none⟩ (.int .i64 ((rd_T67 l0_5 x14_1).f0.f0))).setCell ⟨gb131, 1, none⟩ (.int .i64 ((rd_T67 l0_5 x14_1).f0.f1))).setCell ⟨gb131, 2, none⟩ (.int .i64 ((rd_T67 l0_5 x14_1).f1.f0))).setCell ⟨gb131, 3, none⟩ (.int .i64 ((rd_T67 l0_5 x14_1).f1.f1))).heap[gb128]? = some (.cells #[.int .i64 0, .int .i64 0] 27 (0, 0))) := ⟨zv BK128⟩
      have n3_ : Aside0 (((((w21.setCell ⟨gb131, 0, none⟩ (.int .i64 ((rd_T67 l0_5 x14_1).f0.f0))).setCell ⟨gb131, 1, none⟩ (.int .i64 ((rd_T67 l0_5 x14_1).f0.f1))).setCell ⟨gb131, 2, none⟩ (.int .i64 ((rd_T67 l0_5 x14_1).f1.f0))).setCell ⟨gb131, 3, none⟩ (.int .i64 ((rd_T67 l0_5 x14_1).f1.f1))).heap[gb129]? = some (.cells #[.int .i64 x130000_1, .int .i64 x130001_1] 27 (0, 0))) := ⟨zv BK129⟩
      have n4_ : Aside0 (((((w21.setCell ⟨gb131, 0, none⟩ (.int .i64 ((rd_T67 l0_5 x14_1).f0.f0))).setCell ⟨gb131, 1, none⟩ (.int .i64 ((rd_T67 l0_5 x14_1).f0.f1))).setCell ⟨gb131, 2, none⟩ (.int .i64 ((rd_T67 l0_5 x14_1).f1.f0))).setCell ⟨gb131, 3, none⟩ (.int .i64 ((rd_T67 l0_5 x14_1).f1.f1))).heap[gb131]? = some (.cells #[.int .i64 ((rd_T67 l0_5 x14_1).f0.f0), .int .i64 ((rd_T67 l0_5 x14_1).f0.f1), .int .i64 ((rd_T67 l0_5 x14_1).f1.f0), .int .i64 ((rd_T67 l0_5 x14_1).f1.f1)] 67 (0, 0))) := ⟨by refine zQ ?_; refine blk_put (cs := #[.int .i64 ((rd_T67 l0_5 x14_1).f0.f0), .int .i64 ((rd_T67 l0_5 x14_1).f0.f1), .int .i64 ((rd_T67 l0_5 x14_1).f1.f0), .int .i64 0]) ?_ 3 _ rfl; refine zQ ?_; refine blk_put (cs := #[.int .i64 ((rd_T67 l0_5 x14_1).f0.f0), .int .i64 ((rd_T67 l0_5 x14_1).f0.f1), .int .i64 0, .int .i64 0]) ?_ 2 _ rfl; refine zQ ?_; refine blk_put (cs := #[.int .i64 ((rd_T67 l0_5 x14_1).f0.f0), .int .i64 0, .int .i64 0, .int .i64 0]) ?_ 1 _ rfl; refine zQ ?_; refine blk_put (cs := #[.int .i64 0, .int .i64 0, .int .i64 0, .int .i64 0]) ?_ 0 _ rfl; (with_reducible repeat (first | refine blk_drewN ?_ _ | refine blk_drew ?_ | refine blk_alloc ?_ _)); exact BK131.out⟩
      have n5_ : Aside0 (Below w.heap.size w ((((w21.setCell ⟨gb131, 0, none⟩ (.int .i64 ((rd_T67 l0_5 x14_1).f0.f0))).setCell ⟨gb131, 1, none⟩ (.int .i64 ((rd_T67 l0_5 x14_1).f0.f1))).setCell ⟨gb131, 2, none⟩ (.int .i64 ((rd_T67 l0_5 x14_1).f1.f0))).setCell ⟨gb131, 3, none⟩ (.int .i64 ((rd_T67 l0_5 x14_1).f1.f1)))) := ⟨zw HB⟩
      (try clear BK126)
      (try clear BK127)
      (try clear BK128)
      (try clear BK129)
      (try clear BK131)
      (try clear HB)
      generalize ((((w21.setCell ⟨gb131, 0, none⟩ (.int .i64 ((rd_T67 l0_5 x14_1).f0.f0))).setCell ⟨gb131, 1, none⟩ (.int .i64 ((rd_T67 l0_5 x14_1).f0.f1))).setCell ⟨gb131, 2, none⟩ (.int .i64 ((rd_T67 l0_5 x14_1).f1.f0))).setCell ⟨gb131, 3, none⟩ (.int .i64 ((rd_T67 l0_5 x14_1).f1.f1))) = w27 at n0_ n1_ n2_ n3_ n4_ n5_ ⊢
      have BK126 := n0_
      have BK127 := n1_
      have BK128 := n2_
      have BK129 := n3_
      have BK131 := n4_
      have HB := n5_
      clear n0_ n1_ n2_ n3_ n4_ n5_
      have n0_ := Aside0.mk (blk_drew BK126.out)
      have n1_ := Aside0.mk (blk_drew BK127.out)
      have n2_ := Aside0.mk (blk_drew BK128.out)
      have n3_ := Aside0.mk (blk_drew BK129.out)
      have n4_ := Aside0.mk (blk_drew BK131.out)
      have n5_ := Aside0.mk (below_drew1 HB.out)
      clear BK126; clear BK127; clear BK128; clear BK129; clear BK131; clear HB
      have BK126 := n0_
      have BK127 := n1_
      have BK128 := n2_
      have BK129 := n3_
      have BK131 := n4_
      have HB := n5_
      clear n0_ n1_ n2_ n3_ n4_ n5_
      refine start_ (n := 8) (S := fun w' => w'.cell? ⟨gb126, 0, none⟩ = some (.slice A0_0 l0_0.length c0_0) ∧ w'.cell? ⟨gb126, 1, none⟩ = some (.slice A0_1 l0_1.length c0_1) ∧ w'.cell? ⟨gb126, 2, none⟩ = some (.int .i64 a0_2) ∧ w'.cell? ⟨gb126, 3, none⟩ = some (.int .i64 a0_3) ∧ w'.cell? ⟨gb126, 4, none⟩ = some (.int .i64 a0_4) ∧ w'.cell? ⟨gb126, 5, none⟩ = some (.slice (some ad130) l0_5.length c0_5) ∧ w'.cell? ⟨gb127, 0, none⟩ = some (.int .i64 a1_0) ∧ w'.cell? ⟨gb127, 1, none⟩ = some (.int .i64 a1_1) ∧ w'.cell? ⟨gb131, 0, none⟩ = some (.int .i64 ((rd_T67 l0_5 x14_1).f0.f0)) ∧ w'.cell? ⟨gb131, 1, none⟩ = some (.int .i64 ((rd_T67 l0_5 x14_1).f0.f1)) ∧ w'.cell? ⟨gb131, 2, none⟩ = some (.int .i64 ((rd_T67 l0_5 x14_1).f1.f0)) ∧ w'.cell? ⟨gb131, 3, none⟩ = some (.int .i64 ((rd_T67 l0_5 x14_1).f1.f1))) (ds := []) #[Z0, Z0, Z0, Z0, Z0, Z0, Z0, Z0] (by kernel_rfl) rfl rfl ⟨(blk_cell BK126.out 0).trans rfl, (blk_cell BK126.out 1).trans rfl, (blk_cell BK126.out 2).trans rfl, (blk_cell BK126.out 3).trans rfl, (blk_cell BK126.out 4).trans rfl, (blk_cell BK126.out 5).trans rfl, (blk_cell BK127.out 0).trans rfl, (blk_cell BK127.out 1).trans rfl, (blk_cell BK131.out 0).trans rfl, (blk_cell BK131.out 1).trans rfl, (blk_cell BK131.out 2).trans rfl, (blk_cell BK131.out 3).trans rfl⟩ (fun hHeld => ?_); refine with_tabW wear_bounds.tab5 wear_bounds.bits5 (fun HT_ HW_ => ?_)
      generalize w27.drew = w28 at BK126 BK127 BK128 BK129 BK131 HB hHeld ⊢
      refine zp 0 (some 18) #[Z1, Z0, Z0, Z0, Z0, Z0, Z0, Z0] rfl rfl (any_of HT_.out (by kernel_rfl)) ?_
      refine zp 3 (some 21) #[Z1, Z0, Z0, Z1, Z0, Z0, Z0, Z0] rfl rfl (any_of HT_.out (by kernel_rfl)) ?_
      refine take_ (i := 1) (N := some 19) (v := ?_) (a' := ?_) #[Z1, Z1, Z0, Z1, Z0, Z0, Z0, Z0] rfl rfl (take_ofW HT_.out HW_.out (by kernel_rfl)) (fun _ _ _ h => h) (Or.inl ⟨by rfl, ?_⟩) hHeld ?_ ?_
      rotate_left; · rintro w' ⟨s0, s1, s2, s3, s4, s5, s6, s7, s8, s9, s10, s11⟩; go_simp; with_reducible rfl
      rotate_left; · simp only [Act.put, List.setIfInBounds_toArray, List.set_cons_zero, List.set_cons_succ, i64_w, i32_w]; rfl
      refine take_ (i := 2) (N := some 20) (v := ?_) (a' := ?_) #[Z1, Z1, Z1, Z1, Z0, Z0, Z0, Z0] rfl rfl (take_ofW HT_.out HW_.out (by kernel_rfl)) (fun _ _ _ h => h) (Or.inl ⟨by rfl, ?_⟩) hHeld ?_ ?_
      rotate_left; · rintro w' ⟨s0, s1, s2, s3, s4, s5, s6, s7, s8, s9, s10, s11⟩; go_simp; with_reducible rfl
      rotate_left; · simp only [Act.put, List.setIfInBounds_toArray, List.set_cons_zero, List.set_cons_succ, i64_w, i32_w]; rfl
      refine take_ (i := 4) (N := some 22) (v := ?_) (a' := ?_) #[Z1, Z1, Z1, Z1, Z1, Z0, Z0, Z0] rfl rfl (take_ofW HT_.out HW_.out (by kernel_rfl)) (fun _ _ _ h => h) (Or.inl ⟨by rfl, ?_⟩) hHeld ?_ ?_
      rotate_left; · rintro w' ⟨s0, s1, s2, s3, s4, s5, s6, s7, s8, s9, s10, s11⟩; go_simp; with_reducible rfl
      rotate_left; · simp only [Act.put, List.setIfInBounds_toArray, List.set_cons_zero, List.set_cons_succ, i64_w, i32_w]; rfl
      refine one_ (i := 5) (N := some 23) #[Z1, Z1, Z1, Z1, Z1, Z1, Z0, Z0] rfl rfl (one_of HT_.out (by kernel_rfl)) (by decide) (fun K hK => ?_)
      refine goes_ Try.func55 (by kernel_rfl) rfl #[.agg #[.int .i64 a1_0, .int .i64 a1_1], .agg #[.int .i64 ((rd_T67 l0_5 x14_1).f0.f0), .int .i64 ((rd_T67 l0_5 x14_1).f0.f1)]] (by rfl) rfl rfl za ?_
      with_reducible refine (wear_far.calls a1_0 a1_1 ((rd_T67 l0_5 x14_1).f0.f0) ((rd_T67 l0_5 x14_1).f0.f1) t132 _ A18.out).mono ?_
      rintro e w29 ⟨rfl, hb⟩
      refine ⟨_, rfl, ?_⟩
      have n0_ := zD BK126 hb
      have n1_ := zD BK127 hb
      have n2_ := zD BK128 hb
      have n3_ := zD BK129 hb
      have n4_ := zD BK131 hb
      have n5_ := zY HB hb
      clear BK126; clear BK127; clear BK128; clear BK129; clear BK131; clear HB
      have BK126 := n0_
      have BK127 := n1_
      have BK128 := n2_
      have BK129 := n3_
      have BK131 := n4_
      have HB := n5_
      clear n0_ n1_ n2_ n3_ n4_ n5_
      (try clear hb)
      (try clear hb2)
      (try clear hk)
      (try clear hi)
      refine hK.out _ _ ⟨(blk_cell BK126.out 0).trans rfl, (blk_cell BK126.out 1).trans rfl, (blk_cell BK126.out 2).trans rfl, (blk_cell BK126.out 3).trans rfl, (blk_cell BK126.out 4).trans rfl, (blk_cell BK126.out 5).trans rfl, (blk_cell BK127.out 0).trans rfl, (blk_cell BK127.out 1).trans rfl, (blk_cell BK131.out 0).trans rfl, (blk_cell BK131.out 1).trans rfl, (blk_cell BK131.out 2).trans rfl, (blk_cell BK131.out 3).trans rfl⟩ (fun hHeld => ?_)
      clear hK K
      refine norm_ (a' := ?_) ?_ ?_
      rotate_left
      ·show Act.put _ (some 23) _ = _
       simp only [Act.put, List.setIfInBounds_toArray, List.set_cons_zero, List.set_cons_succ, i64_w, i32_w]
       rfl
      refine zp 6 (some 24) #[Z1, Z1, Z1, Z1, Z1, Z1, Z1, Z0] rfl rfl (any_of HT_.out (by kernel_rfl)) ?_
      refine zp 7 (some 8) #[Z1, Z1, Z1, Z1, Z1, Z1, Z1, Z1] rfl rfl (any_of HT_.out (by kernel_rfl)) ?_
      refine done_ (done_of HT_.out (by kernel_rfl)) ?_
      have hnb30 := NB129_126.out
      have hnc30 := NB126_129.out
      have hnb31 := NB129_127.out
      have hnc31 := NB127_129.out
      have hnb32 := NB129_128.out
      have hnc32 := NB128_129.out
      obtain ⟨hcz33_0, hcz33_1, hfz33_0, hfz33_1⟩ := zk2 BK129
      obtain ⟨hcz34_0, hcz34_1, hcz34_2, hcz34_3, hfz34_0, hfz34_1, hfz34_2, hfz34_3⟩ := zk4 BK131
      try go_wp2
      go_roundg k1
      case measure => have := HK1.out; omega
      case rel => exact ⟨(wrap64 (x14_1 + 1)), (ji19), (ji20), zq, H', ⟨by have := HK1.out; omega⟩, ⟨zv BK126⟩, ⟨zv BK127⟩, ⟨zv BK128⟩, ⟨by refine zQ ?_; refine blk_put (cs := #[.int .i64 ji19, .int .i64 x130001_1]) ?_ 1 _ rfl; refine zQ ?_; refine blk_put (cs := #[.int .i64 x130000_1, .int .i64 x130001_1]) ?_ 0 _ rfl; (with_reducible repeat (first | refine blk_drewN ?_ _ | refine blk_drew ?_ | refine blk_alloc ?_ _)); exact BK129.out⟩, ⟨zw HB⟩⟩
     rw [if_neg c17] at H
     exact absurd H (by simp)
    rw [if_neg c16] at H
    exact absurd H (by simp)
   rw [if_neg c15] at H
   have c15b0 : decide (x14_1 < (l0_5.length : Int)) = false := decide_eq_false c15
   clear c15
   simp only [Option.some.injEq, Prod.mk.injEq] at H
   obtain ⟨rfl, rfl⟩ := H
   have hnb35 := NB129_126.out
   have hnc35 := NB126_129.out
   have hnb36 := NB129_127.out
   have hnc36 := NB127_129.out
   have hnb37 := NB129_128.out
   have hnc37 := NB128_129.out
   obtain ⟨hcz38_0, hcz38_1, hfz38_0, hfz38_1⟩ := zk2 BK129
   have hnb39 := NB128_126.out
   have hnc39 := NB126_128.out
   have hnb40 := NB128_127.out
   have hnc40 := NB127_128.out
   obtain ⟨hcz41_0, hcz41_1, hfz41_0, hfz41_1⟩ := zk2 BK128
   go_wp2
   refine bodyPost_ret (results_cell_row rfl _ _ gb128 27 #[.int .i64 x130000_1, .int .i64 x130001_1] (0, 0) _ rfl (by refine zQ ?_; refine blk_put (cs := #[.int .i64 x130000_1, .int .i64 0]) ?_ 1 _ rfl; refine zQ ?_; refine blk_put (cs := #[.int .i64 0, .int .i64 0]) ?_ 0 _ rfl; (with_reducible repeat (first | refine blk_drewN ?_ _ | refine blk_drew ?_ | refine blk_alloc ?_ _)); exact BK128.out) Try.underlying27 rfl (by kernel_rfl)) rfl ?_
   exact ⟨ze, zw HB⟩
end Go.Proofs.Ytcfpclehogdmbaa.Q
end
section
namespace Go.Proofs.Ytcfpclehogdmbaa.Q
open Go.RowKit Go.Proofs.YtcfpclehogdmbaaW.PrintWords Go.Proofs.YtcfpclehogdmbaaW.PrintLast Go.Proofs.YtcfpclehogdmbaaW.PrintMore
attribute [local go_sem] max2_int min2_int max_two min_two max_three min_three max_four min_four   -- for this text's walks alone
set_option linter.unusedVariables false
set_option linter.unusedSimpArgs false
def wear_spans.f (a0_0 : Int) (a0_1 : Int) (a1 : Int) : Option (Bool) := if 0 ≤ a0_0 then (if a0_0 ≤ a0_1 then (some (decide (a0_1 ≤ a1))) else (some false)) else (some false)
set_option maxHeartbeats 8000000 in
set_option maxRecDepth 100000 in
theorem wear_spans.calls (a0_0 : Int) (a0_1 : Int) (a1 : Int) (r : Bool) (w : World) (h : wear_spans.f a0_0 a0_1 a1 = some r) :
  Calls Try.prog 37 #[.agg #[.int .i64 a0_0, .int .i64 a0_1], .int .i64 a1] w fun e w' => e = .returned (.bool r) ∧ Below w.heap.size w w' := by
 have hu27 := Try.underlying27
 have HB := Aside0.mk (Below.refl w.heap.size w)
 have H : (if 0 ≤ a0_0 then (if a0_0 ≤ a0_1 then (some (decide (a0_1 ≤ a1))) else (some false)) else (some false)) = some r := h
 clear h
 by_cases c3 : 0 ≤ a0_0
 ·rw [if_pos c3] at H
  have c3b0 : decide (0 ≤ a0_0) = true := decide_eq_true c3
  clear c3
  by_cases c4 : a0_0 ≤ a0_1
  ·rw [if_pos c4] at H
   have c4b0 : decide (a0_0 ≤ a0_1) = true := decide_eq_true c4
   clear c4
   obtain rfl := Option.some.inj H
   go_enter Try.func37, Try.ntmps37
   go_wp2_with (first | ((with_reducible refine gate_dst (N := 2) rfl ?_); refine zx 2 #[.int .i64 a0_0, .int .i64 a0_1] 27 ?_; intro gb137 hg w5 hbox hb; have n0_ := zY HB hb; have n1_ := Aside0.mk (hbox); have n2_ := zS hg HB; have n3_ := zS hg HB; clear HB; have HB := n0_; have BK137 := n1_; have GW137 := n2_; have GE137 := n3_; clear n0_ n1_ n2_ n3_; clear hb hbox hg; obtain ⟨hcz6_0, hcz6_1, hfz6_0, hfz6_1⟩ := zk2 BK137))
   go_ret
   exact ⟨ze, zw HB⟩
  rw [if_neg c4] at H
  have c4b0 : decide (a0_0 ≤ a0_1) = false := decide_eq_false c4
  clear c4
  obtain rfl := Option.some.inj H
  go_enter Try.func37, Try.ntmps37
  go_wp2_with (first | ((with_reducible refine gate_dst (N := 2) rfl ?_); refine zx 2 #[.int .i64 a0_0, .int .i64 a0_1] 27 ?_; intro gb137 hg w7 hbox hb; have n0_ := zY HB hb; have n1_ := Aside0.mk (hbox); have n2_ := zS hg HB; have n3_ := zS hg HB; clear HB; have HB := n0_; have BK137 := n1_; have GW137 := n2_; have GE137 := n3_; clear n0_ n1_ n2_ n3_; clear hb hbox hg; obtain ⟨hcz8_0, hcz8_1, hfz8_0, hfz8_1⟩ := zk2 BK137))
  go_ret
  exact ⟨ze, zw HB⟩
 rw [if_neg c3] at H
 have c3b0 : decide (0 ≤ a0_0) = false := decide_eq_false c3
 clear c3
 obtain rfl := Option.some.inj H
 go_enter Try.func37, Try.ntmps37
 go_wp2_with (first | ((with_reducible refine gate_dst (N := 2) rfl ?_); refine zx 2 #[.int .i64 a0_0, .int .i64 a0_1] 27 ?_; intro gb137 hg w9 hbox hb; have n0_ := zY HB hb; have n1_ := Aside0.mk (hbox); have n2_ := zS hg HB; have n3_ := zS hg HB; clear HB; have HB := n0_; have BK137 := n1_; have GW137 := n2_; have GE137 := n3_; clear n0_ n1_ n2_ n3_; clear hb hbox hg; obtain ⟨hcz10_0, hcz10_1, hfz10_0, hfz10_1⟩ := zk2 BK137))
 go_ret
 exact ⟨ze, zw HB⟩
end Go.Proofs.Ytcfpclehogdmbaa.Q
end
