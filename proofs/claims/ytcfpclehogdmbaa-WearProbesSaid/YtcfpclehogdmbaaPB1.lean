/- part 1 of a proof over the translation: walks that a program of ours has printed and shortened, and plain laws; each says what stands in it -/
import Derived.Test.YtcfpclehogdmbaaPB0
section
namespace Go.Proofs.Ytcfpclehogdmbaa.Q
open Go.RowKit Go.Proofs.YtcfpclehogdmbaaW.PrintWords Go.Proofs.YtcfpclehogdmbaaW.PrintLast Go.Proofs.YtcfpclehogdmbaaW.PrintMore
attribute [local go_sem] max2_int min2_int max_two min_two max_three min_three max_four min_four   -- for this text's walks alone
set_option linter.unusedVariables false
set_option linter.unusedSimpArgs false
attribute [local go_sem high] eqA32
mutual
def thatchref07_outline.l0 : Nat → List (S32) → Int → Int → Option (Int)
 | 0, _, _, _ => none
 | k + 1, x0, x3, x4 => if x4 < x3 then (if 0 ≤ x4 then (if x4 < (x0.length : Int) then ((thatchref07_in.f ((rd_T32 x0 x4).f0) 0 400).bind fun t234 => (if t234 = true then ((thatchref07_in.f ((rd_T32 x0 x4).f1) 0 400).bind fun t236 => (if t236 = true then (thatchref07_outline.l0 k x0 x3 (wrap64 (x4 + 1))) else (some 1))) else (some 1))) else (none)) else (none)) else (thatchref07_outline.l1 k x0 x3 0)
def thatchref07_outline.l1 : Nat → List (S32) → Int → Int → Option (Int)
 | 0, _, _, _ => none
 | k + 1, x0, x3, x5 => if x5 < x3 then (thatchref07_outline.l2 k x0 x3 x5 0) else (thatchref07_outline.l3 k x0 x3 0 0)
def thatchref07_outline.l2 : Nat → List (S32) → Int → Int → Int → Option (Int)
 | 0, _, _, _, _ => none
 | k + 1, x0, x3, x5, x6 => if x6 < x5 then (if 0 ≤ x5 then (if x5 < (x0.length : Int) then (if 0 ≤ x6 then (if x6 < (x0.length : Int) then (if (((rd_T32 x0 x5).f0) == ((rd_T32 x0 x6).f0) && (((rd_T32 x0 x5).f1) == ((rd_T32 x0 x6).f1))) = true then (some 6) else (thatchref07_outline.l2 k x0 x3 x5 (wrap64 (x6 + 1)))) else (none)) else (none)) else (none)) else (none)) else (thatchref07_outline.l1 k x0 x3 (wrap64 (x5 + 1)))
def thatchref07_outline.l3 : Nat → List (S32) → Int → Int → Int → Option (Int)
 | 0, _, _, _, _ => none
 | k + 1, x0, x3, x7, x8 => if x8 < x3 then (if 0 ≤ x8 then (if x8 < (x0.length : Int) then (if x3 = 0 then (none) else (if 0 ≤ (Int.tmod (wrap64 (x8 + 1)) x3) then (if (Int.tmod (wrap64 (x8 + 1)) x3) < (x0.length : Int) then (if 0 ≤ (Int.tmod (wrap64 (x8 + 2)) x3) then (if (Int.tmod (wrap64 (x8 + 2)) x3) < (x0.length : Int) then (thatchref07_outline.l4 k x0 x3 x7 x8 0 ((rd_T32 x0 x8).f0) ((rd_T32 x0 x8).f1) ((rd_T32 x0 (Int.tmod (wrap64 (x8 + 1)) x3)).f0) ((rd_T32 x0 (Int.tmod (wrap64 (x8 + 1)) x3)).f1) ((rd_T32 x0 (Int.tmod (wrap64 (x8 + 2)) x3)).f0) ((rd_T32 x0 (Int.tmod (wrap64 (x8 + 2)) x3)).f1)) else (none)) else (none)) else (none)) else (none))) else (none)) else (none)) else (if x7 ≤ 0 then (some 9) else (some 0))
def thatchref07_outline.l4 : Nat → List (S32) → Int → Int → Int → Int → Int → Int → Int → Int → Int → Int → Option (Int)
 | 0, _, _, _, _, _, _, _, _, _, _, _ => none
 | k + 1, x0, x3, x7, x8, x12, x243000, x243001, x244000, x244001, x245000, x245001 => if x12 < x3 then (if 0 ≤ x12 then (if x12 < (x0.length : Int) then ((thatchref07_left.f x243000 x243001 x244000 x244001 ((rd_T32 x0 x12).f0) ((rd_T32 x0 x12).f1)).bind fun t246 => (if t246 < 0 then (some 9) else (thatchref07_outline.l4 k x0 x3 x7 x8 (wrap64 (x12 + 1)) x243000 x243001 x244000 x244001 x245000 x245001))) else (none)) else (none)) else ((thatchref07_left.f x243000 x243001 x244000 x244001 x245000 x245001).bind fun t247 => (if t247 = 0 then (if (wrap64 ((wrap64 ((wrap64 (x244000 - x243000)) * (wrap64 (x245000 - x244000)))) + (wrap64 ((wrap64 (x244001 - x243001)) * (wrap64 (x245001 - x244001)))))) < 0 then (some 9) else (if 0 < (x0.length : Int) then ((thatchref07_left.f ((rd_T32 x0 0).f0) ((rd_T32 x0 0).f1) x243000 x243001 x244000 x244001).bind fun t249 => (thatchref07_outline.l3 k x0 x3 (wrap64 (x7 + t249)) (wrap64 (x8 + 1)))) else (none))) else (if 0 < (x0.length : Int) then ((thatchref07_left.f ((rd_T32 x0 0).f0) ((rd_T32 x0 0).f1) x243000 x243001 x244000 x244001).bind fun t251 => (thatchref07_outline.l3 k x0 x3 (wrap64 (x7 + t251)) (wrap64 (x8 + 1)))) else (none))))
end
def thatchref07_outline.f (k : Nat) (l0 : List (S32)) : Option (Int) := (thatchref07_in.f (l0.length : Int) 3 12).bind fun t232 => (if t232 = true then (thatchref07_outline.l0 k l0 (l0.length : Int) 0) else (some 1))
def thatchref07_outline.T15 : Bool × List (List Nat × List Nat) := (true, [([], []), ([], []), ([0, 1], [0, 1]), ([2], [2]), ([], []), ([], []), ([4, 5], [4, 5]), ([6], [6]), ([3, 7], [3, 7])])
def thatchref07_outline.B15 : List Nat := [0, 0, 3, 7, 0, 0, 48, 112, 255]
theorem thatchref07_outline.tab15 : rtab .any (opsOf Try.f51 15) = thatchref07_outline.T15 := by kernel_rfl
theorem thatchref07_outline.bits15 : waitsOk thatchref07_outline.T15.2 thatchref07_outline.B15 = true := by kernel_rfl
def thatchref07_outline.T21 : Bool × List (List Nat × List Nat) := (true, [([], []), ([], []), ([0, 1], [0, 1]), ([2], [2]), ([], []), ([], []), ([5], [5]), ([], []), ([6, 7], [6, 7]), ([4, 8], [4, 8]), ([9], [9]), ([], []), ([], []), ([12], [12]), ([], []), ([13, 14], [13, 14]), ([11, 15], [11, 15]), ([16], [16]), ([], []), ([], []), ([], []), ([18, 3, 0, 1, 2, 3, 18, 19, 20], [3, 18]), ([19, 10, 21, 0, 1, 2, 3, 4, 5, 6, 7, 8, 9, 10, 18, 19, 20, 21], [10, 19]), ([20, 17, 22, 0, 1, 2, 3, 4, 5, 6, 7, 8, 9, 10, 11, 12, 13, 14, 15, 16, 17, 18, 19, 20, 21, 22], [17, 20])])
def thatchref07_outline.B21 : List Nat := [0, 0, 3, 7, 0, 0, 32, 0, 224, 496, 1008, 0, 0, 4096, 0, 28672, 63488, 129024, 0, 0, 0, 1835023, 3934207, 8388607]
theorem thatchref07_outline.tab21 : rtab .any (opsOf Try.f51 21) = thatchref07_outline.T21 := by kernel_rfl
theorem thatchref07_outline.bits21 : waitsOk thatchref07_outline.T21.2 thatchref07_outline.B21 = true := by kernel_rfl
def thatchref07_outline.T25 : Bool × List (List Nat × List Nat) := (true, [([], []), ([], []), ([], []), ([], []), ([2, 3], [2, 3]), ([4], [4]), ([0, 1, 5], [0, 1, 5]), ([6], [6])])
def thatchref07_outline.B25 : List Nat := [0, 0, 0, 0, 12, 28, 63, 127]
theorem thatchref07_outline.tab25 : rtab .any (opsOf Try.f51 25) = thatchref07_outline.T25 := by kernel_rfl
theorem thatchref07_outline.bits25 : waitsOk thatchref07_outline.T25.2 thatchref07_outline.B25 = true := by kernel_rfl
def thatchref07_outline.T29 : Bool × List (List Nat × List Nat) := (true, [([], []), ([], []), ([1], [1]), ([2], [2]), ([], []), ([], []), ([3, 4, 5], [3, 4, 5]), ([0, 6], [0, 6]), ([7, 6, 0, 1, 2, 3, 4, 5, 6, 7], [0, 7])])
def thatchref07_outline.B29 : List Nat := [0, 0, 2, 6, 0, 0, 62, 127, 255]
theorem thatchref07_outline.tab29 : rtab .any (opsOf Try.f51 29) = thatchref07_outline.T29 := by kernel_rfl
theorem thatchref07_outline.bits29 : waitsOk thatchref07_outline.T29.2 thatchref07_outline.B29 = true := by kernel_rfl
set_option maxHeartbeats 8000000 in
set_option maxRecDepth 100000 in
theorem thatchref07_outline.calls (k : Nat) (A0 : Option Addr) (c0 : Nat) (l0 : List (S32)) (r : Int) (w : World) (hr0 : Kd.C k32 w A0 l0.length l0) (hc0 : l0.length ≤ c0) (h : thatchref07_outline.f k l0 = some r) :
  Calls Try.prog 51 #[.slice A0 l0.length c0] w fun e w' => e = .returned (.int .i64 r) ∧ Below w.heap.size w w' := by
 have hu32 := Try.underlying32
 have HR0 := Aside0.mk hr0
 have HC0 := Aside0.mk hc0
 clear hr0 hc0
 have HB := Aside0.mk (Below.refl w.heap.size w)
 have H : ((thatchref07_in.f (l0.length : Int) 3 12).bind fun t232 => (if t232 = true then (thatchref07_outline.l0 k l0 (l0.length : Int) 0) else (some 1))) = some r := h
 clear h
 replace H := Option.bind_eq_some_iff.mp H
 obtain ⟨t232, A20, H⟩ := H
 replace H : (if t232 = true then (thatchref07_outline.l0 k l0 (l0.length : Int) 0) else (some 1)) = some r := H
 have A2 := Aside0.mk A20
 clear A20
 by_cases c3 : t232 = true
 ·subst c3
  have H1 : (thatchref07_outline.l0 k l0 (l0.length : Int) 0) = some r := by rw [if_pos rfl] at H; exact H
  clear H
  have H := H1
  clear H1
  have H' := Aside0.mk H
  clear H
  go_enter Try.func51, Try.ntmps51
  go_wp2_with (first | ((with_reducible refine gate_callee (f := 30) rfl ?_); refine goesL_ (some 16) rfl rfl Try.func30 (by kernel_rfl) rfl #[.int .i64 (l0.length : Int), .int .i64 3, .int .i64 12] rfl za ?_; (with_reducible refine (thatchref07_in.calls (l0.length : Int) 3 12 true _ A2.out).mono ?_); rintro e w' ⟨rfl, ⟨nd, rfl⟩⟩; refine ⟨_, rfl, ?_⟩))
  go_loopg [4] k (fun kq v4 w' => ∃ (x4_1 : Int), v4 = .int .i64 x4_1 ∧ Aside0 (thatchref07_outline.l0 kq l0 (l0.length : Int) x4_1 = some r) ∧ Aside0 (kq ≤ k) ∧ Aside0 (Below w.heap.size w w'))
  case atStart => exact ⟨(0), zq, H', ⟨Nat.le_refl _⟩, ⟨zw HB⟩⟩
  case round =>
   clear H'; try clear p2; try clear c3
   obtain ⟨x4_1, rfl, HA, HK1, HB⟩ := hrel
   cases gk with
   | zero => exact absurd HA.out (by simp [thatchref07_outline.l0])
   | succ k1 =>
    have H := HA.out
    clear HA
    simp only [thatchref07_outline.l0] at H
    by_cases c4 : x4_1 < (l0.length : Int)
    ·rw [if_pos c4] at H
     have c4b0 : decide (x4_1 < (l0.length : Int)) = true := decide_eq_true c4
     clear c4
     by_cases c5 : 0 ≤ x4_1
     ·rw [if_pos c5] at H
      have c5b0 : decide (0 ≤ x4_1) = true := decide_eq_true c5
      clear c5
      by_cases c6 : x4_1 < (l0.length : Int)
      ·rw [if_pos c6] at H
       have c6b0 : decide (x4_1 < (l0.length : Int)) = true := decide_eq_true c6
       clear c6
       replace H := Option.bind_eq_some_iff.mp H
       obtain ⟨t234, A70, H⟩ := H
       replace H : (if t234 = true then ((thatchref07_in.f ((rd_T32 l0 x4_1).f1) 0 400).bind fun t236 => (if t236 = true then (thatchref07_outline.l0 k1 l0 (l0.length : Int) (wrap64 (x4_1 + 1))) else (some 1))) else (some 1)) = some r := H
       have A7 := Aside0.mk A70
       clear A70
       by_cases c8 : t234 = true
       ·subst c8
        have H1 : ((thatchref07_in.f ((rd_T32 l0 x4_1).f1) 0 400).bind fun t236 => (if t236 = true then (thatchref07_outline.l0 k1 l0 (l0.length : Int) (wrap64 (x4_1 + 1))) else (some 1))) = some r := by rw [if_pos rfl] at H; exact H
        clear H
        have H := H1
        clear H1
        replace H := Option.bind_eq_some_iff.mp H
        obtain ⟨t236, A90, H⟩ := H
        replace H : (if t236 = true then (thatchref07_outline.l0 k1 l0 (l0.length : Int) (wrap64 (x4_1 + 1))) else (some 1)) = some r := H
        have A9 := Aside0.mk A90
        clear A90
        by_cases c10 : t236 = true
        ·subst c10
         have H1 : (thatchref07_outline.l0 k1 l0 (l0.length : Int) (wrap64 (x4_1 + 1))) = some r := by rw [if_pos rfl] at H; exact H
         clear H
         have H := H1
         clear H1
         have H' := Aside0.mk H
         clear H
         have p233 : 0 ≤ (x4_1 : Int) := of_decide_eq_true zj
         have q233 : x4_1 < (l0.length : Int) := of_decide_eq_true zj
         obtain ⟨ad233, e233, hx233_0, hx233_1⟩ := at_T32 HR0.out x4_1 p233 q233
         cases e233
         replace hx233_0 := zu hx233_0 HB
         replace hx233_1 := zu hx233_1 HB
         replace p233 := eq_true p233
         replace q233 := eq_true q233
         go_wp2_with (first | ((with_reducible refine gate_callee (f := 30) rfl ?_); refine goesL_ (some 28) rfl rfl Try.func30 (by kernel_rfl) rfl #[.int .i64 ((rd_T32 l0 x4_1).f0), .int .i64 0, .int .i64 400] rfl za ?_; (with_reducible refine (thatchref07_in.calls ((rd_T32 l0 x4_1).f0) 0 400 true _ A7.out).mono ?_); rintro e w' ⟨rfl, ⟨nd, rfl⟩⟩; refine ⟨_, rfl, ?_⟩; have p235 : 0 ≤ (x4_1 : Int) := of_decide_eq_true zj; have q235 : x4_1 < (l0.length : Int) := of_decide_eq_true zj; obtain ⟨ad235, e235, hx235_0, hx235_1⟩ := at_T32 HR0.out x4_1 p235 q235; obtain rfl : ad233 = ad235 := (by injection e235); replace hx235_0 := zu hx235_0 HB; replace hx235_1 := zu hx235_1 HB; replace p235 := eq_true p235; replace q235 := eq_true q235) | (go_at_call 30; (with_reducible refine (thatchref07_in.calls ((rd_T32 l0 x4_1).f1) 0 400 true _ A9.out).mono ?_); rintro e w' ⟨rfl, ⟨nd, rfl⟩⟩))
         go_roundg k1
         case measure => have := HK1.out; omega
         case rel => exact ⟨(wrap64 (x4_1 + 1)), zq, H', ⟨by have := HK1.out; omega⟩, ⟨zw HB⟩⟩
        replace c10 := Bool.eq_false_iff.mpr c10
        subst c10
        have H1 : (some 1) = some r := by rw [if_neg (show ¬ (false = true) by decide)] at H; exact H
        clear H
        have H := H1
        clear H1
        obtain rfl := Option.some.inj H
        have p233 : 0 ≤ (x4_1 : Int) := of_decide_eq_true zj
        have q233 : x4_1 < (l0.length : Int) := of_decide_eq_true zj
        obtain ⟨ad233, e233, hx233_0, hx233_1⟩ := at_T32 HR0.out x4_1 p233 q233
        cases e233
        replace hx233_0 := zu hx233_0 HB
        replace hx233_1 := zu hx233_1 HB
        replace p233 := eq_true p233
        replace q233 := eq_true q233
        go_wp2_with (first | ((with_reducible refine gate_callee (f := 30) rfl ?_); refine goesL_ (some 28) rfl rfl Try.func30 (by kernel_rfl) rfl #[.int .i64 ((rd_T32 l0 x4_1).f0), .int .i64 0, .int .i64 400] rfl za ?_; (with_reducible refine (thatchref07_in.calls ((rd_T32 l0 x4_1).f0) 0 400 true _ A7.out).mono ?_); rintro e w' ⟨rfl, ⟨nd, rfl⟩⟩; refine ⟨_, rfl, ?_⟩; have p235 : 0 ≤ (x4_1 : Int) := of_decide_eq_true zj; have q235 : x4_1 < (l0.length : Int) := of_decide_eq_true zj; obtain ⟨ad235, e235, hx235_0, hx235_1⟩ := at_T32 HR0.out x4_1 p235 q235; obtain rfl : ad233 = ad235 := (by injection e235); replace hx235_0 := zu hx235_0 HB; replace hx235_1 := zu hx235_1 HB; replace p235 := eq_true p235; replace q235 := eq_true q235) | (go_at_call 30; (with_reducible refine (thatchref07_in.calls ((rd_T32 l0 x4_1).f1) 0 400 false _ A9.out).mono ?_); rintro e w' ⟨rfl, ⟨nd, rfl⟩⟩))
        go_ret
        exact ⟨ze, zw HB⟩
       replace c8 := Bool.eq_false_iff.mpr c8
       subst c8
       have H1 : (some 1) = some r := by rw [if_neg (show ¬ (false = true) by decide)] at H; exact H
       clear H
       have H := H1
       clear H1
       obtain rfl := Option.some.inj H
       have p233 : 0 ≤ (x4_1 : Int) := of_decide_eq_true zj
       have q233 : x4_1 < (l0.length : Int) := of_decide_eq_true zj
       obtain ⟨ad233, e233, hx233_0, hx233_1⟩ := at_T32 HR0.out x4_1 p233 q233
       cases e233
       replace hx233_0 := zu hx233_0 HB
       replace hx233_1 := zu hx233_1 HB
       replace p233 := eq_true p233
       replace q233 := eq_true q233
       go_wp2_with (first | ((with_reducible refine gate_callee (f := 30) rfl ?_); refine goesL_ (some 28) rfl rfl Try.func30 (by kernel_rfl) rfl #[.int .i64 ((rd_T32 l0 x4_1).f0), .int .i64 0, .int .i64 400] rfl za ?_; (with_reducible refine (thatchref07_in.calls ((rd_T32 l0 x4_1).f0) 0 400 false _ A7.out).mono ?_); rintro e w' ⟨rfl, ⟨nd, rfl⟩⟩; refine ⟨_, rfl, ?_⟩))
       go_ret
       exact ⟨ze, zw HB⟩
      rw [if_neg c6] at H
      exact absurd H (by simp)
     rw [if_neg c5] at H
     exact absurd H (by simp)
    rw [if_neg c4] at H
    have c4b0 : decide (x4_1 < (l0.length : Int)) = false := decide_eq_false c4
    clear c4
    have H' := Aside0.mk H
    clear H
    go_wp2
    go_loopg [5] k1 (fun kq v5 w' => ∃ (x5_2 : Int), v5 = .int .i64 x5_2 ∧ Aside0 (thatchref07_outline.l1 kq l0 (l0.length : Int) x5_2 = some r) ∧ Aside0 (kq ≤ k1) ∧ Aside0 (Below w.heap.size w w'))
    case atStart => exact ⟨(0), zq, H', ⟨Nat.le_refl _⟩, ⟨zw HB⟩⟩
    case round =>
     clear H'; try clear c1; try clear p2; try clear q2; try clear hx2; try clear c3; try clear c4; try clear c4b0; try clear c5; try clear c5b0; try clear c6; try clear c6b0; try clear p6; try clear c8; try clear c10; try clear hx233_0; try clear hx233_1; try clear hx235_0; try clear hx235_1; try clear p2; try clear p233; try clear p235; try clear q233; try clear q235
     obtain ⟨x5_2, rfl, HA, HK2, HB⟩ := hrel
     cases gk with
     | zero => exact absurd HA.out (by simp [thatchref07_outline.l1])
     | succ k2 =>
      have H := HA.out
      clear HA
      simp only [thatchref07_outline.l1] at H
      by_cases c11 : x5_2 < (l0.length : Int)
      ·rw [if_pos c11] at H
       have c11b0 : decide (x5_2 < (l0.length : Int)) = true := decide_eq_true c11
       clear c11
       have H' := Aside0.mk H
       clear H
       go_wp2
       go_loopg [6] k2 (fun kq v6 w' => ∃ (x6_3 : Int), v6 = .int .i64 x6_3 ∧ Aside0 (thatchref07_outline.l2 kq l0 (l0.length : Int) x5_2 x6_3 = some r) ∧ Aside0 (kq ≤ k2) ∧ Aside0 (Below w.heap.size w w'))
       case atStart => exact ⟨(0), zq, H', ⟨Nat.le_refl _⟩, ⟨zw HB⟩⟩
       case round =>
        clear H'; try clear c1; try clear p2; try clear q2; try clear hx2; try clear c3; try clear c4; try clear c4b0; try clear c5; try clear c5b0; try clear c6; try clear c6b0; try clear p6; try clear c8; try clear c10; try clear c11; try clear c11b0; try clear hx233_0; try clear hx233_1; try clear hx235_0; try clear hx235_1; try clear p2; try clear p233; try clear p235; try clear p6; try clear q2; try clear q233; try clear q235
        obtain ⟨x6_3, rfl, HA, HK3, HB⟩ := hrel
        cases gk with
        | zero => exact absurd HA.out (by simp [thatchref07_outline.l2])
        | succ k3 =>
         have H := HA.out
         clear HA
         simp only [thatchref07_outline.l2] at H
         by_cases c12 : x6_3 < x5_2
         ·rw [if_pos c12] at H
          have c12b0 : decide (x6_3 < x5_2) = true := decide_eq_true c12
          clear c12
          by_cases c13 : 0 ≤ x5_2
          ·rw [if_pos c13] at H
           have c13b0 : decide (0 ≤ x5_2) = true := decide_eq_true c13
           clear c13
           by_cases c14 : x5_2 < (l0.length : Int)
           ·rw [if_pos c14] at H
            have c14b0 : decide (x5_2 < (l0.length : Int)) = true := decide_eq_true c14
            clear c14
            by_cases c15 : 0 ≤ x6_3
            ·rw [if_pos c15] at H
             have c15b0 : decide (0 ≤ x6_3) = true := decide_eq_true c15
             clear c15
             by_cases c16 : x6_3 < (l0.length : Int)
             ·rw [if_pos c16] at H
              have c16b0 : decide (x6_3 < (l0.length : Int)) = true := decide_eq_true c16
              clear c16
              by_cases c17 : (((rd_T32 l0 x5_2).f0) == ((rd_T32 l0 x6_3).f0) && (((rd_T32 l0 x5_2).f1) == ((rd_T32 l0 x6_3).f1))) = true
              ·rw [if_pos c17] at H
               have c17b0 : (((rd_T32 l0 x5_2).f0) == ((rd_T32 l0 x6_3).f0) && (((rd_T32 l0 x5_2).f1) == ((rd_T32 l0 x6_3).f1))) = true := c17
               (try (have c17b1 : decide (((rd_T32 l0 x5_2).f0) = ((rd_T32 l0 x6_3).f0) && (((rd_T32 l0 x5_2).f1) == ((rd_T32 l0 x6_3).f1))) = true := by simpa using c17))
               (try (have c17b2 : (((rd_T32 l0 x5_2).f0) == ((rd_T32 l0 x6_3).f0) && (((rd_T32 l0 x5_2).f1) == ((rd_T32 l0 x6_3).f1))) = true := by simpa using c17))
               clear c17
               obtain rfl := Option.some.inj H
               try go_wp2
               have n0_ := Aside0.mk (below_drew1 HB.out)
               clear HB
               have HB := n0_
               clear n0_
               have p237 : 0 ≤ (x5_2 : Int) := of_decide_eq_true zj
               have q237 : x5_2 < (l0.length : Int) := of_decide_eq_true zj
               obtain ⟨ad237, e237, hx237_0, hx237_1⟩ := at_T32 HR0.out x5_2 p237 q237
               have hw237_1 := hx237_1
               have hw237_0 := hx237_0
               cases e237
               replace hx237_0 := zu hx237_0 HB
               replace hx237_1 := zu hx237_1 HB
               replace p237 := eq_true p237
               replace q237 := eq_true q237
               have p238 : 0 ≤ (x6_3 : Int) := of_decide_eq_true zj
               have q238 : x6_3 < (l0.length : Int) := of_decide_eq_true zj
               obtain ⟨ad238, e238, hx238_0, hx238_1⟩ := at_T32 HR0.out x6_3 p238 q238
               have hw238_1 := hx238_1
               have hw238_0 := hx238_0
               obtain rfl : ad237 = ad238 := (by injection e238)
               replace hx238_0 := zu hx238_0 HB
               replace hx238_1 := zu hx238_1 HB
               replace p238 := eq_true p238
               replace q238 := eq_true q238
               refine start_ (n := 9) (S := fun w' => w'.cell? (ad237.add ((x5_2).toNat * 2)) = some (.int .i64 ((rd_T32 l0 x5_2).f0)) ∧ w'.cell? ⟨(ad237.add ((x5_2).toNat * 2)).block, (ad237.add ((x5_2).toNat * 2)).off + 1, none⟩ = some (.int .i64 ((rd_T32 l0 x5_2).f1)) ∧ w'.cell? (ad237.add ((x6_3).toNat * 2)) = some (.int .i64 ((rd_T32 l0 x6_3).f0)) ∧ w'.cell? ⟨(ad237.add ((x6_3).toNat * 2)).block, (ad237.add ((x6_3).toNat * 2)).off + 1, none⟩ = some (.int .i64 ((rd_T32 l0 x6_3).f1))) (ds := []) #[Z0, Z0, Z0, Z0, Z0, Z0, Z0, Z0, Z0] (by kernel_rfl) rfl rfl ⟨(zu hw237_0 HB), (zu hw237_1 HB), (zu hw238_0 HB), (zu hw238_1 HB)⟩ (fun hHeld => ?_); refine with_tabW thatchref07_outline.tab15 thatchref07_outline.bits15 (fun HT_ HW_ => ?_)
               generalize wr.drew = w18 at HB hx237_0 hx237_1 hx238_0 hx238_1 hHeld ⊢
               refine zp 0 (some 49) #[Z1, Z0, Z0, Z0, Z0, Z0, Z0, Z0, Z0] rfl rfl (any_of HT_.out (by kernel_rfl)) ?_
               refine zp 1 (some 50) #[Z1, Z1, Z0, Z0, Z0, Z0, Z0, Z0, Z0] rfl rfl (any_of HT_.out (by kernel_rfl)) ?_
               refine zp 2 (some 51) #[Z1, Z1, Z1, Z0, Z0, Z0, Z0, Z0, Z0] rfl rfl (any_of HT_.out (by kernel_rfl)) ?_
               refine zp 4 (some 53) #[Z1, Z1, Z1, Z0, Z1, Z0, Z0, Z0, Z0] rfl rfl (any_of HT_.out (by kernel_rfl)) ?_
               refine zp 5 (some 54) #[Z1, Z1, Z1, Z0, Z1, Z1, Z0, Z0, Z0] rfl rfl (any_of HT_.out (by kernel_rfl)) ?_
               refine zp 6 (some 55) #[Z1, Z1, Z1, Z0, Z1, Z1, Z1, Z0, Z0] rfl rfl (any_of HT_.out (by kernel_rfl)) ?_
               refine take_ (i := 3) (N := some 52) (v := ?_) (a' := ?_) #[Z1, Z1, Z1, Z1, Z1, Z1, Z1, Z0, Z0] rfl rfl (take_ofW HT_.out HW_.out (by kernel_rfl)) (fun _ _ _ h => h) (Or.inl ⟨by rfl, ?_⟩) hHeld ?_ ?_
               rotate_left; · rintro w' ⟨s0, s1, s2, s3⟩; go_simp; with_reducible rfl
               rotate_left; · simp only [Act.put, List.setIfInBounds_toArray, List.set_cons_zero, List.set_cons_succ, i64_w, i32_w]; rfl
               refine take_ (i := 7) (N := some 56) (v := ?_) (a' := ?_) #[Z1, Z1, Z1, Z1, Z1, Z1, Z1, Z1, Z0] rfl rfl (take_ofW HT_.out HW_.out (by kernel_rfl)) (fun _ _ _ h => h) (Or.inl ⟨by rfl, ?_⟩) hHeld ?_ ?_
               rotate_left; · rintro w' ⟨s0, s1, s2, s3⟩; go_simp; with_reducible rfl
               rotate_left; · simp only [Act.put, List.setIfInBounds_toArray, List.set_cons_zero, List.set_cons_succ, i64_w, i32_w]; rfl
               refine zp 8 (some 57) #[Z1, Z1, Z1, Z1, Z1, Z1, Z1, Z1, Z1] rfl rfl (any_of HT_.out (by kernel_rfl)) ?_
               refine done_ (done_of HT_.out (by kernel_rfl)) ?_
               try go_wp2
               go_ret
               exact ⟨ze, zw HB⟩
              rw [if_neg c17] at H
              have c17b0 : (((rd_T32 l0 x5_2).f0) == ((rd_T32 l0 x6_3).f0) && (((rd_T32 l0 x5_2).f1) == ((rd_T32 l0 x6_3).f1))) = false := by simpa using c17
              (try (have c17b1 : decide (((rd_T32 l0 x5_2).f0) = ((rd_T32 l0 x6_3).f0) && (((rd_T32 l0 x5_2).f1) == ((rd_T32 l0 x6_3).f1))) = false := by simpa using c17))
              (try (have c17b2 : (((rd_T32 l0 x5_2).f0) == ((rd_T32 l0 x6_3).f0) && (((rd_T32 l0 x5_2).f1) == ((rd_T32 l0 x6_3).f1))) = false := by simpa using c17))
              (try (have c17b3 : ¬ (((rd_T32 l0 x5_2).f0) = ((rd_T32 l0 x6_3).f0) && (((rd_T32 l0 x5_2).f1) == ((rd_T32 l0 x6_3).f1))) := by simpa using c17))
              clear c17
              have H' := Aside0.mk H
              clear H
              try go_wp2
              have n0_ := Aside0.mk (below_drew1 HB.out)
              clear HB
              have HB := n0_
              clear n0_
              have p237 : 0 ≤ (x5_2 : Int) := of_decide_eq_true zj
              have q237 : x5_2 < (l0.length : Int) := of_decide_eq_true zj
              obtain ⟨ad237, e237, hx237_0, hx237_1⟩ := at_T32 HR0.out x5_2 p237 q237
              have hw237_1 := hx237_1
              have hw237_0 := hx237_0
              cases e237
              replace hx237_0 := zu hx237_0 HB
              replace hx237_1 := zu hx237_1 HB
              replace p237 := eq_true p237
              replace q237 := eq_true q237
              have p238 : 0 ≤ (x6_3 : Int) := of_decide_eq_true zj
              have q238 : x6_3 < (l0.length : Int) := of_decide_eq_true zj
              obtain ⟨ad238, e238, hx238_0, hx238_1⟩ := at_T32 HR0.out x6_3 p238 q238
              have hw238_1 := hx238_1
              have hw238_0 := hx238_0
              obtain rfl : ad237 = ad238 := (by injection e238)
              replace hx238_0 := zu hx238_0 HB
              replace hx238_1 := zu hx238_1 HB
              replace p238 := eq_true p238
              replace q238 := eq_true q238
              refine start_ (n := 9) (S := fun w' => w'.cell? (ad237.add ((x5_2).toNat * 2)) = some (.int .i64 ((rd_T32 l0 x5_2).f0)) ∧ w'.cell? ⟨(ad237.add ((x5_2).toNat * 2)).block, (ad237.add ((x5_2).toNat * 2)).off + 1, none⟩ = some (.int .i64 ((rd_T32 l0 x5_2).f1)) ∧ w'.cell? (ad237.add ((x6_3).toNat * 2)) = some (.int .i64 ((rd_T32 l0 x6_3).f0)) ∧ w'.cell? ⟨(ad237.add ((x6_3).toNat * 2)).block, (ad237.add ((x6_3).toNat * 2)).off + 1, none⟩ = some (.int .i64 ((rd_T32 l0 x6_3).f1))) (ds := []) #[Z0, Z0, Z0, Z0, Z0, Z0, Z0, Z0, Z0] (by kernel_rfl) rfl rfl ⟨(zu hw237_0 HB), (zu hw237_1 HB), (zu hw238_0 HB), (zu hw238_1 HB)⟩ (fun hHeld => ?_); refine with_tabW thatchref07_outline.tab15 thatchref07_outline.bits15 (fun HT_ HW_ => ?_)
              generalize wr.drew = w19 at HB hx237_0 hx237_1 hx238_0 hx238_1 hHeld ⊢
              refine zp 0 (some 49) #[Z1, Z0, Z0, Z0, Z0, Z0, Z0, Z0, Z0] rfl rfl (any_of HT_.out (by kernel_rfl)) ?_
              refine zp 1 (some 50) #[Z1, Z1, Z0, Z0, Z0, Z0, Z0, Z0, Z0] rfl rfl (any_of HT_.out (by kernel_rfl)) ?_
              refine zp 2 (some 51) #[Z1, Z1, Z1, Z0, Z0, Z0, Z0, Z0, Z0] rfl rfl (any_of HT_.out (by kernel_rfl)) ?_
              refine zp 4 (some 53) #[Z1, Z1, Z1, Z0, Z1, Z0, Z0, Z0, Z0] rfl rfl (any_of HT_.out (by kernel_rfl)) ?_
              refine zp 5 (some 54) #[Z1, Z1, Z1, Z0, Z1, Z1, Z0, Z0, Z0] rfl rfl (any_of HT_.out (by kernel_rfl)) ?_
              refine zp 6 (some 55) #[Z1, Z1, Z1, Z0, Z1, Z1, Z1, Z0, Z0] rfl rfl (any_of HT_.out (by kernel_rfl)) ?_
              refine take_ (i := 3) (N := some 52) (v := ?_) (a' := ?_) #[Z1, Z1, Z1, Z1, Z1, Z1, Z1, Z0, Z0] rfl rfl (take_ofW HT_.out HW_.out (by kernel_rfl)) (fun _ _ _ h => h) (Or.inl ⟨by rfl, ?_⟩) hHeld ?_ ?_
              rotate_left; · rintro w' ⟨s0, s1, s2, s3⟩; go_simp; with_reducible rfl
              rotate_left; · simp only [Act.put, List.setIfInBounds_toArray, List.set_cons_zero, List.set_cons_succ, i64_w, i32_w]; rfl
              refine take_ (i := 7) (N := some 56) (v := ?_) (a' := ?_) #[Z1, Z1, Z1, Z1, Z1, Z1, Z1, Z1, Z0] rfl rfl (take_ofW HT_.out HW_.out (by kernel_rfl)) (fun _ _ _ h => h) (Or.inl ⟨by rfl, ?_⟩) hHeld ?_ ?_
              rotate_left; · rintro w' ⟨s0, s1, s2, s3⟩; go_simp; with_reducible rfl
              rotate_left; · simp only [Act.put, List.setIfInBounds_toArray, List.set_cons_zero, List.set_cons_succ, i64_w, i32_w]; rfl
              refine zp 8 (some 57) #[Z1, Z1, Z1, Z1, Z1, Z1, Z1, Z1, Z1] rfl rfl (any_of HT_.out (by kernel_rfl)) ?_
              refine done_ (done_of HT_.out (by kernel_rfl)) ?_
              try go_wp2
              go_roundg k3
              case measure => have := HK1.out; have := HK2.out; have := HK3.out; omega
              case rel => exact ⟨(wrap64 (x6_3 + 1)), zq, H', ⟨by have := HK1.out; have := HK2.out; have := HK3.out; omega⟩, ⟨zw HB⟩⟩
             rw [if_neg c16] at H
             exact absurd H (by simp)
            rw [if_neg c15] at H
            exact absurd H (by simp)
           rw [if_neg c14] at H
           exact absurd H (by simp)
          rw [if_neg c13] at H
          exact absurd H (by simp)
         rw [if_neg c12] at H
         have c12b0 : decide (x6_3 < x5_2) = false := decide_eq_false c12
         clear c12
         have H' := Aside0.mk H
         clear H
         go_wp2
         go_roundg k3
         case measure => have := HK1.out; have := HK2.out; have := HK3.out; omega
         case rel => exact ⟨(wrap64 (x5_2 + 1)), zq, H', ⟨by have := HK1.out; have := HK2.out; have := HK3.out; omega⟩, ⟨zw HB⟩⟩
      rw [if_neg c11] at H
      have c11b0 : decide (x5_2 < (l0.length : Int)) = false := decide_eq_false c11
      clear c11
      have H' := Aside0.mk H
      clear H
      go_wp2
      go_loopg [7, 8] k2 (fun kq v7 v8 w' => ∃ (x7_3 : Int) (x8_3 : Int), v7 = .int .i64 x7_3 ∧ v8 = .int .i64 x8_3 ∧ Aside0 (thatchref07_outline.l3 kq l0 (l0.length : Int) x7_3 x8_3 = some r) ∧ Aside0 (kq ≤ k2) ∧ Aside0 (Below w.heap.size w w'))
      case atStart => exact ⟨(0), (0), zq, zq, H', ⟨Nat.le_refl _⟩, ⟨zw HB⟩⟩
      case round =>
       clear H'; try clear c1; try clear p2; try clear q2; try clear hx2; try clear c3; try clear c4; try clear c4b0; try clear c5; try clear c5b0; try clear c6; try clear c6b0; try clear p6; try clear c8; try clear c10; try clear c11; try clear c11b0; try clear c12; try clear c12b0; try clear c13; try clear c13b0; try clear c14; try clear c14b0; try clear c15; try clear c15b0; try clear c16; try clear c16b0; try clear c17; try clear c17b0; try clear c17b1; try clear c17b2; try clear hx233_0; try clear hx233_1; try clear hx235_0; try clear hx235_1; try clear hx237_0; try clear hx237_1; try clear hx238_0; try clear hx238_1; try clear p2; try clear p233; try clear p235; try clear p237; try clear p238; try clear p6; try clear q2; try clear q233; try clear q235; try clear q237; try clear q238
       obtain ⟨x7_3, x8_3, rfl, rfl, HA, HK3, HB⟩ := hrel
       cases gk with
       | zero => exact absurd HA.out (by simp [thatchref07_outline.l3])
       | succ k3 =>
        have H := HA.out
        clear HA
        simp only [thatchref07_outline.l3] at H
        by_cases c20 : x8_3 < (l0.length : Int)
        ·rw [if_pos c20] at H
         have c20b0 : decide (x8_3 < (l0.length : Int)) = true := decide_eq_true c20
         clear c20
         by_cases c21 : 0 ≤ x8_3
         ·rw [if_pos c21] at H
          have c21b0 : decide (0 ≤ x8_3) = true := decide_eq_true c21
          clear c21
          by_cases c22 : x8_3 < (l0.length : Int)
          ·rw [if_pos c22] at H
           have c22b0 : decide (x8_3 < (l0.length : Int)) = true := decide_eq_true c22
           clear c22
           by_cases c23 : (l0.length : Int) = 0
           ·rw [if_pos c23] at H
            exact absurd H (by simp)
           rw [if_neg c23] at H
           have c23b0 : ((l0.length : Int) == 0) = false := beq_eq_false_iff_ne.mpr c23
           have c23b1 : ((l0.length : Int) != 0) = true := bne_iff_ne.mpr c23
           have c23b2 : ¬ (l0 = []) := fun h_ => c23 (by rw [h_]; rfl)
           obtain ⟨ji24, hji24⟩ : ∃ j_ : Int, (Int.tmod (wrap64 (x8_3 + 1)) (l0.length : Int)) = j_ := ⟨_, rfl⟩
           replace H : (if 0 ≤ (ji24) then (if (ji24) < (l0.length : Int) then (if 0 ≤ (Int.tmod (wrap64 (x8_3 + 2)) (l0.length : Int)) then (if (Int.tmod (wrap64 (x8_3 + 2)) (l0.length : Int)) < (l0.length : Int) then (thatchref07_outline.l4 k3 l0 (l0.length : Int) x7_3 x8_3 0 ((rd_T32 l0 x8_3).f0) ((rd_T32 l0 x8_3).f1) ((rd_T32 l0 (ji24)).f0) ((rd_T32 l0 (ji24)).f1) ((rd_T32 l0 (Int.tmod (wrap64 (x8_3 + 2)) (l0.length : Int))).f0) ((rd_T32 l0 (Int.tmod (wrap64 (x8_3 + 2)) (l0.length : Int))).f1)) else (none)) else (none)) else (none)) else (none)) = some r := by first | (rw [hji24] at H; exact H) | (simp only [hji24] at H ⊢; exact H)
           by_cases c25 : 0 ≤ (ji24)
           ·rw [if_pos c25] at H
            have c25b0 : decide (0 ≤ (ji24)) = true := decide_eq_true c25
            clear c25
            by_cases c26 : (ji24) < (l0.length : Int)
            ·rw [if_pos c26] at H
             have c26b0 : decide ((ji24) < (l0.length : Int)) = true := decide_eq_true c26
             clear c26
             obtain ⟨ji27, hji27⟩ : ∃ j_ : Int, (Int.tmod (wrap64 (x8_3 + 2)) (l0.length : Int)) = j_ := ⟨_, rfl⟩
             replace H : (if 0 ≤ (ji27) then (if (ji27) < (l0.length : Int) then (thatchref07_outline.l4 k3 l0 (l0.length : Int) x7_3 x8_3 0 ((rd_T32 l0 x8_3).f0) ((rd_T32 l0 x8_3).f1) ((rd_T32 l0 (ji24)).f0) ((rd_T32 l0 (ji24)).f1) ((rd_T32 l0 (ji27)).f0) ((rd_T32 l0 (ji27)).f1)) else (none)) else (none)) = some r := by first | (rw [hji27] at H; exact H) | (simp only [hji27] at H ⊢; exact H)
             by_cases c28 : 0 ≤ (ji27)
             ·rw [if_pos c28] at H
              have c28b0 : decide (0 ≤ (ji27)) = true := decide_eq_true c28
              clear c28
              by_cases c29 : (ji27) < (l0.length : Int)
              ·rw [if_pos c29] at H
               have c29b0 : decide ((ji27) < (l0.length : Int)) = true := decide_eq_true c29
               clear c29
               have H' := Aside0.mk H
               clear H
               try go_wp2
               have n0_ := Aside0.mk (below_drew1 HB.out)
               clear HB
               have HB := n0_
               clear n0_
               have p239 : 0 ≤ (x8_3 : Int) := of_decide_eq_true zj
               have q239 : x8_3 < (l0.length : Int) := of_decide_eq_true zj
               obtain ⟨ad239, e239, hx239_0, hx239_1⟩ := at_T32 HR0.out x8_3 p239 q239
               have hw239_1 := hx239_1
               have hw239_0 := hx239_0
               cases e239
               replace hx239_0 := zu hx239_0 HB
               replace hx239_1 := zu hx239_1 HB
               replace p239 := eq_true p239
               replace q239 := eq_true q239
               have p240 : 0 ≤ ((ji24) : Int) := of_decide_eq_true zj
               have q240 : (ji24) < (l0.length : Int) := of_decide_eq_true zj
               obtain ⟨ad240, e240, hx240_0, hx240_1⟩ := at_T32 HR0.out (ji24) p240 q240
               have hw240_1 := hx240_1
               have hw240_0 := hx240_0
               obtain rfl : ad239 = ad240 := (by injection e240)
               replace hx240_0 := zu hx240_0 HB
               replace hx240_1 := zu hx240_1 HB
               replace p240 := eq_true p240
               replace q240 := eq_true q240
               have p241 : 0 ≤ ((ji27) : Int) := of_decide_eq_true zj
               have q241 : (ji27) < (l0.length : Int) := of_decide_eq_true zj
               obtain ⟨ad241, e241, hx241_0, hx241_1⟩ := at_T32 HR0.out (ji27) p241 q241
               have hw241_1 := hx241_1
               have hw241_0 := hx241_0
               obtain rfl : ad239 = ad241 := (by injection e241)
               replace hx241_0 := zu hx241_0 HB
               replace hx241_1 := zu hx241_1 HB
               replace p241 := eq_true p241
               replace q241 := eq_true q241
               refine start_ (n := 24) (S := fun w' => w'.cell? (ad239.add ((x8_3).toNat * 2)) = some (.int .i64 ((rd_T32 l0 x8_3).f0)) ∧ w'.cell? ⟨(ad239.add ((x8_3).toNat * 2)).block, (ad239.add ((x8_3).toNat * 2)).off + 1, none⟩ = some (.int .i64 ((rd_T32 l0 x8_3).f1)) ∧ w'.cell? (ad239.add (((ji24)).toNat * 2)) = some (.int .i64 ((rd_T32 l0 (ji24)).f0)) ∧ w'.cell? ⟨(ad239.add (((ji24)).toNat * 2)).block, (ad239.add (((ji24)).toNat * 2)).off + 1, none⟩ = some (.int .i64 ((rd_T32 l0 (ji24)).f1)) ∧ w'.cell? (ad239.add (((ji27)).toNat * 2)) = some (.int .i64 ((rd_T32 l0 (ji27)).f0)) ∧ w'.cell? ⟨(ad239.add (((ji27)).toNat * 2)).block, (ad239.add (((ji27)).toNat * 2)).off + 1, none⟩ = some (.int .i64 ((rd_T32 l0 (ji27)).f1))) (ds := []) #[Z0, Z0, Z0, Z0, Z0, Z0, Z0, Z0, Z0, Z0, Z0, Z0, Z0, Z0, Z0, Z0, Z0, Z0, Z0, Z0, Z0, Z0, Z0, Z0] (by kernel_rfl) rfl rfl ⟨(zu hw239_0 HB), (zu hw239_1 HB), (zu hw240_0 HB), (zu hw240_1 HB), (zu hw241_0 HB), (zu hw241_1 HB)⟩ (fun hHeld => ?_); refine with_tabW thatchref07_outline.tab21 thatchref07_outline.bits21 (fun HT_ HW_ => ?_)
               generalize wr.drew = w30 at HB hx239_0 hx239_1 hx240_0 hx240_1 hx241_0 hx241_1 hHeld ⊢
               refine zp 0 (some 63) #[Z1, Z0, Z0, Z0, Z0, Z0, Z0, Z0, Z0, Z0, Z0, Z0, Z0, Z0, Z0, Z0, Z0, Z0, Z0, Z0, Z0, Z0, Z0, Z0] rfl rfl (any_of HT_.out (by kernel_rfl)) ?_
               refine zp 1 (some 64) #[Z1, Z1, Z0, Z0, Z0, Z0, Z0, Z0, Z0, Z0, Z0, Z0, Z0, Z0, Z0, Z0, Z0, Z0, Z0, Z0, Z0, Z0, Z0, Z0] rfl rfl (any_of HT_.out (by kernel_rfl)) ?_
               refine zp 2 (some 65) #[Z1, Z1, Z1, Z0, Z0, Z0, Z0, Z0, Z0, Z0, Z0, Z0, Z0, Z0, Z0, Z0, Z0, Z0, Z0, Z0, Z0, Z0, Z0, Z0] rfl rfl (any_of HT_.out (by kernel_rfl)) ?_
               refine zp 4 (some 67) #[Z1, Z1, Z1, Z0, Z1, Z0, Z0, Z0, Z0, Z0, Z0, Z0, Z0, Z0, Z0, Z0, Z0, Z0, Z0, Z0, Z0, Z0, Z0, Z0] rfl rfl (any_of HT_.out (by kernel_rfl)) ?_
               refine zp 5 (some 68) #[Z1, Z1, Z1, Z0, Z1, Z1, Z0, Z0, Z0, Z0, Z0, Z0, Z0, Z0, Z0, Z0, Z0, Z0, Z0, Z0, Z0, Z0, Z0, Z0] rfl rfl (any_of HT_.out (by kernel_rfl)) ?_
               refine zp 6 (some 69) #[Z1, Z1, Z1, Z0, Z1, Z1, Z1, Z0, Z0, Z0, Z0, Z0, Z0, Z0, Z0, Z0, Z0, Z0, Z0, Z0, Z0, Z0, Z0, Z0] rfl rfl (any_of HT_.out (by kernel_rfl)) ?_
               refine zp 7 (some 70) #[Z1, Z1, Z1, Z0, Z1, Z1, Z1, Z1, Z0, Z0, Z0, Z0, Z0, Z0, Z0, Z0, Z0, Z0, Z0, Z0, Z0, Z0, Z0, Z0] rfl rfl (any_of HT_.out (by kernel_rfl)) ?_
               refine zp 8 (some 71) #[Z1, Z1, Z1, Z0, Z1, Z1, Z1, Z1, Z1, Z0, Z0, Z0, Z0, Z0, Z0, Z0, Z0, Z0, Z0, Z0, Z0, Z0, Z0, Z0] rfl rfl (any_of HT_.out (by kernel_rfl)) ?_
               refine zp 9 (some 72) #[Z1, Z1, Z1, Z0, Z1, Z1, Z1, Z1, Z1, Z1, Z0, Z0, Z0, Z0, Z0, Z0, Z0, Z0, Z0, Z0, Z0, Z0, Z0, Z0] rfl rfl (any_of HT_.out (by kernel_rfl)) ?_
               refine zp 11 (some 74) #[Z1, Z1, Z1, Z0, Z1, Z1, Z1, Z1, Z1, Z1, Z0, Z1, Z0, Z0, Z0, Z0, Z0, Z0, Z0, Z0, Z0, Z0, Z0, Z0] rfl rfl (any_of HT_.out (by kernel_rfl)) ?_
               refine zp 12 (some 75) #[Z1, Z1, Z1, Z0, Z1, Z1, Z1, Z1, Z1, Z1, Z0, Z1, Z1, Z0, Z0, Z0, Z0, Z0, Z0, Z0, Z0, Z0, Z0, Z0] rfl rfl (any_of HT_.out (by kernel_rfl)) ?_
               refine zp 13 (some 76) #[Z1, Z1, Z1, Z0, Z1, Z1, Z1, Z1, Z1, Z1, Z0, Z1, Z1, Z1, Z0, Z0, Z0, Z0, Z0, Z0, Z0, Z0, Z0, Z0] rfl rfl (any_of HT_.out (by kernel_rfl)) ?_
               refine zp 14 (some 77) #[Z1, Z1, Z1, Z0, Z1, Z1, Z1, Z1, Z1, Z1, Z0, Z1, Z1, Z1, Z1, Z0, Z0, Z0, Z0, Z0, Z0, Z0, Z0, Z0] rfl rfl (any_of HT_.out (by kernel_rfl)) ?_
               refine zp 15 (some 78) #[Z1, Z1, Z1, Z0, Z1, Z1, Z1, Z1, Z1, Z1, Z0, Z1, Z1, Z1, Z1, Z1, Z0, Z0, Z0, Z0, Z0, Z0, Z0, Z0] rfl rfl (any_of HT_.out (by kernel_rfl)) ?_
               refine zp 16 (some 79) #[Z1, Z1, Z1, Z0, Z1, Z1, Z1, Z1, Z1, Z1, Z0, Z1, Z1, Z1, Z1, Z1, Z1, Z0, Z0, Z0, Z0, Z0, Z0, Z0] rfl rfl (any_of HT_.out (by kernel_rfl)) ?_
               refine take_ (i := 3) (N := some 66) (v := ?_) (a' := ?_) #[Z1, Z1, Z1, Z1, Z1, Z1, Z1, Z1, Z1, Z1, Z0, Z1, Z1, Z1, Z1, Z1, Z1, Z0, Z0, Z0, Z0, Z0, Z0, Z0] rfl rfl (take_ofW HT_.out HW_.out (by kernel_rfl)) (fun _ _ _ h => h) (Or.inl ⟨by rfl, ?_⟩) hHeld ?_ ?_
               rotate_left; · rintro w' ⟨s0, s1, s2, s3, s4, s5⟩; go_simp; with_reducible rfl
               rotate_left; · simp only [Act.put, List.setIfInBounds_toArray, List.set_cons_zero, List.set_cons_succ, i64_w, i32_w]; rfl
               refine take_ (i := 10) (N := some 73) (v := ?_) (a' := ?_) #[Z1, Z1, Z1, Z1, Z1, Z1, Z1, Z1, Z1, Z1, Z1, Z1, Z1, Z1, Z1, Z1, Z1, Z0, Z0, Z0, Z0, Z0, Z0, Z0] rfl rfl (take_ofW HT_.out HW_.out (by kernel_rfl)) (fun _ _ _ h => h) (Or.inl ⟨by rfl, ?_⟩) hHeld ?_ ?_
               rotate_left; · rintro w' ⟨s0, s1, s2, s3, s4, s5⟩; go_simp; with_reducible rfl
               rotate_left; · simp only [Act.put, List.setIfInBounds_toArray, List.set_cons_zero, List.set_cons_succ, i64_w, i32_w]; rfl
               refine take_ (i := 17) (N := some 80) (v := ?_) (a' := ?_) #[Z1, Z1, Z1, Z1, Z1, Z1, Z1, Z1, Z1, Z1, Z1, Z1, Z1, Z1, Z1, Z1, Z1, Z1, Z0, Z0, Z0, Z0, Z0, Z0] rfl rfl (take_ofW HT_.out HW_.out (by kernel_rfl)) (fun _ _ _ h => h) (Or.inl ⟨by rfl, ?_⟩) hHeld ?_ ?_
               rotate_left; · rintro w' ⟨s0, s1, s2, s3, s4, s5⟩; go_simp; with_reducible rfl
               rotate_left; · simp only [Act.put, List.setIfInBounds_toArray, List.set_cons_zero, List.set_cons_succ, i64_w, i32_w]; rfl
               refine join_ (σ := Nat × Nat × Nat) 3 #[Z1, Z1, Z1, Z1, Z1, Z1, Z1, Z1, Z1, Z1, Z1, Z1, Z1, Z1, Z1, Z1, Z1, Z1, Z1, Z1, Z1, Z0, Z0, Z0] (fun s_ => [(9, .pointer (some ⟨s_.1, 0, none⟩)), (10, .pointer (some ⟨s_.2.1, 0, none⟩)), (11, .pointer (some ⟨s_.2.2, 0, none⟩))]) (fun s_ w' => (w'.cell? (ad239.add ((x8_3).toNat * 2)) = some (.int .i64 ((rd_T32 l0 x8_3).f0)) ∧ w'.cell? ⟨(ad239.add ((x8_3).toNat * 2)).block, (ad239.add ((x8_3).toNat * 2)).off + 1, none⟩ = some (.int .i64 ((rd_T32 l0 x8_3).f1)) ∧ w'.cell? (ad239.add (((ji24)).toNat * 2)) = some (.int .i64 ((rd_T32 l0 (ji24)).f0)) ∧ w'.cell? ⟨(ad239.add (((ji24)).toNat * 2)).block, (ad239.add (((ji24)).toNat * 2)).off + 1, none⟩ = some (.int .i64 ((rd_T32 l0 (ji24)).f1)) ∧ w'.cell? (ad239.add (((ji27)).toNat * 2)) = some (.int .i64 ((rd_T32 l0 (ji27)).f0)) ∧ w'.cell? ⟨(ad239.add (((ji27)).toNat * 2)).block, (ad239.add (((ji27)).toNat * 2)).off + 1, none⟩ = some (.int .i64 ((rd_T32 l0 (ji27)).f1))) ∧ (w'.heap[s_.1]? = some (.cells #[.int .i64 0, .int .i64 0] 32 (0, 0))) ∧ (w'.heap[s_.2.1]? = some (.cells #[.int .i64 0, .int .i64 0] 32 (0, 0))) ∧ (w'.heap[s_.2.2]? = some (.cells #[.int .i64 0, .int .i64 0] 32 (0, 0))) ∧ (w.heap.size ≤ s_.1) ∧ (w.heap.size ≤ s_.1) ∧ (s_.2.1 ≠ s_.1) ∧ (s_.1 ≠ s_.2.1) ∧ (s_.2.2 ≠ s_.1) ∧ (s_.1 ≠ s_.2.2) ∧ (w.heap.size ≤ s_.2.1) ∧ (w.heap.size ≤ s_.2.1) ∧ (s_.2.2 ≠ s_.2.1) ∧ (s_.2.1 ≠ s_.2.2) ∧ (w.heap.size ≤ s_.2.2) ∧ (w.heap.size ≤ s_.2.2) ∧ (Below w.heap.size w w')) ?_ ?_
               rotate_left
               ·intro hJ18_19_20
                refine join_ (σ := Nat × Nat) 4 #[Z1, Z1, Z1, Z1, Z1, Z1, Z1, Z1, Z1, Z1, Z1, Z1, Z1, Z1, Z1, Z1, Z1, Z1, Z1, Z1, Z0, Z0, Z0, Z0] (fun s_ => [(9, .pointer (some ⟨s_.1, 0, none⟩)), (10, .pointer (some ⟨s_.2, 0, none⟩))]) (fun s_ w' => (w'.cell? (ad239.add ((x8_3).toNat * 2)) = some (.int .i64 ((rd_T32 l0 x8_3).f0)) ∧ w'.cell? ⟨(ad239.add ((x8_3).toNat * 2)).block, (ad239.add ((x8_3).toNat * 2)).off + 1, none⟩ = some (.int .i64 ((rd_T32 l0 x8_3).f1)) ∧ w'.cell? (ad239.add (((ji24)).toNat * 2)) = some (.int .i64 ((rd_T32 l0 (ji24)).f0)) ∧ w'.cell? ⟨(ad239.add (((ji24)).toNat * 2)).block, (ad239.add (((ji24)).toNat * 2)).off + 1, none⟩ = some (.int .i64 ((rd_T32 l0 (ji24)).f1)) ∧ w'.cell? (ad239.add (((ji27)).toNat * 2)) = some (.int .i64 ((rd_T32 l0 (ji27)).f0)) ∧ w'.cell? ⟨(ad239.add (((ji27)).toNat * 2)).block, (ad239.add (((ji27)).toNat * 2)).off + 1, none⟩ = some (.int .i64 ((rd_T32 l0 (ji27)).f1))) ∧ (w'.heap[s_.1]? = some (.cells #[.int .i64 0, .int .i64 0] 32 (0, 0))) ∧ (w'.heap[s_.2]? = some (.cells #[.int .i64 0, .int .i64 0] 32 (0, 0))) ∧ (w.heap.size ≤ s_.1) ∧ (w.heap.size ≤ s_.1) ∧ (s_.2 ≠ s_.1) ∧ (s_.1 ≠ s_.2) ∧ (w.heap.size ≤ s_.2) ∧ (w.heap.size ≤ s_.2) ∧ (Below w.heap.size w w')) ?_ ?_
                rotate_left
                ·intro hJ18_19
                 refine join_ (σ := Nat × Nat) 4 #[Z1, Z1, Z1, Z1, Z1, Z1, Z1, Z1, Z1, Z1, Z1, Z1, Z1, Z1, Z1, Z1, Z1, Z1, Z1, Z0, Z1, Z0, Z0, Z0] (fun s_ => [(9, .pointer (some ⟨s_.1, 0, none⟩)), (11, .pointer (some ⟨s_.2, 0, none⟩))]) (fun s_ w' => (w'.cell? (ad239.add ((x8_3).toNat * 2)) = some (.int .i64 ((rd_T32 l0 x8_3).f0)) ∧ w'.cell? ⟨(ad239.add ((x8_3).toNat * 2)).block, (ad239.add ((x8_3).toNat * 2)).off + 1, none⟩ = some (.int .i64 ((rd_T32 l0 x8_3).f1)) ∧ w'.cell? (ad239.add (((ji24)).toNat * 2)) = some (.int .i64 ((rd_T32 l0 (ji24)).f0)) ∧ w'.cell? ⟨(ad239.add (((ji24)).toNat * 2)).block, (ad239.add (((ji24)).toNat * 2)).off + 1, none⟩ = some (.int .i64 ((rd_T32 l0 (ji24)).f1)) ∧ w'.cell? (ad239.add (((ji27)).toNat * 2)) = some (.int .i64 ((rd_T32 l0 (ji27)).f0)) ∧ w'.cell? ⟨(ad239.add (((ji27)).toNat * 2)).block, (ad239.add (((ji27)).toNat * 2)).off + 1, none⟩ = some (.int .i64 ((rd_T32 l0 (ji27)).f1))) ∧ (w'.heap[s_.1]? = some (.cells #[.int .i64 0, .int .i64 0] 32 (0, 0))) ∧ (w'.heap[s_.2]? = some (.cells #[.int .i64 0, .int .i64 0] 32 (0, 0))) ∧ (w.heap.size ≤ s_.1) ∧ (w.heap.size ≤ s_.1) ∧ (s_.2 ≠ s_.1) ∧ (s_.1 ≠ s_.2) ∧ (w.heap.size ≤ s_.2) ∧ (w.heap.size ≤ s_.2) ∧ (Below w.heap.size w w')) ?_ ?_
                 rotate_left
                 ·intro hJ18_20
                  refine join_ (σ := Nat × Nat) 4 #[Z1, Z1, Z1, Z1, Z1, Z1, Z1, Z1, Z1, Z1, Z1, Z1, Z1, Z1, Z1, Z1, Z1, Z1, Z0, Z1, Z1, Z0, Z0, Z0] (fun s_ => [(10, .pointer (some ⟨s_.1, 0, none⟩)), (11, .pointer (some ⟨s_.2, 0, none⟩))]) (fun s_ w' => (w'.cell? (ad239.add ((x8_3).toNat * 2)) = some (.int .i64 ((rd_T32 l0 x8_3).f0)) ∧ w'.cell? ⟨(ad239.add ((x8_3).toNat * 2)).block, (ad239.add ((x8_3).toNat * 2)).off + 1, none⟩ = some (.int .i64 ((rd_T32 l0 x8_3).f1)) ∧ w'.cell? (ad239.add (((ji24)).toNat * 2)) = some (.int .i64 ((rd_T32 l0 (ji24)).f0)) ∧ w'.cell? ⟨(ad239.add (((ji24)).toNat * 2)).block, (ad239.add (((ji24)).toNat * 2)).off + 1, none⟩ = some (.int .i64 ((rd_T32 l0 (ji24)).f1)) ∧ w'.cell? (ad239.add (((ji27)).toNat * 2)) = some (.int .i64 ((rd_T32 l0 (ji27)).f0)) ∧ w'.cell? ⟨(ad239.add (((ji27)).toNat * 2)).block, (ad239.add (((ji27)).toNat * 2)).off + 1, none⟩ = some (.int .i64 ((rd_T32 l0 (ji27)).f1))) ∧ (w'.heap[s_.1]? = some (.cells #[.int .i64 0, .int .i64 0] 32 (0, 0))) ∧ (w'.heap[s_.2]? = some (.cells #[.int .i64 0, .int .i64 0] 32 (0, 0))) ∧ (w.heap.size ≤ s_.1) ∧ (w.heap.size ≤ s_.1) ∧ (s_.2 ≠ s_.1) ∧ (s_.1 ≠ s_.2) ∧ (w.heap.size ≤ s_.2) ∧ (w.heap.size ≤ s_.2) ∧ (Below w.heap.size w w')) ?_ ?_
                  rotate_left
                  ·intro hJ19_20
                   refine join_ (σ := Nat) 5 #[Z1, Z1, Z1, Z1, Z1, Z1, Z1, Z1, Z1, Z1, Z1, Z1, Z1, Z1, Z1, Z1, Z1, Z1, Z1, Z0, Z0, Z0, Z0, Z0] (fun s_ => [(9, .pointer (some ⟨s_, 0, none⟩))]) (fun s_ w' => (w'.cell? (ad239.add ((x8_3).toNat * 2)) = some (.int .i64 ((rd_T32 l0 x8_3).f0)) ∧ w'.cell? ⟨(ad239.add ((x8_3).toNat * 2)).block, (ad239.add ((x8_3).toNat * 2)).off + 1, none⟩ = some (.int .i64 ((rd_T32 l0 x8_3).f1)) ∧ w'.cell? (ad239.add (((ji24)).toNat * 2)) = some (.int .i64 ((rd_T32 l0 (ji24)).f0)) ∧ w'.cell? ⟨(ad239.add (((ji24)).toNat * 2)).block, (ad239.add (((ji24)).toNat * 2)).off + 1, none⟩ = some (.int .i64 ((rd_T32 l0 (ji24)).f1)) ∧ w'.cell? (ad239.add (((ji27)).toNat * 2)) = some (.int .i64 ((rd_T32 l0 (ji27)).f0)) ∧ w'.cell? ⟨(ad239.add (((ji27)).toNat * 2)).block, (ad239.add (((ji27)).toNat * 2)).off + 1, none⟩ = some (.int .i64 ((rd_T32 l0 (ji27)).f1))) ∧ (w'.heap[s_]? = some (.cells #[.int .i64 0, .int .i64 0] 32 (0, 0))) ∧ (w.heap.size ≤ s_) ∧ (w.heap.size ≤ s_) ∧ (Below w.heap.size w w')) ?_ ?_
                   rotate_left
                   ·intro hJ18
                    refine join_ (σ := Nat) 5 #[Z1, Z1, Z1, Z1, Z1, Z1, Z1, Z1, Z1, Z1, Z1, Z1, Z1, Z1, Z1, Z1, Z1, Z1, Z0, Z1, Z0, Z0, Z0, Z0] (fun s_ => [(10, .pointer (some ⟨s_, 0, none⟩))]) (fun s_ w' => (w'.cell? (ad239.add ((x8_3).toNat * 2)) = some (.int .i64 ((rd_T32 l0 x8_3).f0)) ∧ w'.cell? ⟨(ad239.add ((x8_3).toNat * 2)).block, (ad239.add ((x8_3).toNat * 2)).off + 1, none⟩ = some (.int .i64 ((rd_T32 l0 x8_3).f1)) ∧ w'.cell? (ad239.add (((ji24)).toNat * 2)) = some (.int .i64 ((rd_T32 l0 (ji24)).f0)) ∧ w'.cell? ⟨(ad239.add (((ji24)).toNat * 2)).block, (ad239.add (((ji24)).toNat * 2)).off + 1, none⟩ = some (.int .i64 ((rd_T32 l0 (ji24)).f1)) ∧ w'.cell? (ad239.add (((ji27)).toNat * 2)) = some (.int .i64 ((rd_T32 l0 (ji27)).f0)) ∧ w'.cell? ⟨(ad239.add (((ji27)).toNat * 2)).block, (ad239.add (((ji27)).toNat * 2)).off + 1, none⟩ = some (.int .i64 ((rd_T32 l0 (ji27)).f1))) ∧ (w'.heap[s_]? = some (.cells #[.int .i64 0, .int .i64 0] 32 (0, 0))) ∧ (w.heap.size ≤ s_) ∧ (w.heap.size ≤ s_) ∧ (Below w.heap.size w w')) ?_ ?_
                    rotate_left
                    ·intro hJ19
                     refine join_ (σ := Nat) 5 #[Z1, Z1, Z1, Z1, Z1, Z1, Z1, Z1, Z1, Z1, Z1, Z1, Z1, Z1, Z1, Z1, Z1, Z1, Z0, Z0, Z1, Z0, Z0, Z0] (fun s_ => [(11, .pointer (some ⟨s_, 0, none⟩))]) (fun s_ w' => (w'.cell? (ad239.add ((x8_3).toNat * 2)) = some (.int .i64 ((rd_T32 l0 x8_3).f0)) ∧ w'.cell? ⟨(ad239.add ((x8_3).toNat * 2)).block, (ad239.add ((x8_3).toNat * 2)).off + 1, none⟩ = some (.int .i64 ((rd_T32 l0 x8_3).f1)) ∧ w'.cell? (ad239.add (((ji24)).toNat * 2)) = some (.int .i64 ((rd_T32 l0 (ji24)).f0)) ∧ w'.cell? ⟨(ad239.add (((ji24)).toNat * 2)).block, (ad239.add (((ji24)).toNat * 2)).off + 1, none⟩ = some (.int .i64 ((rd_T32 l0 (ji24)).f1)) ∧ w'.cell? (ad239.add (((ji27)).toNat * 2)) = some (.int .i64 ((rd_T32 l0 (ji27)).f0)) ∧ w'.cell? ⟨(ad239.add (((ji27)).toNat * 2)).block, (ad239.add (((ji27)).toNat * 2)).off + 1, none⟩ = some (.int .i64 ((rd_T32 l0 (ji27)).f1))) ∧ (w'.heap[s_]? = some (.cells #[.int .i64 0, .int .i64 0] 32 (0, 0))) ∧ (w.heap.size ≤ s_) ∧ (w.heap.size ≤ s_) ∧ (Below w.heap.size w w')) ?_ ?_
                     rotate_left
                     ·intro hJ20
                      refine three_ (i := 18) (j := 19) (k := 20) (Ni := some 9) (Nj := some 10) (Nk := some 11) #[Z1, Z1, Z1, Z1, Z1, Z1, Z1, Z1, Z1, Z1, Z1, Z1, Z1, Z1, Z1, Z1, Z1, Z1, Z1, Z0, Z0, Z0, Z0, Z0] #[Z1, Z1, Z1, Z1, Z1, Z1, Z1, Z1, Z1, Z1, Z1, Z1, Z1, Z1, Z1, Z1, Z1, Z1, Z0, Z1, Z0, Z0, Z0, Z0] #[Z1, Z1, Z1, Z1, Z1, Z1, Z1, Z1, Z1, Z1, Z1, Z1, Z1, Z1, Z1, Z1, Z1, Z1, Z0, Z0, Z1, Z0, Z0, Z0] rfl rfl rfl rfl rfl rfl (three_of HT_.out (by kernel_rfl)) (by decide) (by decide) (by decide) (fun K hK => ?_) (fun K hK => ?_) (fun K hK => ?_)
                      ·skip
                       refine box_step ?hg (N := 9) ?hd (cs := #[.int .i64 0, .int .i64 0]) (t := 32) ?hr ?_; (case hd => rfl); (case hg => rfl); (case hr => first | (go_simp; done) | (go_simp; rfl))
                       intro gb242 hg w31 hbox hb
                       have n0_ := zY HB hb
                       have n1_ := Aside0.mk (hbox)
                       have n2_ := zS hg HB
                       have n3_ := zS hg HB
                       clear HB
                       have HB := n0_
                       have BK242 := n1_
                       have GW242 := n2_
                       have GE242 := n3_
                       clear n0_ n1_ n2_ n3_; clear hb hbox hg
                       refine hK.out _ _ ⟨(zu hw239_0 HB), (zu hw239_1 HB), (zu hw240_0 HB), (zu hw240_1 HB), (zu hw241_0 HB), (zu hw241_1 HB)⟩ (fun hHeld => ?_)
                       clear hK K
                       refine norm_ (a' := ?_) ?_ ?_
                       rotate_left
                       ·show Act.put _ (some 9) _ = _
                        simp only [Act.put, List.setIfInBounds_toArray, List.set_cons_zero, List.set_cons_succ, i64_w, i32_w]
                        rfl
                       exact norm_ (by first | (simp only [putAll, Act.put, List.setIfInBounds_toArray, List.set_cons_zero, List.set_cons_succ]; done) | (simp only [putAll, Act.put, List.setIfInBounds_toArray, List.set_cons_zero, List.set_cons_succ]; rfl)) (hJ18 (gb242) _ ⟨hHeld, (zb BK242), GW242.out, GE242.out, (zw HB)⟩)
                      ·skip
                       refine box_step ?hg (N := 10) ?hd (cs := #[.int .i64 0, .int .i64 0]) (t := 32) ?hr ?_; (case hd => rfl); (case hg => rfl); (case hr => first | (go_simp; done) | (go_simp; rfl))
                       intro gb243 hg w31 hbox hb
                       have n0_ := zY HB hb
                       have n1_ := Aside0.mk (hbox)
                       have n2_ := zS hg HB
                       have n3_ := zS hg HB
                       clear HB
                       have HB := n0_
                       have BK243 := n1_
                       have GW243 := n2_
                       have GE243 := n3_
                       clear n0_ n1_ n2_ n3_; clear hb hbox hg
                       refine hK.out _ _ ⟨(zu hw239_0 HB), (zu hw239_1 HB), (zu hw240_0 HB), (zu hw240_1 HB), (zu hw241_0 HB), (zu hw241_1 HB)⟩ (fun hHeld => ?_)
                       clear hK K
                       refine norm_ (a' := ?_) ?_ ?_
                       rotate_left
                       ·show Act.put _ (some 10) _ = _
                        simp only [Act.put, List.setIfInBounds_toArray, List.set_cons_zero, List.set_cons_succ, i64_w, i32_w]
                        rfl
                       exact norm_ (by first | (simp only [putAll, Act.put, List.setIfInBounds_toArray, List.set_cons_zero, List.set_cons_succ]; done) | (simp only [putAll, Act.put, List.setIfInBounds_toArray, List.set_cons_zero, List.set_cons_succ]; rfl)) (hJ19 (gb243) _ ⟨hHeld, (zb BK243), GW243.out, GE243.out, (zw HB)⟩)
                      skip
                      refine box_step ?hg (N := 11) ?hd (cs := #[.int .i64 0, .int .i64 0]) (t := 32) ?hr ?_; (case hd => rfl); (case hg => rfl); (case hr => first | (go_simp; done) | (go_simp; rfl))
                      intro gb244 hg w31 hbox hb
                      have n0_ := zY HB hb
                      have n1_ := Aside0.mk (hbox)
                      have n2_ := zS hg HB
                      have n3_ := zS hg HB
                      clear HB
                      have HB := n0_
                      have BK244 := n1_
                      have GW244 := n2_
                      have GE244 := n3_
                      clear n0_ n1_ n2_ n3_; clear hb hbox hg
                      refine hK.out _ _ ⟨(zu hw239_0 HB), (zu hw239_1 HB), (zu hw240_0 HB), (zu hw240_1 HB), (zu hw241_0 HB), (zu hw241_1 HB)⟩ (fun hHeld => ?_)
                      clear hK K
                      refine norm_ (a' := ?_) ?_ ?_
                      rotate_left
                      ·show Act.put _ (some 11) _ = _
                       simp only [Act.put, List.setIfInBounds_toArray, List.set_cons_zero, List.set_cons_succ, i64_w, i32_w]
                       rfl
                      exact norm_ (by first | (simp only [putAll, Act.put, List.setIfInBounds_toArray, List.set_cons_zero, List.set_cons_succ]; done) | (simp only [putAll, Act.put, List.setIfInBounds_toArray, List.set_cons_zero, List.set_cons_succ]; rfl)) (hJ20 (gb244) _ ⟨hHeld, (zb BK244), GW244.out, GE244.out, (zw HB)⟩)
                     skip
                     rintro gb244 w32 ⟨hS_, h0_, h1_, h2_, h3_⟩
                     have n0_ : Aside0 (w32.heap[gb244]? = some (.cells #[.int .i64 0, .int .i64 0] 32 (0, 0))) := ⟨h0_⟩
                     have n1_ : Aside0 (w.heap.size ≤ gb244) := ⟨h1_⟩
                     have n2_ : Aside0 (w.heap.size ≤ gb244) := ⟨h2_⟩
                     have n3_ : Aside0 (Below w.heap.size w w32) := ⟨h3_⟩
                     clear HB; clear h0_ h1_ h2_ h3_
                     have BK244 := n0_
                     have GW244 := n1_
                     have GE244 := n2_
                     have HB := n3_
                     clear n0_ n1_ n2_ n3_
                     have hHeld : w32.cell? (ad239.add ((x8_3).toNat * 2)) = some (.int .i64 ((rd_T32 l0 x8_3).f0)) ∧ w32.cell? ⟨(ad239.add ((x8_3).toNat * 2)).block, (ad239.add ((x8_3).toNat * 2)).off + 1, none⟩ = some (.int .i64 ((rd_T32 l0 x8_3).f1)) ∧ w32.cell? (ad239.add (((ji24)).toNat * 2)) = some (.int .i64 ((rd_T32 l0 (ji24)).f0)) ∧ w32.cell? ⟨(ad239.add (((ji24)).toNat * 2)).block, (ad239.add (((ji24)).toNat * 2)).off + 1, none⟩ = some (.int .i64 ((rd_T32 l0 (ji24)).f1)) ∧ w32.cell? (ad239.add (((ji27)).toNat * 2)) = some (.int .i64 ((rd_T32 l0 (ji27)).f0)) ∧ w32.cell? ⟨(ad239.add (((ji27)).toNat * 2)).block, (ad239.add (((ji27)).toNat * 2)).off + 1, none⟩ = some (.int .i64 ((rd_T32 l0 (ji27)).f1)) := hS_
                     refine norm_ (a' := ?_) ?_ ?_
                     rotate_left
                     ·simp only [putAll, Act.put, List.setIfInBounds_toArray, List.set_cons_zero, List.set_cons_succ]
                      rfl
                     refine two_ (i := 18) (j := 19) (Ni := some 9) (Nj := some 10) #[Z1, Z1, Z1, Z1, Z1, Z1, Z1, Z1, Z1, Z1, Z1, Z1, Z1, Z1, Z1, Z1, Z1, Z1, Z1, Z0, Z1, Z0, Z0, Z0] #[Z1, Z1, Z1, Z1, Z1, Z1, Z1, Z1, Z1, Z1, Z1, Z1, Z1, Z1, Z1, Z1, Z1, Z1, Z0, Z1, Z1, Z0, Z0, Z0] rfl rfl rfl rfl (two_of HT_.out (by kernel_rfl)) (by decide) (by decide) (fun K hK => ?_) (fun K hK => ?_)
                     ·skip
                      refine box_step ?hg (N := 9) ?hd (cs := #[.int .i64 0, .int .i64 0]) (t := 32) ?hr ?_; (case hd => rfl); (case hg => rfl); (case hr => first | (go_simp; done) | (go_simp; rfl))
                      intro gb242 hg w33 hbox hb
                      have n0_ := zD BK244 hb
                      have n1_ := zY HB hb
                      have n2_ := Aside0.mk (hbox)
                      have n3_ := zS hg HB
                      have n4_ := zS hg HB
                      have n5_ := zN hg BK244
                      have n6_ := zM hg BK244
                      clear BK244; clear HB
                      have BK244 := n0_
                      have HB := n1_
                      have BK242 := n2_
                      have GW242 := n3_
                      have GE242 := n4_
                      have NB244_242 := n5_
                      have NB242_244 := n6_
                      clear n0_ n1_ n2_ n3_ n4_ n5_ n6_; clear hb hbox hg
                      refine hK.out _ _ ⟨(zu hw239_0 HB), (zu hw239_1 HB), (zu hw240_0 HB), (zu hw240_1 HB), (zu hw241_0 HB), (zu hw241_1 HB)⟩ (fun hHeld => ?_)
                      clear hK K
                      refine norm_ (a' := ?_) ?_ ?_
                      rotate_left
                      ·show Act.put _ (some 9) _ = _
                       simp only [Act.put, List.setIfInBounds_toArray, List.set_cons_zero, List.set_cons_succ, i64_w, i32_w]
                       rfl
                      exact norm_ (by first | (simp only [putAll, Act.put, List.setIfInBounds_toArray, List.set_cons_zero, List.set_cons_succ]; done) | (simp only [putAll, Act.put, List.setIfInBounds_toArray, List.set_cons_zero, List.set_cons_succ]; rfl)) (hJ18_20 (gb242, gb244) _ ⟨hHeld, (zb BK242), (zb BK244), GW242.out, GE242.out, NB244_242.out, NB242_244.out, GW244.out, GE244.out, (zw HB)⟩)
                     skip
                     refine box_step ?hg (N := 10) ?hd (cs := #[.int .i64 0, .int .i64 0]) (t := 32) ?hr ?_; (case hd => rfl); (case hg => rfl); (case hr => first | (go_simp; done) | (go_simp; rfl))
                     intro gb243 hg w33 hbox hb
                     have n0_ := zD BK244 hb
                     have n1_ := zY HB hb
                     have n2_ := Aside0.mk (hbox)
                     have n3_ := zS hg HB
                     have n4_ := zS hg HB
                     have n5_ := zN hg BK244
                     have n6_ := zM hg BK244
                     clear BK244; clear HB
                     have BK244 := n0_
                     have HB := n1_
                     have BK243 := n2_
                     have GW243 := n3_
                     have GE243 := n4_
                     have NB244_243 := n5_
                     have NB243_244 := n6_
                     clear n0_ n1_ n2_ n3_ n4_ n5_ n6_; clear hb hbox hg
                     refine hK.out _ _ ⟨(zu hw239_0 HB), (zu hw239_1 HB), (zu hw240_0 HB), (zu hw240_1 HB), (zu hw241_0 HB), (zu hw241_1 HB)⟩ (fun hHeld => ?_)
                     clear hK K
                     refine norm_ (a' := ?_) ?_ ?_
                     rotate_left
                     ·show Act.put _ (some 10) _ = _
                      simp only [Act.put, List.setIfInBounds_toArray, List.set_cons_zero, List.set_cons_succ, i64_w, i32_w]
                      rfl
                     exact norm_ (by first | (simp only [putAll, Act.put, List.setIfInBounds_toArray, List.set_cons_zero, List.set_cons_succ]; done) | (simp only [putAll, Act.put, List.setIfInBounds_toArray, List.set_cons_zero, List.set_cons_succ]; rfl)) (hJ19_20 (gb243, gb244) _ ⟨hHeld, (zb BK243), (zb BK244), GW243.out, GE243.out, NB244_243.out, NB243_244.out, GW244.out, GE244.out, (zw HB)⟩)
                    skip
                    rintro gb243 w32 ⟨hS_, h0_, h1_, h2_, h3_⟩
                    have n0_ : Aside0 (w32.heap[gb243]? = some (.cells #[.int .i64 0, .int .i64 0] 32 (0, 0))) := ⟨h0_⟩
                    have n1_ : Aside0 (w.heap.size ≤ gb243) := ⟨h1_⟩
                    have n2_ : Aside0 (w.heap.size ≤ gb243) := ⟨h2_⟩
                    have n3_ : Aside0 (Below w.heap.size w w32) := ⟨h3_⟩
                    clear HB; clear h0_ h1_ h2_ h3_
                    have BK243 := n0_
                    have GW243 := n1_
                    have GE243 := n2_
                    have HB := n3_
                    clear n0_ n1_ n2_ n3_
                    have hHeld : w32.cell? (ad239.add ((x8_3).toNat * 2)) = some (.int .i64 ((rd_T32 l0 x8_3).f0)) ∧ w32.cell? ⟨(ad239.add ((x8_3).toNat * 2)).block, (ad239.add ((x8_3).toNat * 2)).off + 1, none⟩ = some (.int .i64 ((rd_T32 l0 x8_3).f1)) ∧ w32.cell? (ad239.add (((ji24)).toNat * 2)) = some (.int .i64 ((rd_T32 l0 (ji24)).f0)) ∧ w32.cell? ⟨(ad239.add (((ji24)).toNat * 2)).block, (ad239.add (((ji24)).toNat * 2)).off + 1, none⟩ = some (.int .i64 ((rd_T32 l0 (ji24)).f1)) ∧ w32.cell? (ad239.add (((ji27)).toNat * 2)) = some (.int .i64 ((rd_T32 l0 (ji27)).f0)) ∧ w32.cell? ⟨(ad239.add (((ji27)).toNat * 2)).block, (ad239.add (((ji27)).toNat * 2)).off + 1, none⟩ = some (.int .i64 ((rd_T32 l0 (ji27)).f1)) := hS_
                    refine norm_ (a' := ?_) ?_ ?_
                    rotate_left
                    ·simp only [putAll, Act.put, List.setIfInBounds_toArray, List.set_cons_zero, List.set_cons_succ]
                     rfl
                    refine two_ (i := 18) (j := 20) (Ni := some 9) (Nj := some 11) #[Z1, Z1, Z1, Z1, Z1, Z1, Z1, Z1, Z1, Z1, Z1, Z1, Z1, Z1, Z1, Z1, Z1, Z1, Z1, Z1, Z0, Z0, Z0, Z0] #[Z1, Z1, Z1, Z1, Z1, Z1, Z1, Z1, Z1, Z1, Z1, Z1, Z1, Z1, Z1, Z1, Z1, Z1, Z0, Z1, Z1, Z0, Z0, Z0] rfl rfl rfl rfl (two_of HT_.out (by kernel_rfl)) (by decide) (by decide) (fun K hK => ?_) (fun K hK => ?_)
                    ·skip
                     refine box_step ?hg (N := 9) ?hd (cs := #[.int .i64 0, .int .i64 0]) (t := 32) ?hr ?_; (case hd => rfl); (case hg => rfl); (case hr => first | (go_simp; done) | (go_simp; rfl))
                     intro gb242 hg w33 hbox hb
                     have n0_ := zD BK243 hb
                     have n1_ := zY HB hb
                     have n2_ := Aside0.mk (hbox)
                     have n3_ := zS hg HB
                     have n4_ := zS hg HB
                     have n5_ := zN hg BK243
                     have n6_ := zM hg BK243
                     clear BK243; clear HB
                     have BK243 := n0_
                     have HB := n1_
                     have BK242 := n2_
                     have GW242 := n3_
                     have GE242 := n4_
                     have NB243_242 := n5_
                     have NB242_243 := n6_
                     clear n0_ n1_ n2_ n3_ n4_ n5_ n6_; clear hb hbox hg
                     refine hK.out _ _ ⟨(zu hw239_0 HB), (zu hw239_1 HB), (zu hw240_0 HB), (zu hw240_1 HB), (zu hw241_0 HB), (zu hw241_1 HB)⟩ (fun hHeld => ?_)
                     clear hK K
                     refine norm_ (a' := ?_) ?_ ?_
                     rotate_left
                     ·show Act.put _ (some 9) _ = _
                      simp only [Act.put, List.setIfInBounds_toArray, List.set_cons_zero, List.set_cons_succ, i64_w, i32_w]
                      rfl
                     exact norm_ (by first | (simp only [putAll, Act.put, List.setIfInBounds_toArray, List.set_cons_zero, List.set_cons_succ]; done) | (simp only [putAll, Act.put, List.setIfInBounds_toArray, List.set_cons_zero, List.set_cons_succ]; rfl)) (hJ18_19 (gb242, gb243) _ ⟨hHeld, (zb BK242), (zb BK243), GW242.out, GE242.out, NB243_242.out, NB242_243.out, GW243.out, GE243.out, (zw HB)⟩)
                    skip
                    refine box_step ?hg (N := 11) ?hd (cs := #[.int .i64 0, .int .i64 0]) (t := 32) ?hr ?_; (case hd => rfl); (case hg => rfl); (case hr => first | (go_simp; done) | (go_simp; rfl))
                    intro gb244 hg w33 hbox hb
                    have n0_ := zD BK243 hb
                    have n1_ := zY HB hb
                    have n2_ := Aside0.mk (hbox)
                    have n3_ := zS hg HB
                    have n4_ := zS hg HB
                    have n5_ := zN hg BK243
                    have n6_ := zM hg BK243
                    clear BK243; clear HB
                    have BK243 := n0_
                    have HB := n1_
                    have BK244 := n2_
                    have GW244 := n3_
                    have GE244 := n4_
                    have NB243_244 := n5_
                    have NB244_243 := n6_
                    clear n0_ n1_ n2_ n3_ n4_ n5_ n6_; clear hb hbox hg
                    refine hK.out _ _ ⟨(zu hw239_0 HB), (zu hw239_1 HB), (zu hw240_0 HB), (zu hw240_1 HB), (zu hw241_0 HB), (zu hw241_1 HB)⟩ (fun hHeld => ?_)
                    clear hK K
                    refine norm_ (a' := ?_) ?_ ?_
                    rotate_left
                    ·show Act.put _ (some 11) _ = _
                     simp only [Act.put, List.setIfInBounds_toArray, List.set_cons_zero, List.set_cons_succ, i64_w, i32_w]
                     rfl
                    exact norm_ (by first | (simp only [putAll, Act.put, List.setIfInBounds_toArray, List.set_cons_zero, List.set_cons_succ]; done) | (simp only [putAll, Act.put, List.setIfInBounds_toArray, List.set_cons_zero, List.set_cons_succ]; rfl)) (hJ19_20 (gb243, gb244) _ ⟨hHeld, (zb BK243), (zb BK244), GW243.out, GE243.out, NB244_243.out, NB243_244.out, GW244.out, GE244.out, (zw HB)⟩)
                   skip
                   rintro gb242 w32 ⟨hS_, h0_, h1_, h2_, h3_⟩
                   have n0_ : Aside0 (w32.heap[gb242]? = some (.cells #[.int .i64 0, .int .i64 0] 32 (0, 0))) := ⟨h0_⟩
                   have n1_ : Aside0 (w.heap.size ≤ gb242) := ⟨h1_⟩
                   have n2_ : Aside0 (w.heap.size ≤ gb242) := ⟨h2_⟩
                   have n3_ : Aside0 (Below w.heap.size w w32) := ⟨h3_⟩
                   clear HB; clear h0_ h1_ h2_ h3_
                   have BK242 := n0_
                   have GW242 := n1_
                   have GE242 := n2_
                   have HB := n3_
                   clear n0_ n1_ n2_ n3_
                   have hHeld : w32.cell? (ad239.add ((x8_3).toNat * 2)) = some (.int .i64 ((rd_T32 l0 x8_3).f0)) ∧ w32.cell? ⟨(ad239.add ((x8_3).toNat * 2)).block, (ad239.add ((x8_3).toNat * 2)).off + 1, none⟩ = some (.int .i64 ((rd_T32 l0 x8_3).f1)) ∧ w32.cell? (ad239.add (((ji24)).toNat * 2)) = some (.int .i64 ((rd_T32 l0 (ji24)).f0)) ∧ w32.cell? ⟨(ad239.add (((ji24)).toNat * 2)).block, (ad239.add (((ji24)).toNat * 2)).off + 1, none⟩ = some (.int .i64 ((rd_T32 l0 (ji24)).f1)) ∧ w32.cell? (ad239.add (((ji27)).toNat * 2)) = some (.int .i64 ((rd_T32 l0 (ji27)).f0)) ∧ w32.cell? ⟨(ad239.add (((ji27)).toNat * 2)).block, (ad239.add (((ji27)).toNat * 2)).off + 1, none⟩ = some (.int .i64 ((rd_T32 l0 (ji27)).f1)) := hS_
                   refine norm_ (a' := ?_) ?_ ?_
                   rotate_left
                   ·simp only [putAll, Act.put, List.setIfInBounds_toArray, List.set_cons_zero, List.set_cons_succ]
                    rfl
                   refine two_ (i := 19) (j := 20) (Ni := some 10) (Nj := some 11) #[Z1, Z1, Z1, Z1, Z1, Z1, Z1, Z1, Z1, Z1, Z1, Z1, Z1, Z1, Z1, Z1, Z1, Z1, Z1, Z1, Z0, Z0, Z0, Z0] #[Z1, Z1, Z1, Z1, Z1, Z1, Z1, Z1, Z1, Z1, Z1, Z1, Z1, Z1, Z1, Z1, Z1, Z1, Z1, Z0, Z1, Z0, Z0, Z0] rfl rfl rfl rfl (two_of HT_.out (by kernel_rfl)) (by decide) (by decide) (fun K hK => ?_) (fun K hK => ?_)
                   ·skip
                    refine box_step ?hg (N := 10) ?hd (cs := #[.int .i64 0, .int .i64 0]) (t := 32) ?hr ?_; (case hd => rfl); (case hg => rfl); (case hr => first | (go_simp; done) | (go_simp; rfl))
                    intro gb243 hg w33 hbox hb
                    have n0_ := zD BK242 hb
                    have n1_ := zY HB hb
                    have n2_ := Aside0.mk (hbox)
                    have n3_ := zS hg HB
                    have n4_ := zS hg HB
                    have n5_ := zN hg BK242
                    have n6_ := zM hg BK242
                    clear BK242; clear HB
                    have BK242 := n0_
                    have HB := n1_
                    have BK243 := n2_
                    have GW243 := n3_
                    have GE243 := n4_
                    have NB242_243 := n5_
                    have NB243_242 := n6_
                    clear n0_ n1_ n2_ n3_ n4_ n5_ n6_; clear hb hbox hg
                    refine hK.out _ _ ⟨(zu hw239_0 HB), (zu hw239_1 HB), (zu hw240_0 HB), (zu hw240_1 HB), (zu hw241_0 HB), (zu hw241_1 HB)⟩ (fun hHeld => ?_)
                    clear hK K
                    refine norm_ (a' := ?_) ?_ ?_
                    rotate_left
                    ·show Act.put _ (some 10) _ = _
                     simp only [Act.put, List.setIfInBounds_toArray, List.set_cons_zero, List.set_cons_succ, i64_w, i32_w]
                     rfl
                    exact norm_ (by first | (simp only [putAll, Act.put, List.setIfInBounds_toArray, List.set_cons_zero, List.set_cons_succ]; done) | (simp only [putAll, Act.put, List.setIfInBounds_toArray, List.set_cons_zero, List.set_cons_succ]; rfl)) (hJ18_19 (gb242, gb243) _ ⟨hHeld, (zb BK242), (zb BK243), GW242.out, GE242.out, NB243_242.out, NB242_243.out, GW243.out, GE243.out, (zw HB)⟩)
                   skip
                   refine box_step ?hg (N := 11) ?hd (cs := #[.int .i64 0, .int .i64 0]) (t := 32) ?hr ?_; (case hd => rfl); (case hg => rfl); (case hr => first | (go_simp; done) | (go_simp; rfl))
                   intro gb244 hg w33 hbox hb
                   have n0_ := zD BK242 hb
                   have n1_ := zY HB hb
                   have n2_ := Aside0.mk (hbox)
                   have n3_ := zS hg HB
                   have n4_ := zS hg HB
                   have n5_ := zN hg BK242
                   have n6_ := zM hg BK242
                   clear BK242; clear HB
                   have BK242 := n0_
                   have HB := n1_
                   have BK244 := n2_
                   have GW244 := n3_
                   have GE244 := n4_
                   have NB242_244 := n5_
                   have NB244_242 := n6_
                   clear n0_ n1_ n2_ n3_ n4_ n5_ n6_; clear hb hbox hg
                   refine hK.out _ _ ⟨(zu hw239_0 HB), (zu hw239_1 HB), (zu hw240_0 HB), (zu hw240_1 HB), (zu hw241_0 HB), (zu hw241_1 HB)⟩ (fun hHeld => ?_)
                   clear hK K
                   refine norm_ (a' := ?_) ?_ ?_
                   rotate_left
                   ·show Act.put _ (some 11) _ = _
                    simp only [Act.put, List.setIfInBounds_toArray, List.set_cons_zero, List.set_cons_succ, i64_w, i32_w]
                    rfl
                   exact norm_ (by first | (simp only [putAll, Act.put, List.setIfInBounds_toArray, List.set_cons_zero, List.set_cons_succ]; done) | (simp only [putAll, Act.put, List.setIfInBounds_toArray, List.set_cons_zero, List.set_cons_succ]; rfl)) (hJ18_20 (gb242, gb244) _ ⟨hHeld, (zb BK242), (zb BK244), GW242.out, GE242.out, NB244_242.out, NB242_244.out, GW244.out, GE244.out, (zw HB)⟩)
                  skip
                  rintro ⟨gb243, gb244⟩ w33 ⟨hS_, h0_, h1_, h2_, h3_, h4_, h5_, h6_, h7_, h8_⟩
                  have n0_ : Aside0 (w33.heap[gb243]? = some (.cells #[.int .i64 0, .int .i64 0] 32 (0, 0))) := ⟨h0_⟩
                  have n1_ : Aside0 (w33.heap[gb244]? = some (.cells #[.int .i64 0, .int .i64 0] 32 (0, 0))) := ⟨h1_⟩
                  have n2_ : Aside0 (w.heap.size ≤ gb243) := ⟨h2_⟩
                  have n3_ : Aside0 (w.heap.size ≤ gb243) := ⟨h3_⟩
                  have n4_ : Aside0 (gb244 ≠ gb243) := ⟨h4_⟩
                  have n5_ : Aside0 (gb243 ≠ gb244) := ⟨h5_⟩
                  have n6_ : Aside0 (w.heap.size ≤ gb244) := ⟨h6_⟩
                  have n7_ : Aside0 (w.heap.size ≤ gb244) := ⟨h7_⟩
                  have n8_ : Aside0 (Below w.heap.size w w33) := ⟨h8_⟩
                  clear HB; clear h0_ h1_ h2_ h3_ h4_ h5_ h6_ h7_ h8_
                  have BK243 := n0_
                  have BK244 := n1_
                  have GW243 := n2_
                  have GE243 := n3_
                  have NB244_243 := n4_
                  have NB243_244 := n5_
                  have GW244 := n6_
                  have GE244 := n7_
                  have HB := n8_
                  clear n0_ n1_ n2_ n3_ n4_ n5_ n6_ n7_ n8_
                  have hHeld : w33.cell? (ad239.add ((x8_3).toNat * 2)) = some (.int .i64 ((rd_T32 l0 x8_3).f0)) ∧ w33.cell? ⟨(ad239.add ((x8_3).toNat * 2)).block, (ad239.add ((x8_3).toNat * 2)).off + 1, none⟩ = some (.int .i64 ((rd_T32 l0 x8_3).f1)) ∧ w33.cell? (ad239.add (((ji24)).toNat * 2)) = some (.int .i64 ((rd_T32 l0 (ji24)).f0)) ∧ w33.cell? ⟨(ad239.add (((ji24)).toNat * 2)).block, (ad239.add (((ji24)).toNat * 2)).off + 1, none⟩ = some (.int .i64 ((rd_T32 l0 (ji24)).f1)) ∧ w33.cell? (ad239.add (((ji27)).toNat * 2)) = some (.int .i64 ((rd_T32 l0 (ji27)).f0)) ∧ w33.cell? ⟨(ad239.add (((ji27)).toNat * 2)).block, (ad239.add (((ji27)).toNat * 2)).off + 1, none⟩ = some (.int .i64 ((rd_T32 l0 (ji27)).f1)) := hS_
                  refine norm_ (a' := ?_) ?_ ?_
                  rotate_left
                  ·simp only [putAll, Act.put, List.setIfInBounds_toArray, List.set_cons_zero, List.set_cons_succ]
                   rfl
                  refine one_ (i := 18) (N := some 9) #[Z1, Z1, Z1, Z1, Z1, Z1, Z1, Z1, Z1, Z1, Z1, Z1, Z1, Z1, Z1, Z1, Z1, Z1, Z1, Z1, Z1, Z0, Z0, Z0] rfl rfl (one_of HT_.out (by kernel_rfl)) (by decide) (fun K hK => ?_)
                  refine box_step ?hg (N := 9) ?hd (cs := #[.int .i64 0, .int .i64 0]) (t := 32) ?hr ?_; (case hd => rfl); (case hg => rfl); (case hr => first | (go_simp; done) | (go_simp; rfl))
                  intro gb242 hg w34 hbox hb
                  have n0_ := zD BK243 hb
                  have n1_ := zD BK244 hb
                  have n2_ := zY HB hb
                  have n3_ := Aside0.mk (hbox)
                  have n4_ := zS hg HB
                  have n5_ := zS hg HB
                  have n6_ := zN hg BK243
                  have n7_ := zM hg BK243
                  have n8_ := zN hg BK244
                  have n9_ := zM hg BK244
                  clear BK243; clear BK244; clear HB
                  have BK243 := n0_
                  have BK244 := n1_
                  have HB := n2_
                  have BK242 := n3_
                  have GW242 := n4_
                  have GE242 := n5_
                  have NB243_242 := n6_
                  have NB242_243 := n7_
                  have NB244_242 := n8_
                  have NB242_244 := n9_
                  clear n0_ n1_ n2_ n3_ n4_ n5_ n6_ n7_ n8_ n9_; clear hb hbox hg
                  refine hK.out _ _ ⟨(zu hw239_0 HB), (zu hw239_1 HB), (zu hw240_0 HB), (zu hw240_1 HB), (zu hw241_0 HB), (zu hw241_1 HB)⟩ (fun hHeld => ?_)
                  clear hK K
                  refine norm_ (a' := ?_) ?_ ?_
                  rotate_left
                  ·show Act.put _ (some 9) _ = _
                   simp only [Act.put, List.setIfInBounds_toArray, List.set_cons_zero, List.set_cons_succ, i64_w, i32_w]
                   rfl
                  exact norm_ (by first | (simp only [putAll, Act.put, List.setIfInBounds_toArray, List.set_cons_zero, List.set_cons_succ]; done) | (simp only [putAll, Act.put, List.setIfInBounds_toArray, List.set_cons_zero, List.set_cons_succ]; rfl)) (hJ18_19_20 (gb242, gb243, gb244) _ ⟨hHeld, (zb BK242), (zb BK243), (zb BK244), GW242.out, GE242.out, NB243_242.out, NB242_243.out, NB244_242.out, NB242_244.out, GW243.out, GE243.out, NB244_243.out, NB243_244.out, GW244.out, GE244.out, (zw HB)⟩)
                 skip
                 rintro ⟨gb242, gb244⟩ w33 ⟨hS_, h0_, h1_, h2_, h3_, h4_, h5_, h6_, h7_, h8_⟩
                 have n0_ : Aside0 (w33.heap[gb242]? = some (.cells #[.int .i64 0, .int .i64 0] 32 (0, 0))) := ⟨h0_⟩
                 have n1_ : Aside0 (w33.heap[gb244]? = some (.cells #[.int .i64 0, .int .i64 0] 32 (0, 0))) := ⟨h1_⟩
                 have n2_ : Aside0 (w.heap.size ≤ gb242) := ⟨h2_⟩
                 have n3_ : Aside0 (w.heap.size ≤ gb242) := ⟨h3_⟩
                 have n4_ : Aside0 (gb244 ≠ gb242) := ⟨h4_⟩
                 have n5_ : Aside0 (gb242 ≠ gb244) := ⟨h5_⟩
                 have n6_ : Aside0 (w.heap.size ≤ gb244) := ⟨h6_⟩
                 have n7_ : Aside0 (w.heap.size ≤ gb244) := ⟨h7_⟩
                 have n8_ : Aside0 (Below w.heap.size w w33) := ⟨h8_⟩
                 clear HB; clear h0_ h1_ h2_ h3_ h4_ h5_ h6_ h7_ h8_
                 have BK242 := n0_
                 have BK244 := n1_
                 have GW242 := n2_
                 have GE242 := n3_
                 have NB244_242 := n4_
                 have NB242_244 := n5_
                 have GW244 := n6_
                 have GE244 := n7_
                 have HB := n8_
                 clear n0_ n1_ n2_ n3_ n4_ n5_ n6_ n7_ n8_
                 have hHeld : w33.cell? (ad239.add ((x8_3).toNat * 2)) = some (.int .i64 ((rd_T32 l0 x8_3).f0)) ∧ w33.cell? ⟨(ad239.add ((x8_3).toNat * 2)).block, (ad239.add ((x8_3).toNat * 2)).off + 1, none⟩ = some (.int .i64 ((rd_T32 l0 x8_3).f1)) ∧ w33.cell? (ad239.add (((ji24)).toNat * 2)) = some (.int .i64 ((rd_T32 l0 (ji24)).f0)) ∧ w33.cell? ⟨(ad239.add (((ji24)).toNat * 2)).block, (ad239.add (((ji24)).toNat * 2)).off + 1, none⟩ = some (.int .i64 ((rd_T32 l0 (ji24)).f1)) ∧ w33.cell? (ad239.add (((ji27)).toNat * 2)) = some (.int .i64 ((rd_T32 l0 (ji27)).f0)) ∧ w33.cell? ⟨(ad239.add (((ji27)).toNat * 2)).block, (ad239.add (((ji27)).toNat * 2)).off + 1, none⟩ = some (.int .i64 ((rd_T32 l0 (ji27)).f1)) := hS_
                 refine norm_ (a' := ?_) ?_ ?_
                 rotate_left
                 ·simp only [putAll, Act.put, List.setIfInBounds_toArray, List.set_cons_zero, List.set_cons_succ]
                  rfl
                 refine one_ (i := 19) (N := some 10) #[Z1, Z1, Z1, Z1, Z1, Z1, Z1, Z1, Z1, Z1, Z1, Z1, Z1, Z1, Z1, Z1, Z1, Z1, Z1, Z1, Z1, Z0, Z0, Z0] rfl rfl (one_of HT_.out (by kernel_rfl)) (by decide) (fun K hK => ?_)
                 refine box_step ?hg (N := 10) ?hd (cs := #[.int .i64 0, .int .i64 0]) (t := 32) ?hr ?_; (case hd => rfl); (case hg => rfl); (case hr => first | (go_simp; done) | (go_simp; rfl))
                 intro gb243 hg w34 hbox hb
                 have n0_ := zD BK242 hb
                 have n1_ := zD BK244 hb
                 have n2_ := zY HB hb
                 have n3_ := Aside0.mk (hbox)
                 have n4_ := zS hg HB
                 have n5_ := zS hg HB
                 have n6_ := zN hg BK242
                 have n7_ := zM hg BK242
                 have n8_ := zN hg BK244
                 have n9_ := zM hg BK244
                 clear BK242; clear BK244; clear HB
                 have BK242 := n0_
                 have BK244 := n1_
                 have HB := n2_
                 have BK243 := n3_
                 have GW243 := n4_
                 have GE243 := n5_
                 have NB242_243 := n6_
                 have NB243_242 := n7_
                 have NB244_243 := n8_
                 have NB243_244 := n9_
                 clear n0_ n1_ n2_ n3_ n4_ n5_ n6_ n7_ n8_ n9_; clear hb hbox hg
                 refine hK.out _ _ ⟨(zu hw239_0 HB), (zu hw239_1 HB), (zu hw240_0 HB), (zu hw240_1 HB), (zu hw241_0 HB), (zu hw241_1 HB)⟩ (fun hHeld => ?_)
                 clear hK K
                 refine norm_ (a' := ?_) ?_ ?_
                 rotate_left
                 ·show Act.put _ (some 10) _ = _
                  simp only [Act.put, List.setIfInBounds_toArray, List.set_cons_zero, List.set_cons_succ, i64_w, i32_w]
                  rfl
                 exact norm_ (by first | (simp only [putAll, Act.put, List.setIfInBounds_toArray, List.set_cons_zero, List.set_cons_succ]; done) | (simp only [putAll, Act.put, List.setIfInBounds_toArray, List.set_cons_zero, List.set_cons_succ]; rfl)) (hJ18_19_20 (gb242, gb243, gb244) _ ⟨hHeld, (zb BK242), (zb BK243), (zb BK244), GW242.out, GE242.out, NB243_242.out, NB242_243.out, NB244_242.out, NB242_244.out, GW243.out, GE243.out, NB244_243.out, NB243_244.out, GW244.out, GE244.out, (zw HB)⟩)
                skip
                rintro ⟨gb242, gb243⟩ w33 ⟨hS_, h0_, h1_, h2_, h3_, h4_, h5_, h6_, h7_, h8_⟩
                have n0_ : Aside0 (w33.heap[gb242]? = some (.cells #[.int .i64 0, .int .i64 0] 32 (0, 0))) := ⟨h0_⟩
                have n1_ : Aside0 (w33.heap[gb243]? = some (.cells #[.int .i64 0, .int .i64 0] 32 (0, 0))) := ⟨h1_⟩
                have n2_ : Aside0 (w.heap.size ≤ gb242) := ⟨h2_⟩
                have n3_ : Aside0 (w.heap.size ≤ gb242) := ⟨h3_⟩
                have n4_ : Aside0 (gb243 ≠ gb242) := ⟨h4_⟩
                have n5_ : Aside0 (gb242 ≠ gb243) := ⟨h5_⟩
                have n6_ : Aside0 (w.heap.size ≤ gb243) := ⟨h6_⟩
                have n7_ : Aside0 (w.heap.size ≤ gb243) := ⟨h7_⟩
                have n8_ : Aside0 (Below w.heap.size w w33) := ⟨h8_⟩
                clear HB; clear h0_ h1_ h2_ h3_ h4_ h5_ h6_ h7_ h8_
                have BK242 := n0_
                have BK243 := n1_
                have GW242 := n2_
                have GE242 := n3_
                have NB243_242 := n4_
                have NB242_243 := n5_
                have GW243 := n6_
                have GE243 := n7_
                have HB := n8_
                clear n0_ n1_ n2_ n3_ n4_ n5_ n6_ n7_ n8_
                have hHeld : w33.cell? (ad239.add ((x8_3).toNat * 2)) = some (.int .i64 ((rd_T32 l0 x8_3).f0)) ∧ w33.cell? ⟨(ad239.add ((x8_3).toNat * 2)).block, (ad239.add ((x8_3).toNat * 2)).off + 1, none⟩ = some (.int .i64 ((rd_T32 l0 x8_3).f1)) ∧ w33.cell? (ad239.add (((ji24)).toNat * 2)) = some (.int .i64 ((rd_T32 l0 (ji24)).f0)) ∧ w33.cell? ⟨(ad239.add (((ji24)).toNat * 2)).block, (ad239.add (((ji24)).toNat * 2)).off + 1, none⟩ = some (.int .i64 ((rd_T32 l0 (ji24)).f1)) ∧ w33.cell? (ad239.add (((ji27)).toNat * 2)) = some (.int .i64 ((rd_T32 l0 (ji27)).f0)) ∧ w33.cell? ⟨(ad239.add (((ji27)).toNat * 2)).block, (ad239.add (((ji27)).toNat * 2)).off + 1, none⟩ = some (.int .i64 ((rd_T32 l0 (ji27)).f1)) := hS_
                refine norm_ (a' := ?_) ?_ ?_
                rotate_left
                ·simp only [putAll, Act.put, List.setIfInBounds_toArray, List.set_cons_zero, List.set_cons_succ]
                 rfl
                refine one_ (i := 20) (N := some 11) #[Z1, Z1, Z1, Z1, Z1, Z1, Z1, Z1, Z1, Z1, Z1, Z1, Z1, Z1, Z1, Z1, Z1, Z1, Z1, Z1, Z1, Z0, Z0, Z0] rfl rfl (one_of HT_.out (by kernel_rfl)) (by decide) (fun K hK => ?_)
                refine box_step ?hg (N := 11) ?hd (cs := #[.int .i64 0, .int .i64 0]) (t := 32) ?hr ?_; (case hd => rfl); (case hg => rfl); (case hr => first | (go_simp; done) | (go_simp; rfl))
                intro gb244 hg w34 hbox hb
                have n0_ := zD BK242 hb
                have n1_ := zD BK243 hb
                have n2_ := zY HB hb
                have n3_ := Aside0.mk (hbox)
                have n4_ := zS hg HB
                have n5_ := zS hg HB
                have n6_ := zN hg BK242
                have n7_ := zM hg BK242
                have n8_ := zN hg BK243
                have n9_ := zM hg BK243
                clear BK242; clear BK243; clear HB
                have BK242 := n0_
                have BK243 := n1_
                have HB := n2_
                have BK244 := n3_
                have GW244 := n4_
                have GE244 := n5_
                have NB242_244 := n6_
                have NB244_242 := n7_
                have NB243_244 := n8_
                have NB244_243 := n9_
                clear n0_ n1_ n2_ n3_ n4_ n5_ n6_ n7_ n8_ n9_; clear hb hbox hg
                refine hK.out _ _ ⟨(zu hw239_0 HB), (zu hw239_1 HB), (zu hw240_0 HB), (zu hw240_1 HB), (zu hw241_0 HB), (zu hw241_1 HB)⟩ (fun hHeld => ?_)
                clear hK K
                refine norm_ (a' := ?_) ?_ ?_
                rotate_left
                ·show Act.put _ (some 11) _ = _
                 simp only [Act.put, List.setIfInBounds_toArray, List.set_cons_zero, List.set_cons_succ, i64_w, i32_w]
                 rfl
                exact norm_ (by first | (simp only [putAll, Act.put, List.setIfInBounds_toArray, List.set_cons_zero, List.set_cons_succ]; done) | (simp only [putAll, Act.put, List.setIfInBounds_toArray, List.set_cons_zero, List.set_cons_succ]; rfl)) (hJ18_19_20 (gb242, gb243, gb244) _ ⟨hHeld, (zb BK242), (zb BK243), (zb BK244), GW242.out, GE242.out, NB243_242.out, NB242_243.out, NB244_242.out, NB242_244.out, GW243.out, GE243.out, NB244_243.out, NB243_244.out, GW244.out, GE244.out, (zw HB)⟩)
               rintro ⟨gb242, gb243, gb244⟩ w34 ⟨hS_, h0_, h1_, h2_, h3_, h4_, h5_, h6_, h7_, h8_, h9_, h10_, h11_, h12_, h13_, h14_, h15_⟩
               have n0_ : Aside0 (w34.heap[gb242]? = some (.cells #[.int .i64 0, .int .i64 0] 32 (0, 0))) := ⟨h0_⟩
               have n1_ : Aside0 (w34.heap[gb243]? = some (.cells #[.int .i64 0, .int .i64 0] 32 (0, 0))) := ⟨h1_⟩
               have n2_ : Aside0 (w34.heap[gb244]? = some (.cells #[.int .i64 0, .int .i64 0] 32 (0, 0))) := ⟨h2_⟩
               have n3_ : Aside0 (w.heap.size ≤ gb242) := ⟨h3_⟩
               have n4_ : Aside0 (w.heap.size ≤ gb242) := ⟨h4_⟩
               have n5_ : Aside0 (gb243 ≠ gb242) := ⟨h5_⟩
               have n6_ : Aside0 (gb242 ≠ gb243) := ⟨h6_⟩
               have n7_ : Aside0 (gb244 ≠ gb242) := ⟨h7_⟩
               have n8_ : Aside0 (gb242 ≠ gb244) := ⟨h8_⟩
               have n9_ : Aside0 (w.heap.size ≤ gb243) := ⟨h9_⟩
               have n10_ : Aside0 (w.heap.size ≤ gb243) := ⟨h10_⟩
               have n11_ : Aside0 (gb244 ≠ gb243) := ⟨h11_⟩
               have n12_ : Aside0 (gb243 ≠ gb244) := ⟨h12_⟩
               have n13_ : Aside0 (w.heap.size ≤ gb244) := ⟨h13_⟩
               have n14_ : Aside0 (w.heap.size ≤ gb244) := ⟨h14_⟩
               have n15_ : Aside0 (Below w.heap.size w w34) := ⟨h15_⟩
               clear HB; clear h0_ h1_ h2_ h3_ h4_ h5_ h6_ h7_ h8_ h9_ h10_ h11_ h12_ h13_ h14_ h15_
               have BK242 := n0_
               have BK243 := n1_
               have BK244 := n2_
               have GW242 := n3_
               have GE242 := n4_
               have NB243_242 := n5_
               have NB242_243 := n6_
               have NB244_242 := n7_
               have NB242_244 := n8_
               have GW243 := n9_
               have GE243 := n10_
               have NB244_243 := n11_
               have NB243_244 := n12_
               have GW244 := n13_
               have GE244 := n14_
               have HB := n15_
               clear n0_ n1_ n2_ n3_ n4_ n5_ n6_ n7_ n8_ n9_ n10_ n11_ n12_ n13_ n14_ n15_
               have hHeld : w34.cell? (ad239.add ((x8_3).toNat * 2)) = some (.int .i64 ((rd_T32 l0 x8_3).f0)) ∧ w34.cell? ⟨(ad239.add ((x8_3).toNat * 2)).block, (ad239.add ((x8_3).toNat * 2)).off + 1, none⟩ = some (.int .i64 ((rd_T32 l0 x8_3).f1)) ∧ w34.cell? (ad239.add (((ji24)).toNat * 2)) = some (.int .i64 ((rd_T32 l0 (ji24)).f0)) ∧ w34.cell? ⟨(ad239.add (((ji24)).toNat * 2)).block, (ad239.add (((ji24)).toNat * 2)).off + 1, none⟩ = some (.int .i64 ((rd_T32 l0 (ji24)).f1)) ∧ w34.cell? (ad239.add (((ji27)).toNat * 2)) = some (.int .i64 ((rd_T32 l0 (ji27)).f0)) ∧ w34.cell? ⟨(ad239.add (((ji27)).toNat * 2)).block, (ad239.add (((ji27)).toNat * 2)).off + 1, none⟩ = some (.int .i64 ((rd_T32 l0 (ji27)).f1)) := hS_
               refine norm_ (a' := ?_) ?_ ?_
               rotate_left
               ·simp only [putAll, Act.put, List.setIfInBounds_toArray, List.set_cons_zero, List.set_cons_succ]
                rfl
               refine one_ (i := 21) (N := none) #[Z1, Z1, Z1, Z1, Z1, Z1, Z1, Z1, Z1, Z1, Z1, Z1, Z1, Z1, Z1, Z1, Z1, Z1, Z1, Z1, Z1, Z1, Z0, Z0] rfl rfl (one_of HT_.out (by kernel_rfl)) (by decide) (fun K hK => ?_)
               have hs35 : w34.cell? ⟨gb242, 0, none⟩ = some (.int .i64 0) := (blk_cell BK242.out 0).trans rfl
               have hfs35 := blk_frozen BK242.out 0
               have hns35_1 := NB243_242.out
               have hns35_2 := NB244_242.out
               have hms35_1 := NB242_243.out
               have hms35_2 := NB242_244.out
               have hs36 : w34.cell? ⟨gb242, 1, none⟩ = some (.int .i64 0) := (blk_cell BK242.out 1).trans rfl
               have hfs36 := blk_frozen BK242.out 1
               have hns36_1 := NB243_242.out
               have hns36_2 := NB244_242.out
               have hms36_1 := NB242_243.out
               have hms36_2 := NB242_244.out
               refine skip_ (w1 := ?_) (by rfl) rfl ?_ ?_
               rotate_left
               ·go_simp
                rfl
               refine hK.out _ _ ⟨((cell_far (p := ⟨gb242, _, none⟩) (zf hw239_0 GW242) _).trans (((cell_far (p := ⟨gb242, _, none⟩) (zf hw239_0 GW242) _).trans (hHeld.1)))), ((cell_far (p := ⟨gb242, _, none⟩) (zf hw239_1 GW242) _).trans (((cell_far (p := ⟨gb242, _, none⟩) (zf hw239_1 GW242) _).trans (hHeld.2.1)))), ((cell_far (p := ⟨gb242, _, none⟩) (zf hw240_0 GW242) _).trans (((cell_far (p := ⟨gb242, _, none⟩) (zf hw240_0 GW242) _).trans (hHeld.2.2.1)))), ((cell_far (p := ⟨gb242, _, none⟩) (zf hw240_1 GW242) _).trans (((cell_far (p := ⟨gb242, _, none⟩) (zf hw240_1 GW242) _).trans (hHeld.2.2.2.1)))), ((cell_far (p := ⟨gb242, _, none⟩) (zf hw241_0 GW242) _).trans (((cell_far (p := ⟨gb242, _, none⟩) (zf hw241_0 GW242) _).trans (hHeld.2.2.2.2.1)))), ((cell_far (p := ⟨gb242, _, none⟩) (zf hw241_1 GW242) _).trans (((cell_far (p := ⟨gb242, _, none⟩) (zf hw241_1 GW242) _).trans (hHeld.2.2.2.2.2))))⟩ (fun hHeld => ?_)
               clear hK K
               refine one_ (i := 22) (N := none) #[Z1, Z1, Z1, Z1, Z1, Z1, Z1, Z1, Z1, Z1, Z1, Z1, Z1, Z1, Z1, Z1, Z1, Z1, Z1, Z1, Z1, Z1, Z1, Z0] rfl rfl (one_of HT_.out (by kernel_rfl)) (by decide) (fun K hK => ?_)
               have hs37 : w34.cell? ⟨gb243, 0, none⟩ = some (.int .i64 0) := (blk_cell BK243.out 0).trans rfl
               have hfs37 := blk_frozen BK243.out 0
               have hns37_0 := NB242_243.out
               have hns37_2 := NB244_243.out
               have hms37_0 := NB243_242.out
               have hms37_2 := NB243_244.out
               have hs38 : w34.cell? ⟨gb243, 1, none⟩ = some (.int .i64 0) := (blk_cell BK243.out 1).trans rfl
               have hfs38 := blk_frozen BK243.out 1
               have hns38_0 := NB242_243.out
               have hns38_2 := NB244_243.out
               have hms38_0 := NB243_242.out
               have hms38_2 := NB243_244.out
               refine skip_ (w1 := ?_) (by rfl) rfl ?_ ?_
               rotate_left
               ·go_simp
                rfl
               refine hK.out _ _ ⟨((cell_far (p := ⟨gb243, _, none⟩) (zf hw239_0 GW243) _).trans (((cell_far (p := ⟨gb243, _, none⟩) (zf hw239_0 GW243) _).trans (hHeld.1)))), ((cell_far (p := ⟨gb243, _, none⟩) (zf hw239_1 GW243) _).trans (((cell_far (p := ⟨gb243, _, none⟩) (zf hw239_1 GW243) _).trans (hHeld.2.1)))), ((cell_far (p := ⟨gb243, _, none⟩) (zf hw240_0 GW243) _).trans (((cell_far (p := ⟨gb243, _, none⟩) (zf hw240_0 GW243) _).trans (hHeld.2.2.1)))), ((cell_far (p := ⟨gb243, _, none⟩) (zf hw240_1 GW243) _).trans (((cell_far (p := ⟨gb243, _, none⟩) (zf hw240_1 GW243) _).trans (hHeld.2.2.2.1)))), ((cell_far (p := ⟨gb243, _, none⟩) (zf hw241_0 GW243) _).trans (((cell_far (p := ⟨gb243, _, none⟩) (zf hw241_0 GW243) _).trans (hHeld.2.2.2.2.1)))), ((cell_far (p := ⟨gb243, _, none⟩) (zf hw241_1 GW243) _).trans (((cell_far (p := ⟨gb243, _, none⟩) (zf hw241_1 GW243) _).trans (hHeld.2.2.2.2.2))))⟩ (fun hHeld => ?_)
               clear hK K
               refine one_ (i := 23) (N := none) #[Z1, Z1, Z1, Z1, Z1, Z1, Z1, Z1, Z1, Z1, Z1, Z1, Z1, Z1, Z1, Z1, Z1, Z1, Z1, Z1, Z1, Z1, Z1, Z1] rfl rfl (one_of HT_.out (by kernel_rfl)) (by decide) (fun K hK => ?_)
               have hs39 : w34.cell? ⟨gb244, 0, none⟩ = some (.int .i64 0) := (blk_cell BK244.out 0).trans rfl
               have hfs39 := blk_frozen BK244.out 0
               have hns39_0 := NB242_244.out
               have hns39_1 := NB243_244.out
               have hms39_0 := NB244_242.out
               have hms39_1 := NB244_243.out
               have hs40 : w34.cell? ⟨gb244, 1, none⟩ = some (.int .i64 0) := (blk_cell BK244.out 1).trans rfl
               have hfs40 := blk_frozen BK244.out 1
               have hns40_0 := NB242_244.out
               have hns40_1 := NB243_244.out
               have hms40_0 := NB244_242.out
               have hms40_1 := NB244_243.out
               refine skip_ (w1 := ?_) (by rfl) rfl ?_ ?_
               rotate_left
               ·go_simp
                rfl
               refine hK.out _ _ ⟨((cell_far (p := ⟨gb244, _, none⟩) (zf hw239_0 GW244) _).trans (((cell_far (p := ⟨gb244, _, none⟩) (zf hw239_0 GW244) _).trans (hHeld.1)))), ((cell_far (p := ⟨gb244, _, none⟩) (zf hw239_1 GW244) _).trans (((cell_far (p := ⟨gb244, _, none⟩) (zf hw239_1 GW244) _).trans (hHeld.2.1)))), ((cell_far (p := ⟨gb244, _, none⟩) (zf hw240_0 GW244) _).trans (((cell_far (p := ⟨gb244, _, none⟩) (zf hw240_0 GW244) _).trans (hHeld.2.2.1)))), ((cell_far (p := ⟨gb244, _, none⟩) (zf hw240_1 GW244) _).trans (((cell_far (p := ⟨gb244, _, none⟩) (zf hw240_1 GW244) _).trans (hHeld.2.2.2.1)))), ((cell_far (p := ⟨gb244, _, none⟩) (zf hw241_0 GW244) _).trans (((cell_far (p := ⟨gb244, _, none⟩) (zf hw241_0 GW244) _).trans (hHeld.2.2.2.2.1)))), ((cell_far (p := ⟨gb244, _, none⟩) (zf hw241_1 GW244) _).trans (((cell_far (p := ⟨gb244, _, none⟩) (zf hw241_1 GW244) _).trans (hHeld.2.2.2.2.2))))⟩ (fun hHeld => ?_)
               clear hK K
               refine done_ (done_of HT_.out (by kernel_rfl)) ?_
               try go_wp2
               go_loopg [12] k3 (fun kq v12 w' => ∃ (x12_4 : Int), v12 = .int .i64 x12_4 ∧ Aside0 (thatchref07_outline.l4 kq l0 (l0.length : Int) x7_3 x8_3 x12_4 ((rd_T32 l0 x8_3).f0) ((rd_T32 l0 x8_3).f1) ((rd_T32 l0 (ji24)).f0) ((rd_T32 l0 (ji24)).f1) ((rd_T32 l0 (ji27)).f0) ((rd_T32 l0 (ji27)).f1) = some r) ∧ Aside0 (kq ≤ k3) ∧ Aside0 (w'.heap[gb242]? = some (.cells #[.int .i64 ((rd_T32 l0 x8_3).f0), .int .i64 ((rd_T32 l0 x8_3).f1)] 32 (0, 0))) ∧ Aside0 (w'.heap[gb243]? = some (.cells #[.int .i64 ((rd_T32 l0 (ji24)).f0), .int .i64 ((rd_T32 l0 (ji24)).f1)] 32 (0, 0))) ∧ Aside0 (w'.heap[gb244]? = some (.cells #[.int .i64 ((rd_T32 l0 (ji27)).f0), .int .i64 ((rd_T32 l0 (ji27)).f1)] 32 (0, 0))) ∧ Aside0 (Below w.heap.size w w'))
               case atStart => exact ⟨(0), zq, H', ⟨Nat.le_refl _⟩, ⟨by refine zQ ?_; refine blk_far ?_ NB242_244.out _; refine zQ ?_; refine blk_far ?_ NB242_244.out _; refine zQ ?_; refine blk_far ?_ NB242_243.out _; refine zQ ?_; refine blk_far ?_ NB242_243.out _; refine zQ ?_; refine blk_put (cs := #[.int .i64 ((rd_T32 l0 x8_3).f0), .int .i64 0]) ?_ 1 _ rfl; refine zQ ?_; refine blk_put (cs := #[.int .i64 0, .int .i64 0]) ?_ 0 _ rfl; (with_reducible repeat (first | refine blk_drewN ?_ _ | refine blk_drew ?_ | refine blk_alloc ?_ _)); exact BK242.out⟩, ⟨by refine zQ ?_; refine blk_far ?_ NB243_244.out _; refine zQ ?_; refine blk_far ?_ NB243_244.out _; refine zQ ?_; refine blk_put (cs := #[.int .i64 ((rd_T32 l0 (ji24)).f0), .int .i64 0]) ?_ 1 _ rfl; refine zQ ?_; refine blk_put (cs := #[.int .i64 0, .int .i64 0]) ?_ 0 _ rfl; refine zQ ?_; refine blk_far ?_ NB243_242.out _; refine zQ ?_; refine blk_far ?_ NB243_242.out _; (with_reducible repeat (first | refine blk_drewN ?_ _ | refine blk_drew ?_ | refine blk_alloc ?_ _)); exact BK243.out⟩, ⟨by refine zQ ?_; refine blk_put (cs := #[.int .i64 ((rd_T32 l0 (ji27)).f0), .int .i64 0]) ?_ 1 _ rfl; refine zQ ?_; refine blk_put (cs := #[.int .i64 0, .int .i64 0]) ?_ 0 _ rfl; refine zQ ?_; refine blk_far ?_ NB244_243.out _; refine zQ ?_; refine blk_far ?_ NB244_243.out _; refine zQ ?_; refine blk_far ?_ NB244_242.out _; refine zQ ?_; refine blk_far ?_ NB244_242.out _; (with_reducible repeat (first | refine blk_drewN ?_ _ | refine blk_drew ?_ | refine blk_alloc ?_ _)); exact BK244.out⟩, ⟨zw HB⟩⟩
               case round =>
                clear H'; try clear p2
                obtain ⟨x12_4, rfl, HA, HK4, BK242, BK243, BK244, HB⟩ := hrel
                cases gk with
                | zero => exact absurd HA.out (by simp [thatchref07_outline.l4])
                | succ k4 =>
                 have H := HA.out
                 clear HA
                 simp only [thatchref07_outline.l4] at H
                 by_cases c41 : x12_4 < (l0.length : Int)
                 ·rw [if_pos c41] at H
                  have c41b0 : decide (x12_4 < (l0.length : Int)) = true := decide_eq_true c41
                  clear c41
                  by_cases c42 : 0 ≤ x12_4
                  ·rw [if_pos c42] at H
                   have c42b0 : decide (0 ≤ x12_4) = true := decide_eq_true c42
                   clear c42
                   by_cases c43 : x12_4 < (l0.length : Int)
                   ·rw [if_pos c43] at H
                    have c43b0 : decide (x12_4 < (l0.length : Int)) = true := decide_eq_true c43
                    clear c43
                    replace H := Option.bind_eq_some_iff.mp H
                    obtain ⟨t246, A440, H⟩ := H
                    replace H : (if t246 < 0 then (some 9) else (thatchref07_outline.l4 k4 l0 (l0.length : Int) x7_3 x8_3 (wrap64 (x12_4 + 1)) ((rd_T32 l0 x8_3).f0) ((rd_T32 l0 x8_3).f1) ((rd_T32 l0 (ji24)).f0) ((rd_T32 l0 (ji24)).f1) ((rd_T32 l0 (ji27)).f0) ((rd_T32 l0 (ji27)).f1))) = some r := H
                    have A44 := Aside0.mk A440
                    clear A440
                    by_cases c45 : t246 < 0
                    ·rw [if_pos c45] at H
                     have c45b0 : decide (t246 < 0) = true := decide_eq_true c45
                     clear c45
                     obtain rfl := Option.some.inj H
                     try go_wp2
                     have n0_ := Aside0.mk (blk_drew BK242.out)
                     have n1_ := Aside0.mk (blk_drew BK243.out)
                     have n2_ := Aside0.mk (blk_drew BK244.out)
                     have n3_ := Aside0.mk (below_drew1 HB.out)
                     clear BK242; clear BK243; clear BK244; clear HB
                     have BK242 := n0_
                     have BK243 := n1_
                     have BK244 := n2_
                     have HB := n3_
                     clear n0_ n1_ n2_ n3_
                     have p245 : 0 ≤ (x12_4 : Int) := of_decide_eq_true zj
                     have q245 : x12_4 < (l0.length : Int) := of_decide_eq_true zj
                     obtain ⟨ad245, e245, hx245_0, hx245_1⟩ := at_T32 HR0.out x12_4 p245 q245
                     have hw245_1 := hx245_1
                     have hw245_0 := hx245_0
                     obtain rfl : ad239 = ad245 := (by injection e245)
                     replace hx245_0 := zu hx245_0 HB
                     replace hx245_1 := zu hx245_1 HB
                     replace p245 := eq_true p245
                     replace q245 := eq_true q245
                     refine start_ (n := 8) (S := fun w' => w'.cell? ⟨gb242, 0, none⟩ = some (.int .i64 ((rd_T32 l0 x8_3).f0)) ∧ w'.cell? ⟨gb242, 1, none⟩ = some (.int .i64 ((rd_T32 l0 x8_3).f1)) ∧ w'.cell? ⟨gb243, 0, none⟩ = some (.int .i64 ((rd_T32 l0 (ji24)).f0)) ∧ w'.cell? ⟨gb243, 1, none⟩ = some (.int .i64 ((rd_T32 l0 (ji24)).f1)) ∧ w'.cell? (ad239.add ((x12_4).toNat * 2)) = some (.int .i64 ((rd_T32 l0 x12_4).f0)) ∧ w'.cell? ⟨(ad239.add ((x12_4).toNat * 2)).block, (ad239.add ((x12_4).toNat * 2)).off + 1, none⟩ = some (.int .i64 ((rd_T32 l0 x12_4).f1))) (ds := []) #[Z0, Z0, Z0, Z0, Z0, Z0, Z0, Z0] (by kernel_rfl) rfl rfl ⟨(blk_cell BK242.out 0).trans rfl, (blk_cell BK242.out 1).trans rfl, (blk_cell BK243.out 0).trans rfl, (blk_cell BK243.out 1).trans rfl, (zu hw245_0 HB), (zu hw245_1 HB)⟩ (fun hHeld => ?_); refine with_tabW thatchref07_outline.tab25 thatchref07_outline.bits25 (fun HT_ HW_ => ?_)
                     generalize wr.drew = w46 at BK242 BK243 BK244 HB hx245_0 hx245_1 hHeld ⊢
                     refine zp 2 (some 88) #[Z0, Z0, Z1, Z0, Z0, Z0, Z0, Z0] rfl rfl (any_of HT_.out (by kernel_rfl)) ?_
                     refine zp 3 (some 89) #[Z0, Z0, Z1, Z1, Z0, Z0, Z0, Z0] rfl rfl (any_of HT_.out (by kernel_rfl)) ?_
                     refine zp 4 (some 90) #[Z0, Z0, Z1, Z1, Z1, Z0, Z0, Z0] rfl rfl (any_of HT_.out (by kernel_rfl)) ?_
                     refine take_ (i := 0) (N := some 86) (v := ?_) (a' := ?_) #[Z1, Z0, Z1, Z1, Z1, Z0, Z0, Z0] rfl rfl (take_ofW HT_.out HW_.out (by kernel_rfl)) (fun _ _ _ h => h) (Or.inl ⟨by rfl, ?_⟩) hHeld ?_ ?_
                     rotate_left; · rintro w' ⟨s0, s1, s2, s3, s4, s5⟩; go_simp; with_reducible rfl
                     rotate_left; · simp only [Act.put, List.setIfInBounds_toArray, List.set_cons_zero, List.set_cons_succ, i64_w, i32_w]; rfl
                     refine take_ (i := 1) (N := some 87) (v := ?_) (a' := ?_) #[Z1, Z1, Z1, Z1, Z1, Z0, Z0, Z0] rfl rfl (take_ofW HT_.out HW_.out (by kernel_rfl)) (fun _ _ _ h => h) (Or.inl ⟨by rfl, ?_⟩) hHeld ?_ ?_
                     rotate_left; · rintro w' ⟨s0, s1, s2, s3, s4, s5⟩; go_simp; with_reducible rfl
                     rotate_left; · simp only [Act.put, List.setIfInBounds_toArray, List.set_cons_zero, List.set_cons_succ, i64_w, i32_w]; rfl
                     refine take_ (i := 5) (N := some 91) (v := ?_) (a' := ?_) #[Z1, Z1, Z1, Z1, Z1, Z1, Z0, Z0] rfl rfl (take_ofW HT_.out HW_.out (by kernel_rfl)) (fun _ _ _ h => h) (Or.inl ⟨by rfl, ?_⟩) hHeld ?_ ?_
                     rotate_left; · rintro w' ⟨s0, s1, s2, s3, s4, s5⟩; go_simp; with_reducible rfl
                     rotate_left; · simp only [Act.put, List.setIfInBounds_toArray, List.set_cons_zero, List.set_cons_succ, i64_w, i32_w]; rfl
                     refine one_ (i := 6) (N := some 92) #[Z1, Z1, Z1, Z1, Z1, Z1, Z1, Z0] rfl rfl (one_of HT_.out (by kernel_rfl)) (by decide) (fun K hK => ?_)
                     refine goes_ Try.func63 (by kernel_rfl) rfl #[.agg #[.int .i64 ((rd_T32 l0 x8_3).f0), .int .i64 ((rd_T32 l0 x8_3).f1)], .agg #[.int .i64 ((rd_T32 l0 (ji24)).f0), .int .i64 ((rd_T32 l0 (ji24)).f1)], .agg #[.int .i64 ((rd_T32 l0 x12_4).f0), .int .i64 ((rd_T32 l0 x12_4).f1)]] (by rfl) rfl rfl (by (try simp only [List.map_toArray, List.map_cons, List.map_nil]); first | done | (simp only [hji24]; rfl) | rfl | (simp only [List.length_drop, List.length_take]; rfl)) ?_
                     with_reducible refine (thatchref07_left.calls ((rd_T32 l0 x8_3).f0) ((rd_T32 l0 x8_3).f1) ((rd_T32 l0 (ji24)).f0) ((rd_T32 l0 (ji24)).f1) ((rd_T32 l0 x12_4).f0) ((rd_T32 l0 x12_4).f1) t246 _ A44.out).mono ?_
                     rintro e w47 ⟨rfl, hb⟩
                     refine ⟨_, rfl, ?_⟩
                     have n0_ := zD BK242 hb
                     have n1_ := zD BK243 hb
                     have n2_ := zD BK244 hb
                     have n3_ := zY HB hb
                     clear BK242; clear BK243; clear BK244; clear HB
                     have BK242 := n0_
                     have BK243 := n1_
                     have BK244 := n2_
                     have HB := n3_
                     clear n0_ n1_ n2_ n3_
                     (try clear hb)
                     (try clear hb2)
                     (try clear hk)
                     (try clear hi)
                     refine hK.out _ _ ⟨(blk_cell BK242.out 0).trans rfl, (blk_cell BK242.out 1).trans rfl, (blk_cell BK243.out 0).trans rfl, (blk_cell BK243.out 1).trans rfl, (zu hw245_0 HB), (zu hw245_1 HB)⟩ (fun hHeld => ?_)
                     clear hK K
                     refine norm_ (a' := ?_) ?_ ?_
                     rotate_left
                     ·show Act.put _ (some 92) _ = _
                      simp only [Act.put, List.setIfInBounds_toArray, List.set_cons_zero, List.set_cons_succ, i64_w, i32_w]
                      rfl
                     refine zp 7 (some 93) #[Z1, Z1, Z1, Z1, Z1, Z1, Z1, Z1] rfl rfl (any_of HT_.out (by kernel_rfl)) ?_
                     refine done_ (done_of HT_.out (by kernel_rfl)) ?_
                     try go_wp2
                     go_ret
                     exact ⟨by first | rfl | (simp [errW_none, errW_some] <;> rfl) | (simp only [← hji24, ← hji27]; first | rfl | (simp [errW_none, errW_some] <;> rfl)) | (simp [*, errW_none, errW_some] <;> rfl), zw HB⟩
                    rw [if_neg c45] at H
                    have c45b0 : decide (t246 < 0) = false := decide_eq_false c45
                    clear c45
                    have H' := Aside0.mk H
                    clear H
                    try go_wp2
                    have n0_ := Aside0.mk (blk_drew BK242.out)
                    have n1_ := Aside0.mk (blk_drew BK243.out)
                    have n2_ := Aside0.mk (blk_drew BK244.out)
                    have n3_ := Aside0.mk (below_drew1 HB.out)
                    clear BK242; clear BK243; clear BK244; clear HB
                    have BK242 := n0_
                    have BK243 := n1_
                    have BK244 := n2_
                    have HB := n3_
                    clear n0_ n1_ n2_ n3_
                    have p245 : 0 ≤ (x12_4 : Int) := of_decide_eq_true zj
                    have q245 : x12_4 < (l0.length : Int) := of_decide_eq_true zj
                    obtain ⟨ad245, e245, hx245_0, hx245_1⟩ := at_T32 HR0.out x12_4 p245 q245
                    have hw245_1 := hx245_1
                    have hw245_0 := hx245_0
                    obtain rfl : ad239 = ad245 := (by injection e245)
                    replace hx245_0 := zu hx245_0 HB
                    replace hx245_1 := zu hx245_1 HB
                    replace p245 := eq_true p245
                    replace q245 := eq_true q245
                    refine start_ (n := 8) (S := fun w' => w'.cell? ⟨gb242, 0, none⟩ = some (.int .i64 ((rd_T32 l0 x8_3).f0)) ∧ w'.cell? ⟨gb242, 1, none⟩ = some (.int .i64 ((rd_T32 l0 x8_3).f1)) ∧ w'.cell? ⟨gb243, 0, none⟩ = some (.int .i64 ((rd_T32 l0 (ji24)).f0)) ∧ w'.cell? ⟨gb243, 1, none⟩ = some (.int .i64 ((rd_T32 l0 (ji24)).f1)) ∧ w'.cell? (ad239.add ((x12_4).toNat * 2)) = some (.int .i64 ((rd_T32 l0 x12_4).f0)) ∧ w'.cell? ⟨(ad239.add ((x12_4).toNat * 2)).block, (ad239.add ((x12_4).toNat * 2)).off + 1, none⟩ = some (.int .i64 ((rd_T32 l0 x12_4).f1))) (ds := []) #[Z0, Z0, Z0, Z0, Z0, Z0, Z0, Z0] (by kernel_rfl) rfl rfl ⟨(blk_cell BK242.out 0).trans rfl, (blk_cell BK242.out 1).trans rfl, (blk_cell BK243.out 0).trans rfl, (blk_cell BK243.out 1).trans rfl, (zu hw245_0 HB), (zu hw245_1 HB)⟩ (fun hHeld => ?_); refine with_tabW thatchref07_outline.tab25 thatchref07_outline.bits25 (fun HT_ HW_ => ?_)
                    generalize wr.drew = w48 at BK242 BK243 BK244 HB hx245_0 hx245_1 hHeld ⊢
                    refine zp 2 (some 88) #[Z0, Z0, Z1, Z0, Z0, Z0, Z0, Z0] rfl rfl (any_of HT_.out (by kernel_rfl)) ?_
                    refine zp 3 (some 89) #[Z0, Z0, Z1, Z1, Z0, Z0, Z0, Z0] rfl rfl (any_of HT_.out (by kernel_rfl)) ?_
                    refine zp 4 (some 90) #[Z0, Z0, Z1, Z1, Z1, Z0, Z0, Z0] rfl rfl (any_of HT_.out (by kernel_rfl)) ?_
                    refine take_ (i := 0) (N := some 86) (v := ?_) (a' := ?_) #[Z1, Z0, Z1, Z1, Z1, Z0, Z0, Z0] rfl rfl (take_ofW HT_.out HW_.out (by kernel_rfl)) (fun _ _ _ h => h) (Or.inl ⟨by rfl, ?_⟩) hHeld ?_ ?_
                    rotate_left; · rintro w' ⟨s0, s1, s2, s3, s4, s5⟩; go_simp; with_reducible rfl
                    rotate_left; · simp only [Act.put, List.setIfInBounds_toArray, List.set_cons_zero, List.set_cons_succ, i64_w, i32_w]; rfl
                    refine take_ (i := 1) (N := some 87) (v := ?_) (a' := ?_) #[Z1, Z1, Z1, Z1, Z1, Z0, Z0, Z0] rfl rfl (take_ofW HT_.out HW_.out (by kernel_rfl)) (fun _ _ _ h => h) (Or.inl ⟨by rfl, ?_⟩) hHeld ?_ ?_
                    rotate_left; · rintro w' ⟨s0, s1, s2, s3, s4, s5⟩; go_simp; with_reducible rfl
                    rotate_left; · simp only [Act.put, List.setIfInBounds_toArray, List.set_cons_zero, List.set_cons_succ, i64_w, i32_w]; rfl
                    refine take_ (i := 5) (N := some 91) (v := ?_) (a' := ?_) #[Z1, Z1, Z1, Z1, Z1, Z1, Z0, Z0] rfl rfl (take_ofW HT_.out HW_.out (by kernel_rfl)) (fun _ _ _ h => h) (Or.inl ⟨by rfl, ?_⟩) hHeld ?_ ?_
                    rotate_left; · rintro w' ⟨s0, s1, s2, s3, s4, s5⟩; go_simp; with_reducible rfl
                    rotate_left; · simp only [Act.put, List.setIfInBounds_toArray, List.set_cons_zero, List.set_cons_succ, i64_w, i32_w]; rfl
                    refine one_ (i := 6) (N := some 92) #[Z1, Z1, Z1, Z1, Z1, Z1, Z1, Z0] rfl rfl (one_of HT_.out (by kernel_rfl)) (by decide) (fun K hK => ?_)
                    refine goes_ Try.func63 (by kernel_rfl) rfl #[.agg #[.int .i64 ((rd_T32 l0 x8_3).f0), .int .i64 ((rd_T32 l0 x8_3).f1)], .agg #[.int .i64 ((rd_T32 l0 (ji24)).f0), .int .i64 ((rd_T32 l0 (ji24)).f1)], .agg #[.int .i64 ((rd_T32 l0 x12_4).f0), .int .i64 ((rd_T32 l0 x12_4).f1)]] (by rfl) rfl rfl (by (try simp only [List.map_toArray, List.map_cons, List.map_nil]); first | done | (simp only [hji24]; rfl) | rfl | (simp only [List.length_drop, List.length_take]; rfl)) ?_
                    with_reducible refine (thatchref07_left.calls ((rd_T32 l0 x8_3).f0) ((rd_T32 l0 x8_3).f1) ((rd_T32 l0 (ji24)).f0) ((rd_T32 l0 (ji24)).f1) ((rd_T32 l0 x12_4).f0) ((rd_T32 l0 x12_4).f1) t246 _ A44.out).mono ?_
                    rintro e w49 ⟨rfl, hb⟩
                    refine ⟨_, rfl, ?_⟩
                    have n0_ := zD BK242 hb
                    have n1_ := zD BK243 hb
                    have n2_ := zD BK244 hb
                    have n3_ := zY HB hb
                    clear BK242; clear BK243; clear BK244; clear HB
                    have BK242 := n0_
                    have BK243 := n1_
                    have BK244 := n2_
                    have HB := n3_
                    clear n0_ n1_ n2_ n3_
                    (try clear hb)
                    (try clear hb2)
                    (try clear hk)
                    (try clear hi)
                    refine hK.out _ _ ⟨(blk_cell BK242.out 0).trans rfl, (blk_cell BK242.out 1).trans rfl, (blk_cell BK243.out 0).trans rfl, (blk_cell BK243.out 1).trans rfl, (zu hw245_0 HB), (zu hw245_1 HB)⟩ (fun hHeld => ?_)
                    clear hK K
                    refine norm_ (a' := ?_) ?_ ?_
                    rotate_left
                    ·show Act.put _ (some 92) _ = _
                     simp only [Act.put, List.setIfInBounds_toArray, List.set_cons_zero, List.set_cons_succ, i64_w, i32_w]
                     rfl
                    refine zp 7 (some 93) #[Z1, Z1, Z1, Z1, Z1, Z1, Z1, Z1] rfl rfl (any_of HT_.out (by kernel_rfl)) ?_
                    refine done_ (done_of HT_.out (by kernel_rfl)) ?_
                    try go_wp2
                    go_roundg k4
                    case measure => have := HK1.out; have := HK2.out; have := HK3.out; have := HK4.out; omega
                    case rel => exact ⟨(wrap64 (x12_4 + 1)), zq, H', ⟨by have := HK1.out; have := HK2.out; have := HK3.out; have := HK4.out; omega⟩, ⟨zb BK242⟩, ⟨zb BK243⟩, ⟨zb BK244⟩, ⟨zw HB⟩⟩
                   rw [if_neg c43] at H
                   exact absurd H (by simp)
                  rw [if_neg c42] at H
                  exact absurd H (by simp)
                 rw [if_neg c41] at H
                 have c41b0 : decide (x12_4 < (l0.length : Int)) = false := decide_eq_false c41
                 clear c41
                 replace H := Option.bind_eq_some_iff.mp H
                 obtain ⟨t247, A500, H⟩ := H
                 replace H : (if t247 = 0 then (if (wrap64 ((wrap64 ((wrap64 (((rd_T32 l0 (ji24)).f0) - ((rd_T32 l0 x8_3).f0))) * (wrap64 (((rd_T32 l0 (ji27)).f0) - ((rd_T32 l0 (ji24)).f0))))) + (wrap64 ((wrap64 (((rd_T32 l0 (ji24)).f1) - ((rd_T32 l0 x8_3).f1))) * (wrap64 (((rd_T32 l0 (ji27)).f1) - ((rd_T32 l0 (ji24)).f1))))))) < 0 then (some 9) else (if 0 < (l0.length : Int) then ((thatchref07_left.f ((rd_T32 l0 0).f0) ((rd_T32 l0 0).f1) ((rd_T32 l0 x8_3).f0) ((rd_T32 l0 x8_3).f1) ((rd_T32 l0 (ji24)).f0) ((rd_T32 l0 (ji24)).f1)).bind fun t249 => (thatchref07_outline.l3 k4 l0 (l0.length : Int) (wrap64 (x7_3 + t249)) (wrap64 (x8_3 + 1)))) else (none))) else (if 0 < (l0.length : Int) then ((thatchref07_left.f ((rd_T32 l0 0).f0) ((rd_T32 l0 0).f1) ((rd_T32 l0 x8_3).f0) ((rd_T32 l0 x8_3).f1) ((rd_T32 l0 (ji24)).f0) ((rd_T32 l0 (ji24)).f1)).bind fun t251 => (thatchref07_outline.l3 k4 l0 (l0.length : Int) (wrap64 (x7_3 + t251)) (wrap64 (x8_3 + 1)))) else (none))) = some r := H
                 have A50 := Aside0.mk A500
                 clear A500
                 by_cases c51 : t247 = 0
                 ·rw [if_pos c51] at H
                  have c51b0 : (t247 == 0) = true := beq_iff_eq.mpr c51
                  have c51b1 : (t247 != 0) = false := bne_eq_false_iff_eq.mpr c51
                  clear c51
                  by_cases c52 : (wrap64 ((wrap64 ((wrap64 (((rd_T32 l0 (ji24)).f0) - ((rd_T32 l0 x8_3).f0))) * (wrap64 (((rd_T32 l0 (ji27)).f0) - ((rd_T32 l0 (ji24)).f0))))) + (wrap64 ((wrap64 (((rd_T32 l0 (ji24)).f1) - ((rd_T32 l0 x8_3).f1))) * (wrap64 (((rd_T32 l0 (ji27)).f1) - ((rd_T32 l0 (ji24)).f1))))))) < 0
                  ·rw [if_pos c52] at H
                   have c52b0 : decide ((wrap64 ((wrap64 ((wrap64 (((rd_T32 l0 (ji24)).f0) - ((rd_T32 l0 x8_3).f0))) * (wrap64 (((rd_T32 l0 (ji27)).f0) - ((rd_T32 l0 (ji24)).f0))))) + (wrap64 ((wrap64 (((rd_T32 l0 (ji24)).f1) - ((rd_T32 l0 x8_3).f1))) * (wrap64 (((rd_T32 l0 (ji27)).f1) - ((rd_T32 l0 (ji24)).f1))))))) < 0) = true := decide_eq_true c52
                   clear c52
                   obtain rfl := Option.some.inj H
                   have hnb53 := NB242_243.out
                   have hnc53 := NB243_242.out
                   have hnb54 := NB242_244.out
                   have hnc54 := NB244_242.out
                   obtain ⟨hcz55_0, hcz55_1, hfz55_0, hfz55_1⟩ := zk2 BK242
                   have hnb56 := NB243_244.out
                   have hnc56 := NB244_243.out
                   obtain ⟨hcz57_0, hcz57_1, hfz57_0, hfz57_1⟩ := zk2 BK243
                   obtain ⟨hcz58_0, hcz58_1, hfz58_0, hfz58_1⟩ := zk2 BK244
                   go_wp2_with (first | ((with_reducible refine gate_callee (f := 63) rfl ?_); refine goesL_ (some 97) rfl rfl Try.func63 (by kernel_rfl) rfl #[.agg #[.int .i64 ((rd_T32 l0 x8_3).f0), .int .i64 ((rd_T32 l0 x8_3).f1)], .agg #[.int .i64 ((rd_T32 l0 (ji24)).f0), .int .i64 ((rd_T32 l0 (ji24)).f1)], .agg #[.int .i64 ((rd_T32 l0 (ji27)).f0), .int .i64 ((rd_T32 l0 (ji27)).f1)]] rfl (by (try simp only [List.map_toArray, List.map_cons, List.map_nil]); first | done | (simp only [hji24, hji27]; rfl) | rfl | (simp only [List.length_drop, List.length_take]; rfl)) ?_; (with_reducible refine (thatchref07_left.calls ((rd_T32 l0 x8_3).f0) ((rd_T32 l0 x8_3).f1) ((rd_T32 l0 (ji24)).f0) ((rd_T32 l0 (ji24)).f1) ((rd_T32 l0 (ji27)).f0) ((rd_T32 l0 (ji27)).f1) t247 _ A50.out).mono ?_); rintro e w59 ⟨rfl, hb⟩; refine ⟨_, rfl, ?_⟩; have n0_ := zD BK242 hb; have n1_ := zD BK243 hb; have n2_ := zD BK244 hb; have n3_ := zY HB hb; clear BK242; clear BK243; clear BK244; clear HB; have BK242 := n0_; have BK243 := n1_; have BK244 := n2_; have HB := n3_; clear n0_ n1_ n2_ n3_; (try clear hb); (try clear hb2); (try clear hk); (try clear hi); obtain ⟨hcz60_0, hcz60_1, hfz60_0, hfz60_1⟩ := zk2 BK243; obtain ⟨hcz61_0, hcz61_1, hfz61_0, hfz61_1⟩ := zk2 BK242; obtain ⟨hcz62_0, hcz62_1, hfz62_0, hfz62_1⟩ := zk2 BK244))
                   go_ret
                   exact ⟨by first | rfl | (simp [errW_none, errW_some] <;> rfl) | (simp only [← hji24, ← hji27]; first | rfl | (simp [errW_none, errW_some] <;> rfl)) | (simp [*, errW_none, errW_some] <;> rfl), zw HB⟩
                  rw [if_neg c52] at H
                  have c52b0 : decide ((wrap64 ((wrap64 ((wrap64 (((rd_T32 l0 (ji24)).f0) - ((rd_T32 l0 x8_3).f0))) * (wrap64 (((rd_T32 l0 (ji27)).f0) - ((rd_T32 l0 (ji24)).f0))))) + (wrap64 ((wrap64 (((rd_T32 l0 (ji24)).f1) - ((rd_T32 l0 x8_3).f1))) * (wrap64 (((rd_T32 l0 (ji27)).f1) - ((rd_T32 l0 (ji24)).f1))))))) < 0) = false := decide_eq_false c52
                  clear c52
                  by_cases c63 : 0 < (l0.length : Int)
                  ·rw [if_pos c63] at H
                   have c63b0 : decide (0 < (l0.length : Int)) = true := decide_eq_true c63
                   have c63b1 : decide (0 < l0.length) = true := decide_eq_true (by omega)
                   clear c63
                   replace H := Option.bind_eq_some_iff.mp H
                   obtain ⟨t249, A640, H⟩ := H
                   replace H : (thatchref07_outline.l3 k4 l0 (l0.length : Int) (wrap64 (x7_3 + t249)) (wrap64 (x8_3 + 1))) = some r := H
                   have A64 := Aside0.mk A640
                   clear A640
                   have H' := Aside0.mk H
                   clear H
                   have hnb65 := NB242_243.out
                   have hnc65 := NB243_242.out
                   have hnb66 := NB242_244.out
                   have hnc66 := NB244_242.out
                   obtain ⟨hcz67_0, hcz67_1, hfz67_0, hfz67_1⟩ := zk2 BK242
                   have hnb68 := NB243_244.out
                   have hnc68 := NB244_243.out
                   obtain ⟨hcz69_0, hcz69_1, hfz69_0, hfz69_1⟩ := zk2 BK243
                   obtain ⟨hcz70_0, hcz70_1, hfz70_0, hfz70_1⟩ := zk2 BK244
                   try go_wp2_with (first | ((with_reducible refine gate_callee (f := 63) rfl ?_); refine goesL_ (some 97) rfl rfl Try.func63 (by kernel_rfl) rfl #[.agg #[.int .i64 ((rd_T32 l0 x8_3).f0), .int .i64 ((rd_T32 l0 x8_3).f1)], .agg #[.int .i64 ((rd_T32 l0 (ji24)).f0), .int .i64 ((rd_T32 l0 (ji24)).f1)], .agg #[.int .i64 ((rd_T32 l0 (ji27)).f0), .int .i64 ((rd_T32 l0 (ji27)).f1)]] rfl (by (try simp only [List.map_toArray, List.map_cons, List.map_nil]); first | done | (simp only [hji24, hji27]; rfl) | rfl | (simp only [List.length_drop, List.length_take]; rfl)) ?_; (with_reducible refine (thatchref07_left.calls ((rd_T32 l0 x8_3).f0) ((rd_T32 l0 x8_3).f1) ((rd_T32 l0 (ji24)).f0) ((rd_T32 l0 (ji24)).f1) ((rd_T32 l0 (ji27)).f0) ((rd_T32 l0 (ji27)).f1) t247 _ A50.out).mono ?_); rintro e w71 ⟨rfl, hb⟩; refine ⟨_, rfl, ?_⟩; have n0_ := zD BK242 hb; have n1_ := zD BK243 hb; have n2_ := zD BK244 hb; have n3_ := zY HB hb; clear BK242; clear BK243; clear BK244; clear HB; have BK242 := n0_; have BK243 := n1_; have BK244 := n2_; have HB := n3_; clear n0_ n1_ n2_ n3_; (try clear hb); (try clear hb2); (try clear hk); (try clear hi); obtain ⟨hcz72_0, hcz72_1, hfz72_0, hfz72_1⟩ := zk2 BK243; obtain ⟨hcz73_0, hcz73_1, hfz73_0, hfz73_1⟩ := zk2 BK242; obtain ⟨hcz74_0, hcz74_1, hfz74_0, hfz74_1⟩ := zk2 BK244))
                   have n0_ := Aside0.mk (blk_drew BK242.out)
                   have n1_ := Aside0.mk (blk_drew BK243.out)
                   have n2_ := Aside0.mk (blk_drew BK244.out)
                   have n3_ := Aside0.mk (below_drew1 HB.out)
                   clear BK242; clear BK243; clear BK244; clear HB
                   have BK242 := n0_
                   have BK243 := n1_
                   have BK244 := n2_
                   have HB := n3_
                   clear n0_ n1_ n2_ n3_
                   have p248 : 0 ≤ (0 : Int) := (by omega)
                   have q248 : 0 < (l0.length : Int) := of_decide_eq_true zj
                   obtain ⟨ad248, e248, hx248_0, hx248_1⟩ := at_T32 HR0.out 0 p248 q248
                   have hw248_1 := hx248_1
                   (try rw [show ((0 : Int)).toNat = 0 from rfl] at hw248_1)
                   (try rw [show 0 * 2 = 0 from rfl] at hw248_1)
                   (try rw [Addr.add_zero'] at hw248_1)
                   have hw248_0 := hx248_0
                   (try rw [show ((0 : Int)).toNat = 0 from rfl] at hw248_0)
                   (try rw [show 0 * 2 = 0 from rfl] at hw248_0)
                   (try rw [Addr.add_zero'] at hw248_0)
                   obtain rfl : ad239 = ad248 := (by injection e248)
                   have qi248 : (0 < l0.length) = True := eq_true (by omega)
                   (try rw [show ((0 : Int)).toNat = 0 from rfl] at hx248_0)
                   (try rw [show 0 * 2 = 0 from rfl] at hx248_0)
                   (try rw [Addr.add_zero'] at hx248_0)
                   (try rw [show ((0 : Int)).toNat = 0 from rfl] at hx248_1)
                   (try rw [show 0 * 2 = 0 from rfl] at hx248_1)
                   (try rw [Addr.add_zero'] at hx248_1)
                   replace hx248_0 := zu hx248_0 HB
                   replace hx248_1 := zu hx248_1 HB
                   replace p248 := eq_true p248
                   replace q248 := eq_true q248
                   refine start_ (n := 9) (S := fun w' => w'.cell? ⟨gb242, 0, none⟩ = some (.int .i64 ((rd_T32 l0 x8_3).f0)) ∧ w'.cell? ⟨gb242, 1, none⟩ = some (.int .i64 ((rd_T32 l0 x8_3).f1)) ∧ w'.cell? ⟨gb243, 0, none⟩ = some (.int .i64 ((rd_T32 l0 (ji24)).f0)) ∧ w'.cell? ⟨gb243, 1, none⟩ = some (.int .i64 ((rd_T32 l0 (ji24)).f1)) ∧ w'.cell? ad239 = some (.int .i64 ((rd_T32 l0 0).f0)) ∧ w'.cell? ⟨ad239.block, ad239.off + 1, none⟩ = some (.int .i64 ((rd_T32 l0 0).f1))) (ds := []) #[Z0, Z0, Z0, Z0, Z0, Z0, Z0, Z0, Z0] (by kernel_rfl) rfl rfl ⟨(blk_cell BK242.out 0).trans rfl, (blk_cell BK242.out 1).trans rfl, (blk_cell BK243.out 0).trans rfl, (blk_cell BK243.out 1).trans rfl, (zu hw248_0 HB), (zu hw248_1 HB)⟩ (fun hHeld => ?_); refine with_tabW thatchref07_outline.tab29 thatchref07_outline.bits29 (fun HT_ HW_ => ?_)
                   generalize w71.drew = w75 at BK242 BK243 BK244 HB hx248_0 hx248_1 hHeld ⊢
                   refine zp 0 (some 125) #[Z1, Z0, Z0, Z0, Z0, Z0, Z0, Z0, Z0] rfl rfl (any_of HT_.out (by kernel_rfl)) ?_
                   refine zp 1 (some 126) #[Z1, Z1, Z0, Z0, Z0, Z0, Z0, Z0, Z0] rfl rfl (any_of HT_.out (by kernel_rfl)) ?_
                   refine zp 2 (some 127) #[Z1, Z1, Z1, Z0, Z0, Z0, Z0, Z0, Z0] rfl rfl (any_of HT_.out (by kernel_rfl)) ?_
                   refine take_ (i := 3) (N := some 128) (v := ?_) (a' := ?_) #[Z1, Z1, Z1, Z1, Z0, Z0, Z0, Z0, Z0] rfl rfl (take_ofW HT_.out HW_.out (by kernel_rfl)) (fun _ _ _ h => h) (Or.inl ⟨by rfl, ?_⟩) hHeld ?_ ?_
                   rotate_left; · rintro w' ⟨s0, s1, s2, s3, s4, s5⟩; go_simp; with_reducible rfl
                   rotate_left; · simp only [Act.put, List.setIfInBounds_toArray, List.set_cons_zero, List.set_cons_succ, i64_w, i32_w]; rfl
                   refine take_ (i := 4) (N := some 129) (v := ?_) (a' := ?_) #[Z1, Z1, Z1, Z1, Z1, Z0, Z0, Z0, Z0] rfl rfl (take_ofW HT_.out HW_.out (by kernel_rfl)) (fun _ _ _ h => h) (Or.inl ⟨by rfl, ?_⟩) hHeld ?_ ?_
                   rotate_left; · rintro w' ⟨s0, s1, s2, s3, s4, s5⟩; go_simp; with_reducible rfl
                   rotate_left; · simp only [Act.put, List.setIfInBounds_toArray, List.set_cons_zero, List.set_cons_succ, i64_w, i32_w]; rfl
                   refine take_ (i := 5) (N := some 130) (v := ?_) (a' := ?_) #[Z1, Z1, Z1, Z1, Z1, Z1, Z0, Z0, Z0] rfl rfl (take_ofW HT_.out HW_.out (by kernel_rfl)) (fun _ _ _ h => h) (Or.inl ⟨by rfl, ?_⟩) hHeld ?_ ?_
                   rotate_left; · rintro w' ⟨s0, s1, s2, s3, s4, s5⟩; go_simp; with_reducible rfl
                   rotate_left; · simp only [Act.put, List.setIfInBounds_toArray, List.set_cons_zero, List.set_cons_succ, i64_w, i32_w]; rfl
                   refine one_ (i := 6) (N := some 131) #[Z1, Z1, Z1, Z1, Z1, Z1, Z1, Z0, Z0] rfl rfl (one_of HT_.out (by kernel_rfl)) (by decide) (fun K hK => ?_)
                   refine goes_ Try.func63 (by kernel_rfl) rfl #[.agg #[.int .i64 ((rd_T32 l0 0).f0), .int .i64 ((rd_T32 l0 0).f1)], .agg #[.int .i64 ((rd_T32 l0 x8_3).f0), .int .i64 ((rd_T32 l0 x8_3).f1)], .agg #[.int .i64 ((rd_T32 l0 (ji24)).f0), .int .i64 ((rd_T32 l0 (ji24)).f1)]] (by rfl) rfl rfl (by (try simp only [List.map_toArray, List.map_cons, List.map_nil]); first | done | (simp only [hji24]; rfl) | rfl | (simp only [List.length_drop, List.length_take]; rfl)) ?_
                   with_reducible refine (thatchref07_left.calls ((rd_T32 l0 0).f0) ((rd_T32 l0 0).f1) ((rd_T32 l0 x8_3).f0) ((rd_T32 l0 x8_3).f1) ((rd_T32 l0 (ji24)).f0) ((rd_T32 l0 (ji24)).f1) t249 _ A64.out).mono ?_
                   rintro e w76 ⟨rfl, hb⟩
                   refine ⟨_, rfl, ?_⟩
                   have n0_ := zD BK242 hb
                   have n1_ := zD BK243 hb
                   have n2_ := zD BK244 hb
                   have n3_ := zY HB hb
                   clear BK242; clear BK243; clear BK244; clear HB
                   have BK242 := n0_
                   have BK243 := n1_
                   have BK244 := n2_
                   have HB := n3_
                   clear n0_ n1_ n2_ n3_
                   (try clear hb)
                   (try clear hb2)
                   (try clear hk)
                   (try clear hi)
                   refine hK.out _ _ ⟨(blk_cell BK242.out 0).trans rfl, (blk_cell BK242.out 1).trans rfl, (blk_cell BK243.out 0).trans rfl, (blk_cell BK243.out 1).trans rfl, (zu hw248_0 HB), (zu hw248_1 HB)⟩ (fun hHeld => ?_)
                   clear hK K
                   refine norm_ (a' := ?_) ?_ ?_
                   rotate_left
                   ·show Act.put _ (some 131) _ = _
                    simp only [Act.put, List.setIfInBounds_toArray, List.set_cons_zero, List.set_cons_succ, i64_w, i32_w]
                    rfl
                   refine zp 7 (some 132) #[Z1, Z1, Z1, Z1, Z1, Z1, Z1, Z1, Z0] rfl rfl (any_of HT_.out (by kernel_rfl)) ?_
                   refine zp 8 (some 7) #[Z1, Z1, Z1, Z1, Z1, Z1, Z1, Z1, Z1] rfl rfl (any_of HT_.out (by kernel_rfl)) ?_
                   refine done_ (done_of HT_.out (by kernel_rfl)) ?_
                   try go_wp2
                   go_roundg k4
                   case measure => have := HK1.out; have := HK2.out; have := HK3.out; have := HK4.out; omega
                   case rel => exact ⟨(wrap64 (x7_3 + t249)), (wrap64 (x8_3 + 1)), zq, zq, H', ⟨by have := HK1.out; have := HK2.out; have := HK3.out; have := HK4.out; omega⟩, ⟨zw HB⟩⟩
                  rw [if_neg c63] at H
                  exact absurd H (by simp)
                 rw [if_neg c51] at H
                 have c51b0 : (t247 == 0) = false := beq_eq_false_iff_ne.mpr c51
                 have c51b1 : (t247 != 0) = true := bne_iff_ne.mpr c51
                 by_cases c77 : 0 < (l0.length : Int)
                 ·rw [if_pos c77] at H
                  have c77b0 : decide (0 < (l0.length : Int)) = true := decide_eq_true c77
                  have c77b1 : decide (0 < l0.length) = true := decide_eq_true (by omega)
                  clear c77
                  replace H := Option.bind_eq_some_iff.mp H
                  obtain ⟨t251, A780, H⟩ := H
                  replace H : (thatchref07_outline.l3 k4 l0 (l0.length : Int) (wrap64 (x7_3 + t251)) (wrap64 (x8_3 + 1))) = some r := H
                  have A78 := Aside0.mk A780
                  clear A780
                  have H' := Aside0.mk H
                  clear H
                  have hnb79 := NB242_243.out
                  have hnc79 := NB243_242.out
                  have hnb80 := NB242_244.out
                  have hnc80 := NB244_242.out
                  obtain ⟨hcz81_0, hcz81_1, hfz81_0, hfz81_1⟩ := zk2 BK242
                  have hnb82 := NB243_244.out
                  have hnc82 := NB244_243.out
                  obtain ⟨hcz83_0, hcz83_1, hfz83_0, hfz83_1⟩ := zk2 BK243
                  obtain ⟨hcz84_0, hcz84_1, hfz84_0, hfz84_1⟩ := zk2 BK244
                  try go_wp2_with (first | ((with_reducible refine gate_callee (f := 63) rfl ?_); refine goesL_ (some 97) rfl rfl Try.func63 (by kernel_rfl) rfl #[.agg #[.int .i64 ((rd_T32 l0 x8_3).f0), .int .i64 ((rd_T32 l0 x8_3).f1)], .agg #[.int .i64 ((rd_T32 l0 (ji24)).f0), .int .i64 ((rd_T32 l0 (ji24)).f1)], .agg #[.int .i64 ((rd_T32 l0 (ji27)).f0), .int .i64 ((rd_T32 l0 (ji27)).f1)]] rfl (by (try simp only [List.map_toArray, List.map_cons, List.map_nil]); first | done | (simp only [hji24, hji27]; rfl) | rfl | (simp only [List.length_drop, List.length_take]; rfl)) ?_; (with_reducible refine (thatchref07_left.calls ((rd_T32 l0 x8_3).f0) ((rd_T32 l0 x8_3).f1) ((rd_T32 l0 (ji24)).f0) ((rd_T32 l0 (ji24)).f1) ((rd_T32 l0 (ji27)).f0) ((rd_T32 l0 (ji27)).f1) t247 _ A50.out).mono ?_); rintro e w85 ⟨rfl, hb⟩; refine ⟨_, rfl, ?_⟩; have n0_ := zD BK242 hb; have n1_ := zD BK243 hb; have n2_ := zD BK244 hb; have n3_ := zY HB hb; clear BK242; clear BK243; clear BK244; clear HB; have BK242 := n0_; have BK243 := n1_; have BK244 := n2_; have HB := n3_; clear n0_ n1_ n2_ n3_; (try clear hb); (try clear hb2); (try clear hk); (try clear hi)))
                  have n0_ := Aside0.mk (blk_drew BK242.out)
                  have n1_ := Aside0.mk (blk_drew BK243.out)
                  have n2_ := Aside0.mk (blk_drew BK244.out)
                  have n3_ := Aside0.mk (below_drew1 HB.out)
                  clear BK242; clear BK243; clear BK244; clear HB
                  have BK242 := n0_
                  have BK243 := n1_
                  have BK244 := n2_
                  have HB := n3_
                  clear n0_ n1_ n2_ n3_
                  have p250 : 0 ≤ (0 : Int) := (by omega)
                  have q250 : 0 < (l0.length : Int) := of_decide_eq_true zj
                  obtain ⟨ad250, e250, hx250_0, hx250_1⟩ := at_T32 HR0.out 0 p250 q250
                  have hw250_1 := hx250_1
                  (try rw [show ((0 : Int)).toNat = 0 from rfl] at hw250_1)
                  (try rw [show 0 * 2 = 0 from rfl] at hw250_1)
                  (try rw [Addr.add_zero'] at hw250_1)
                  have hw250_0 := hx250_0
                  (try rw [show ((0 : Int)).toNat = 0 from rfl] at hw250_0)
                  (try rw [show 0 * 2 = 0 from rfl] at hw250_0)
                  (try rw [Addr.add_zero'] at hw250_0)
                  obtain rfl : ad239 = ad250 := (by injection e250)
                  have qi250 : (0 < l0.length) = True := eq_true (by omega)
                  (try rw [show ((0 : Int)).toNat = 0 from rfl] at hx250_0)
                  (try rw [show 0 * 2 = 0 from rfl] at hx250_0)
                  (try rw [Addr.add_zero'] at hx250_0)
                  (try rw [show ((0 : Int)).toNat = 0 from rfl] at hx250_1)
                  (try rw [show 0 * 2 = 0 from rfl] at hx250_1)
                  (try rw [Addr.add_zero'] at hx250_1)
                  replace hx250_0 := zu hx250_0 HB
                  replace hx250_1 := zu hx250_1 HB
                  replace p250 := eq_true p250
                  replace q250 := eq_true q250
                  refine start_ (n := 9) (S := fun w' => w'.cell? ⟨gb242, 0, none⟩ = some (.int .i64 ((rd_T32 l0 x8_3).f0)) ∧ w'.cell? ⟨gb242, 1, none⟩ = some (.int .i64 ((rd_T32 l0 x8_3).f1)) ∧ w'.cell? ⟨gb243, 0, none⟩ = some (.int .i64 ((rd_T32 l0 (ji24)).f0)) ∧ w'.cell? ⟨gb243, 1, none⟩ = some (.int .i64 ((rd_T32 l0 (ji24)).f1)) ∧ w'.cell? ad239 = some (.int .i64 ((rd_T32 l0 0).f0)) ∧ w'.cell? ⟨ad239.block, ad239.off + 1, none⟩ = some (.int .i64 ((rd_T32 l0 0).f1))) (ds := []) #[Z0, Z0, Z0, Z0, Z0, Z0, Z0, Z0, Z0] (by kernel_rfl) rfl rfl ⟨(blk_cell BK242.out 0).trans rfl, (blk_cell BK242.out 1).trans rfl, (blk_cell BK243.out 0).trans rfl, (blk_cell BK243.out 1).trans rfl, (zu hw250_0 HB), (zu hw250_1 HB)⟩ (fun hHeld => ?_); refine with_tabW thatchref07_outline.tab29 thatchref07_outline.bits29 (fun HT_ HW_ => ?_)
                  generalize w85.drew = w86 at BK242 BK243 BK244 HB hx250_0 hx250_1 hHeld ⊢
                  refine zp 0 (some 125) #[Z1, Z0, Z0, Z0, Z0, Z0, Z0, Z0, Z0] rfl rfl (any_of HT_.out (by kernel_rfl)) ?_
                  refine zp 1 (some 126) #[Z1, Z1, Z0, Z0, Z0, Z0, Z0, Z0, Z0] rfl rfl (any_of HT_.out (by kernel_rfl)) ?_
                  refine zp 2 (some 127) #[Z1, Z1, Z1, Z0, Z0, Z0, Z0, Z0, Z0] rfl rfl (any_of HT_.out (by kernel_rfl)) ?_
                  refine take_ (i := 3) (N := some 128) (v := ?_) (a' := ?_) #[Z1, Z1, Z1, Z1, Z0, Z0, Z0, Z0, Z0] rfl rfl (take_ofW HT_.out HW_.out (by kernel_rfl)) (fun _ _ _ h => h) (Or.inl ⟨by rfl, ?_⟩) hHeld ?_ ?_
                  rotate_left; · rintro w' ⟨s0, s1, s2, s3, s4, s5⟩; go_simp; with_reducible rfl
                  rotate_left; · simp only [Act.put, List.setIfInBounds_toArray, List.set_cons_zero, List.set_cons_succ, i64_w, i32_w]; rfl
                  refine take_ (i := 4) (N := some 129) (v := ?_) (a' := ?_) #[Z1, Z1, Z1, Z1, Z1, Z0, Z0, Z0, Z0] rfl rfl (take_ofW HT_.out HW_.out (by kernel_rfl)) (fun _ _ _ h => h) (Or.inl ⟨by rfl, ?_⟩) hHeld ?_ ?_
                  rotate_left; · rintro w' ⟨s0, s1, s2, s3, s4, s5⟩; go_simp; with_reducible rfl
                  rotate_left; · simp only [Act.put, List.setIfInBounds_toArray, List.set_cons_zero, List.set_cons_succ, i64_w, i32_w]; rfl
                  refine take_ (i := 5) (N := some 130) (v := ?_) (a' := ?_) #[Z1, Z1, Z1, Z1, Z1, Z1, Z0, Z0, Z0] rfl rfl (take_ofW HT_.out HW_.out (by kernel_rfl)) (fun _ _ _ h => h) (Or.inl ⟨by rfl, ?_⟩) hHeld ?_ ?_
                  rotate_left; · rintro w' ⟨s0, s1, s2, s3, s4, s5⟩; go_simp; with_reducible rfl
                  rotate_left; · simp only [Act.put, List.setIfInBounds_toArray, List.set_cons_zero, List.set_cons_succ, i64_w, i32_w]; rfl
                  refine one_ (i := 6) (N := some 131) #[Z1, Z1, Z1, Z1, Z1, Z1, Z1, Z0, Z0] rfl rfl (one_of HT_.out (by kernel_rfl)) (by decide) (fun K hK => ?_)
                  refine goes_ Try.func63 (by kernel_rfl) rfl #[.agg #[.int .i64 ((rd_T32 l0 0).f0), .int .i64 ((rd_T32 l0 0).f1)], .agg #[.int .i64 ((rd_T32 l0 x8_3).f0), .int .i64 ((rd_T32 l0 x8_3).f1)], .agg #[.int .i64 ((rd_T32 l0 (ji24)).f0), .int .i64 ((rd_T32 l0 (ji24)).f1)]] (by rfl) rfl rfl (by (try simp only [List.map_toArray, List.map_cons, List.map_nil]); first | done | (simp only [hji24]; rfl) | rfl | (simp only [List.length_drop, List.length_take]; rfl)) ?_
                  with_reducible refine (thatchref07_left.calls ((rd_T32 l0 0).f0) ((rd_T32 l0 0).f1) ((rd_T32 l0 x8_3).f0) ((rd_T32 l0 x8_3).f1) ((rd_T32 l0 (ji24)).f0) ((rd_T32 l0 (ji24)).f1) t251 _ A78.out).mono ?_
                  rintro e w87 ⟨rfl, hb⟩
                  refine ⟨_, rfl, ?_⟩
                  have n0_ := zD BK242 hb
                  have n1_ := zD BK243 hb
                  have n2_ := zD BK244 hb
                  have n3_ := zY HB hb
                  clear BK242; clear BK243; clear BK244; clear HB
                  have BK242 := n0_
                  have BK243 := n1_
                  have BK244 := n2_
                  have HB := n3_
                  clear n0_ n1_ n2_ n3_
                  (try clear hb)
                  (try clear hb2)
                  (try clear hk)
                  (try clear hi)
                  refine hK.out _ _ ⟨(blk_cell BK242.out 0).trans rfl, (blk_cell BK242.out 1).trans rfl, (blk_cell BK243.out 0).trans rfl, (blk_cell BK243.out 1).trans rfl, (zu hw250_0 HB), (zu hw250_1 HB)⟩ (fun hHeld => ?_)
                  clear hK K
                  refine norm_ (a' := ?_) ?_ ?_
                  rotate_left
                  ·show Act.put _ (some 131) _ = _
                   simp only [Act.put, List.setIfInBounds_toArray, List.set_cons_zero, List.set_cons_succ, i64_w, i32_w]
                   rfl
                  refine zp 7 (some 132) #[Z1, Z1, Z1, Z1, Z1, Z1, Z1, Z1, Z0] rfl rfl (any_of HT_.out (by kernel_rfl)) ?_
                  refine zp 8 (some 7) #[Z1, Z1, Z1, Z1, Z1, Z1, Z1, Z1, Z1] rfl rfl (any_of HT_.out (by kernel_rfl)) ?_
                  refine done_ (done_of HT_.out (by kernel_rfl)) ?_
                  try go_wp2
                  go_roundg k4
                  case measure => have := HK1.out; have := HK2.out; have := HK3.out; have := HK4.out; omega
                  case rel => exact ⟨(wrap64 (x7_3 + t251)), (wrap64 (x8_3 + 1)), zq, zq, H', ⟨by have := HK1.out; have := HK2.out; have := HK3.out; have := HK4.out; omega⟩, ⟨zw HB⟩⟩
                 rw [if_neg c77] at H
                 exact absurd H (by simp)
              rw [if_neg c29] at H
              exact absurd H (by simp)
             rw [if_neg c28] at H
             exact absurd H (by simp)
            rw [if_neg c26] at H
            exact absurd H (by simp)
           rw [if_neg c25] at H
           exact absurd H (by simp)
          rw [if_neg c22] at H
          exact absurd H (by simp)
         rw [if_neg c21] at H
         exact absurd H (by simp)
        rw [if_neg c20] at H
        have c20b0 : decide (x8_3 < (l0.length : Int)) = false := decide_eq_false c20
        clear c20
        by_cases c88 : x7_3 ≤ 0
        ·rw [if_pos c88] at H
         have c88b0 : decide (x7_3 ≤ 0) = true := decide_eq_true c88
         clear c88
         obtain rfl := Option.some.inj H
         go_wp2
         go_ret
         exact ⟨ze, zw HB⟩
        rw [if_neg c88] at H
        have c88b0 : decide (x7_3 ≤ 0) = false := decide_eq_false c88
        clear c88
        obtain rfl := Option.some.inj H
        go_wp2
        go_ret
        exact ⟨ze, zw HB⟩
 replace c3 := Bool.eq_false_iff.mpr c3
 subst c3
 have H1 : (some 1) = some r := by rw [if_neg (show ¬ (false = true) by decide)] at H; exact H
 clear H
 have H := H1
 clear H1
 obtain rfl := Option.some.inj H
 go_enter Try.func51, Try.ntmps51
 go_wp2_with (first | ((with_reducible refine gate_callee (f := 30) rfl ?_); refine goesL_ (some 16) rfl rfl Try.func30 (by kernel_rfl) rfl #[.int .i64 (l0.length : Int), .int .i64 3, .int .i64 12] rfl za ?_; (with_reducible refine (thatchref07_in.calls (l0.length : Int) 3 12 false _ A2.out).mono ?_); rintro e w' ⟨rfl, ⟨nd, rfl⟩⟩; refine ⟨_, rfl, ?_⟩))
 go_ret
 exact ⟨ze, zw HB⟩
end Go.Proofs.Ytcfpclehogdmbaa.Q
end
section
namespace Go.Proofs.Ytcfpclehogdmbaa.Q
open Go.RowKit Go.Proofs.YtcfpclehogdmbaaW.PrintWords Go.Proofs.YtcfpclehogdmbaaW.PrintLast Go.Proofs.YtcfpclehogdmbaaW.PrintMore
attribute [local go_sem] max2_int min2_int max_two min_two max_three min_three max_four min_four   -- for this text's walks alone
set_option linter.unusedVariables false
set_option linter.unusedSimpArgs false
def points.idx (pred : S32 → Bool) (l : List S32) : Int := match l.findIdx? pred with | some i => (i : Int) | none => -1
theorem points.idx_at (pred : S32 → Bool) (l : List S32) (k : Nat) (hk : k < l.length) (h0 : (l.take k).any pred = false) (h1 : pred (l.getD k z32) = true) : points.idx pred l = k := by
  have h : l.findIdx? pred = some k := by
    rw [List.findIdx?_eq_some_iff_getElem]
    refine ⟨hk, by simpa [List.getD_eq_getElem?_getD, List.getElem?_eq_getElem hk] using h1, fun j hj => ?_⟩
    have := List.any_eq_false.1 h0 l[j] (List.mem_take_iff_getElem.2 ⟨j, by omega, rfl⟩)
    simpa using this
  simp [points.idx, h]
theorem points.idx_no (pred : S32 → Bool) (l : List S32) (h0 : l.any pred = false) : points.idx pred l = -1 := by
  have h : l.findIdx? pred = none := by
    rw [List.findIdx?_eq_none_iff]
    intro x hx
    simpa using List.any_eq_false.1 h0 x hx
  simp [points.idx, h]
theorem points.idx_any (pred : S32 → Bool) (l : List S32) : decide (points.idx pred l ≥ 0) = l.any pred := by
  unfold points.idx
  cases h : l.findIdx? pred with
  | none =>
    rw [List.findIdx?_eq_none_iff] at h
    have : l.any pred = false := List.any_eq_false.2 (fun x hx => by simp [h x hx])
    simp [this]
  | some i =>
    obtain ⟨hi, hp, _⟩ := List.findIdx?_eq_some_iff_getElem.1 h
    have : l.any pred = true := List.any_eq_true.2 ⟨_, List.getElem_mem hi, hp⟩
    simp [this]
theorem points.take_any (pred : S32 → Bool) (l : List S32) (k : Nat) (hk : k < l.length) (h0 : (l.take k).any pred = false) (h1 : pred (l.getD k z32) = false) : (l.take (k + 1)).any pred = false := by
  rw [List.take_succ_eq_append_getElem hk, List.any_append, h0]
  simpa [List.getD_eq_getElem?_getD, List.getElem?_eq_getElem hk] using h1
set_option maxHeartbeats 2000000 in
set_option maxRecDepth 100000 in
theorem points.index (c : Nat) (caps : Array Value) (pred : S32 → Bool) (A0 : Option Addr) (c0 : Nat) (l0 : List S32) (w : World) (hr0 : Kd.C k32 w A0 l0.length l0) (hc0 : l0.length ≤ c0)
    (hcf : ∀ args w, (callFunc c args).run Try.prog w = .ok (.enter c args) w)
    (hp : ∀ (x : S32) (W : World), Below w.heap.size w W → Calls Try.prog c (#[.agg #[.int .i64 x.f0, .int .i64 x.f1]] ++ caps) W fun e W' => e = .returned (.bool (pred x)) ∧ Below W.heap.size W W') :
    Calls Try.prog 65 #[.slice A0 l0.length c0, .func (.func c) #[] caps] w fun e w' => e = .returned (.int .i64 (points.idx pred l0)) ∧ Below w.heap.size w w' := by
  have hu23 := Try.underlying22
  have hu55 := Try.underlying32
  have hln : (l0.length : Int) ≤ 9223372036854775807 := by have := hr0.2.1; omega
  have HR0 := Aside0.mk hr0
  have HC0 := Aside0.mk hc0
  have HP := Aside0.mk hp
  clear hr0 hc0 hp
  go_enter Try.func65, Try.ntmps65
  go_wp2
  go_loopw [8] (fun i wr => ∃ x : Int, i = .int .i64 x ∧ 0 ≤ x ∧ x ≤ (l0.length : Int) ∧ Aside0 ((l0.take x.toNat).any pred = false) ∧ Aside0 (Below w.heap.size w wr))
    (fun i _ => l0.length - (intOf i).toNat)
  case atStart => exact ⟨0, rfl, by omega, by omega, ⟨by simp⟩, ⟨Below.refl _ _⟩⟩
  case round =>
    obtain ⟨x, rfl, hx0, hx1, HT, HB⟩ := hrel
    by_cases hlt : x < (l0.length : Int)
    · obtain ⟨ad, e1, h0, h1⟩ := at_T32 (Kd.C_below (w1 := wr) HR0.out HB.out) x hx0 hlt
      cases e1
      have p1 := eq_true hx0
      have q1 := eq_true hlt
      have HPx := HP.out (rd_T32 l0 x) wr HB.out
      cases hpx : pred (rd_T32 l0 x) with
      | true =>
        rw [hpx] at HPx
        have HPX := Aside0.mk hpx
        clear hpx
        go_wp2_with (refine HPx.mono ?_; rintro e w1 ⟨rfl, hb⟩)
        have HB1 := Aside0.mk hb
        clear hb
        go_wp2
        go_ret
        refine ⟨by rw [points.idx_at pred l0 x.toNat (by omega) HT.out HPX.out, Int.toNat_of_nonneg hx0]; rfl, HB.out.trans (HB1.out.mono HB.out.size)⟩
      | false =>
        rw [hpx] at HPx
        have HPX := Aside0.mk hpx
        clear hpx
        go_wp2_with (refine HPx.mono ?_; rintro e w1 ⟨rfl, hb⟩)
        have HB1 := Aside0.mk hb
        clear hb
        have hle : x + 1 ≤ 9223372036854775807 := by omega
        go_wp2
        go_roundw
        case rel => exact ⟨x + 1, rfl, by omega, by omega, ⟨by rw [show (x + 1).toNat = x.toNat + 1 by omega]; exact points.take_any pred l0 _ (by omega) HT.out HPX.out⟩, ⟨HB.out.trans (HB1.out.mono HB.out.size)⟩⟩
        case measure => simp [intOf]; omega
    have hx2 : x = (l0.length : Int) := by omega
    subst hx2
    have HT2 := Aside0.mk (points.idx_no pred l0 (by simpa using HT.out))
    clear HT
    go_wp2
    go_ret
    exact ⟨by rw [HT2.out]; rfl, HB.out⟩
set_option maxHeartbeats 1000000 in
theorem points.contains (c : Nat) (caps : Array Value) (pred : S32 → Bool) (A0 : Option Addr) (c0 : Nat) (l0 : List S32) (w : World) (hr0 : Kd.C k32 w A0 l0.length l0) (hc0 : l0.length ≤ c0)
    (hcf : ∀ args w, (callFunc c args).run Try.prog w = .ok (.enter c args) w)
    (hp : ∀ (x : S32) (W : World), Below w.heap.size w W → Calls Try.prog c (#[.agg #[.int .i64 x.f0, .int .i64 x.f1]] ++ caps) W fun e W' => e = .returned (.bool (pred x)) ∧ Below W.heap.size W W') :
    Calls Try.prog 56 #[.slice A0 l0.length c0, .func (.func c) #[] caps] w fun e w' => e = .returned (.bool (l0.any pred)) ∧ Below w.heap.size w w' := by
  have HI := points.index c caps pred A0 c0 l0 w hr0 hc0 hcf hp
  clear hr0 hc0 hcf hp
  have HA := Aside0.mk (points.idx_any pred l0)
  generalize points.idx pred l0 = i at HI HA
  go_enter Try.func56, Try.ntmps56
  go_wp2_with (refine HI.mono ?_; rintro e w1 ⟨rfl, hb⟩)
  have HB1 := Aside0.mk hb
  clear hb
  go_wp2
  go_ret
  exact ⟨by rw [← HA.out]; rfl, HB1.out⟩
end Go.Proofs.Ytcfpclehogdmbaa.Q
end
section
namespace Go.Proofs.Ytcfpclehogdmbaa.Q
open Go.RowKit Go.Proofs.YtcfpclehogdmbaaW.PrintWords Go.Proofs.YtcfpclehogdmbaaW.PrintLast Go.Proofs.YtcfpclehogdmbaaW.PrintMore
attribute [local go_sem] max2_int min2_int max_two min_two max_three min_three max_four min_four   -- for this text's walks alone
set_option linter.unusedVariables false
set_option linter.unusedSimpArgs false
attribute [local go_sem high] eqA32
def api_Pt_66.l0 : Nat → List (S32) → Int → Int → Int → Int → Option (Int)
 | 0, _, _, _, _, _ => none
 | k + 1, x0, x7, x8, x134000, x134001 => if x8 < x7 then (if 0 ≤ x8 then (if x8 < (x0.length : Int) then (if (x134000 == ((rd_T32 x0 x8).f0) && (x134001 == ((rd_T32 x0 x8).f1))) = true then (some x8) else (api_Pt_66.l0 k x0 x7 (wrap64 (x8 + 1)) x134000 x134001)) else (none)) else (none)) else (some (-1))
def api_Pt_66.f (k : Nat) (l0 : List (S32)) (a1_0 : Int) (a1_1 : Int) : Option (Int) := api_Pt_66.l0 k l0 (l0.length : Int) 0 a1_0 a1_1
set_option maxHeartbeats 8000000 in
set_option maxRecDepth 100000 in
theorem api_Pt_66.calls (k : Nat) (A0 : Option Addr) (c0 : Nat) (l0 : List (S32)) (a1_0 : Int) (a1_1 : Int) (r : Int) (w : World) (hr0 : Kd.C k32 w A0 l0.length l0) (hc0 : l0.length ≤ c0) (h : api_Pt_66.f k l0 a1_0 a1_1 = some r) :
  Calls Try.prog 66 #[.slice A0 l0.length c0, .agg #[.int .i64 a1_0, .int .i64 a1_1]] w fun e w' => e = .returned (.int .i64 r) ∧ Below w.heap.size w w' := by
 have hu32 := Try.underlying32
 have HR0 := Aside0.mk hr0
 have HC0 := Aside0.mk hc0
 clear hr0 hc0
 have HB := Aside0.mk (Below.refl w.heap.size w)
 have H : (api_Pt_66.l0 k l0 (l0.length : Int) 0 a1_0 a1_1) = some r := h
 clear h
 have H' := Aside0.mk H
 clear H
 go_enter Try.func66, Try.ntmps66
 go_wp2_with (first | ((with_reducible refine gate_dst (N := 3) rfl ?_); refine zx 3 #[.int .i64 a1_0, .int .i64 a1_1] 32 ?_; intro gb133 hg w3 hbox hb; have n0_ := zY HB hb; have n1_ := Aside0.mk (hbox); have n2_ := zS hg HB; have n3_ := zS hg HB; clear HB; have HB := n0_; have BK133 := n1_; have GW133 := n2_; have GE133 := n3_; clear n0_ n1_ n2_ n3_; clear hb hbox hg))
 repeat (go_quiet (first | ((with_reducible refine gate_dst (N := 3) rfl ?_); refine zx 3 #[.int .i64 a1_0, .int .i64 a1_1] 32 ?_; intro gb133 hg w3 hbox hb; have n0_ := zY HB hb; have n1_ := Aside0.mk (hbox); have n2_ := zS hg HB; have n3_ := zS hg HB; clear HB; have HB := n0_; have BK133 := n1_; have GW133 := n2_; have GE133 := n3_; clear n0_ n1_ n2_ n3_; clear hb hbox hg)); try go_wp2_with (first | ((with_reducible refine gate_dst (N := 3) rfl ?_); refine zx 3 #[.int .i64 a1_0, .int .i64 a1_1] 32 ?_; intro gb133 hg w3 hbox hb; have n0_ := zY HB hb; have n1_ := Aside0.mk (hbox); have n2_ := zS hg HB; have n3_ := zS hg HB; clear HB; have HB := n0_; have BK133 := n1_; have GW133 := n2_; have GE133 := n3_; clear n0_ n1_ n2_ n3_; clear hb hbox hg)))
 go_loopg [8] k (fun kq v8 w' => ∃ (x8_1 : Int), v8 = .int .i64 x8_1 ∧ Aside0 (api_Pt_66.l0 kq l0 (l0.length : Int) x8_1 a1_0 a1_1 = some r) ∧ Aside0 (kq ≤ k) ∧ Aside0 (w'.heap[gb133]? = some (.cells #[.int .i64 a1_0, .int .i64 a1_1] 32 (0, 0))) ∧ Aside0 (Below w.heap.size w w'))
 case atStart => exact ⟨(0), zq, H', ⟨Nat.le_refl _⟩, ⟨zb BK133⟩, ⟨zw HB⟩⟩
 case round =>
  clear H'; try clear p2
  obtain ⟨x8_1, rfl, HA, HK1, BK133, HB⟩ := hrel
  cases gk with
  | zero => exact absurd HA.out (by simp [api_Pt_66.l0])
  | succ k1 =>
   have H := HA.out
   clear HA
   simp only [api_Pt_66.l0] at H
   by_cases c4 : x8_1 < (l0.length : Int)
   ·rw [if_pos c4] at H
    have c4b0 : decide (x8_1 < (l0.length : Int)) = true := decide_eq_true c4
    clear c4
    by_cases c5 : 0 ≤ x8_1
    ·rw [if_pos c5] at H
     have c5b0 : decide (0 ≤ x8_1) = true := decide_eq_true c5
     clear c5
     by_cases c6 : x8_1 < (l0.length : Int)
     ·rw [if_pos c6] at H
      have c6b0 : decide (x8_1 < (l0.length : Int)) = true := decide_eq_true c6
      clear c6
      by_cases c7 : (a1_0 == ((rd_T32 l0 x8_1).f0) && (a1_1 == ((rd_T32 l0 x8_1).f1))) = true
      ·rw [if_pos c7] at H
       have c7b0 : (a1_0 == ((rd_T32 l0 x8_1).f0) && (a1_1 == ((rd_T32 l0 x8_1).f1))) = true := c7
       (try (have c7b1 : decide (a1_0 = ((rd_T32 l0 x8_1).f0) && (a1_1 == ((rd_T32 l0 x8_1).f1))) = true := by simpa using c7))
       (try (have c7b2 : (a1_0 == ((rd_T32 l0 x8_1).f0) && (a1_1 == ((rd_T32 l0 x8_1).f1))) = true := by simpa using c7))
       clear c7
       obtain rfl := Option.some.inj H
       obtain ⟨hcz8_0, hcz8_1, hfz8_0, hfz8_1⟩ := zk2 BK133
       have p134 : 0 ≤ (x8_1 : Int) := of_decide_eq_true zj
       have q134 : x8_1 < (l0.length : Int) := of_decide_eq_true zj
       obtain ⟨ad134, e134, hx134_0, hx134_1⟩ := at_T32 HR0.out x8_1 p134 q134
       cases e134
       replace hx134_0 := zu hx134_0 HB
       replace hx134_1 := zu hx134_1 HB
       replace p134 := eq_true p134
       replace q134 := eq_true q134
       go_wp2
       repeat (go_quiet (fail); try go_wp2)
       go_ret
       exact ⟨ze, zw HB⟩
      rw [if_neg c7] at H
      have c7b0 : (a1_0 == ((rd_T32 l0 x8_1).f0) && (a1_1 == ((rd_T32 l0 x8_1).f1))) = false := by simpa using c7
      (try (have c7b1 : decide (a1_0 = ((rd_T32 l0 x8_1).f0) && (a1_1 == ((rd_T32 l0 x8_1).f1))) = false := by simpa using c7))
      (try (have c7b2 : (a1_0 == ((rd_T32 l0 x8_1).f0) && (a1_1 == ((rd_T32 l0 x8_1).f1))) = false := by simpa using c7))
      (try (have c7b3 : ¬ (a1_0 = ((rd_T32 l0 x8_1).f0) && (a1_1 == ((rd_T32 l0 x8_1).f1))) := by simpa using c7))
      clear c7
      have H' := Aside0.mk H
      clear H
      obtain ⟨hcz9_0, hcz9_1, hfz9_0, hfz9_1⟩ := zk2 BK133
      have p134 : 0 ≤ (x8_1 : Int) := of_decide_eq_true zj
      have q134 : x8_1 < (l0.length : Int) := of_decide_eq_true zj
      obtain ⟨ad134, e134, hx134_0, hx134_1⟩ := at_T32 HR0.out x8_1 p134 q134
      cases e134
      replace hx134_0 := zu hx134_0 HB
      replace hx134_1 := zu hx134_1 HB
      replace p134 := eq_true p134
      replace q134 := eq_true q134
      go_wp2
      repeat (go_quiet (fail); try go_wp2)
      go_roundg k1
      case measure => have := HK1.out; omega
      case rel => exact ⟨(wrap64 (x8_1 + 1)), zq, H', ⟨by have := HK1.out; omega⟩, ⟨zb BK133⟩, ⟨zw HB⟩⟩
     rw [if_neg c6] at H
     exact absurd H (by simp)
    rw [if_neg c5] at H
    exact absurd H (by simp)
   rw [if_neg c4] at H
   have c4b0 : decide (x8_1 < (l0.length : Int)) = false := decide_eq_false c4
   clear c4
   obtain rfl := Option.some.inj H
   go_wp2
   repeat (go_quiet (fail); try go_wp2)
   go_ret
   exact ⟨ze, zw HB⟩
def api_Pt_58.f (k : Nat) (l0 : List (S32)) (a1_0 : Int) (a1_1 : Int) : Option (Bool) := (api_Pt_66.f k l0 a1_0 a1_1).bind fun t136 => (some (decide (t136 ≥ 0)))
set_option maxHeartbeats 8000000 in
set_option maxRecDepth 100000 in
theorem api_Pt_58.calls (k : Nat) (A0 : Option Addr) (c0 : Nat) (l0 : List (S32)) (a1_0 : Int) (a1_1 : Int) (r : Bool) (w : World) (hr0 : Kd.C k32 w A0 l0.length l0) (hc0 : l0.length ≤ c0) (h : api_Pt_58.f k l0 a1_0 a1_1 = some r) :
  Calls Try.prog 58 #[.slice A0 l0.length c0, .agg #[.int .i64 a1_0, .int .i64 a1_1]] w fun e w' => e = .returned (.bool r) ∧ Below w.heap.size w w' := by
 have hu32 := Try.underlying32
 have HR0 := Aside0.mk hr0
 have HC0 := Aside0.mk hc0
 clear hr0 hc0
 have HB := Aside0.mk (Below.refl w.heap.size w)
 have H : ((api_Pt_66.f k l0 a1_0 a1_1).bind fun t136 => (some (decide (t136 ≥ 0)))) = some r := h
 clear h
 replace H := Option.bind_eq_some_iff.mp H
 obtain ⟨t136, A30, H⟩ := H
 replace H : (some (decide (t136 ≥ 0))) = some r := H
 have A3 := Aside0.mk A30
 clear A30
 obtain rfl := Option.some.inj H
 go_enter Try.func58, Try.ntmps58
 go_wp2_with (first | ((with_reducible refine gate_dst (N := 3) rfl ?_); refine zx 3 #[.int .i64 a1_0, .int .i64 a1_1] 32 ?_; intro gb135 hg w4 hbox hb; have n0_ := zY HB hb; have n1_ := Aside0.mk (hbox); have n2_ := zS hg HB; have n3_ := zS hg HB; clear HB; have HB := n0_; have BK135 := n1_; have GW135 := n2_; have GE135 := n3_; clear n0_ n1_ n2_ n3_; clear hb hbox hg; obtain ⟨hcz5_0, hcz5_1, hfz5_0, hfz5_1⟩ := zk2 BK135) | ((with_reducible refine gate_callee (f := 66) rfl ?_); refine goesL_ (some 7) rfl rfl Try.func66 (by kernel_rfl) rfl #[.slice A0 l0.length c0, .agg #[.int .i64 a1_0, .int .i64 a1_1]] rfl za ?_; (with_reducible refine (api_Pt_66.calls k _ _ l0 a1_0 a1_1 t136 _ ?side1 ?side2 A3.out).mono ?_); (case side1 => exact zl HR0 HB); (case side2 => exact HC0.out); rintro e w6 ⟨rfl, hb⟩; refine ⟨_, rfl, ?_⟩; have n0_ := zD BK135 hb; have n1_ := zY HB hb; clear BK135; clear HB; have BK135 := n0_; have HB := n1_; clear n0_ n1_; (try clear hb); (try clear hb2); (try clear hk); (try clear hi)))
 go_ret
 exact ⟨ze, zw HB⟩
end Go.Proofs.Ytcfpclehogdmbaa.Q
end
section
namespace Go.Proofs.Ytcfpclehogdmbaa.Q
open Go.RowKit Go.Proofs.YtcfpclehogdmbaaW.PrintWords Go.Proofs.YtcfpclehogdmbaaW.PrintLast Go.Proofs.YtcfpclehogdmbaaW.PrintMore
attribute [local go_sem] max2_int min2_int max_two min_two max_three min_three max_four min_four   -- for this text's walks alone
set_option linter.unusedVariables false
set_option linter.unusedSimpArgs false
def wear_checkOutline.placed (p : S32) : Bool := decide (0 ≤ p.f0 ∧ p.f0 ≤ 400 ∧ 0 ≤ p.f1 ∧ p.f1 ≤ 400)
def wear_checkOutline.same (p q : S32) : Bool := p.f0 == q.f0 && p.f1 == q.f1
def wear_checkOutline.twice (l : List S32) : Nat → Bool
  | 0 => false
  | k + 1 => wear_checkOutline.twice l k || (l.take k).any (wear_checkOutline.same (l.getD k z32))
def wear_checkOutline.back (a b : S32 × S32) : Bool :=
  decide (wear_has.left a.1 a.2 b.2.f0 b.2.f1 = 0) && decide (wrap64 (wrap64 (wrap64 (a.2.f0 - a.1.f0) * wrap64 (b.2.f0 - b.1.f0)) + wrap64 (wrap64 (a.2.f1 - a.1.f1) * wrap64 (b.2.f1 - b.1.f1))) < 0)
def wear_checkOutline.step (l : List S32) (st : (S32 × S32) × Bool × Bool) (x : S32 × S32) : (S32 × S32) × Bool × Bool :=
  (x, st.2.1 || l.any (fun p => decide (wear_has.left x.1 x.2 p.f0 p.f1 > 0)), st.2.2 && !(l.any fun p => decide (wear_has.left x.1 x.2 p.f0 p.f1 < 0)) && !(wear_checkOutline.back st.1 x))
def wear_checkOutline.scan (l : List S32) (pre : List (S32 × S32)) : (S32 × S32) × Bool × Bool := pre.foldl (wear_checkOutline.step l) ((l.getD (l.length - 1) z32, l.getD 0 z32), false, true)
def wear_checkOutline.err (l : List S32) : Int :=
  if !(decide (3 ≤ l.length ∧ l.length ≤ 12)) || l.any (fun p => !(wear_checkOutline.placed p)) then 1
  else if wear_checkOutline.twice l l.length then 6
  else if (wear_checkOutline.scan l (upTo (wear_sides.edge l) l.length)).2.2 && (wear_checkOutline.scan l (upTo (wear_sides.edge l) l.length)).2.1 then 0 else 9
def wear_checkOutline.f (l0 : List S32) : Option (Int) := some (wear_checkOutline.err l0)
theorem wear_checkOutline.scan_snoc (l : List S32) (pre : List (S32 × S32)) (x : S32 × S32) : wear_checkOutline.scan l (pre ++ [x]) = wear_checkOutline.step l (wear_checkOutline.scan l pre) x := by
  unfold wear_checkOutline.scan
  rw [List.foldl_append]
  rfl
theorem wear_checkOutline.scan_bad (l : List S32) (pre suf : List (S32 × S32)) (h : (wear_checkOutline.scan l pre).2.2 = false) : (wear_checkOutline.scan l (pre ++ suf)).2.2 = false := by
  have key : ∀ (suf : List (S32 × S32)) (st : (S32 × S32) × Bool × Bool), st.2.2 = false → (suf.foldl (wear_checkOutline.step l) st).2.2 = false := by
    intro suf
    induction suf with
    | nil => exact fun st h => h
    | cons x suf ih => exact fun st h => ih _ (by simp [wear_checkOutline.step, h])
  unfold wear_checkOutline.scan at *
  rw [List.foldl_append]
  exact key suf _ h
theorem wear_checkOutline.twice_yes (l : List S32) (k n : Nat) (hk : k ≤ n) (h : wear_checkOutline.twice l k = true) : wear_checkOutline.twice l n = true := by
  induction n with
  | zero => obtain rfl : k = 0 := by omega
            exact h
  | succ n ih =>
    rcases Nat.lt_or_ge n k with h1 | h1
    · obtain rfl : k = n + 1 := by omega
      exact h
    simp [wear_checkOutline.twice, ih h1]
theorem pts.index (l : List S32) (p0 p1 : Int) (hn : l.length ≤ 9223372036854775807) (d : Nat) : ∀ (k x : Nat), x ≤ l.length → l.length - x = d → d < k → ∃ r : Int, api_Pt_66.l0 k l (l.length : Int) x p0 p1 = some r ∧ (decide (r ≥ 0) = (l.drop x).any fun q => p0 == q.f0 && p1 == q.f1) := by
  induction d with
  | zero =>
    intro k x hx hd hk
    obtain ⟨k, rfl⟩ : ∃ m, k = m + 1 := ⟨k - 1, by omega⟩
    obtain rfl : x = l.length := by omega
    exact ⟨-1, by simp only [api_Pt_66.l0]; rw [if_neg (by omega)], by simp⟩
  | succ d ih =>
    intro k x hx hd hk
    obtain ⟨k, rfl⟩ : ∃ m, k = m + 1 := ⟨k - 1, by omega⟩
    have hlt : x < l.length := by omega
    have hrd : rd_T32 l (x : Int) = l[x] := by simp [rd_T32, List.getD_eq_getElem?_getD, List.getElem?_eq_getElem hlt]
    simp only [api_Pt_66.l0]
    rw [if_pos (by omega), if_pos (by omega), if_pos (by omega), hrd, List.drop_eq_getElem_cons hlt, List.any_cons]
    by_cases hc : (p0 == l[x].f0 && p1 == l[x].f1) = true
    · exact ⟨x, by rw [if_pos hc], by rw [hc]; simp⟩
    obtain ⟨r, h1, h2⟩ := ih k (x + 1) (by omega) (by omega) (by omega)
    refine ⟨r, ?_, ?_⟩
    · rw [if_neg hc, show wrap64 ((x : Int) + 1) = ((x + 1 : Nat) : Int) by unfold wrap64; omega]; exact h1
    rw [h2, Bool.eq_false_iff.2 hc, Bool.false_or]
theorem pts.contains (l : List S32) (p0 p1 : Int) (hn : l.length ≤ 9223372036854775807) : ∃ k, api_Pt_58.f k l p0 p1 = some (l.any fun q => p0 == q.f0 && p1 == q.f1) := by
  obtain ⟨r, h1, h2⟩ := pts.index l p0 p1 hn l.length (l.length + 1) 0 (by omega) (by omega) (by omega)
  refine ⟨l.length + 1, ?_⟩
  unfold api_Pt_58.f api_Pt_66.f
  rw [show ((0 : Nat) : Int) = 0 from rfl] at h1
  rw [h1, Option.bind_some, h2]
  rfl
set_option maxHeartbeats 1000000 in
theorem outline1.calls (x : S32) (W : World) : Calls Try.prog 57 #[.agg #[.int .i64 x.f0, .int .i64 x.f1]] W fun e W' => e = .returned (.bool (!(wear_checkOutline.placed x))) ∧ Below W.heap.size W W' := by
  have hu32 := Try.underlying32
  have HPL := Aside0.mk (wear_placed.tells x.f0 x.f1)
  have HE := Aside0.mk (show wear_checkOutline.placed x = decide (0 ≤ x.f0 ∧ x.f0 ≤ 400 ∧ 0 ≤ x.f1 ∧ x.f1 ≤ 400) from rfl)
  generalize decide (0 ≤ x.f0 ∧ x.f0 ≤ 400 ∧ 0 ≤ x.f1 ∧ x.f1 ≤ 400) = b at HPL HE
  go_enter Try.func57, Try.ntmps57
  go_wp2_with (go_at_call 40; refine (wear_placed.calls _ _ _ _ HPL.out).mono ?_; rintro e w1 ⟨rfl, hb⟩; have HB := Aside0.mk hb; clear hb)
  go_ret
  exact ⟨by rw [HE.out]; rfl, ((Below.refl _ W).alloc (Nat.le_refl _) _).trans (HB.out.mono (by simp))⟩
def edgeCells (x : S32 × S32) : Array Value := #[.int .i64 x.1.f0, .int .i64 x.1.f1, .int .i64 x.2.f0, .int .i64 x.2.f1]
theorem four_set {W : World} {g : Nat} {a b c d p q r s : Value} {t : TypeId} (h : W.heap[g]? = some (.cells #[a, b, c, d] t (0, 0))) :
    ((((W.setCell ⟨g, 0, none⟩ p).setCell ⟨g, 1, none⟩ q).setCell ⟨g, 2, none⟩ r).setCell ⟨g, 3, none⟩ s).heap[g]? = some (.cells #[p, q, r, s] t (0, 0)) := by
  refine blk_put (cs := #[p, q, r, d]) ?_ 3 _ rfl
  refine blk_put (cs := #[p, q, c, d]) ?_ 2 _ rfl
  refine blk_put (cs := #[p, b, c, d]) ?_ 1 _ rfl
  exact blk_put (cs := #[a, b, c, d]) h 0 _ rfl
theorem four_other {W : World} {g k : Nat} {p q r s : Value} (hk : k ≠ g) :
    ((((W.setCell ⟨g, 0, none⟩ p).setCell ⟨g, 1, none⟩ q).setCell ⟨g, 2, none⟩ r).setCell ⟨g, 3, none⟩ s).heap[k]? = W.heap[k]? := by
  rw [Below.heap_setCell _ _ _ k hk, Below.heap_setCell _ _ _ k hk, Below.heap_setCell _ _ _ k hk, Below.heap_setCell _ _ _ k hk]
theorem four_below {B : Nat} {V W : World} {g : Nat} {p q r s : Value} (h : Below B V W) (hg : B ≤ g) : Below B V ((((W.setCell ⟨g, 0, none⟩ p).setCell ⟨g, 1, none⟩ q).setCell ⟨g, 2, none⟩ r).setCell ⟨g, 3, none⟩ s) :=
  (((h.setCell hg _).setCell hg _).setCell hg _).setCell hg _
theorem four_keeps {W : World} {g : Nat} {p q r s : Value} : KeepsOthers W ((((W.setCell ⟨g, 0, none⟩ p).setCell ⟨g, 1, none⟩ q).setCell ⟨g, 2, none⟩ r).setCell ⟨g, 3, none⟩ s) :=
  (((KeepsOthers.setCell _ _ _).trans (KeepsOthers.setCell _ _ _)).trans (KeepsOthers.setCell _ _ _)).trans (KeepsOthers.setCell _ _ _)
theorem four_size {W : World} {g : Nat} {p q r s : Value} : ((((W.setCell ⟨g, 0, none⟩ p).setCell ⟨g, 1, none⟩ q).setCell ⟨g, 2, none⟩ r).setCell ⟨g, 3, none⟩ s).heap.size = W.heap.size := by
  simp [World.setCell]
structure co.St (w : World) (b5 b6 : Nat) (s0 : Value) (sm : Bool) (last : S32 × S32) (W : World) : Prop where
  k1 : W.heap[w.heap.size]? = some (.cells #[s0] 22 (0, 0))
  k2 : W.heap[w.heap.size + 1]? = some (.cells #[.int .i64 0] 35 (0, 0))
  k5 : W.heap[b5]? = some (.cells #[.bool sm] 4 (0, 0))
  k6 : W.heap[b6]? = some (.cells (edgeCells last) 87 (0, 0))
  kb : Below w.heap.size w W
theorem co.St.own {w : World} {b5 b6 : Nat} {s0 : Value} {β : Type} {sm : β → Bool} {last : β → S32 × S32} {B : Nat} (hB : w.heap.size ≤ B) : OwnFrom B (fun (s : β) W => co.St w b5 b6 s0 (sm s) (last s) W) :=
  fun s X Y row hs hg hr => ⟨blk_ownFrom hs.k1 hg hr, blk_ownFrom hs.k2 hg hr, blk_ownFrom hs.k5 hg hr, blk_ownFrom hs.k6 hg hr, ownFrom_below (β := β) (Nat.le_refl _) hB s X Y row hs.kb hg hr⟩
theorem co.St.below {w : World} {b5 b6 : Nat} {s0 : Value} {sm : Bool} {last : S32 × S32} {W W' : World} (h : co.St w b5 b6 s0 sm last W) (hb : Below W.heap.size W W') : co.St w b5 b6 s0 sm last W' :=
  ⟨(hb.block _ (Array.getElem?_eq_some_iff.1 h.k1).1).trans h.k1, (hb.block _ (Array.getElem?_eq_some_iff.1 h.k2).1).trans h.k2, (hb.block _ (Array.getElem?_eq_some_iff.1 h.k5).1).trans h.k5, (hb.block _ (Array.getElem?_eq_some_iff.1 h.k6).1).trans h.k6, h.kb.trans (hb.mono h.kb.size)⟩
theorem co.St.set5 {w : World} {b5 b6 : Nat} {s0 : Value} {sm : Bool} {last : S32 × S32} {W : World} (h : co.St w b5 b6 s0 sm last W) (h5 : w.heap.size + 2 ≤ b5) (h6 : b5 < b6) (v : Bool) : co.St w b5 b6 s0 v last (W.setCell ⟨b5, 0, none⟩ (.bool v)) :=
  ⟨(Below.heap_setCell _ _ _ _ (by simp; omega)).trans h.k1, (Below.heap_setCell _ _ _ _ (by simp; omega)).trans h.k2, Boxed.set (.bool v) h.k5, (Below.heap_setCell _ _ _ _ (by simp; omega)).trans h.k6, h.kb.setCell (by simp; omega) _⟩
theorem co.St.set6 {w : World} {b5 b6 : Nat} {s0 : Value} {sm : Bool} {last : S32 × S32} {W : World} (h : co.St w b5 b6 s0 sm last W) (h5 : w.heap.size + 2 ≤ b5) (h6 : b5 < b6) (x : S32 × S32) :
    co.St w b5 b6 s0 sm x ((((W.setCell ⟨b6, 0, none⟩ (.int .i64 x.1.f0)).setCell ⟨b6, 1, none⟩ (.int .i64 x.1.f1)).setCell ⟨b6, 2, none⟩ (.int .i64 x.2.f0)).setCell ⟨b6, 3, none⟩ (.int .i64 x.2.f1)) :=
  ⟨(four_other (by omega)).trans h.k1, (four_other (by omega)).trans h.k2, (four_other (by omega)).trans h.k5, four_set h.k6, four_below h.kb (by omega)⟩
theorem co.St.set2 {w : World} {b5 b6 : Nat} {s0 : Value} {sm : Bool} {last : S32 × S32} {W : World} (h : co.St w b5 b6 s0 sm last W) (v : Int) : (W.setCell ⟨w.heap.size + 1, 0, none⟩ (.int .i64 v)).heap[w.heap.size + 1]? = some (.cells #[.int .i64 v] 35 (0, 0)) ∧ Below w.heap.size w (W.setCell ⟨w.heap.size + 1, 0, none⟩ (.int .i64 v)) :=
  ⟨Boxed.set (.int .i64 v) h.k2, h.kb.setCell (by simp) _⟩
def co.I (w : World) (b5 b6 : Nat) (s0 : Value) (l : List S32) (n : Nat) (pre : List (S32 × S32)) (W : World) : Prop :=
  co.St w b5 b6 s0 (wear_checkOutline.scan l pre).2.1 (wear_checkOutline.scan l pre).1 W ∧ (wear_checkOutline.scan l pre).2.2 = true ∧ n ≤ W.heap.size
theorem co.I.own {w : World} {b5 b6 : Nat} {s0 : Value} {l : List S32} {n B : Nat} (hB : w.heap.size ≤ B) : OwnFrom B (co.I w b5 b6 s0 l n) :=
  fun s X Y row hs hg hr => ⟨co.St.own (β := List (S32 × S32)) (sm := fun pre => (wear_checkOutline.scan l pre).2.1) (last := fun pre => (wear_checkOutline.scan l pre).1) hB s X Y row hs.1 hg hr, hs.2.1, Nat.le_trans hs.2.2 hg.size⟩
def co.X (w : World) (l : List S32) (c : Code) (pre : List (S32 × S32)) (W : World) : Prop :=
  c = .ret ∧ (wear_checkOutline.scan l pre).2.2 = false ∧ W.heap[w.heap.size + 1]? = some (.cells #[.int .i64 9] 35 (0, 0)) ∧ Below w.heap.size w W
theorem co.X.own {w : World} {l : List S32} {B : Nat} (hB : w.heap.size ≤ B) (c : Code) : OwnFrom B (co.X w l c) :=
  fun s X Y row hs hg hr => ⟨hs.1, hs.2.1, blk_ownFrom hs.2.2.1 hg hr, ownFrom_below (β := List (S32 × S32)) (Nat.le_refl _) hB s X Y row hs.2.2.2 hg hr⟩
def co.neg (x : S32 × S32) (l : List S32) : Bool := l.any fun p => decide (wear_has.left x.1 x.2 p.f0 p.f1 < 0)
def co.pos (x : S32 × S32) (l : List S32) : Bool := l.any fun p => decide (wear_has.left x.1 x.2 p.f0 p.f1 > 0)
theorem co.take_snoc (f : S32 → Bool) (l : List S32) (j : Int) (h0 : 0 ≤ j) (h1 : j < l.length) : (l.take (j + 1).toNat).any f = ((l.take j.toNat).any f || f (rd_T32 l j)) := by
  rw [show (j + 1).toNat = j.toNat + 1 by omega, List.take_succ_eq_append_getElem (show j.toNat < l.length by omega), List.any_append]
  simp [rd_T32, List.getD_eq_getElem?_getD, List.getElem?_eq_getElem (show j.toNat < l.length by omega)]
theorem co.step_bad1 (l : List S32) (pre : List (S32 × S32)) (x : S32 × S32) (h : co.neg x l = true) : (wear_checkOutline.scan l (pre ++ [x])).2.2 = false := by
  rw [wear_checkOutline.scan_snoc]
  unfold co.neg at h
  simp [wear_checkOutline.step, h]
theorem co.step_bad2 (l : List S32) (pre : List (S32 × S32)) (x : S32 × S32) (h : wear_checkOutline.back (wear_checkOutline.scan l pre).1 x = true) : (wear_checkOutline.scan l (pre ++ [x])).2.2 = false := by
  rw [wear_checkOutline.scan_snoc]
  simp [wear_checkOutline.step, h]
theorem co.step_good (l : List S32) (pre : List (S32 × S32)) (x : S32 × S32) (h0 : (wear_checkOutline.scan l pre).2.2 = true) (h1 : co.neg x l = false) (h2 : wear_checkOutline.back (wear_checkOutline.scan l pre).1 x = false) :
    wear_checkOutline.scan l (pre ++ [x]) = (x, (wear_checkOutline.scan l pre).2.1 || co.pos x l, true) := by
  rw [wear_checkOutline.scan_snoc]
  unfold co.neg at h1
  simp [wear_checkOutline.step, h0, h1, h2, co.pos]
theorem co.neg_take (x : S32 × S32) (l : List S32) (j : Nat) (h : co.neg x (l.take j) = true) : co.neg x l = true := by
  obtain ⟨p, hp, hn⟩ := List.any_eq_true.1 h
  exact List.any_eq_true.2 ⟨p, List.mem_of_mem_take hp, hn⟩
section
open Go.Shelf
attribute [local go_sem] Oper.semAt_some
theorem two_boxes (w : World) (o0 o1 : Obj) (w1 : World) (hb : Below ((w.alloc o0).alloc o1).heap.size ((w.alloc o0).alloc o1) w1) :
    w1.heap[w.heap.size]? = some o0 ∧ w1.heap[w.heap.size + 1]? = some o1 ∧ w.heap.size + 2 ≤ w1.heap.size ∧ Below w.heap.size w w1 := by
  have hs := hb.size
  simp only [World.size_alloc] at hs
  refine ⟨(hb.block _ (by simp; omega)).trans ?_, (hb.block _ (by simp)).trans ?_, by omega, ?_⟩
  · rw [Below.heap_alloc _ _ _ (by simp)]; exact World.alloc_heap_new w o0
  · have := World.alloc_heap_new (w.alloc o0) o1; rwa [World.size_alloc] at this
  exact (((Below.refl _ w).alloc (Nat.le_refl _) o0).alloc (by simp) o1).trans (hb.mono (by simp; omega))
theorem co_end {w w1 : World} {B : Nat} {v u : Value} {t : TypeId} (h : w1.heap[B]? = some (.cells #[u] t (0, 0))) (hb : Below w.heap.size w w1) (hB : w.heap.size ≤ B) :
    (w1.setCell ⟨B, 0, none⟩ v).cell? ⟨B, 0, none⟩ = some v ∧ Below w.heap.size w (w1.setCell ⟨B, 0, none⟩ v) ∧ (w1.setCell ⟨B, 0, none⟩ v).heap[B]? = some (.cells #[v] t (0, 0)) :=
  ⟨(Boxed.set v (show Boxed w1 B t u from h)).cell, hb.setCell hB _, Boxed.set v (show Boxed w1 B t u from h)⟩
theorem in_calls (a b c : Int) (r : Bool) (w : World) (h : wear_in.f a b c = some r) : Calls Try.prog 22 #[.int .i64 a, .int .i64 b, .int .i64 c] w fun e w' => e = .returned (.bool r) ∧ Below w.heap.size w w' :=
  (wear_in.calls a b c r w h).mono fun e w' ⟨h1, nd, h2⟩ => ⟨h1, by rw [h2]; exact pw_below_drewN (Below.refl _ _) _⟩
def bodyPostN (F : Fence) (n : Nat) (P : Program) (fn : Func) (R : Ending → World → Prop) : Exit → Act → World → Prop
  | .normal, a, w | .ret, a, w => LeavesInM F n P fn a.tmps R a.defers .returning w
  | _, _, _ => False
theorem bodyPostN_le {F : Fence} {n : Nat} {P : Program} {fn : Func} {R : Ending → World → Prop} (e : Exit) (a : Act) (w : World) (h : bodyPostN F n P fn R e a w) : bodyPostM F n P fn R e a w := by
  cases e <;> first | exact h | exact h.elim
set_option maxHeartbeats 4000000 in
set_option maxRecDepth 100000 in
theorem wear_checkOutline.calls (A0 : Option Addr) (c0 : Nat) (l0 : List S32) (r : Int) (w : World) (hr0 : Kd.C k32 w A0 l0.length l0) (hc0 : l0.length ≤ c0) (h : wear_checkOutline.f l0 = some r) :
    Calls Try.prog 34 #[.slice A0 l0.length c0] w fun e w' => e = .returned (.int .i64 r) ∧ Below w.heap.size w w' := by
  obtain rfl : wear_checkOutline.err l0 = r := Option.some.inj h
  clear h
  have hu22 := Try.underlying22
  have hu32 := Try.underlying32
  have hu87 := Try.underlying87
  have hln : (l0.length : Int) ≤ 9223372036854775807 := by have := hr0.2.1; omega
  have HR0 := Aside0.mk hr0
  have HC0 := Aside0.mk hc0
  clear hr0 hc0
  by_cases hlen : 3 ≤ l0.length ∧ l0.length ≤ 12
  · have hin : wear_in.f (l0.length : Int) 3 12 = some true := by unfold wear_in.f; rw [if_pos (by omega), decide_eq_true (by omega)]
    have HIN := Aside0.mk hin
    clear hin
    have HCON := Aside0.mk (fun (W : World) (hb : Below w.heap.size w W) => points.contains 57 #[] (fun p => !(wear_checkOutline.placed p)) A0 c0 l0 W (Kd.C_below HR0.out hb) HC0.out (enters_of Try.func57 (by kernel_rfl) rfl) (fun x W' _ => outline1.calls x W'))
    cases hpl : l0.any (fun p => !(wear_checkOutline.placed p)) with
    | true =>
      have HE := Aside0.mk (show wear_checkOutline.err l0 = 1 from by unfold wear_checkOutline.err; rw [hpl]; simp)
      rw [hpl] at HCON
      clear hpl hlen
      go_enter Try.func34, Try.ntmps34
      go_wp2_with (first
        | (go_at_call 22; refine (in_calls _ _ _ _ _ HIN.out).mono ?_; rintro e w1 ⟨rfl, hb⟩; obtain ⟨k0, k1, ks, kb⟩ := two_boxes w _ _ w1 hb; have q0 : w1.cell? ⟨w.heap.size, 0, none⟩ = some (.slice A0 l0.length c0) := (blk_cell k0 0).trans rfl; have K0 := Aside0.mk k0; have K1 := Aside0.mk k1; have KB := Aside0.mk kb; have KS := Aside0.mk ks; clear hb k0 k1 kb ks)
        | (go_at_call 56; refine (HCON.out _ KB.out).mono ?_; rintro e w2 ⟨rfl, hb⟩; have k1 := (hb.block _ (Array.getElem?_eq_some_iff.1 K1.out).1).trans K1.out; have z0 : w2.cell? ⟨w.heap.size + 1, 0, none⟩ = some (.int .i64 0) := (blk_cell k1 0).trans rfl; have z1 := blk_frozen k1 0; have K2 := Aside0.mk k1; have KB2 := Aside0.mk (KB.out.trans (hb.mono KB.out.size)); clear hb k1))
      obtain ⟨e1, e2, _⟩ := co_end (v := .int .i64 1) K2.out KB2.out (by omega)
      refine bodyPost_ret (v := .int .i64 1) (by simp [results, Try.results34, go_sem, e1]) rfl ⟨by rw [HE.out], e2⟩
    | false =>
      rw [hpl] at HCON
      have HCON := Aside0.mk HCON.out
      have HPLN := Aside0.mk hpl
      have HLEN := Aside0.mk hlen
      clear hpl hlen
      refine (callsIn_wide (n := 9)).1 ?_
      refine callsIn_of_wp_marks Try.func34 rfl trivial ?_ rfl
      simp only [Try.ntmps34, List.size_toArray, List.length_cons, List.length_nil, Nat.reduceAdd, Nat.reduceSub, Array.replicate_succ, Array.replicate_zero, List.push_toArray, List.append_toArray, List.nil_append, List.cons_append]
      refine wpIn_wide.2 (Code.wp_mono bodyPostN_le ?_)
      go_wp2_with (first
        | (go_at_call 22; refine (in_calls _ _ _ _ _ HIN.out).mono ?_; rintro e w1 ⟨rfl, hb⟩; obtain ⟨k0, k1, ks, kb⟩ := two_boxes w _ _ w1 hb; have q0 : w1.cell? ⟨w.heap.size, 0, none⟩ = some (.slice A0 l0.length c0) := (blk_cell k0 0).trans rfl; have K0 := Aside0.mk k0; have K1 := Aside0.mk k1; have KB := Aside0.mk kb; have KS := Aside0.mk ks; clear hb k0 k1 kb ks)
        | (go_at_call 56; refine (HCON.out _ KB.out).mono ?_; rintro e w2 ⟨rfl, hb⟩; have k0 := (hb.block _ (Array.getElem?_eq_some_iff.1 K0.out).1).trans K0.out; have k1 := (hb.block _ (Array.getElem?_eq_some_iff.1 K1.out).1).trans K1.out; have kb := KB.out.trans (hb.mono KB.out.size); have ks := Nat.le_trans KS.out hb.size; clear K0 K1 KB KS q0; have K0 := Aside0.mk k0; have K1 := Aside0.mk k1; have KB := Aside0.mk kb; have KS := Aside0.mk ks; have q0 : w2.cell? ⟨w.heap.size, 0, none⟩ = some (.slice A0 l0.length c0) := (blk_cell k0 0).trans rfl; clear hb k0 k1 kb ks))
      go_loopw [21] (fun i wr => ∃ x : Int, i = .int .i64 x ∧ 0 ≤ x ∧ x ≤ (l0.length : Int) ∧ Aside0 (wear_checkOutline.twice l0 x.toNat = false) ∧ Aside0 (wr.heap[w.heap.size]? = some (.cells #[.slice A0 l0.length c0] 22 (0, 0))) ∧ Aside0 (wr.heap[w.heap.size + 1]? = some (.cells #[.int .i64 0] 35 (0, 0))) ∧ Aside0 (Below w.heap.size w wr) ∧ Aside0 (w.heap.size + 2 ≤ wr.heap.size))
        (fun i _ => l0.length - (intOf i).toNat)
      case atStart => exact ⟨0, rfl, by omega, by omega, ⟨rfl⟩, K0, K1, KB, KS⟩
      case round =>
        clear q0 K0 K1 KB KS
        obtain ⟨x, rfl, hx0, hx1, HT, K0, K1, KB, KS⟩ := hrel
        by_cases hlt : x < (l0.length : Int)
        · have q0 : wr.cell? ⟨w.heap.size, 0, none⟩ = some (.slice A0 l0.length c0) := (blk_cell K0.out 0).trans rfl
          obtain ⟨ad, e1, g0, g1⟩ := at_T32 (Kd.C_below (w1 := wr) HR0.out KB.out) x hx0 hlt
          subst e1
          have px := eq_true hx0
          have qx := eq_true hlt
          have HX := Aside0.mk (And.intro hx0 hlt)
          have hcut := cut_to (P := Try.prog) 22 32 .i64 (by kernel_rfl) (i := (Try.prog.info? 32).getD default) (by kernel_rfl) (some ad) l0.length c0 x hx0 (by omega) HC0.out
          have HWX := Aside0.mk (IntWalk.wrap64_in (x + 1) (by omega))
          have hlx : x.toNat < l0.length := by omega
          have HTS := Aside0.mk (show wear_checkOutline.twice l0 (x.toNat + 1) = (l0.take x.toNat).any (fun q => (rd_T32 l0 x).f0 == q.f0 && (rd_T32 l0 x).f1 == q.f1) from by
            simp only [wear_checkOutline.twice, HT.out, Bool.false_or]; rfl)
          have hctk : ∀ W : World, Below w.heap.size w W → Kd.C k32 W (some ad) (l0.take x.toNat).length (l0.take x.toNat) := fun W hb => Kd.C_take (Kd.C_below HR0.out hb) (by omega)
          have hltk : (l0.take x.toNat).length = x.toNat := by rw [List.length_take]; omega
          rw [hltk] at hctk
          obtain ⟨kf, hcon⟩ := pts.contains (l0.take x.toNat) (rd_T32 l0 x).f0 (rd_T32 l0 x).f1 (by rw [hltk]; omega)
          rw [← HTS.out] at hcon
          have HCALL := Aside0.mk (fun (W : World) (hb : Below w.heap.size w W) => api_Pt_58.calls kf (some ad) c0 (l0.take x.toNat) (rd_T32 l0 x).f0 (rd_T32 l0 x).f1 _ W (by rw [hltk]; exact hctk W hb) (by rw [hltk]; have := HC0.out; omega) hcon)
          rw [hltk] at HCALL
          clear hcon hctk hltk hlx HTS HT; clear hx0 hx1 hlt
          go_wp2
          have hb5 : Below wr.heap.size wr (wr.alloc (.cells #[.int .i64 (rd_T32 l0 x).f0, .int .i64 (rd_T32 l0 x).f1] 32)) := (Below.refl _ _).alloc (Nat.le_refl _) _
          have k5 : (wr.alloc (.cells #[.int .i64 (rd_T32 l0 x).f0, .int .i64 (rd_T32 l0 x).f1] 32)).heap[wr.heap.size]? = some (.cells #[.int .i64 (rd_T32 l0 x).f0, .int .i64 (rd_T32 l0 x).f1] 32 (0, 0)) := World.alloc_heap_new _ _
          generalize wr.alloc (.cells #[.int .i64 (rd_T32 l0 x).f0, .int .i64 (rd_T32 l0 x).f1] 32) = w5 at hb5 k5 ⊢
          have K05 := Aside0.mk ((hb5.block _ (Array.getElem?_eq_some_iff.1 K0.out).1).trans K0.out)
          have K15 := Aside0.mk ((hb5.block _ (Array.getElem?_eq_some_iff.1 K1.out).1).trans K1.out)
          have KB5 := Aside0.mk (KB.out.trans (hb5.mono KB.out.size))
          have KS5 := Aside0.mk (Nat.le_trans KS.out hb5.size)
          have h4 : w5.cell? ⟨w.heap.size, 0, none⟩ = some (.slice (some ad) l0.length c0) := (blk_cell K05.out 0).trans rfl
          obtain ⟨h0, h1⟩ := zc2 ⟨k5⟩
          clear hb5 k5 q0 g0 g1
          refine start_ (n := 5) (S := fun w' => w'.cell? ⟨w.heap.size, 0, none⟩ = some (.slice (some ad) l0.length c0) ∧ w'.cell? ⟨wr.heap.size, 0, none⟩ = some (.int .i64 (rd_T32 l0 x).f0) ∧ w'.cell? ⟨wr.heap.size, 1, none⟩ = some (.int .i64 (rd_T32 l0 x).f1)) (ds := [4]) #[Z0, Z0, Z0, Z0, Z0] (by kernel_rfl) rfl rfl ⟨h4, h0, h1⟩ (fun hHeld => ?_)
          refine take_ (i := 0) (N := (some 26)) (v := ?_) (a' := ?_) #[Z1, Z0, Z0, Z0, Z0] rfl rfl (by kernel_rfl) (fun _ _ _ h => h) (Or.inl ⟨by rfl, ?_⟩) hHeld ?_ ?_
          rotate_left; · rintro w' ⟨s0, s1, s2⟩; go_simp; with_reducible rfl
          rotate_left; · simp only [Act.put, List.setIfInBounds_toArray, List.set_cons_zero, List.set_cons_succ, i64_w, i32_w]; rfl
          refine zp 1 (some 27) #[Z1, Z1, Z0, Z0, Z0] rfl rfl (by kernel_rfl) ?_
          refine zp 2 (some 28) #[Z1, Z1, Z1, Z0, Z0] rfl rfl (by kernel_rfl) ?_
          refine take_ (i := 3) (N := (some 29)) (v := ?_) (a' := ?_) #[Z1, Z1, Z1, Z1, Z0] rfl rfl (by kernel_rfl) (fun _ _ _ h => h) (Or.inl ⟨by rfl, ?_⟩) hHeld ?_ ?_
          rotate_left; · rintro w' ⟨s0, s1, s2⟩; go_simp; with_reducible rfl
          rotate_left; · simp only [Act.put, List.setIfInBounds_toArray, List.set_cons_zero, List.set_cons_succ, i64_w, i32_w]; rfl
          refine last_ (i := 4) (N := some 30) #[Z1, Z1, Z1, Z1, Z1] rfl rfl (by kernel_rfl) (by decide) (fun K hK => ?_)
          go_simp
          go_at_call 58
          refine (HCALL.out w5.drew (by exact KB5.out.drew)).mono ?_
          rintro e w6 ⟨rfl, hb6⟩
          have hb6 : Below w5.heap.size w5 w6 := (Below.refl _ w5).drew.trans hb6
          refine hK.out _ _ (done_ (by kernel_rfl) ?_)
          have k0 := (hb6.block _ (Array.getElem?_eq_some_iff.1 K05.out).1).trans K05.out
          have k1 := (hb6.block _ (Array.getElem?_eq_some_iff.1 K15.out).1).trans K15.out
          have K06 := Aside0.mk k0
          have K16 := Aside0.mk k1
          have KB6 := Aside0.mk (KB5.out.trans (hb6.mono KB5.out.size))
          have KS6 := Aside0.mk (Nat.le_trans KS5.out hb6.size)
          clear hK K hHeld h0 h1 h4 hb6 hcut K0 K1 KB KS K05 K15 KB5 KS5 k0
          cases htw : wear_checkOutline.twice l0 (x.toNat + 1) with
          | true =>
            have z0 : w6.cell? ⟨w.heap.size + 1, 0, none⟩ = some (.int .i64 0) := (blk_cell k1 0).trans rfl
            have z1 := blk_frozen k1 0
            have HE := Aside0.mk (show wear_checkOutline.err l0 = 6 from by
              unfold wear_checkOutline.err; rw [HPLN.out, decide_eq_true HLEN.out, wear_checkOutline.twice_yes l0 (x.toNat + 1) l0.length (by have := HX.out; omega) htw]; rfl)
            clear htw k1
            go_wp2
            obtain ⟨e1, e2, _⟩ := co_end (v := .int .i64 6) K16.out KB6.out (by omega)
            refine ⟨.int .i64 6, by simp [results, Try.results34, go_sem, e1], by rw [HE.out], e2⟩
          | false =>
            have HTW := Aside0.mk htw
            clear htw k1
            go_wp2
            rw [HWX.out]
            refine ⟨?_, ?_⟩
            · exact ⟨x + 1, rfl, by have := HX.out; omega, by have := HX.out; omega, ⟨by rw [show (x + 1).toNat = x.toNat + 1 by have := HX.out; omega]; exact HTW.out⟩, K06, K16, KB6, KS6⟩
            have := HX.out
            simp [intOf]
            omega
        have hx2 : x = (l0.length : Int) := by omega
        subst hx2
        have HT2 := Aside0.mk (show wear_checkOutline.twice l0 l0.length = false by simpa using HT.out)
        clear HT hx0 hx1
        have q0 : wr.cell? ⟨w.heap.size, 0, none⟩ = some (.slice A0 l0.length c0) := (blk_cell K0.out 0).trans rfl
        obtain ⟨wo, rfl⟩ : ∃ wo : World, wo = wr := ⟨_, rfl⟩
        go_wp2
        have hlen := HLEN.out
        obtain ⟨m, hm⟩ : ∃ m : Int, (l0.length : Int) - 1 = m := ⟨_, rfl⟩
        have hm0 : 0 ≤ m := by omega
        have hm1 : m < (l0.length : Int) := by omega
        obtain ⟨ad, e1, g0, g1⟩ := at_T32 (Kd.C_below (w1 := wo) HR0.out KB.out) m hm0 hm1
        obtain ⟨ad2, e2, g2, g3⟩ := at_T32 (Kd.C_below (w1 := wo) HR0.out KB.out) 0 (by omega) (by omega)
        rw [e1] at e2
        obtain rfl : ad = ad2 := Option.some.inj e2
        subst e1
        have hb5 : Below wo.heap.size wo (wo.alloc (.cells #[.bool false] 4)) := (Below.refl _ _).alloc (Nat.le_refl _) _
        have k5 : (wo.alloc (.cells #[.bool false] 4)).heap[wo.heap.size]? = some (.cells #[.bool false] 4 (0, 0)) := World.alloc_heap_new _ _
        have ks5 : (wo.alloc (.cells #[.bool false] 4)).heap.size = wo.heap.size + 1 := by simp
        generalize wo.alloc (.cells #[.bool false] 4) = w5 at hb5 k5 ks5 ⊢
        have h0 := (hb5.cell (World.block_lt_of_cell? wo _ g0)).trans g0
        have h1 := (hb5.cell (World.block_lt_of_cell? wo _ g1)).trans g1
        have h2 := (hb5.cell (World.block_lt_of_cell? wo _ g2)).trans g2
        have h3 := (hb5.cell (World.block_lt_of_cell? wo _ g3)).trans g3
        have h4 := (hb5.cell (World.block_lt_of_cell? wo _ q0)).trans q0
        have HB5 := Aside0.mk hb5
        have K5 := Aside0.mk k5
        have KS5 := Aside0.mk ks5
        have hw := (show wrap64 ((l0.length : Int) - 1) = m from by rw [hm]; exact IntWalk.wrap64_in m (by omega))
        have pm := eq_true hm0
        have qm := eq_true hm1
        have HM := Aside0.mk hm
        have pz : (0 < l0.length) = True := eq_true (by omega)
        clear hb5 k5 ks5 g0 g1 g2 g3 q0 hlen hm hm0 hm1
        refine start_ (n := 12) (S := fun w' => w'.cell? ⟨w.heap.size, 0, none⟩ = some (.slice (some ad) l0.length c0) ∧ w'.cell? (ad.add (m.toNat * 2)) = some (.int .i64 (rd_T32 l0 m).f0) ∧ w'.cell? ⟨(ad.add (m.toNat * 2)).block, (ad.add (m.toNat * 2)).off + 1, none⟩ = some (.int .i64 (rd_T32 l0 m).f1) ∧ w'.cell? ad = some (.int .i64 (rd_T32 l0 0).f0) ∧ w'.cell? ⟨ad.block, ad.off + 1, none⟩ = some (.int .i64 (rd_T32 l0 0).f1)) (ds := [11]) #[Z0, Z0, Z0, Z0, Z0, Z0, Z0, Z0, Z0, Z0, Z0, Z0] (by kernel_rfl) rfl rfl ⟨h4, h0, h1, by simpa [Addr.add] using h2, by simpa [Addr.add] using h3⟩ (fun hHeld => ?_)
        refine take_ (i := 0) (N := (some 32)) (v := ?_) (a' := ?_) #[Z1, Z0, Z0, Z0, Z0, Z0, Z0, Z0, Z0, Z0, Z0, Z0] rfl rfl (by kernel_rfl) (fun _ _ _ h => h) (Or.inl ⟨by rfl, ?_⟩) hHeld ?_ ?_
        rotate_left; · rintro w' ⟨s0, s1, s2, s3, s4⟩; go_simp; with_reducible rfl
        rotate_left; · simp only [Act.put, List.setIfInBounds_toArray, List.set_cons_zero, List.set_cons_succ, i64_w, i32_w]; rfl
        refine take_ (i := 1) (N := (some 33)) (v := ?_) (a' := ?_) #[Z1, Z1, Z0, Z0, Z0, Z0, Z0, Z0, Z0, Z0, Z0, Z0] rfl rfl (by kernel_rfl) (fun _ _ _ h => h) (Or.inl ⟨by rfl, ?_⟩) hHeld ?_ ?_
        rotate_left; · rintro w' ⟨s0, s1, s2, s3, s4⟩; go_simp; with_reducible rfl
        rotate_left; · simp only [Act.put, List.setIfInBounds_toArray, List.set_cons_zero, List.set_cons_succ, i64_w, i32_w]; rfl
        refine zp 2 (some 34) #[Z1, Z1, Z1, Z0, Z0, Z0, Z0, Z0, Z0, Z0, Z0, Z0] rfl rfl (by kernel_rfl) ?_
        refine zp 3 (some 35) #[Z1, Z1, Z1, Z1, Z0, Z0, Z0, Z0, Z0, Z0, Z0, Z0] rfl rfl (by kernel_rfl) ?_
        refine zp 4 (some 36) #[Z1, Z1, Z1, Z1, Z1, Z0, Z0, Z0, Z0, Z0, Z0, Z0] rfl rfl (by kernel_rfl) ?_
        refine take_ (i := 5) (N := (some 37)) (v := ?_) (a' := ?_) #[Z1, Z1, Z1, Z1, Z1, Z1, Z0, Z0, Z0, Z0, Z0, Z0] rfl rfl (by kernel_rfl) (fun _ _ _ h => h) (Or.inl ⟨by rfl, ?_⟩) hHeld ?_ ?_
        rotate_left; · rintro w' ⟨s0, s1, s2, s3, s4⟩; go_simp; with_reducible rfl
        rotate_left; · simp only [Act.put, List.setIfInBounds_toArray, List.set_cons_zero, List.set_cons_succ, i64_w, i32_w]; rfl
        refine take_ (i := 6) (N := (some 38)) (v := ?_) (a' := ?_) #[Z1, Z1, Z1, Z1, Z1, Z1, Z1, Z0, Z0, Z0, Z0, Z0] rfl rfl (by kernel_rfl) (fun _ _ _ h => h) (Or.inl ⟨by rfl, ?_⟩) hHeld ?_ ?_
        rotate_left; · rintro w' ⟨s0, s1, s2, s3, s4⟩; go_simp; with_reducible rfl
        rotate_left; · simp only [Act.put, List.setIfInBounds_toArray, List.set_cons_zero, List.set_cons_succ, i64_w, i32_w]; rfl
        refine zp 7 (some 39) #[Z1, Z1, Z1, Z1, Z1, Z1, Z1, Z1, Z0, Z0, Z0, Z0] rfl rfl (by kernel_rfl) ?_
        refine take_ (i := 8) (N := (some 40)) (v := ?_) (a' := ?_) #[Z1, Z1, Z1, Z1, Z1, Z1, Z1, Z1, Z1, Z0, Z0, Z0] rfl rfl (by kernel_rfl) (fun _ _ _ h => h) (Or.inl ⟨by rfl, ?_⟩) hHeld ?_ ?_
        rotate_left; · rintro w' ⟨s0, s1, s2, s3, s4⟩; go_simp; with_reducible rfl
        rotate_left; · simp only [Act.put, List.setIfInBounds_toArray, List.set_cons_zero, List.set_cons_succ, i64_w, i32_w]; rfl
        refine zp 9 (some 41) #[Z1, Z1, Z1, Z1, Z1, Z1, Z1, Z1, Z1, Z1, Z0, Z0] rfl rfl (by kernel_rfl) ?_
        refine one_ (i := 10) (N := some 6) #[Z1, Z1, Z1, Z1, Z1, Z1, Z1, Z1, Z1, Z1, Z1, Z0] rfl rfl (by kernel_rfl) (by decide) (fun K hK => ?_)
        go_simp
        have hb6 : Below w5.heap.size w5 (w5.alloc (.cells #[.int .i64 0, .int .i64 0, .int .i64 0, .int .i64 0] 87)).drew := ((Below.refl _ _).alloc (Nat.le_refl _) _).drew
        have k6 : (w5.alloc (.cells #[.int .i64 0, .int .i64 0, .int .i64 0, .int .i64 0] 87)).drew.heap[w5.heap.size]? = some (.cells #[.int .i64 0, .int .i64 0, .int .i64 0, .int .i64 0] 87 (0, 0)) := World.alloc_heap_new _ _
        have ks6 : (w5.alloc (.cells #[.int .i64 0, .int .i64 0, .int .i64 0, .int .i64 0] 87)).drew.heap.size = w5.heap.size + 1 := World.size_alloc _ _
        generalize (w5.alloc (.cells #[.int .i64 0, .int .i64 0, .int .i64 0, .int .i64 0] 87)).drew = w6 at hb6 k6 ks6 ⊢
        refine hK.out _ _ ⟨(hb6.cell (World.block_lt_of_cell? w5 _ h4)).trans h4, (hb6.cell (World.block_lt_of_cell? w5 _ h0)).trans h0, (hb6.cell (World.block_lt_of_cell? w5 _ h1)).trans h1, (hb6.cell (World.block_lt_of_cell? w5 _ hHeld.2.2.2.1)).trans hHeld.2.2.2.1, (hb6.cell (World.block_lt_of_cell? w5 _ hHeld.2.2.2.2)).trans hHeld.2.2.2.2⟩ (fun hHeld => ?_)
        clear hK K
        have z0 := (blk_cell k6 0).trans rfl
        have z1 := (blk_cell k6 1).trans rfl
        have z2 := (blk_cell k6 2).trans rfl
        have z3 := (blk_cell k6 3).trans rfl
        obtain ⟨y0, y1, y2, y3⟩ := zg4 ⟨k6⟩
        refine last_ (i := 11) (N := none) #[Z1, Z1, Z1, Z1, Z1, Z1, Z1, Z1, Z1, Z1, Z1, Z1] rfl rfl (by kernel_rfl) (by decide) (fun K hK => ?_)
        go_simp
        have k7 := four_set (p := .int .i64 (rd_T32 l0 m).f0) (q := .int .i64 (rd_T32 l0 m).f1) (r := .int .i64 (rd_T32 l0 0).f0) (s := .int .i64 (rd_T32 l0 0).f1) k6
        have hb7 := four_below (p := .int .i64 (rd_T32 l0 m).f0) (q := .int .i64 (rd_T32 l0 m).f1) (r := .int .i64 (rd_T32 l0 0).f0) (s := .int .i64 (rd_T32 l0 0).f1) hb6 (Nat.le_refl w5.heap.size)
        have ks7 := (four_size (W := w6) (g := w5.heap.size) (p := .int .i64 (rd_T32 l0 m).f0) (q := .int .i64 (rd_T32 l0 m).f1) (r := .int .i64 (rd_T32 l0 0).f0) (s := .int .i64 (rd_T32 l0 0).f1)).trans ks6
        generalize ((((w6.setCell ⟨w5.heap.size, 0, none⟩ (.int .i64 (rd_T32 l0 m).f0)).setCell ⟨w5.heap.size, 1, none⟩ (.int .i64 (rd_T32 l0 m).f1)).setCell ⟨w5.heap.size, 2, none⟩ (.int .i64 (rd_T32 l0 0).f0)).setCell ⟨w5.heap.size, 3, none⟩ (.int .i64 (rd_T32 l0 0).f1)) = w7 at k7 hb7 ks7 ⊢
        have hst7 : co.St w wo.heap.size w5.heap.size (.slice (some ad) l0.length c0) false (wear_checkOutline.scan l0 []).1 w7 :=
          ⟨(hb7.block _ (by have := KS5.out; have := KS.out; omega)).trans ((HB5.out.block _ (by have := KS.out; omega)).trans K0.out), (hb7.block _ (by have := KS5.out; have := KS.out; omega)).trans ((HB5.out.block _ (by have := KS.out; omega)).trans K1.out), (hb7.block _ (by have := KS5.out; omega)).trans K5.out,
            by rw [k7]; simp [edgeCells, wear_checkOutline.scan, rd_T32, ← HM.out, show ((l0.length : Int) - 1).toNat = l0.length - 1 by omega], (KB.out.trans (HB5.out.mono KB.out.size)).trans (hb7.mono (by have := KS5.out; have := KB.out.size; omega))⟩
        refine hK.out _ _ (done_ (by kernel_rfl) ?_)
        have q7 : w7.cell? ⟨w.heap.size, 0, none⟩ = some (.slice (some ad) l0.length c0) := (blk_cell hst7.k1 0).trans rfl
        have HST7 := Aside0.mk hst7
        have KS7 := Aside0.mk ks7
        clear hK K hst7 k7 hb7 ks7 k6 hb6 ks6 z0 z1 z2 z3 y0 y1 y2 y3 hHeld h0 h1 h2 h3 h4 hw pm qm pz
        go_wp2_with (go_at_call 41; refine (wear_sides.calls _ _ _ _).mono ?_; rintro e w8 ⟨rfl, rfl⟩)
        have hst8 := HST7.out.below ((Below.refl _ w7).alloc (Nat.le_refl _) (.cells #[.slice (some ad) l0.length c0] 22))
        have k8 : (w7.alloc (.cells #[.slice (some ad) l0.length c0] 22)).heap[w7.heap.size]? = some (.cells #[.slice (some ad) l0.length c0] 22 (0, 0)) := World.alloc_heap_new _ _
        have ks8 : (w7.alloc (.cells #[.slice (some ad) l0.length c0] 22)).heap.size = w7.heap.size + 1 := World.size_alloc _ _
        generalize w7.alloc (.cells #[.slice (some ad) l0.length c0] 22) = w8 at hst8 k8 ks8 ⊢
        have HST8 := Aside0.mk hst8
        have KS8 := Aside0.mk ks8
        have hsz : w.heap.size + 2 ≤ wo.heap.size ∧ w5.heap.size = wo.heap.size + 1 ∧ w7.heap.size = wo.heap.size + 2 ∧ w8.heap.size = wo.heap.size + 3 := by
          have := KS.out; have := KS5.out; have := KS7.out; omega
        have HSZ := Aside0.mk hsz
        clear hst8 ks8 hsz q7
        refine (wpIn_wide (n := 9)).1 ?_
        refine wpIn_rangeFunc_ownH rfl (by omega) (gf := 60) (lb := #[.pointer (some ⟨w7.heap.size, 0, none⟩)]) rfl trivial (enters_of Try.func60 (by kernel_rfl) rfl)
          (wear_sides.stops 8 (by omega) w7.heap.size (some ad) c0 l0 HC0.out w HR0.out w8 HST8.out.kb k8) keepsBox_t (keepsBox_b HST8.out.kb.size (by have := HSZ.out; omega)) (Below.refl _ _) (fun _ => rfl)
          (co.I w wo.heap.size w5.heap.size (.slice (some ad) l0.length c0) l0 w8.heap.size) (co.X w l0)
          (co.I.own HST8.out.kb.size) (co.X.own HST8.out.kb.size) ⟨HST8.out, rfl, Nat.le_refl _⟩
          (fun x a' W => ∃ Bx, W.heap[Bx]? = some (.cells (edgeCells x) 87 (0, 0)) ∧ w8.heap.size ≤ Bx ∧ a' = { tmps := #[.slice (some ad) l0.length c0, .pointer (some ⟨w.heap.size, 0, none⟩), .pointer (some ⟨w.heap.size + 1, 0, none⟩), u3, u4, .pointer (some ⟨wo.heap.size, 0, none⟩), .pointer (some ⟨w5.heap.size, 0, none⟩), .pointer (some ⟨Bx, 0, none⟩), undef, undef, undef, .slice (some ad) l0.length c0, .int .i64 (l0.length : Int), .bool true, .bool false, .bool false, .slice (some ad) l0.length c0, .bool false, .bool false, .slice (some ad) l0.length c0, .int .i64 (l0.length : Int), .int .i64 (l0.length : Int), .bool false, u23, u24, u25, u26, u27, u28, u29, u30, u31, .slice (some ad) l0.length c0, .slice (some ad) l0.length c0, .int .i64 (l0.length : Int), .int .i64 m, .pointer (some (ad.add (m.toNat * 2))), .agg #[.int .i64 (rd_T32 l0 m).f0, .int .i64 (rd_T32 l0 m).f1], .slice (some ad) l0.length c0, .pointer (some ad), .agg #[.int .i64 (rd_T32 l0 0).f0, .int .i64 (rd_T32 l0 0).f1], .agg #[.int .i64 (rd_T32 l0 m).f0, .int .i64 (rd_T32 l0 m).f1, .int .i64 (rd_T32 l0 0).f0, .int .i64 (rd_T32 l0 0).f1], .slice (some ad) l0.length c0, .func (.func 60) #[] #[.pointer (some ⟨w7.heap.size, 0, none⟩)], .agg #[.int .i64 x.1.f0, .int .i64 x.1.f1, .int .i64 x.2.f0, .int .i64 x.2.f1], undef, undef, undef, undef, undef, undef, undef, undef, undef, undef, undef, undef, undef, undef, undef, undef, undef, undef, undef, undef, undef, undef, undef, undef, undef, undef, undef, undef, undef, undef, undef, undef, undef, undef, undef, undef, undef, undef, undef, undef, undef, undef, undef, undef, undef, undef, undef, undef, undef, undef, undef, undef, undef, undef, undef, undef, undef, undef], defers := [] })
          (fun x a' s X Y row hs hg hr => by obtain ⟨Bx, h1, h2⟩ := hs; exact ⟨Bx, blk_ownFrom h1 hg hr, h2⟩)
          ?assign ?body ?done ?stop
        case assign =>
          rintro l pre x W K hi hK
          have HI := Aside0.mk hi
          clear hi
          simp only [wear_sides.enc]
          gi_wp2
          exact hK _ _ ((KeepsOthers.alloc _ _).from _) (keepsBox_below ((Below.refl _ _).alloc (Nat.le_refl _) _) HI.out.1.kb.size (by have := HSZ.out; have := HI.out.2.2; omega)) ⟨HI.out.1.below ((Below.refl _ _).alloc (Nat.le_refl _) _), HI.out.2.1, Nat.le_trans HI.out.2.2 (by simp)⟩ ⟨W.heap.size, World.alloc_heap_new _ _, HI.out.2.2, rfl⟩
        case body =>
          rintro l pre x a' W hl - hi ⟨Bx, hBx, hBn, rfl⟩ hlen
          have HI := Aside0.mk hi
          have HBX := Aside0.mk hBx
          have HBN := Aside0.mk hBn
          have HL := Aside0.mk hl
          clear hi hBx hBn hl hlen
          have q1 : W.cell? ⟨w.heap.size, 0, none⟩ = some (.slice (some ad) l0.length c0) := (blk_cell HI.out.1.k1 0).trans rfl
          gi_wp2
          gi_loopw [47] (fun i wr => ∃ j : Int, i = .int .i64 j ∧ 0 ≤ j ∧ j ≤ (l0.length : Int) ∧ Aside0 (co.neg x (l0.take j.toNat) = false) ∧ Aside0 (co.St w wo.heap.size w5.heap.size (.slice (some ad) l0.length c0) ((wear_checkOutline.scan l0 pre).2.1 || co.pos x (l0.take j.toNat)) (wear_checkOutline.scan l0 pre).1 wr) ∧ Aside0 (wr.heap[Bx]? = some (.cells (edgeCells x) 87 (0, 0))) ∧ Aside0 (KeepsOthers W wr) ∧ Aside0 (KeepsBox w.heap.size w7.heap.size W wr))
            (fun i _ => l0.length - (intOf i).toNat)
          case atStart => exact ⟨0, rfl, by omega, by omega, ⟨by simp [co.neg]⟩, ⟨by simpa [co.pos] using HI.out.1⟩, HBX, ⟨KeepsOthers.refl _⟩, ⟨Below.refl _ _, rfl⟩⟩
          case round =>
            clear q1
            obtain ⟨j, rfl, hj0, hj1, HN, HS, HBX, HKO, HKB⟩ := hrel
            by_cases hlt : j < (l0.length : Int)
            · have pj := eq_true hj0
              have qj := eq_true hlt
              have HJ := Aside0.mk (And.intro hj0 hlt)
              obtain ⟨ad3, e1, g0, g1⟩ := at_T32 (Kd.C_below (w1 := wr) HR0.out HS.out.kb) j hj0 hlt
              obtain rfl : ad = ad3 := Option.some.inj e1
              have HWJ := Aside0.mk (IntWalk.wrap64_in (j + 1) (by omega))
              have HNJ := Aside0.mk (show co.neg x (l0.take (j + 1).toNat) = (co.neg x (l0.take j.toNat) || decide (wear_has.left x.1 x.2 (rd_T32 l0 j).f0 (rd_T32 l0 j).f1 < 0)) from co.take_snoc _ l0 j hj0 hlt)
              have HPJ := Aside0.mk (show co.pos x (l0.take (j + 1).toNat) = (co.pos x (l0.take j.toNat) || decide (wear_has.left x.1 x.2 (rd_T32 l0 j).f0 (rd_T32 l0 j).f1 > 0)) from co.take_snoc _ l0 j hj0 hlt)
              clear hj0 hj1 hlt e1
              have hbx2 : (wr.alloc (.cells #[.int .i64 (rd_T32 l0 j).f0, .int .i64 (rd_T32 l0 j).f1] 32)).heap[Bx]? = some (.cells (edgeCells x) 87 (0, 0)) := (((Below.refl wr.heap.size wr).alloc (Nat.le_refl _) _).block _ (Array.getElem?_eq_some_iff.1 HBX.out).1).trans HBX.out
              obtain ⟨q0, q1, q2, q3⟩ := zc4 ⟨hbx2⟩
              clear hbx2
              have HCALL := Aside0.mk (fun (W : World) => wear_side_left.calls x.1.f0 x.1.f1 x.2.f0 x.2.f1 (rd_T32 l0 j).f0 (rd_T32 l0 j).f1 (wear_has.left x.1 x.2 (rd_T32 l0 j).f0 (rd_T32 l0 j).f1) W rfl)
              generalize hL : wear_has.left x.1 x.2 (rd_T32 l0 j).f0 (rd_T32 l0 j).f1 = L at HCALL HNJ HPJ
              generalize hsb : ((wear_checkOutline.scan l0 pre).2.1 || co.pos x (l0.take j.toNat)) = sb at HS
              have HSB := Aside0.mk hsb
              clear hL hsb
              by_cases hneg : L < 0
              · have hd := decide_eq_true hneg
                have HNX := Aside0.mk (co.step_bad1 l0 pre x (co.neg_take x l0 (j + 1).toNat (by rw [HNJ.out, hd, Bool.or_true])))
                clear hneg
                gi_wp2_with (refine ⟨trivial, ?_⟩; gi_at_call 42; refine (CallsIn.inRound l (callsIn_wide.2 (HCALL.out _))).mono ?_; rintro e w3 ⟨rfl, hb3⟩; have hb3 := ((Below.refl wr.heap.size wr).alloc (Nat.le_refl _) _).trans (hb3.mono (by simp)); have hs3 := HS.out.below hb3; have z0 : w3.cell? ⟨w.heap.size + 1, 0, none⟩ = some (.int .i64 0) := (blk_cell hs3.k2 0).trans rfl; have z1 := blk_frozen hs3.k2 0; have HS3 := Aside0.mk hs3; have HB3 := Aside0.mk hb3; clear hs3 hb3)
                refine ⟨((HKO.out.trans (keeps_of_below HB3.out)).trans (KeepsOthers.setCell _ _ _)).from _, rfl, HNX.out, ?_, ?_⟩
                · exact (HS3.out.set2 9).1
                exact (HS3.out.set2 9).2
              have hd := decide_eq_false hneg
              have HN1 := Aside0.mk (show co.neg x (l0.take (j + 1).toNat) = false by rw [HNJ.out, hd, HN.out]; rfl)
              have HNEG := Aside0.mk hneg
              clear hneg
              by_cases hpos : L > 0
              · have hp := decide_eq_true hpos
                have HS1 := Aside0.mk (show ((wear_checkOutline.scan l0 pre).2.1 || co.pos x (l0.take (j + 1).toNat)) = true by rw [HPJ.out, hp, Bool.or_true, Bool.or_true])
                clear hpos
                gi_wp2_with (refine ⟨trivial, ?_⟩; gi_at_call 42; refine (CallsIn.inRound l (callsIn_wide.2 (HCALL.out _))).mono ?_; rintro e w3 ⟨rfl, hb3⟩; have hb3 := ((Below.refl wr.heap.size wr).alloc (Nat.le_refl _) _).trans (hb3.mono (by simp)); have hs3 := HS.out.below hb3; have z0 : w3.cell? ⟨wo.heap.size, 0, none⟩ = some (.bool sb) := (blk_cell hs3.k5 0).trans rfl; have z1 := blk_frozen hs3.k5 0; have HS3 := Aside0.mk hs3; have HB3 := Aside0.mk hb3; clear hs3 hb3)
                rw [HWJ.out]
                refine ⟨⟨j + 1, rfl, by have := HJ.out; omega, by have := HJ.out; omega, HN1, ⟨by rw [HS1.out]; exact HS3.out.set5 HSZ.out.1 (by have := HSZ.out; omega) true⟩, ⟨(Below.heap_setCell _ _ _ _ (by have := HSZ.out; have := HBN.out; simp; omega)).trans ((HB3.out.block _ (Array.getElem?_eq_some_iff.1 HBX.out).1).trans HBX.out)⟩, ⟨(HKO.out.trans (keeps_of_below HB3.out)).trans (KeepsOthers.setCell _ _ _)⟩, ⟨keepsBox_t (keepsBox_t HKB.out (keepsBox_below HB3.out ?_ ?_)) ⟨(Below.refl _ _).setCell (by have := HSZ.out; simp; omega) _, Below.heap_setCell _ _ _ _ (by have := HSZ.out; simp; omega)⟩⟩⟩, ?_⟩
                · exact HS.out.kb.size
                · have := HSZ.out; have := HI.out.2.2; have := HKB.out.1.size; omega
                have := HJ.out
                simp [intOf]
                omega
              have hp := decide_eq_false hpos
              have HS1 := Aside0.mk (show ((wear_checkOutline.scan l0 pre).2.1 || co.pos x (l0.take (j + 1).toNat)) = sb by rw [HPJ.out, hp, Bool.or_false]; exact HSB.out)
              clear hpos
              gi_wp2_with (refine ⟨trivial, ?_⟩; gi_at_call 42; refine (CallsIn.inRound l (callsIn_wide.2 (HCALL.out _))).mono ?_; rintro e w3 ⟨rfl, hb3⟩; have hb3 := ((Below.refl wr.heap.size wr).alloc (Nat.le_refl _) _).trans (hb3.mono (by simp)); have HB3 := Aside0.mk hb3; clear hb3)
              rw [HWJ.out]
              refine ⟨⟨j + 1, rfl, by have := HJ.out; omega, by have := HJ.out; omega, HN1, ⟨by rw [HS1.out]; exact HS.out.below HB3.out⟩, ⟨(HB3.out.block _ (Array.getElem?_eq_some_iff.1 HBX.out).1).trans HBX.out⟩, ⟨HKO.out.trans (keeps_of_below HB3.out)⟩, ⟨keepsBox_t HKB.out (keepsBox_below HB3.out ?_ ?_)⟩⟩, ?_⟩
              · exact HS.out.kb.size
              · have := HSZ.out; have := HI.out.2.2; have := HKB.out.1.size; omega
              have := HJ.out
              simp [intOf]
              omega
            have hj2 : j = (l0.length : Int) := by omega
            subst hj2
            have HN2 := Aside0.mk (show co.neg x l0 = false by simpa using HN.out)
            have HS2 : Aside0 (co.St w wo.heap.size w5.heap.size (.slice (some ad) l0.length c0) ((wear_checkOutline.scan l0 pre).2.1 || co.pos x l0) (wear_checkOutline.scan l0 pre).1 wr) := ⟨by simpa using HS.out⟩
            clear HN HS hj0 hj1
            have HGOOD := Aside0.mk (co.step_good l0 pre x HI.out.2.1 HN2.out)
            have HBAD := Aside0.mk (co.step_bad2 l0 pre x)
            generalize hLa : (wear_checkOutline.scan l0 pre).1 = La at HS2 HGOOD HBAD
            generalize hsb : ((wear_checkOutline.scan l0 pre).2.1 || co.pos x l0) = sb at HS2 HGOOD
            have HI1 := Aside0.mk HI.out.2.2
            have HI0 := Aside0.mk HI.out.1.kb
            clear hLa hsb HI
            have hb6 := Aside0.mk HS2.out.k6
            obtain ⟨q0, q1, q2, q3⟩ := zc4 ⟨hb6.out⟩
            obtain ⟨p0, p1, p2, p3⟩ := zc4 ⟨HBX.out⟩
            have HCALL := Aside0.mk (fun (W : World) => wear_side_left.calls La.1.f0 La.1.f1 La.2.f0 La.2.f1 x.2.f0 x.2.f1 (wear_has.left La.1 La.2 x.2.f0 x.2.f1) W rfl)
            have HBK := Aside0.mk (show wear_checkOutline.back La x = (decide (wear_has.left La.1 La.2 x.2.f0 x.2.f1 = 0) && decide (wrap64 (wrap64 (wrap64 (La.2.f0 - La.1.f0) * wrap64 (x.2.f0 - x.1.f0)) + wrap64 (wrap64 (La.2.f1 - La.1.f1) * wrap64 (x.2.f1 - x.1.f1))) < 0)) from rfl)
            generalize wear_has.left La.1 La.2 x.2.f0 x.2.f1 = L at HCALL HBK
            have HNEXT : Aside0 (∀ W3 : World, Below wr.heap.size wr W3 → wear_checkOutline.back La x = false → ownPostG w8.heap.size (KeepsBox w.heap.size w7.heap.size)
                (co.I w wo.heap.size w5.heap.size (Value.slice (some ad) l0.length c0) l0 w8.heap.size) (co.X w l0) (pre ++ [x]) W .normal { tmps := #[], defers := [] }
                ((((W3.setCell ⟨w5.heap.size, 0, none⟩ (.int .i64 x.1.f0)).setCell ⟨w5.heap.size, 1, none⟩ (.int .i64 x.1.f1)).setCell ⟨w5.heap.size, 2, none⟩ (.int .i64 x.2.f0)).setCell ⟨w5.heap.size, 3, none⟩ (.int .i64 x.2.f1))) := ⟨by
              intro W3 hb3 hbk
              have hsc := HGOOD.out hbk
              have hsz := HSZ.out
              have hsW := HI1.out
              have hsr := HKB.out.1.size
              refine ⟨((HKO.out.trans (keeps_of_below hb3)).trans four_keeps).from _, keepsBox_t (keepsBox_t HKB.out (keepsBox_below hb3 ?_ ?_)) ⟨four_below (Below.refl _ _) (by omega), four_other (by omega)⟩, ?_⟩
              · have := HI0.out.size; omega
              · omega
              refine ⟨?_, ?_, ?_⟩
              · rw [hsc]
                exact (HS2.out.below hb3).set6 hsz.1 (by omega) x
              · rw [hsc]
              rw [four_size]
              have := hb3.size
              omega⟩
            clear HGOOD
            have tac3 : ∀ w3 : World, Below wr.heap.size wr w3 → co.St w wo.heap.size w5.heap.size (.slice (some ad) l0.length c0) sb La w3 := fun w3 hb3 => HS2.out.below hb3
            have HT3 := Aside0.mk tac3
            clear tac3
            by_cases hz : L = 0
            · subst hz
              by_cases hD : wrap64 (wrap64 (wrap64 (La.2.f0 - La.1.f0) * wrap64 (x.2.f0 - x.1.f0)) + wrap64 (wrap64 (La.2.f1 - La.1.f1) * wrap64 (x.2.f1 - x.1.f1))) < 0
              · have hd := decide_eq_true hD
                have HNX := Aside0.mk (HBAD.out (by rw [HBK.out, hd]; rfl))
                clear hD HBK HNEXT
                gi_wp2_with (refine ⟨trivial, ?_⟩; gi_at_call 42; refine (CallsIn.inRound l (callsIn_wide.2 (HCALL.out _))).mono ?_; rintro e w3 ⟨rfl, hb3⟩; have z0 : w3.cell? ⟨w5.heap.size, 0, none⟩ = some (.int .i64 La.1.f0) := (blk_cell (HT3.out w3 hb3).k6 0).trans rfl; have z1 : w3.cell? ⟨w5.heap.size, 1, none⟩ = some (.int .i64 La.1.f1) := (blk_cell (HT3.out w3 hb3).k6 1).trans rfl; have z2 : w3.cell? ⟨w5.heap.size, 2, none⟩ = some (.int .i64 La.2.f0) := (blk_cell (HT3.out w3 hb3).k6 2).trans rfl; have z3 : w3.cell? ⟨w5.heap.size, 3, none⟩ = some (.int .i64 La.2.f1) := (blk_cell (HT3.out w3 hb3).k6 3).trans rfl; have z4 : w3.cell? ⟨Bx, 0, none⟩ = some (.int .i64 x.1.f0) := (blk_cell ((hb3.block _ (Array.getElem?_eq_some_iff.1 HBX.out).1).trans HBX.out) 0).trans rfl; have z5 : w3.cell? ⟨Bx, 1, none⟩ = some (.int .i64 x.1.f1) := (blk_cell ((hb3.block _ (Array.getElem?_eq_some_iff.1 HBX.out).1).trans HBX.out) 1).trans rfl; have z6 : w3.cell? ⟨Bx, 2, none⟩ = some (.int .i64 x.2.f0) := (blk_cell ((hb3.block _ (Array.getElem?_eq_some_iff.1 HBX.out).1).trans HBX.out) 2).trans rfl; have z7 : w3.cell? ⟨Bx, 3, none⟩ = some (.int .i64 x.2.f1) := (blk_cell ((hb3.block _ (Array.getElem?_eq_some_iff.1 HBX.out).1).trans HBX.out) 3).trans rfl; have z8 : w3.cell? ⟨w.heap.size + 1, 0, none⟩ = some (.int .i64 0) := (blk_cell (HT3.out w3 hb3).k2 0).trans rfl; have z9 := blk_frozen (HT3.out w3 hb3).k2 0; have HB3 := Aside0.mk hb3; clear hb3)
                refine ⟨((HKO.out.trans (keeps_of_below HB3.out)).trans (KeepsOthers.setCell _ _ _)).from _, rfl, HNX.out, ?_, ?_⟩
                · exact ((HT3.out _ HB3.out).set2 9).1
                exact ((HT3.out _ HB3.out).set2 9).2
              have hd := decide_eq_false hD
              have HNX := Aside0.mk (show wear_checkOutline.back La x = false by rw [HBK.out, hd, Bool.and_false])
              clear hD HBK HBAD
              gi_wp2_with (refine ⟨trivial, ?_⟩; gi_at_call 42; refine (CallsIn.inRound l (callsIn_wide.2 (HCALL.out _))).mono ?_; rintro e w3 ⟨rfl, hb3⟩; have z0 : w3.cell? ⟨w5.heap.size, 0, none⟩ = some (.int .i64 La.1.f0) := (blk_cell (HT3.out w3 hb3).k6 0).trans rfl; have z1 : w3.cell? ⟨w5.heap.size, 1, none⟩ = some (.int .i64 La.1.f1) := (blk_cell (HT3.out w3 hb3).k6 1).trans rfl; have z2 : w3.cell? ⟨w5.heap.size, 2, none⟩ = some (.int .i64 La.2.f0) := (blk_cell (HT3.out w3 hb3).k6 2).trans rfl; have z3 : w3.cell? ⟨w5.heap.size, 3, none⟩ = some (.int .i64 La.2.f1) := (blk_cell (HT3.out w3 hb3).k6 3).trans rfl; have z4 : w3.cell? ⟨Bx, 0, none⟩ = some (.int .i64 x.1.f0) := (blk_cell ((hb3.block _ (Array.getElem?_eq_some_iff.1 HBX.out).1).trans HBX.out) 0).trans rfl; have z5 : w3.cell? ⟨Bx, 1, none⟩ = some (.int .i64 x.1.f1) := (blk_cell ((hb3.block _ (Array.getElem?_eq_some_iff.1 HBX.out).1).trans HBX.out) 1).trans rfl; have z6 : w3.cell? ⟨Bx, 2, none⟩ = some (.int .i64 x.2.f0) := (blk_cell ((hb3.block _ (Array.getElem?_eq_some_iff.1 HBX.out).1).trans HBX.out) 2).trans rfl; have z7 : w3.cell? ⟨Bx, 3, none⟩ = some (.int .i64 x.2.f1) := (blk_cell ((hb3.block _ (Array.getElem?_eq_some_iff.1 HBX.out).1).trans HBX.out) 3).trans rfl; have y0 := blk_frozen (HT3.out w3 hb3).k6 0; have y1 := blk_frozen (HT3.out w3 hb3).k6 1; have y2 := blk_frozen (HT3.out w3 hb3).k6 2; have y3 := blk_frozen (HT3.out w3 hb3).k6 3; have HB3 := Aside0.mk hb3; clear hb3)
              exact HNEXT.out _ HB3.out HNX.out
            have hd := eq_false hz
            have hd2 := decide_eq_false hz
            have hd3 : (L == 0) = false := by simpa using hz
            have HNX := Aside0.mk (show wear_checkOutline.back La x = false by rw [HBK.out, hd2, Bool.false_and])
            clear hz HBK HBAD
            gi_wp2_with (refine ⟨trivial, ?_⟩; gi_at_call 42; refine (CallsIn.inRound l (callsIn_wide.2 (HCALL.out _))).mono ?_; rintro e w3 ⟨rfl, hb3⟩; have z0 : w3.cell? ⟨w5.heap.size, 0, none⟩ = some (.int .i64 La.1.f0) := (blk_cell (HT3.out w3 hb3).k6 0).trans rfl; have z1 : w3.cell? ⟨w5.heap.size, 1, none⟩ = some (.int .i64 La.1.f1) := (blk_cell (HT3.out w3 hb3).k6 1).trans rfl; have z2 : w3.cell? ⟨w5.heap.size, 2, none⟩ = some (.int .i64 La.2.f0) := (blk_cell (HT3.out w3 hb3).k6 2).trans rfl; have z3 : w3.cell? ⟨w5.heap.size, 3, none⟩ = some (.int .i64 La.2.f1) := (blk_cell (HT3.out w3 hb3).k6 3).trans rfl; have z4 : w3.cell? ⟨Bx, 0, none⟩ = some (.int .i64 x.1.f0) := (blk_cell ((hb3.block _ (Array.getElem?_eq_some_iff.1 HBX.out).1).trans HBX.out) 0).trans rfl; have z5 : w3.cell? ⟨Bx, 1, none⟩ = some (.int .i64 x.1.f1) := (blk_cell ((hb3.block _ (Array.getElem?_eq_some_iff.1 HBX.out).1).trans HBX.out) 1).trans rfl; have z6 : w3.cell? ⟨Bx, 2, none⟩ = some (.int .i64 x.2.f0) := (blk_cell ((hb3.block _ (Array.getElem?_eq_some_iff.1 HBX.out).1).trans HBX.out) 2).trans rfl; have z7 : w3.cell? ⟨Bx, 3, none⟩ = some (.int .i64 x.2.f1) := (blk_cell ((hb3.block _ (Array.getElem?_eq_some_iff.1 HBX.out).1).trans HBX.out) 3).trans rfl; have y0 := blk_frozen (HT3.out w3 hb3).k6 0; have y1 := blk_frozen (HT3.out w3 hb3).k6 1; have y2 := blk_frozen (HT3.out w3 hb3).k6 2; have y3 := blk_frozen (HT3.out w3 hb3).k6 3; have HB3 := Aside0.mk hb3; clear hb3)
            exact HNEXT.out _ HB3.out HNX.out
        case done =>
          rintro D xs W hD rfl hi hK
          have HI := Aside0.mk hi
          have HK := Aside0.mk hK
          have HD := Aside0.mk hD
          clear hi hK hD
          have z0 := (blk_cell HI.out.1.k5 0).trans rfl
          have z1 : W.cell? ⟨w.heap.size + 1, 0, none⟩ = some (.int .i64 0) := (blk_cell HI.out.1.k2 0).trans rfl
          have z2 := blk_frozen HI.out.1.k2 0
          have hsk : ∀ v : Int, (W.setCell ⟨w.heap.size + 1, 0, none⟩ (.int .i64 v)).heap[D]? = some (.deferred (some [])) := fun v => (Below.heap_setCell _ _ _ _ (by have := HD.out; have := HSZ.out; simp; omega)).trans HK.out
          have HSK := Aside0.mk hsk
          clear hsk
          cases hsm : (wear_checkOutline.scan l0 (upTo (wear_sides.edge l0) l0.length)).2.1 with
          | true =>
            rw [hsm] at z0
            have HE := Aside0.mk (show wear_checkOutline.err l0 = 0 from by unfold wear_checkOutline.err; rw [HPLN.out, HT2.out, hsm, HI.out.2.1, decide_eq_true HLEN.out]; rfl)
            clear hsm
            go_wp2
            refine ⟨by simp, .inl ⟨_, _, rfl, run_takeDeferred (HSK.out 0), ?_⟩⟩
            have hbox2 := (Boxed.kept (show Boxed (W.setCell ⟨w.heap.size + 1, 0, none⟩ (.int .i64 0)) (w.heap.size + 1) 35 (.int .i64 0) from (HI.out.1.set2 0).1) (grownBy_putObj' _ D (.deferred none)) (by have := HD.out; have := HSZ.out; simp; omega)).cell
            refine ⟨.int .i64 0, by simp [results, Try.results34, go_sem, hbox2], by rw [HE.out], ?_⟩
            exact (HI.out.1.set2 0).2.trans (belowK_b (w := w) (Nat.le_refl _) _ D _ _ (by have := HD.out; have := HSZ.out; omega) (HSK.out 0) rfl rfl)
          | false =>
            rw [hsm] at z0
            have HE := Aside0.mk (show wear_checkOutline.err l0 = 9 from by unfold wear_checkOutline.err; rw [HPLN.out, HT2.out, hsm, HI.out.2.1, decide_eq_true HLEN.out]; rfl)
            clear hsm
            go_wp2
            refine ⟨by simp, .inl ⟨_, _, rfl, run_takeDeferred (HSK.out 9), ?_⟩⟩
            have hbox2 := (Boxed.kept (show Boxed (W.setCell ⟨w.heap.size + 1, 0, none⟩ (.int .i64 9)) (w.heap.size + 1) 35 (.int .i64 9) from (HI.out.1.set2 9).1) (grownBy_putObj' _ D (.deferred none)) (by have := HD.out; have := HSZ.out; simp; omega)).cell
            refine ⟨.int .i64 9, by simp [results, Try.results34, go_sem, hbox2], by rw [HE.out], ?_⟩
            exact (HI.out.1.set2 9).2.trans (belowK_b (w := w) (Nat.le_refl _) _ D _ _ (by have := HD.out; have := HSZ.out; omega) (HSK.out 9) rfl rfl)
        case stop =>
          rintro D c pre W hD hpre ⟨rfl, hbad, h2, hkb⟩ hK
          have HE := Aside0.mk (show wear_checkOutline.err l0 = 9 from by
            obtain ⟨suf, hsuf⟩ := hpre
            have h9 := wear_checkOutline.scan_bad l0 pre suf hbad
            rw [hsuf] at h9
            unfold wear_checkOutline.err; rw [HPLN.out, HT2.out, h9, decide_eq_true HLEN.out]; rfl)
          refine wpIn_wide.2 ?_
          go_wp2
          refine ⟨by simp, .inl ⟨_, _, rfl, run_takeDeferred hK, ?_⟩⟩
          have hbox2 := (Boxed.kept (show Boxed W (w.heap.size + 1) 35 (.int .i64 9) from h2) (grownBy_putObj' _ D (.deferred none)) (by have := HSZ.out; simp; omega)).cell
          refine ⟨.int .i64 9, by simp [results, Try.results34, go_sem, hbox2], by rw [HE.out], ?_⟩
          exact hkb.trans (belowK_b (w := w) (Nat.le_refl _) _ D _ _ (by have := HSZ.out; omega) hK rfl rfl)
  have hin : wear_in.f (l0.length : Int) 3 12 = some false := by
    unfold wear_in.f
    by_cases h3 : 3 ≤ (l0.length : Int)
    · rw [if_pos h3, decide_eq_false (by omega)]
    rw [if_neg h3]
  have HIN := Aside0.mk hin
  clear hin
  have HE := Aside0.mk (show wear_checkOutline.err l0 = 1 from by unfold wear_checkOutline.err; rw [decide_eq_false hlen]; simp)
  clear hlen
  go_enter Try.func34, Try.ntmps34
  go_wp2_with (go_at_call 22; refine (in_calls _ _ _ _ _ HIN.out).mono ?_; rintro e w1 ⟨rfl, hb⟩; obtain ⟨k0, k1, ks, kb⟩ := two_boxes w _ _ w1 hb; have z0 : w1.cell? ⟨w.heap.size + 1, 0, none⟩ = some (.int .i64 0) := (blk_cell k1 0).trans rfl; have z1 := blk_frozen k1 0; have K2 := Aside0.mk k1; have KB2 := Aside0.mk kb; clear hb k0 k1 kb ks)
  obtain ⟨e1, e2, _⟩ := co_end (v := .int .i64 1) K2.out KB2.out (by omega)
  refine bodyPost_ret (v := .int .i64 1) (by simp [results, Try.results34, go_sem, e1]) rfl ⟨by rw [HE.out], e2⟩
end
end Go.Proofs.Ytcfpclehogdmbaa.Q
end
section
namespace Go.Proofs.Ytcfpclehogdmbaa.Q
open Go.RowKit Go.Proofs.YtcfpclehogdmbaaW.PrintWords Go.Proofs.YtcfpclehogdmbaaW.PrintLast Go.Proofs.YtcfpclehogdmbaaW.PrintMore
set_option linter.unusedVariables false
set_option linter.unusedSimpArgs false
theorem wrap_nat {i n : Nat} (h : i < n) (hn : n < 1000000) : wrap64 ((i : Int) + 1) = ((i + 1 : Nat) : Int) := by rw [wrap_in (by omega) (by omega)]; omega
theorem rd_get (l : List S32) {i : Nat} (h : i < l.length) : rd_T32 l (i : Int) = l[i] := by simp [rd_T32, List.getD_eq_getElem?_getD, List.getElem?_eq_getElem h]
theorem outline_l0 (l : List S32) (hl : l.length < 1000000) (V : Int) (h1 : Tells (fun k => thatchref07_outline.l1 k l (l.length : Int) 0) V) : ∀ (d i : Nat), l.length - i = d → i ≤ l.length →
    Tells (fun k => thatchref07_outline.l0 k l (l.length : Int) (i : Int)) (if (l.drop i).any (fun p => !(wear_checkOutline.placed p)) then 1 else V) := by
  intro d
  induction d with
  | zero =>
    intro i hd hi
    obtain rfl : i = l.length := by omega
    rw [List.drop_length, List.any_nil, if_neg (by decide)]
    exact Tells.succ h1 (fun k => by rw [thatchref07_outline.l0, if_neg (by omega)])
  | succ d ih =>
    intro i hd hi
    have hlt : i < l.length := by omega
    have hih := ih (i + 1) (by omega) (by omega)
    rw [List.drop_eq_getElem_cons hlt, List.any_cons]
    have hstep : ∀ k, thatchref07_outline.l0 (k + 1) l (l.length : Int) (i : Int) = if wear_checkOutline.placed l[i] then thatchref07_outline.l0 k l (l.length : Int) ((i + 1 : Nat) : Int) else some 1 := fun k => by
      rw [thatchref07_outline.l0, if_pos (by omega), if_pos (by omega), if_pos (by omega), wrap_nat hlt hl, rd_get l hlt]
      simp only [in07_tells, Option.bind_some, decide_eq_true_eq, wear_checkOutline.placed]
      by_cases c0 : 0 ≤ l[i].f0 ∧ l[i].f0 ≤ 400
      · rw [if_pos c0]
        by_cases c1 : 0 ≤ l[i].f1 ∧ l[i].f1 ≤ 400
        · rw [if_pos c1, if_pos ⟨c0.1, c0.2, c1⟩]
        · rw [if_neg c1, if_neg (fun h => c1 h.2.2)]
      · rw [if_neg c0, if_neg (fun h => c0 ⟨h.1, h.2.1⟩)]
    by_cases hp : wear_checkOutline.placed l[i] = true
    · rw [hp, Bool.not_true, Bool.false_or]
      exact Tells.succ hih (fun k => by rw [hstep, if_pos hp])
    · rw [Bool.eq_false_iff.2 hp, Bool.not_false, Bool.true_or, if_pos rfl]
      exact Tells.succ (h := fun _ => some 1) (Tells.const fun _ => rfl) (fun k => by rw [hstep, if_neg hp])
def twiceFrom (l : List S32) (i : Nat) : Bool := ((List.range l.length).drop i).any fun j => (l.take j).any (wear_checkOutline.same (l.getD j z32))
theorem outline_l2 (l : List S32) (hl : l.length < 1000000) (i : Nat) (hi : i < l.length) (V : Int) (h1 : Tells (fun k => thatchref07_outline.l1 k l (l.length : Int) ((i + 1 : Nat) : Int)) V) : ∀ (d j : Nat), i - j = d → j ≤ i →
    Tells (fun k => thatchref07_outline.l2 k l (l.length : Int) (i : Int) (j : Int)) (if ((l.take i).drop j).any (wear_checkOutline.same (l.getD i z32)) then 6 else V) := by
  have hti : (l.take i).length = i := by rw [List.length_take]; omega
  intro d
  induction d with
  | zero =>
    intro j hd hj
    obtain rfl : j = i := by omega
    rw [List.drop_of_length_le (by omega), List.any_nil, if_neg (by decide)]
    exact Tells.succ h1 (fun k => by rw [thatchref07_outline.l2, if_neg (by omega), wrap_nat hi hl])
  | succ d ih =>
    intro j hd hj
    have hlt : j < i := by omega
    have hjl : j < l.length := by omega
    have hih := ih (j + 1) (by omega) (by omega)
    have hg : l.getD i z32 = l[i] := by simp [List.getD_eq_getElem?_getD, List.getElem?_eq_getElem hi]
    rw [List.drop_eq_getElem_cons (by omega), List.any_cons, List.getElem_take, hg]
    rw [hg] at hih
    have hstep : ∀ k, thatchref07_outline.l2 (k + 1) l (l.length : Int) (i : Int) (j : Int) = if wear_checkOutline.same l[i] l[j] = true then some 6 else thatchref07_outline.l2 k l (l.length : Int) (i : Int) ((j + 1 : Nat) : Int) := fun k => by
      rw [thatchref07_outline.l2, if_pos (by omega), if_pos (by omega), if_pos (by omega), if_pos (by omega), if_pos (by omega), wrap_nat hjl hl, rd_get l hi, rd_get l hjl]
      rfl
    by_cases hs : wear_checkOutline.same l[i] l[j] = true
    · rw [hs, Bool.true_or, if_pos rfl]
      exact Tells.succ (h := fun _ => some 6) (Tells.const fun _ => rfl) (fun k => by rw [hstep, if_pos hs])
    · rw [Bool.eq_false_iff.2 hs, Bool.false_or]
      exact Tells.succ hih (fun k => by rw [hstep, if_neg hs])
theorem outline_l1 (l : List S32) (hl : l.length < 1000000) (V : Int) (h3 : Tells (fun k => thatchref07_outline.l3 k l (l.length : Int) 0 0) V) : ∀ (d i : Nat), l.length - i = d → i ≤ l.length →
    Tells (fun k => thatchref07_outline.l1 k l (l.length : Int) (i : Int)) (if twiceFrom l i then 6 else V) := by
  intro d
  induction d with
  | zero =>
    intro i hd hi
    obtain rfl : i = l.length := by omega
    unfold twiceFrom
    rw [List.drop_of_length_le (by simp), List.any_nil, if_neg (by decide)]
    exact Tells.succ h3 (fun k => by rw [thatchref07_outline.l1, if_neg (by omega)])
  | succ d ih =>
    intro i hd hi
    have hlt : i < l.length := by omega
    have h2 := outline_l2 l hl i hlt _ (ih (i + 1) (by omega) (by omega)) i 0 (by omega) (by omega)
    refine Tells.succ (h := fun k => thatchref07_outline.l2 k l (l.length : Int) (i : Int) 0) ?_ (fun k => by rw [thatchref07_outline.l1, if_pos (by omega)])
    have e : twiceFrom l i = ((l.take i).any (wear_checkOutline.same (l.getD i z32)) || twiceFrom l (i + 1)) := by
      unfold twiceFrom
      rw [List.drop_eq_getElem_cons (by simpa using hlt), List.any_cons, List.getElem_range]
    rw [List.drop_zero] at h2
    rw [e]
    cases hb : (l.take i).any (wear_checkOutline.same (l.getD i z32)) with
    | true => rw [hb] at h2; simpa using h2
    | false => rw [hb] at h2; simpa using h2
theorem twice_eq (l : List S32) : twiceFrom l 0 = wear_checkOutline.twice l l.length := by
  have key : ∀ n, ((List.range n).any fun j => (l.take j).any (wear_checkOutline.same (l.getD j z32))) = wear_checkOutline.twice l n := by
    intro n
    induction n with
    | zero => rfl
    | succ n ih => rw [List.range_succ, List.any_append, ih]; simp [wear_checkOutline.twice]
  unfold twiceFrom
  rw [List.drop_zero]
  exact key _
end Go.Proofs.Ytcfpclehogdmbaa.Q
end
section
namespace Go.Proofs.Ytcfpclehogdmbaa.Q
open Go.RowKit Go.Proofs.YtcfpclehogdmbaaW.PrintWords Go.Proofs.YtcfpclehogdmbaaW.PrintLast Go.Proofs.YtcfpclehogdmbaaW.PrintMore
set_option linter.unusedVariables false
set_option linter.unusedSimpArgs false
def ed (l : List S32) (i : Nat) : S32 × S32 := wear_sides.edge l (i % l.length)
def badEdge (l : List S32) (i : Nat) : Bool := l.any (fun p => decide (wear_has.left (ed l i).1 (ed l i).2 p.f0 p.f1 < 0)) || wear_checkOutline.back (ed l i) (ed l (i + 1))
def areaFrom (l : List S32) : Nat → Nat → Int → Int
  | 0, _, a => a
  | d + 1, i, a => areaFrom l d (i + 1) (wrap64 (a + wear_has.left (l.getD 0 z32) (ed l i).1 (ed l i).2.f0 (ed l i).2.f1))
theorem outline_l4 (l : List S32) (hl : l.length < 1000000) (i : Nat) (hi : i < l.length) (area : Int) (V : Int)
    (h1 : Tells (fun k => thatchref07_outline.l3 k l (l.length : Int) (wrap64 (area + wear_has.left (l.getD 0 z32) (ed l i).1 (ed l i).2.f0 (ed l i).2.f1)) ((i + 1 : Nat) : Int)) V) : ∀ (d t : Nat), l.length - t = d → t ≤ l.length →
    Tells (fun k => thatchref07_outline.l4 k l (l.length : Int) area (i : Int) (t : Int) (ed l i).1.f0 (ed l i).1.f1 (ed l i).2.f0 (ed l i).2.f1 (ed l (i + 1)).2.f0 (ed l (i + 1)).2.f1)
      (if (l.drop t).any (fun p => decide (wear_has.left (ed l i).1 (ed l i).2 p.f0 p.f1 < 0)) || wear_checkOutline.back (ed l i) (ed l (i + 1)) then 9 else V) := by
  have hen : (ed l (i + 1)).1 = (ed l i).2 := by
    unfold ed wear_sides.edge
    simp only
    rw [Nat.mod_eq_of_lt hi]
  intro d
  induction d with
  | zero =>
    intro t hd ht
    obtain rfl : t = l.length := by omega
    rw [List.drop_length, List.any_nil, Bool.false_or]
    have hr0 : rd_T32 l 0 = l.getD 0 z32 := rfl
    have hstep : ∀ k, thatchref07_outline.l4 (k + 1) l (l.length : Int) area (i : Int) (l.length : Int) (ed l i).1.f0 (ed l i).1.f1 (ed l i).2.f0 (ed l i).2.f1 (ed l (i + 1)).2.f0 (ed l (i + 1)).2.f1 =
        if wear_checkOutline.back (ed l i) (ed l (i + 1)) = true then some 9 else thatchref07_outline.l3 k l (l.length : Int) (wrap64 (area + wear_has.left (l.getD 0 z32) (ed l i).1 (ed l i).2.f0 (ed l i).2.f1)) ((i + 1 : Nat) : Int) := fun k => by
      rw [thatchref07_outline.l4, if_neg (by omega), wrap_nat hi hl, hr0]
      simp only [thatchref07_left.f, Option.bind_some]
      rw [if_pos (show (0 : Int) < (l.length : Int) by omega)]
      unfold wear_checkOutline.back
      rw [hen]
      show (if wear_has.left (ed l i).1 (ed l i).2 (ed l (i + 1)).2.f0 (ed l (i + 1)).2.f1 = 0 then _ else _) = _
      by_cases c0 : wear_has.left (ed l i).1 (ed l i).2 (ed l (i + 1)).2.f0 (ed l (i + 1)).2.f1 = 0
      · rw [if_pos c0, decide_eq_true c0, Bool.true_and]
        simp only [decide_eq_true_eq]
        rfl
      · rw [if_neg c0, decide_eq_false c0, Bool.false_and, if_neg (by decide)]
        rfl
    by_cases hb : wear_checkOutline.back (ed l i) (ed l (i + 1)) = true
    · rw [if_pos hb]
      exact Tells.succ (h := fun _ => some 9) (Tells.const fun _ => rfl) (fun k => by rw [hstep, if_pos hb])
    · rw [if_neg hb]
      exact Tells.succ h1 (fun k => by rw [hstep, if_neg hb])
  | succ d ih =>
    intro t hd ht
    have hlt : t < l.length := by omega
    have hih := ih (t + 1) (by omega) (by omega)
    rw [List.drop_eq_getElem_cons hlt, List.any_cons]
    have hstep : ∀ k, thatchref07_outline.l4 (k + 1) l (l.length : Int) area (i : Int) (t : Int) (ed l i).1.f0 (ed l i).1.f1 (ed l i).2.f0 (ed l i).2.f1 (ed l (i + 1)).2.f0 (ed l (i + 1)).2.f1 =
        if wear_has.left (ed l i).1 (ed l i).2 l[t].f0 l[t].f1 < 0 then some 9 else thatchref07_outline.l4 k l (l.length : Int) area (i : Int) ((t + 1 : Nat) : Int) (ed l i).1.f0 (ed l i).1.f1 (ed l i).2.f0 (ed l i).2.f1 (ed l (i + 1)).2.f0 (ed l (i + 1)).2.f1 := fun k => by
      rw [thatchref07_outline.l4, if_pos (by omega), if_pos (by omega), if_pos (by omega), wrap_nat hlt hl, rd_get l hlt]
      rfl
    by_cases hc : wear_has.left (ed l i).1 (ed l i).2 l[t].f0 l[t].f1 < 0
    · rw [decide_eq_true hc, Bool.true_or, Bool.true_or, if_pos rfl]
      exact Tells.succ (h := fun _ => some 9) (Tells.const fun _ => rfl) (fun k => by rw [hstep, if_pos hc])
    · rw [decide_eq_false hc, Bool.false_or]
      exact Tells.succ hih (fun k => by rw [hstep, if_neg hc])
theorem outline_l3 (l : List S32) (hl : l.length < 1000000) : ∀ (d i : Nat) (area : Int), l.length - i = d → i ≤ l.length →
    Tells (fun k => thatchref07_outline.l3 k l (l.length : Int) area (i : Int)) (if ((List.range l.length).drop i).any (badEdge l) then 9 else if areaFrom l d i area ≤ 0 then 9 else 0) := by
  intro d
  induction d with
  | zero =>
    intro i area hd hi
    obtain rfl : i = l.length := by omega
    rw [List.drop_of_length_le (by simp), List.any_nil, if_neg (by decide)]
    refine Tells.succ (h := fun _ => some (if area ≤ 0 then 9 else 0)) (Tells.const fun _ => rfl) (fun k => ?_)
    rw [thatchref07_outline.l3, if_neg (by omega)]
    by_cases h : area ≤ 0
    · rw [if_pos h, if_pos h]
    · rw [if_neg h, if_neg h]
  | succ d ih =>
    intro i area hd hi
    have hlt : i < l.length := by omega
    have h4 := outline_l4 l hl i hlt area _ (ih (i + 1) (wrap64 (area + wear_has.left (l.getD 0 z32) (ed l i).1 (ed l i).2.f0 (ed l i).2.f1)) (by omega) (by omega)) l.length 0 (by omega) (by omega)
    have hm1 : Int.tmod ((i + 1 : Nat) : Int) (l.length : Int) = (((i + 1) % l.length : Nat) : Int) := by rw [Int.natCast_emod]; exact Int.tmod_eq_emod_of_nonneg (by omega)
    have hm2 : Int.tmod ((i + 2 : Nat) : Int) (l.length : Int) = (((i + 2) % l.length : Nat) : Int) := by rw [Int.natCast_emod]; exact Int.tmod_eq_emod_of_nonneg (by omega)
    have hml1 : (i + 1) % l.length < l.length := Nat.mod_lt _ (by omega)
    have hml2 : (i + 2) % l.length < l.length := Nat.mod_lt _ (by omega)
    have hw2 : wrap64 ((i : Int) + 2) = ((i + 2 : Nat) : Int) := by rw [wrap_in (by omega) (by omega)]; omega
    have e0 : rd_T32 l (i : Int) = (ed l i).1 := by unfold ed wear_sides.edge; simp only; rw [Nat.mod_eq_of_lt hlt]; rfl
    have e1 : rd_T32 l (((i + 1) % l.length : Nat) : Int) = (ed l i).2 := by unfold ed wear_sides.edge; simp only; rw [Nat.mod_eq_of_lt hlt]; rfl
    have e2 : rd_T32 l (((i + 2) % l.length : Nat) : Int) = (ed l (i + 1)).2 := by unfold ed wear_sides.edge; simp only; rw [Nat.mod_add_mod]; rfl
    rw [List.drop_zero] at h4
    refine Tells.succ (h := fun k => thatchref07_outline.l4 k l (l.length : Int) area (i : Int) 0 (ed l i).1.f0 (ed l i).1.f1 (ed l i).2.f0 (ed l i).2.f1 (ed l (i + 1)).2.f0 (ed l (i + 1)).2.f1) ?_ (fun k => by
      rw [thatchref07_outline.l3, if_pos (by omega), if_pos (by omega), if_pos (by omega), if_neg (by omega), wrap_nat hlt hl, hw2, hm1, hm2, if_pos (by omega), if_pos (by omega), if_pos (by omega), if_pos (by omega), e0, e1, e2])
    rw [List.drop_eq_getElem_cons (by simpa using hlt), List.any_cons, List.getElem_range]
    unfold badEdge at h4 ⊢
    cases hb : (l.any (fun p => decide (wear_has.left (ed l i).1 (ed l i).2 p.f0 p.f1 < 0)) || wear_checkOutline.back (ed l i) (ed l (i + 1))) with
    | true => rw [hb] at h4; simpa using h4
    | false => rw [hb] at h4; simpa [areaFrom] using h4
end Go.Proofs.Ytcfpclehogdmbaa.Q
end
section
namespace Go.Proofs.Ytcfpclehogdmbaa.Q
open Go.RowKit Go.Proofs.YtcfpclehogdmbaaW.PrintWords Go.Proofs.YtcfpclehogdmbaaW.PrintLast Go.Proofs.YtcfpclehogdmbaaW.PrintMore
set_option linter.unusedVariables false
set_option linter.unusedSimpArgs false
def OutlineCore : Prop := ∀ l : List S32, 3 ≤ l.length → l.length ≤ 12 → (∀ p ∈ l, wear_checkOutline.placed p = true) →
  (if (List.range l.length).any (badEdge l) then (9 : Int) else if areaFrom l l.length 0 0 ≤ 0 then 9 else 0) = if (wear_checkOutline.scan l (upTo (wear_sides.edge l) l.length)).2.2 && (wear_checkOutline.scan l (upTo (wear_sides.edge l) l.length)).2.1 then 0 else 9
theorem outline_tells (hcore : OutlineCore) (l : List S32) : Tells (fun k => thatchref07_outline.f k l) (wear_checkOutline.err l) := by
  by_cases hlen : 3 ≤ l.length ∧ l.length ≤ 12
  · have hl : l.length < 1000000 := by omega
    have h3 := outline_l3 l hl l.length 0 0 (by omega) (by omega)
    have h1 := outline_l1 l hl _ h3 l.length 0 (by omega) (by omega)
    have h0 := outline_l0 l hl _ h1 l.length 0 (by omega) (by omega)
    rw [List.drop_zero, List.drop_zero, twice_eq] at h0
    have hf : ∀ k, thatchref07_outline.f k l = thatchref07_outline.l0 k l (l.length : Int) 0 := fun k => by
      unfold thatchref07_outline.f
      rw [in07_tells, decide_eq_true (by omega), Option.bind_some, if_pos rfl]
    have e : wear_checkOutline.err l = (if l.any (fun p => !(wear_checkOutline.placed p)) then 1 else if wear_checkOutline.twice l l.length then 6 else if (List.range l.length).any (badEdge l) then (9 : Int) else if areaFrom l l.length 0 0 ≤ 0 then 9 else 0) := by
      unfold wear_checkOutline.err
      rw [decide_eq_true hlen, Bool.not_true, Bool.false_or]
      cases hp : l.any (fun p => !(wear_checkOutline.placed p)) with
      | true => rfl
      | false =>
        have hpl : ∀ p ∈ l, wear_checkOutline.placed p = true := fun p hm => by
          have := List.any_eq_false.1 hp p hm
          simpa using this
        rw [hcore l hlen.1 hlen.2 hpl]
    rw [e]
    exact h0.of_eq hf
  · have e : wear_checkOutline.err l = 1 := by
      unfold wear_checkOutline.err
      rw [decide_eq_false hlen]
      rfl
    rw [e]
    refine Tells.const fun k => ?_
    unfold thatchref07_outline.f
    rw [in07_tells, decide_eq_false (by omega), Option.bind_some]
    rfl
end Go.Proofs.Ytcfpclehogdmbaa.Q
end
section
namespace Go.Proofs.Ytcfpclehogdmbaa.Q
open Go.RowKit Go.Proofs.YtcfpclehogdmbaaW.PrintWords Go.Proofs.YtcfpclehogdmbaaW.PrintLast Go.Proofs.YtcfpclehogdmbaaW.PrintMore
set_option linter.unusedVariables false
set_option linter.unusedSimpArgs false
def negEdge (l : List S32) (i : Nat) : Bool := l.any (fun p => decide (wear_has.left (ed l i).1 (ed l i).2 p.f0 p.f1 < 0))
def posEdge (l : List S32) (i : Nat) : Bool := l.any (fun p => decide (wear_has.left (ed l i).1 (ed l i).2 p.f0 p.f1 > 0))
theorem ed_edge (l : List S32) {i : Nat} (h : i < l.length) : wear_sides.edge l i = ed l i := by unfold ed; rw [Nat.mod_eq_of_lt h]
def prevEd (l : List S32) (i : Nat) : S32 × S32 := ed l (i + l.length - 1)
theorem scan_upTo (l : List S32) (h0 : 0 < l.length) : ∀ m, m ≤ l.length → wear_checkOutline.scan l (upTo (wear_sides.edge l) m) =
    (prevEd l m, (List.range m).any (posEdge l), !((List.range m).any fun i => negEdge l i || wear_checkOutline.back (prevEd l i) (ed l i))) := by
  intro m
  induction m with
  | zero =>
    intro _
    show ((l.getD (l.length - 1) z32, l.getD 0 z32), false, true) = _
    have e : prevEd l 0 = (l.getD (l.length - 1) z32, l.getD 0 z32) := by
      unfold prevEd ed wear_sides.edge
      rw [Nat.zero_add, Nat.mod_eq_of_lt (by omega), show l.length - 1 + 1 = l.length by omega, Nat.mod_self]
    rw [e]
    rfl
  | succ m ih =>
    intro hm
    rw [upTo_succ, wear_checkOutline.scan_snoc, ih (by omega), ed_edge l (by omega)]
    have e : prevEd l (m + 1) = ed l m := by
      unfold prevEd ed
      rw [show m + 1 + l.length - 1 = m + l.length by omega, Nat.add_mod_right]
    simp only [wear_checkOutline.step, List.range_succ, List.any_append, List.any_cons, List.any_nil, Bool.or_false, e, negEdge, posEdge]
    simp only [Prod.mk.injEq, true_and]
    simp only [Bool.not_or, Bool.and_assoc]
theorem ed_add (l : List S32) (i : Nat) : ed l (i + l.length) = ed l i := by unfold ed; rw [Nat.add_mod_right]
theorem bad_cyclic (l : List S32) (h0 : 0 < l.length) : ((List.range l.length).any fun i => negEdge l i || wear_checkOutline.back (prevEd l i) (ed l i)) = (List.range l.length).any (badEdge l) := by
  rw [Bool.eq_iff_iff, List.any_eq_true, List.any_eq_true]
  constructor
  · rintro ⟨i, hi, h⟩
    have hi := List.mem_range.1 hi
    rcases Bool.or_eq_true_iff.1 h with h | h
    · exact ⟨i, List.mem_range.2 hi, Bool.or_eq_true_iff.2 (.inl h)⟩
    · rcases Nat.eq_zero_or_pos i with rfl | hp
      · refine ⟨l.length - 1, List.mem_range.2 (by omega), Bool.or_eq_true_iff.2 (.inr ?_)⟩
        rw [show l.length - 1 + 1 = 0 + l.length by omega, ed_add]
        unfold prevEd at h
        rwa [Nat.zero_add] at h
      · refine ⟨i - 1, List.mem_range.2 (by omega), Bool.or_eq_true_iff.2 (.inr ?_)⟩
        unfold prevEd at h
        rw [show i + l.length - 1 = (i - 1) + l.length by omega, ed_add] at h
        rwa [show i - 1 + 1 = i by omega]
  · rintro ⟨i, hi, h⟩
    have hi := List.mem_range.1 hi
    rcases Bool.or_eq_true_iff.1 h with h | h
    · exact ⟨i, List.mem_range.2 hi, Bool.or_eq_true_iff.2 (.inl h)⟩
    · by_cases hl : i + 1 < l.length
      · refine ⟨i + 1, List.mem_range.2 hl, Bool.or_eq_true_iff.2 (.inr ?_)⟩
        unfold prevEd
        rwa [show i + 1 + l.length - 1 = i + l.length by omega, ed_add]
      · refine ⟨0, List.mem_range.2 h0, Bool.or_eq_true_iff.2 (.inr ?_)⟩
        unfold prevEd
        rw [show i + 1 = 0 + l.length by omega, ed_add] at h
        rwa [show 0 + l.length - 1 = i by omega]
end Go.Proofs.Ytcfpclehogdmbaa.Q
end
section
namespace Go.Proofs.Ytcfpclehogdmbaa.Q
open Go.RowKit Go.Proofs.YtcfpclehogdmbaaW.PrintWords Go.Proofs.YtcfpclehogdmbaaW.PrintLast Go.Proofs.YtcfpclehogdmbaaW.PrintMore
set_option linter.unusedVariables false
set_option linter.unusedSimpArgs false
def sumN (f : Nat → Int) : Nat → Int
  | 0 => 0
  | n + 1 => sumN f n + f n
theorem sumN_congr {f g : Nat → Int} {n : Nat} (h : ∀ i, i < n → f i = g i) : sumN f n = sumN g n := by
  induction n with
  | zero => rfl
  | succ n ih => simp only [sumN]; rw [ih (fun i hi => h i (by omega)), h n (by omega)]
theorem sumN_add (f g : Nat → Int) (n : Nat) : sumN (fun i => f i + g i) n = sumN f n + sumN g n := by
  induction n with
  | zero => rfl
  | succ n ih => simp only [sumN, ih]; omega
theorem sumN_mul (c : Int) (f : Nat → Int) (n : Nat) : sumN (fun i => c * f i) n = c * sumN f n := by
  induction n with
  | zero => simp [sumN]
  | succ n ih => simp only [sumN, ih, Int.mul_add]
theorem sumN_tele (g : Nat → Int) (n : Nat) : sumN (fun i => g (i + 1) - g i) n = g n - g 0 := by
  induction n with
  | zero => simp [sumN]
  | succ n ih => simp only [sumN, ih]; omega
theorem sumN_nonneg {f : Nat → Int} {n : Nat} (h : ∀ i, i < n → 0 ≤ f i) : 0 ≤ sumN f n := by
  induction n with
  | zero => simp [sumN]
  | succ n ih => simp only [sumN]; have := ih (fun i hi => h i (by omega)); have := h n (by omega); omega
theorem sumN_pos {f : Nat → Int} {n : Nat} (h : ∀ i, i < n → 0 ≤ f i) (j : Nat) (hj : j < n) (hp : 0 < f j) : 0 < sumN f n := by
  induction n with
  | zero => omega
  | succ n ih =>
    simp only [sumN]
    have h1 := sumN_nonneg (n := n) (fun i hi => h i (by omega))
    have h2 := h n (by omega)
    by_cases hjn : j = n
    · subst hjn; omega
    · have := ih (fun i hi => h i (by omega)) (by omega); omega
theorem sumN_some {f : Nat → Int} {n : Nat} (h : 0 < sumN f n) : ∃ i, i < n ∧ 0 < f i := by
  induction n with
  | zero => simp [sumN] at h
  | succ n ih =>
    simp only [sumN] at h
    by_cases hf : 0 < f n
    · exact ⟨n, by omega, hf⟩
    · obtain ⟨i, hi, hp⟩ := ih (by omega)
      exact ⟨i, by omega, hp⟩
def crossL (a b : S32) (p0 p1 : Int) : Int := (b.f0 - a.f0) * (p1 - a.f1) - (b.f1 - a.f1) * (p0 - a.f0)
def inP (p : S32) : Prop := 0 ≤ p.f0 ∧ p.f0 ≤ 400 ∧ 0 ≤ p.f1 ∧ p.f1 ≤ 400
theorem mul_bound {a b : Int} (h1 : -400 ≤ a) (h2 : a ≤ 400) (h3 : -400 ≤ b) (h4 : b ≤ 400) : -160000 ≤ a * b ∧ a * b ≤ 160000 := by
  have e1 := Int.mul_nonneg (show 0 ≤ 400 - a by omega) (show 0 ≤ 400 - b by omega)
  have e2 := Int.mul_nonneg (show 0 ≤ 400 + a by omega) (show 0 ≤ 400 + b by omega)
  have e3 := Int.mul_nonneg (show 0 ≤ 400 - a by omega) (show 0 ≤ 400 + b by omega)
  have e4 := Int.mul_nonneg (show 0 ≤ 400 + a by omega) (show 0 ≤ 400 - b by omega)
  simp only [Int.sub_mul, Int.add_mul, Int.mul_sub, Int.mul_add] at e1 e2 e3 e4
  constructor <;> omega
theorem left_plain (a b : S32) (p0 p1 : Int) (ha : inP a) (hb : inP b) (hp : inP ⟨p0, p1⟩) : wear_has.left a b p0 p1 = crossL a b p0 p1 ∧ -320000 ≤ crossL a b p0 p1 ∧ crossL a b p0 p1 ≤ 320000 := by
  obtain ⟨a0, a1, a2, a3⟩ := ha
  obtain ⟨b0, b1, b2, b3⟩ := hb
  obtain ⟨q0, q1, q2, q3⟩ := hp
  simp only at q0 q1 q2 q3
  have m1 := mul_bound (a := b.f0 - a.f0) (b := p1 - a.f1) (by omega) (by omega) (by omega) (by omega)
  have m2 := mul_bound (a := b.f1 - a.f1) (b := p0 - a.f0) (by omega) (by omega) (by omega) (by omega)
  unfold wear_has.left crossL
  rw [wrap_in (n := b.f0 - a.f0) (by omega) (by omega), wrap_in (n := p1 - a.f1) (by omega) (by omega), wrap_in (n := b.f1 - a.f1) (by omega) (by omega), wrap_in (n := p0 - a.f0) (by omega) (by omega)]
  generalize (b.f0 - a.f0) * (p1 - a.f1) = X at *
  generalize (b.f1 - a.f1) * (p0 - a.f0) = Y at *
  rw [wrap_in (n := X) (by omega) (by omega), wrap_in (n := Y) (by omega) (by omega), wrap_in (by omega) (by omega)]
  omega
theorem crossL_open (a b : S32) (p0 p1 : Int) : crossL a b p0 p1 = (a.f0 * b.f1 - a.f1 * b.f0) + (p1 * (b.f0 - a.f0) + -p0 * (b.f1 - a.f1)) := by
  unfold crossL
  simp only [Int.sub_mul, Int.mul_sub, Int.neg_mul]
  have e1 := Int.mul_comm b.f0 a.f1
  have e2 := Int.mul_comm b.f1 a.f0
  have e3 := Int.mul_comm b.f0 p1
  have e4 := Int.mul_comm b.f1 p0
  have e5 := Int.mul_comm a.f0 p1
  have e6 := Int.mul_comm a.f1 p0
  have e7 := Int.mul_comm a.f0 a.f1
  omega
theorem crossL_turn (q a b : S32) : crossL q a b.f0 b.f1 = crossL a b q.f0 q.f1 := by
  rw [crossL_open, crossL_open]
  simp only [Int.mul_sub, Int.neg_mul]
  have e1 := Int.mul_comm b.f0 a.f1
  have e2 := Int.mul_comm b.f1 a.f0
  have e3 := Int.mul_comm b.f0 q.f1
  have e4 := Int.mul_comm b.f1 q.f0
  have e5 := Int.mul_comm a.f0 q.f1
  have e6 := Int.mul_comm a.f1 q.f0
  omega
theorem sum_cross (l : List S32) (h0 : 0 < l.length) (p0 p1 : Int) : sumN (fun i => crossL (ed l i).1 (ed l i).2 p0 p1) l.length = sumN (fun i => (ed l i).1.f0 * (ed l i).2.f1 - (ed l i).1.f1 * (ed l i).2.f0) l.length := by
  have e1 : sumN (fun i => (ed l i).2.f0 - (ed l i).1.f0) l.length = 0 := by
    have := sumN_tele (fun i => (ed l i).1.f0) l.length
    rw [show ed l l.length = ed l 0 by have := ed_add l 0; rwa [Nat.zero_add] at this] at this
    rw [sumN_congr (g := fun i => (ed l (i + 1)).1.f0 - (ed l i).1.f0) (fun i hi => by
      have : (ed l (i + 1)).1 = (ed l i).2 := by unfold ed wear_sides.edge; simp only; rw [Nat.mod_eq_of_lt hi]
      simp only [this])]
    simpa using this
  have e2 : sumN (fun i => (ed l i).2.f1 - (ed l i).1.f1) l.length = 0 := by
    have := sumN_tele (fun i => (ed l i).1.f1) l.length
    rw [show ed l l.length = ed l 0 by have := ed_add l 0; rwa [Nat.zero_add] at this] at this
    rw [sumN_congr (g := fun i => (ed l (i + 1)).1.f1 - (ed l i).1.f1) (fun i hi => by
      have : (ed l (i + 1)).1 = (ed l i).2 := by unfold ed wear_sides.edge; simp only; rw [Nat.mod_eq_of_lt hi]
      simp only [this])]
    simpa using this
  rw [sumN_congr (fun i _ => crossL_open (ed l i).1 (ed l i).2 p0 p1), sumN_add, sumN_add, sumN_mul, sumN_mul, e1, e2]
  simp
end Go.Proofs.Ytcfpclehogdmbaa.Q
end
section
namespace Go.Proofs.Ytcfpclehogdmbaa.Q
open Go.RowKit Go.Proofs.YtcfpclehogdmbaaW.PrintWords Go.Proofs.YtcfpclehogdmbaaW.PrintLast Go.Proofs.YtcfpclehogdmbaaW.PrintMore
set_option linter.unusedVariables false
set_option linter.unusedSimpArgs false
theorem getD_in (l : List S32) (hin : ∀ p ∈ l, inP p) {i : Nat} (h : i < l.length) : inP (l.getD i z32) := by
  rw [show l.getD i z32 = l[i] by simp [List.getD_eq_getElem?_getD, List.getElem?_eq_getElem h]]
  exact hin _ (List.getElem_mem h)
theorem ed_in (l : List S32) (h0 : 0 < l.length) (hin : ∀ p ∈ l, inP p) (i : Nat) : inP (ed l i).1 ∧ inP (ed l i).2 :=
  ⟨getD_in l hin (Nat.mod_lt _ h0), getD_in l hin (Nat.mod_lt _ h0)⟩
theorem area_plain (l : List S32) (h0 : 0 < l.length) (hin : ∀ p ∈ l, inP p) : ∀ (d i : Nat) (a : Int), i + d ≤ 12 → -320000 * (i : Int) ≤ a → a ≤ 320000 * (i : Int) →
    areaFrom l d i a = a + (sumN (fun j => crossL (l.getD 0 z32) (ed l j).1 (ed l j).2.f0 (ed l j).2.f1) (i + d) - sumN (fun j => crossL (l.getD 0 z32) (ed l j).1 (ed l j).2.f0 (ed l j).2.f1) i) := by
  intro d
  induction d with
  | zero => intro i a h1 h2 h3; simp [areaFrom]
  | succ d ih =>
    intro i a h1 h2 h3
    obtain ⟨e1, e2, e3⟩ := left_plain (l.getD 0 z32) (ed l i).1 (ed l i).2.f0 (ed l i).2.f1 (getD_in l hin h0) (ed_in l h0 hin i).1 (ed_in l h0 hin i).2
    show areaFrom l d (i + 1) (wrap64 (a + wear_has.left (l.getD 0 z32) (ed l i).1 (ed l i).2.f0 (ed l i).2.f1)) = _
    rw [e1, wrap_in (by omega) (by omega), ih (i + 1) _ (by omega) (by omega) (by omega), show i + (d + 1) = i + 1 + d by omega]
    simp only [sumN]
    omega
theorem outline_core : OutlineCore := by
  intro l h3 h12 hpl
  have h0 : 0 < l.length := by omega
  have hin : ∀ p ∈ l, inP p := fun p hp => by
    have := hpl p hp
    simpa [wear_checkOutline.placed, inP] using this
  rw [scan_upTo l h0 l.length (Nat.le_refl _), bad_cyclic l h0]
  cases hb : (List.range l.length).any (badEdge l) with
  | true => rfl
  | false =>
    rw [if_neg (by decide)]
    simp only [Bool.not_false, Bool.true_and]
    have hnn : ∀ p ∈ l, ∀ i, i < l.length → 0 ≤ crossL (ed l i).1 (ed l i).2 p.f0 p.f1 := fun p hp i hi => by
      have h1 := List.any_eq_false.1 hb i (List.mem_range.2 hi)
      have h2 : negEdge l i = false := by
        unfold badEdge at h1
        unfold negEdge
        cases hh : (l.any fun p => decide (wear_has.left (ed l i).1 (ed l i).2 p.f0 p.f1 < 0)) with
        | true => rw [hh] at h1; simp at h1
        | false => rfl
      have h4 := List.any_eq_false.1 h2 p hp
      have h5 := (left_plain (ed l i).1 (ed l i).2 p.f0 p.f1 (ed_in l h0 hin i).1 (ed_in l h0 hin i).2 (hin p hp)).1
      rw [h5] at h4
      simpa using h4
    have hA := area_plain l h0 hin l.length 0 0 (by omega) (by omega) (by omega)
    have hm0 : l.getD 0 z32 ∈ l := by rw [show l.getD 0 z32 = l[0] by simp [List.getD_eq_getElem?_getD, List.getElem?_eq_getElem h0]]; exact List.getElem_mem h0
    have hA2 : areaFrom l l.length 0 0 = sumN (fun j => crossL (ed l j).1 (ed l j).2 (l.getD 0 z32).f0 (l.getD 0 z32).f1) l.length := by
      rw [hA, Nat.zero_add, sumN_congr (fun i _ => crossL_turn (l.getD 0 z32) (ed l i).1 (ed l i).2)]
      simp [sumN]
    rw [hA2]
    cases hs : (List.range l.length).any (posEdge l) with
    | true =>
      obtain ⟨i, hi, hp⟩ := List.any_eq_true.1 hs
      obtain ⟨p, hpm, hpp⟩ := List.any_eq_true.1 hp
      have h5 := (left_plain (ed l i).1 (ed l i).2 p.f0 p.f1 (ed_in l h0 hin i).1 (ed_in l h0 hin i).2 (hin p hpm)).1
      rw [h5] at hpp
      have h6 := sumN_pos (f := fun j => crossL (ed l j).1 (ed l j).2 p.f0 p.f1) (n := l.length) (fun j hj => hnn p hpm j hj) i (List.mem_range.1 hi) (by simpa using hpp)
      rw [sum_cross l h0, ← sum_cross l h0 (l.getD 0 z32).f0 (l.getD 0 z32).f1] at h6
      rw [if_neg (by omega), if_pos rfl]
    | false =>
      suffices hle : sumN (fun j => crossL (ed l j).1 (ed l j).2 (l.getD 0 z32).f0 (l.getD 0 z32).f1) l.length ≤ 0 by rw [if_pos hle]; rfl
      refine Int.not_lt.1 fun hlt => ?_
      obtain ⟨i, hi, hp⟩ := sumN_some hlt
      have h1 := List.any_eq_false.1 hs i (List.mem_range.2 hi)
      refine h1 (List.any_eq_true.2 ⟨_, hm0, ?_⟩)
      have h5 := (left_plain (ed l i).1 (ed l i).2 (l.getD 0 z32).f0 (l.getD 0 z32).f1 (ed_in l h0 hin i).1 (ed_in l h0 hin i).2 (hin _ hm0)).1
      rw [h5]
      simpa using hp
end Go.Proofs.Ytcfpclehogdmbaa.Q
end
section
namespace Go.Proofs.Ytcfpclehogdmbaa.Q
open Go.RowKit Go.Proofs.YtcfpclehogdmbaaW.PrintWords Go.Proofs.YtcfpclehogdmbaaW.PrintLast Go.Proofs.YtcfpclehogdmbaaW.PrintMore
attribute [local go_sem] max2_int min2_int max_two min_two max_three min_three max_four min_four   -- for this text's walks alone
set_option linter.unusedVariables false
set_option linter.unusedSimpArgs false
def thatchref07_span.f (a0_0 : Int) (a0_1 : Int) (a1 : Int) : Option (Bool) := if 0 ≤ a0_0 then (if a0_0 ≤ a0_1 then (some (decide (a0_1 ≤ a1))) else (some false)) else (some false)
set_option maxHeartbeats 8000000 in
set_option maxRecDepth 100000 in
theorem thatchref07_span.calls (a0_0 : Int) (a0_1 : Int) (a1 : Int) (r : Bool) (w : World) (h : thatchref07_span.f a0_0 a0_1 a1 = some r) :
  Calls Try.prog 52 #[.agg #[.int .i64 a0_0, .int .i64 a0_1], .int .i64 a1] w fun e w' => e = .returned (.bool r) ∧ Below w.heap.size w w' := by
 have hu27 := Try.underlying27
 have HB := Aside0.mk (Below.refl w.heap.size w)
 have H : (if 0 ≤ a0_0 then (if a0_0 ≤ a0_1 then (some (decide (a0_1 ≤ a1))) else (some false)) else (some false)) = some r := h
 clear h
 by_cases c3 : 0 ≤ a0_0
 ·rw [if_pos c3] at H
  have c3b0 : decide (0 ≤ a0_0) = true := decide_eq_true c3
  clear c3
  by_cases c4 : a0_0 ≤ a0_1
  ·rw [if_pos c4] at H
   have c4b0 : decide (a0_0 ≤ a0_1) = true := decide_eq_true c4
   clear c4
   obtain rfl := Option.some.inj H
   go_enter Try.func52, Try.ntmps52
   go_wp2_with (first | ((with_reducible refine gate_dst (N := 2) rfl ?_); refine zx 2 #[.int .i64 a0_0, .int .i64 a0_1] 27 ?_; intro gb252 hg w5 hbox hb; have n0_ := zY HB hb; have n1_ := Aside0.mk (hbox); have n2_ := zS hg HB; have n3_ := zS hg HB; clear HB; have HB := n0_; have BK252 := n1_; have GW252 := n2_; have GE252 := n3_; clear n0_ n1_ n2_ n3_; clear hb hbox hg; obtain ⟨hcz6_0, hcz6_1, hfz6_0, hfz6_1⟩ := zk2 BK252))
   go_ret
   exact ⟨ze, zw HB⟩
  rw [if_neg c4] at H
  have c4b0 : decide (a0_0 ≤ a0_1) = false := decide_eq_false c4
  clear c4
  obtain rfl := Option.some.inj H
  go_enter Try.func52, Try.ntmps52
  go_wp2_with (first | ((with_reducible refine gate_dst (N := 2) rfl ?_); refine zx 2 #[.int .i64 a0_0, .int .i64 a0_1] 27 ?_; intro gb252 hg w7 hbox hb; have n0_ := zY HB hb; have n1_ := Aside0.mk (hbox); have n2_ := zS hg HB; have n3_ := zS hg HB; clear HB; have HB := n0_; have BK252 := n1_; have GW252 := n2_; have GE252 := n3_; clear n0_ n1_ n2_ n3_; clear hb hbox hg; obtain ⟨hcz8_0, hcz8_1, hfz8_0, hfz8_1⟩ := zk2 BK252))
  go_ret
  exact ⟨ze, zw HB⟩
 rw [if_neg c3] at H
 have c3b0 : decide (0 ≤ a0_0) = false := decide_eq_false c3
 clear c3
 obtain rfl := Option.some.inj H
 go_enter Try.func52, Try.ntmps52
 go_wp2_with (first | ((with_reducible refine gate_dst (N := 2) rfl ?_); refine zx 2 #[.int .i64 a0_0, .int .i64 a0_1] 27 ?_; intro gb252 hg w9 hbox hb; have n0_ := zY HB hb; have n1_ := Aside0.mk (hbox); have n2_ := zS hg HB; have n3_ := zS hg HB; clear HB; have HB := n0_; have BK252 := n1_; have GW252 := n2_; have GE252 := n3_; clear n0_ n1_ n2_ n3_; clear hb hbox hg; obtain ⟨hcz10_0, hcz10_1, hfz10_0, hfz10_1⟩ := zk2 BK252))
 go_ret
 exact ⟨ze, zw HB⟩
def thatchref07_far.f (a0_0 : Int) (a0_1 : Int) (a1_0 : Int) (a1_1 : Int) : Option (Int) := some (wrap64 ((mx (wrap64 (a0_0 - a1_0)) (wrap64 (a1_0 - a0_0))) + (mx (wrap64 (a0_1 - a1_1)) (wrap64 (a1_1 - a0_1)))))
set_option maxHeartbeats 8000000 in
set_option maxRecDepth 100000 in
theorem thatchref07_far.calls (a0_0 : Int) (a0_1 : Int) (a1_0 : Int) (a1_1 : Int) (r : Int) (w : World) (h : thatchref07_far.f a0_0 a0_1 a1_0 a1_1 = some r) :
  Calls Try.prog 64 #[.agg #[.int .i64 a0_0, .int .i64 a0_1], .agg #[.int .i64 a1_0, .int .i64 a1_1]] w fun e w' => e = .returned (.int .i64 r) ∧ Below w.heap.size w w' := by
 have hu32 := Try.underlying32
 have HB := Aside0.mk (Below.refl w.heap.size w)
 have H : (some (wrap64 ((mx (wrap64 (a0_0 - a1_0)) (wrap64 (a1_0 - a0_0))) + (mx (wrap64 (a0_1 - a1_1)) (wrap64 (a1_1 - a0_1)))))) = some r := h
 clear h
 obtain ⟨ji3, hji3⟩ : ∃ j_ : Int, (mx (wrap64 (a0_0 - a1_0)) (wrap64 (a1_0 - a0_0))) = j_ := ⟨_, rfl⟩
 replace H : (some (wrap64 ((ji3) + (mx (wrap64 (a0_1 - a1_1)) (wrap64 (a1_1 - a0_1)))))) = some r := by first | (rw [hji3] at H; exact H) | (simp only [hji3] at H ⊢; exact H)
 have hji3_ : (if (wrap64 (a0_0 - a1_0)) < (wrap64 (a1_0 - a0_0)) then (wrap64 (a1_0 - a0_0)) else (wrap64 (a0_0 - a1_0))) = ji3 := hji3
 obtain ⟨ji4, hji4⟩ : ∃ j_ : Int, (mx (wrap64 (a0_1 - a1_1)) (wrap64 (a1_1 - a0_1))) = j_ := ⟨_, rfl⟩
 replace H : (some (wrap64 ((ji3) + (ji4)))) = some r := by first | (rw [hji4] at H; exact H) | (simp only [hji4] at H ⊢; exact H)
 have hji4_ : (if (wrap64 (a0_1 - a1_1)) < (wrap64 (a1_1 - a0_1)) then (wrap64 (a1_1 - a0_1)) else (wrap64 (a0_1 - a1_1))) = ji4 := hji4
 obtain rfl := Option.some.inj H
 go_enter Try.func64, Try.ntmps64
 go_wp2_with (first | ((with_reducible refine gate_dst (N := 2) rfl ?_); refine zx 2 #[.int .i64 a0_0, .int .i64 a0_1] 32 ?_; intro gb253 hg w5 hbox hb; have n0_ := zY HB hb; have n1_ := Aside0.mk (hbox); have n2_ := zS hg HB; have n3_ := zS hg HB; clear HB; have HB := n0_; have BK253 := n1_; have GW253 := n2_; have GE253 := n3_; clear n0_ n1_ n2_ n3_; clear hb hbox hg) | ((with_reducible refine gate_dst (N := 3) rfl ?_); refine zx 3 #[.int .i64 a1_0, .int .i64 a1_1] 32 ?_; intro gb254 hg w6 hbox hb; have n0_ := zD BK253 hb; have n1_ := zY HB hb; have n2_ := Aside0.mk (hbox); have n3_ := zS hg HB; have n4_ := zS hg HB; have n5_ := zN hg BK253; have n6_ := zM hg BK253; clear BK253; clear HB; have BK253 := n0_; have HB := n1_; have BK254 := n2_; have GW254 := n3_; have GE254 := n4_; have NB253_254 := n5_; have NB254_253 := n6_; clear n0_ n1_ n2_ n3_ n4_ n5_ n6_; clear hb hbox hg; have hnb7 := NB253_254.out; have hnc7 := NB254_253.out; obtain ⟨hcz8_0, hcz8_1, hfz8_0, hfz8_1⟩ := zk2 BK253; obtain ⟨hcz9_0, hcz9_1, hfz9_0, hfz9_1⟩ := zk2 BK254))
 go_ret
 exact ⟨by first | rfl | (simp [errW_none, errW_some] <;> rfl) | (simp only [← hji3, ← hji4]; first | rfl | (simp [errW_none, errW_some] <;> rfl)) | (simp [*, errW_none, errW_some] <;> rfl), zw HB⟩
end Go.Proofs.Ytcfpclehogdmbaa.Q
end
