/- part 4 of a proof over the translation: walks that a program of ours has printed and shortened, and plain laws; each says what stands in it -/
import Derived.Test.YtcfpclehogdmbaaOB0
import Derived.Test.YtcfpclehogdmbaaOB2
import Derived.Test.YtcfpclehogdmbaaOB3
section
namespace Go.Proofs.Ytcfpclehogdmbaa.Q
open Go.RowKit Go.Proofs.YtcfpclehogdmbaaW.PrintWords Go.Proofs.YtcfpclehogdmbaaW.PrintLast Go.Proofs.YtcfpclehogdmbaaW.PrintMore
attribute [local go_sem] max2_int min2_int max_two min_two max_three min_three max_four min_four   -- for this text's walks alone
set_option linter.unusedVariables false
set_option linter.unusedSimpArgs false
def thatchlaw07_all.l0 : Nat → List (S43) → Int → List (S32) → List (S55) → Int → Int → Int → List (S67) → Option ((List (S32)) × (List (S55)) × Int × Int × Int × (List (S67)) × Int)
 | 0, _, _, _, _, _, _, _, _ => none
 | k + 1, x1, x6, x371000, x371001, x371002, x371003, x371004, x371005 => if x6 < (x1.length : Int) then (if 0 ≤ x6 then ((wear_Probe.f k x371000 x371001 x371002 x371003 x371004 x371005 ((rd_T43 x1 x6).f0.f0) ((rd_T43 x1 x6).f0.f1) ((rd_T43 x1 x6).f1) ((rd_T43 x1 x6).f2)).bind fun bt375 => (if bt375.2.2.2.2.2.2 = 0 then (thatchlaw07_all.l0 k x1 (wrap64 (x6 + 1)) bt375.1 bt375.2.1 bt375.2.2.1 bt375.2.2.2.1 bt375.2.2.2.2.1 bt375.2.2.2.2.2.1) else (some (([] : List (S32)), ([] : List (S55)), 0, 0, 0, ([] : List (S67)), bt375.2.2.2.2.2.2)))) else (none)) else (some (x371000, x371001, x371002, x371003, x371004, x371005, 0))
def thatchlaw07_all.f (k : Nat) (l0_0 : List (S32)) (l0_1 : List (S55)) (a0_2 : Int) (a0_3 : Int) (a0_4 : Int) (l0_5 : List (S67)) (l1 : List (S43)) : Option ((List (S32)) × (List (S55)) × Int × Int × Int × (List (S67)) × Int) := thatchlaw07_all.l0 k l1 0 l0_0 l0_1 a0_2 a0_3 a0_4 l0_5
def thatchlaw07_all.T4 : Bool × List (List Nat × List Nat) := (true, [([], []), ([], []), ([], []), ([1, 2], [1, 2]), ([3], [3]), ([4], [4]), ([], []), ([], []), ([6, 7], [6, 7]), ([8], [8]), ([9], [9]), ([], []), ([], []), ([11, 12], [11, 12]), ([13], [13]), ([14], [14]), ([0, 5, 10, 15], [0, 5, 10, 15]), ([16], [16]), ([17], [17]), ([17], [17]), ([], []), ([20, 18, 16, 0, 1, 2, 3, 4, 5, 6, 7, 8, 9, 10, 11, 12, 13, 14, 15, 16, 17, 18, 20], [18, 20]), ([19, 21, 0, 1, 2, 3, 4, 5, 6, 7, 8, 9, 10, 11, 12, 13, 14, 15, 16, 17, 18, 19, 20, 21], [19])])
def thatchlaw07_all.B4 : List Nat := [0, 0, 0, 6, 14, 30, 0, 0, 192, 448, 960, 0, 0, 6144, 14336, 30720, 65535, 131071, 262143, 262143, 0, 1572863, 4194303]
theorem thatchlaw07_all.tab4 : rtab .any (opsOf Try.f12 4) = thatchlaw07_all.T4 := by kernel_rfl
theorem thatchlaw07_all.bits4 : waitsOk thatchlaw07_all.T4.2 thatchlaw07_all.B4 = true := by kernel_rfl
set_option maxHeartbeats 8000000 in
set_option maxRecDepth 100000 in
theorem thatchlaw07_all.calls (k : Nat) (P0_0_ : Nat → Prop) (A0_0 : Option Addr) (c0_0 : Nat) (l0_0 : List (S32)) (P0_1_ : Nat → Prop) (A0_1 : Option Addr) (c0_1 : Nat) (l0_1 : List (S55)) (a0_2 : Int) (a0_3 : Int) (a0_4 : Int) (P0_5_ : Nat → Prop) (A0_5 : Option Addr) (c0_5 : Nat) (l0_5 : List (S67)) (A1 : Option Addr) (c1 : Nat) (l1 : List (S43)) (r1 : List (S32)) (r2 : List (S55)) (r3 : Int) (r4 : Int) (r5 : Int) (r6 : List (S67)) (r7 : Int) (w : World) (hs0_0 : Kd.V k32 32 w w.heap.size (fun k_ => P0_0_ k_) (.slice A0_0 l0_0.length c0_0) l0_0) (hs0_1 : Kd.V k55 55 w w.heap.size (fun k_ => P0_1_ k_) (.slice A0_1 l0_1.length c0_1) l0_1) (hs0_5 : Kd.V k67 67 w w.heap.size (fun k_ => P0_5_ k_) (.slice A0_5 l0_5.length c0_5) l0_5) (hr1 : Kd.C k43 w A1 l1.length l1) (hc1 : l1.length ≤ c1) (h : thatchlaw07_all.f k l0_0 l0_1 a0_2 a0_3 a0_4 l0_5 l1 = some (r1, r2, r3, r4, r5, r6, r7)) :
  Calls Try.prog 12 #[.agg #[.slice A0_0 l0_0.length c0_0, .slice A0_1 l0_1.length c0_1, .int .i64 a0_2, .int .i64 a0_3, .int .i64 a0_4, .slice A0_5 l0_5.length c0_5], .slice A1 l1.length c1] w fun e w' => ∃ v0_ v1_ v5_ : Value, e = .returned (.tuple #[.agg #[v0_, v1_, .int .i64 r3, .int .i64 r4, .int .i64 r5, v5_], .int .i64 r7]) ∧ Kd.V k32 32 w' w.heap.size (fun k_ => ((P0_0_ k_ ∨ P0_1_ k_ ∨ P0_5_ k_) ∨ w.heap.size ≤ k_)) v0_ r1 ∧ Kd.V k55 55 w' w.heap.size (fun k_ => ((P0_0_ k_ ∨ P0_1_ k_ ∨ P0_5_ k_) ∨ w.heap.size ≤ k_)) v1_ r2 ∧ Kd.V k67 67 w' w.heap.size (fun k_ => ((P0_0_ k_ ∨ P0_1_ k_ ∨ P0_5_ k_) ∨ w.heap.size ≤ k_)) v5_ r6 ∧ Below w.heap.size w w' := by
 have hu30 := Try.underlying30
 have hu32 := Try.underlying32
 have HO0_0 := Aside0.mk (show Kd.V k32 32 w w.heap.size (fun k_ => ((P0_0_ k_ ∨ P0_1_ k_ ∨ P0_5_ k_) ∨ w.heap.size ≤ k_)) (.slice A0_0 l0_0.length c0_0) l0_0 from Kd.V_mono hs0_0 (fun k_ hk => .inl (.inl hk)))
 have HO0_1 := Aside0.mk (show Kd.V k55 55 w w.heap.size (fun k_ => ((P0_0_ k_ ∨ P0_1_ k_ ∨ P0_5_ k_) ∨ w.heap.size ≤ k_)) (.slice A0_1 l0_1.length c0_1) l0_1 from Kd.V_mono hs0_1 (fun k_ hk => .inl (.inr (.inl hk))))
 have HO0_5 := Aside0.mk (show Kd.V k67 67 w w.heap.size (fun k_ => ((P0_0_ k_ ∨ P0_1_ k_ ∨ P0_5_ k_) ∨ w.heap.size ≤ k_)) (.slice A0_5 l0_5.length c0_5) l0_5 from Kd.V_mono hs0_5 (fun k_ hk => .inl (.inr (.inr hk))))
 have HR1 := Aside0.mk hr1
 have HC1 := Aside0.mk hc1
 clear hr1 hc1
 have HB := Aside0.mk (Below.refl w.heap.size w)
 have H : (thatchlaw07_all.l0 k l1 0 l0_0 l0_1 a0_2 a0_3 a0_4 l0_5) = some (r1, r2, r3, r4, r5, r6, r7) := h
 clear h
 have H' := Aside0.mk H
 clear H
 go_enter Try.func12, Try.ntmps12
 go_wp2_with (first | ((with_reducible refine gate_dst (N := 2) rfl ?_); refine zx 2 #[.slice A0_0 l0_0.length c0_0, .slice A0_1 l0_1.length c0_1, .int .i64 a0_2, .int .i64 a0_3, .int .i64 a0_4, .slice A0_5 l0_5.length c0_5] 30 ?_; intro gb370 hg w3 hbox hb; have n0_ := Aside0.mk (Kd.V_below (Kd.V_elderB (zT HO0_0) gb370 (Nat.le_of_eq hg.symm)) hb); have n1_ := Aside0.mk (Kd.V_below (Kd.V_elderB (zT HO0_1) gb370 (Nat.le_of_eq hg.symm)) hb); have n2_ := Aside0.mk (Kd.V_below (Kd.V_elderB (zT HO0_5) gb370 (Nat.le_of_eq hg.symm)) hb); have n3_ := zY HB hb; have n4_ := Aside0.mk (hbox); have n5_ := zS hg HB; have n6_ := zS hg HB; clear HO0_0; clear HO0_1; clear HO0_5; clear HB; have HO0_0 := n0_; have HO0_1 := n1_; have HO0_5 := n2_; have HB := n3_; have BK370 := n4_; have GW370 := n5_; have GE370 := n6_; clear n0_ n1_ n2_ n3_ n4_ n5_ n6_; clear hb hbox hg) | ((with_reducible refine gate_dst (N := 4) rfl ?_); refine zx 4 #[.slice none 0 0, .slice none 0 0, .int .i64 0, .int .i64 0, .int .i64 0, .slice none 0 0] 30 ?_; intro gb371 hg w4 hbox hb; have n0_ := Aside0.mk (Kd.V_below (Kd.V_elderB (zT HO0_0) gb371 (Nat.le_of_eq hg.symm)) hb); have n1_ := Aside0.mk (Kd.V_below (Kd.V_elderB (zT HO0_1) gb371 (Nat.le_of_eq hg.symm)) hb); have n2_ := Aside0.mk (Kd.V_below (Kd.V_elderB (zT HO0_5) gb371 (Nat.le_of_eq hg.symm)) hb); have n3_ := zD BK370 hb; have n4_ := zY HB hb; have n5_ := Aside0.mk (hbox); have n6_ := zS hg HB; have n7_ := zS hg HB; have n8_ := zN hg BK370; have n9_ := zM hg BK370; clear HO0_0; clear HO0_1; clear HO0_5; clear BK370; clear HB; have HO0_0 := n0_; have HO0_1 := n1_; have HO0_5 := n2_; have BK370 := n3_; have HB := n4_; have BK371 := n5_; have GW371 := n6_; have GE371 := n7_; have NB370_371 := n8_; have NB371_370 := n9_; clear n0_ n1_ n2_ n3_ n4_ n5_ n6_ n7_ n8_ n9_; clear hb hbox hg))
 go_loopg [6] k (fun kq v6 w' => ∃ (x6_1 : Int) (x371000_1 : List (S32)) (x371001_1 : List (S55)) (x371002_1 : Int) (x371003_1 : Int) (x371004_1 : Int) (x371005_1 : List (S67)) (x372002_1 : Int) (x372003_1 : Int) (x372004_1 : Int) (u371000 : Value) (u371001 : Value) (u371005 : Value), v6 = .int .i64 x6_1 ∧ Aside0 (thatchlaw07_all.l0 kq l1 x6_1 x371000_1 x371001_1 x371002_1 x371003_1 x371004_1 x371005_1 = some (r1, r2, r3, r4, r5, r6, r7)) ∧ Aside0 (kq ≤ k) ∧ Aside0 (Kd.V k32 32 w' w.heap.size (fun k_ => ((P0_0_ k_ ∨ P0_1_ k_ ∨ P0_5_ k_) ∨ w.heap.size ≤ k_) ∧ k_ ≠ gb370 ∧ k_ ≠ gb371) u371000 x371000_1) ∧ Aside0 (Kd.V k55 55 w' w.heap.size (fun k_ => ((P0_0_ k_ ∨ P0_1_ k_ ∨ P0_5_ k_) ∨ w.heap.size ≤ k_) ∧ k_ ≠ gb370 ∧ k_ ≠ gb371) u371001 x371001_1) ∧ Aside0 (Kd.V k67 67 w' w.heap.size (fun k_ => ((P0_0_ k_ ∨ P0_1_ k_ ∨ P0_5_ k_) ∨ w.heap.size ≤ k_) ∧ k_ ≠ gb370 ∧ k_ ≠ gb371) u371005 x371005_1) ∧ Aside0 (w'.heap[gb370]? = some (.cells #[u371000, u371001, .int .i64 x371002_1, .int .i64 x371003_1, .int .i64 x371004_1, u371005] 30 (0, 0))) ∧ Aside0 (w'.heap[gb371]? = some (.cells #[(.slice none 0 0), (.slice none 0 0), .int .i64 x372002_1, .int .i64 x372003_1, .int .i64 x372004_1, (.slice none 0 0)] 30 (0, 0))) ∧ Aside0 (Below w.heap.size w w'))
 case atStart => exact ⟨(0), (l0_0), (l0_1), (a0_2), (a0_3), (a0_4), (l0_5), (0), (0), (0), (.slice A0_0 l0_0.length c0_0), (.slice A0_1 l0_1.length c0_1), (.slice A0_5 l0_5.length c0_5), zq, H', ⟨Nat.le_refl _⟩, ⟨by (with_reducible repeat (first | apply Kd.V_alloc | apply Kd.V_drewN | apply Kd.V_drew)); exact Kd.V_mono HO0_0.out (fun _ hk => ⟨hk.1.1, ⟨hk.1.2, hk.2⟩⟩)⟩, ⟨by (with_reducible repeat (first | apply Kd.V_alloc | apply Kd.V_drewN | apply Kd.V_drew)); exact Kd.V_mono HO0_1.out (fun _ hk => ⟨hk.1.1, ⟨hk.1.2, hk.2⟩⟩)⟩, ⟨by (with_reducible repeat (first | apply Kd.V_alloc | apply Kd.V_drewN | apply Kd.V_drew)); exact Kd.V_mono HO0_5.out (fun _ hk => ⟨hk.1.1, ⟨hk.1.2, hk.2⟩⟩)⟩, ⟨zb BK370⟩, ⟨zb BK371⟩, ⟨zw HB⟩⟩
 case round =>
  clear H'; try clear c1; try clear p2
  obtain ⟨x6_1, x371000_1, x371001_1, x371002_1, x371003_1, x371004_1, x371005_1, x372002_1, x372003_1, x372004_1, u371000, u371001, u371005, rfl, HA, HK1, HO_371000, HO_371001, HO_371005, BK370, BK371, HB⟩ := hrel
  cases gk with
  | zero => exact absurd HA.out (by simp [thatchlaw07_all.l0])
  | succ k1 =>
   have H := HA.out
   clear HA
   simp only [thatchlaw07_all.l0] at H
   by_cases c5 : x6_1 < (l1.length : Int)
   ·rw [if_pos c5] at H
    have c5b0 : decide (x6_1 < (l1.length : Int)) = true := decide_eq_true c5
    clear c5
    by_cases c6 : 0 ≤ x6_1
    ·rw [if_pos c6] at H
     have c6b0 : decide (0 ≤ x6_1) = true := decide_eq_true c6
     clear c6
     replace H := Option.bind_eq_some_iff.mp H
     obtain ⟨⟨t375, t378, t381, t382, t383, t384, t387⟩, A70, H⟩ := H
     replace H : (if t387 = 0 then (thatchlaw07_all.l0 k1 l1 (wrap64 (x6_1 + 1)) t375 t378 t381 t382 t383 t384) else (some (([] : List (S32)), ([] : List (S55)), 0, 0, 0, ([] : List (S67)), t387))) = some (r1, r2, r3, r4, r5, r6, r7) := H
     have A7 := Aside0.mk A70
     clear A70
     by_cases c8 : t387 = 0
     ·rw [if_pos c8] at H
      have c8b0 : (t387 == 0) = true := beq_iff_eq.mpr c8
      have c8b1 : (t387 != 0) = false := bne_eq_false_iff_eq.mpr c8
      clear c8
      have H' := Aside0.mk H
      clear H
      obtain ⟨Ao9, co9, eo9⟩ := Kd.V_slice HO_371000.out
      subst eo9
      obtain ⟨Ao10, co10, eo10⟩ := Kd.V_slice HO_371001.out
      subst eo10
      obtain ⟨Ao11, co11, eo11⟩ := Kd.V_slice HO_371005.out
      subst eo11
      try go_wp2
      have n0_ := Aside0.mk (Kd.V_drew HO_371000.out)
      have n1_ := Aside0.mk (Kd.V_drew HO_371001.out)
      have n2_ := Aside0.mk (Kd.V_drew HO_371005.out)
      have n3_ := Aside0.mk (blk_drew BK370.out)
      have n4_ := Aside0.mk (blk_drew BK371.out)
      have n5_ := Aside0.mk (below_drew1 HB.out)
      clear HO_371000; clear HO_371001; clear HO_371005; clear BK370; clear BK371; clear HB
      have HO_371000 := n0_
      have HO_371001 := n1_
      have HO_371005 := n2_
      have BK370 := n3_
      have BK371 := n4_
      have HB := n5_
      clear n0_ n1_ n2_ n3_ n4_ n5_
      have p372 : 0 ≤ (x6_1 : Int) := of_decide_eq_true zj
      have q372 : x6_1 < (l1.length : Int) := of_decide_eq_true zj
      obtain ⟨ad372, e372, hx372_0, hx372_1, hx372_2, hx372_3⟩ := at_T43 HR1.out x6_1 p372 q372
      have hw372_3 := hx372_3
      have hw372_2 := hx372_2
      have hw372_1 := hx372_1
      have hw372_0 := hx372_0
      cases e372
      replace hx372_0 := zu hx372_0 HB
      replace hx372_1 := zu hx372_1 HB
      replace hx372_2 := zu hx372_2 HB
      replace hx372_3 := zu hx372_3 HB
      replace p372 := eq_true p372
      replace q372 := eq_true q372
      have p373 : 0 ≤ (x6_1 : Int) := of_decide_eq_true zj
      have q373 : x6_1 < (l1.length : Int) := of_decide_eq_true zj
      obtain ⟨ad373, e373, hx373_0, hx373_1, hx373_2, hx373_3⟩ := at_T43 HR1.out x6_1 p373 q373
      have hw373_3 := hx373_3
      have hw373_2 := hx373_2
      have hw373_1 := hx373_1
      have hw373_0 := hx373_0
      obtain rfl : ad372 = ad373 := (by injection e373)
      replace hx373_0 := zu hx373_0 HB
      replace hx373_1 := zu hx373_1 HB
      replace hx373_2 := zu hx373_2 HB
      replace hx373_3 := zu hx373_3 HB
      replace p373 := eq_true p373
      replace q373 := eq_true q373
      have p374 : 0 ≤ (x6_1 : Int) := of_decide_eq_true zj
      have q374 : x6_1 < (l1.length : Int) := of_decide_eq_true zj
      obtain ⟨ad374, e374, hx374_0, hx374_1, hx374_2, hx374_3⟩ := at_T43 HR1.out x6_1 p374 q374
      have hw374_3 := hx374_3
      have hw374_2 := hx374_2
      have hw374_1 := hx374_1
      have hw374_0 := hx374_0
      obtain rfl : ad372 = ad374 := (by injection e374)
      replace hx374_0 := zu hx374_0 HB
      replace hx374_1 := zu hx374_1 HB
      replace hx374_2 := zu hx374_2 HB
      replace hx374_3 := zu hx374_3 HB
      replace p374 := eq_true p374
      replace q374 := eq_true q374
      refine start_ (n := 23) (S := fun w' => w'.cell? ⟨gb370, 0, none⟩ = some (.slice Ao9 x371000_1.length co9) ∧ w'.cell? ⟨gb370, 1, none⟩ = some (.slice Ao10 x371001_1.length co10) ∧ w'.cell? ⟨gb370, 2, none⟩ = some (.int .i64 x371002_1) ∧ w'.cell? ⟨gb370, 3, none⟩ = some (.int .i64 x371003_1) ∧ w'.cell? ⟨gb370, 4, none⟩ = some (.int .i64 x371004_1) ∧ w'.cell? ⟨gb370, 5, none⟩ = some (.slice Ao11 x371005_1.length co11) ∧ w'.cell? (ad372.add ((x6_1).toNat * 4)) = some (.int .i64 ((rd_T43 l1 x6_1).f0.f0)) ∧ w'.cell? ⟨(ad372.add ((x6_1).toNat * 4)).block, (ad372.add ((x6_1).toNat * 4)).off + 1, none⟩ = some (.int .i64 ((rd_T43 l1 x6_1).f0.f1)) ∧ w'.cell? ⟨(ad372.add ((x6_1).toNat * 4)).block, (ad372.add ((x6_1).toNat * 4)).off + 2, none⟩ = some (.int .i64 ((rd_T43 l1 x6_1).f1)) ∧ w'.cell? ⟨(ad372.add ((x6_1).toNat * 4)).block, (ad372.add ((x6_1).toNat * 4)).off + 3, none⟩ = some (.int .i64 ((rd_T43 l1 x6_1).f2)) ∧ w'.cell? (ad372.add ((x6_1).toNat * 4)) = some (.int .i64 ((rd_T43 l1 x6_1).f0.f0)) ∧ w'.cell? ⟨(ad372.add ((x6_1).toNat * 4)).block, (ad372.add ((x6_1).toNat * 4)).off + 1, none⟩ = some (.int .i64 ((rd_T43 l1 x6_1).f0.f1)) ∧ w'.cell? ⟨(ad372.add ((x6_1).toNat * 4)).block, (ad372.add ((x6_1).toNat * 4)).off + 2, none⟩ = some (.int .i64 ((rd_T43 l1 x6_1).f1)) ∧ w'.cell? ⟨(ad372.add ((x6_1).toNat * 4)).block, (ad372.add ((x6_1).toNat * 4)).off + 3, none⟩ = some (.int .i64 ((rd_T43 l1 x6_1).f2)) ∧ w'.cell? (ad372.add ((x6_1).toNat * 4)) = some (.int .i64 ((rd_T43 l1 x6_1).f0.f0)) ∧ w'.cell? ⟨(ad372.add ((x6_1).toNat * 4)).block, (ad372.add ((x6_1).toNat * 4)).off + 1, none⟩ = some (.int .i64 ((rd_T43 l1 x6_1).f0.f1)) ∧ w'.cell? ⟨(ad372.add ((x6_1).toNat * 4)).block, (ad372.add ((x6_1).toNat * 4)).off + 2, none⟩ = some (.int .i64 ((rd_T43 l1 x6_1).f1)) ∧ w'.cell? ⟨(ad372.add ((x6_1).toNat * 4)).block, (ad372.add ((x6_1).toNat * 4)).off + 3, none⟩ = some (.int .i64 ((rd_T43 l1 x6_1).f2))) (ds := []) #[false, false, false, false, false, false, false, false, false, false, false, false, false, false, false, false, false, false, false, false, false, false, false] (by kernel_rfl) rfl rfl ⟨(blk_cell BK370.out 0).trans rfl, (blk_cell BK370.out 1).trans rfl, (blk_cell BK370.out 2).trans rfl, (blk_cell BK370.out 3).trans rfl, (blk_cell BK370.out 4).trans rfl, (blk_cell BK370.out 5).trans rfl, (zu hw372_0 HB), (zu hw372_1 HB), (zu hw372_2 HB), (zu hw372_3 HB), (zu hw373_0 HB), (zu hw373_1 HB), (zu hw373_2 HB), (zu hw373_3 HB), (zu hw374_0 HB), (zu hw374_1 HB), (zu hw374_2 HB), (zu hw374_3 HB)⟩ (fun hHeld => ?_); refine with_tabW thatchlaw07_all.tab4 thatchlaw07_all.bits4 (fun HT_ HW_ => ?_)
      generalize wr.drew = w12 at HO_371000 HO_371001 HO_371005 BK370 BK371 HB hx372_0 hx372_1 hx372_2 hx372_3 hx373_0 hx373_1 hx373_2 hx373_3 hx374_0 hx374_1 hx374_2 hx374_3 hHeld ⊢
      refine zp 1 (some 17) #[false, true, false, false, false, false, false, false, false, false, false, false, false, false, false, false, false, false, false, false, false, false, false] rfl rfl (any_of HT_.out (by kernel_rfl)) ?_
      refine zp 2 (some 18) #[false, true, true, false, false, false, false, false, false, false, false, false, false, false, false, false, false, false, false, false, false, false, false] rfl rfl (any_of HT_.out (by kernel_rfl)) ?_
      refine zp 3 (some 19) #[false, true, true, true, false, false, false, false, false, false, false, false, false, false, false, false, false, false, false, false, false, false, false] rfl rfl (any_of HT_.out (by kernel_rfl)) ?_
      refine zp 4 (some 20) #[false, true, true, true, true, false, false, false, false, false, false, false, false, false, false, false, false, false, false, false, false, false, false] rfl rfl (any_of HT_.out (by kernel_rfl)) ?_
      refine zp 6 (some 22) #[false, true, true, true, true, false, true, false, false, false, false, false, false, false, false, false, false, false, false, false, false, false, false] rfl rfl (any_of HT_.out (by kernel_rfl)) ?_
      refine zp 7 (some 23) #[false, true, true, true, true, false, true, true, false, false, false, false, false, false, false, false, false, false, false, false, false, false, false] rfl rfl (any_of HT_.out (by kernel_rfl)) ?_
      refine zp 8 (some 24) #[false, true, true, true, true, false, true, true, true, false, false, false, false, false, false, false, false, false, false, false, false, false, false] rfl rfl (any_of HT_.out (by kernel_rfl)) ?_
      refine zp 9 (some 25) #[false, true, true, true, true, false, true, true, true, true, false, false, false, false, false, false, false, false, false, false, false, false, false] rfl rfl (any_of HT_.out (by kernel_rfl)) ?_
      refine zp 11 (some 27) #[false, true, true, true, true, false, true, true, true, true, false, true, false, false, false, false, false, false, false, false, false, false, false] rfl rfl (any_of HT_.out (by kernel_rfl)) ?_
      refine zp 12 (some 28) #[false, true, true, true, true, false, true, true, true, true, false, true, true, false, false, false, false, false, false, false, false, false, false] rfl rfl (any_of HT_.out (by kernel_rfl)) ?_
      refine zp 13 (some 29) #[false, true, true, true, true, false, true, true, true, true, false, true, true, true, false, false, false, false, false, false, false, false, false] rfl rfl (any_of HT_.out (by kernel_rfl)) ?_
      refine zp 14 (some 30) #[false, true, true, true, true, false, true, true, true, true, false, true, true, true, true, false, false, false, false, false, false, false, false] rfl rfl (any_of HT_.out (by kernel_rfl)) ?_
      refine take_ (i := 0) (N := some 16) (v := ?_) (a' := ?_) #[true, true, true, true, true, false, true, true, true, true, false, true, true, true, true, false, false, false, false, false, false, false, false] rfl rfl (take_ofW HT_.out HW_.out (by kernel_rfl)) (fun _ _ _ h => h) (Or.inl ⟨by rfl, ?_⟩) hHeld ?_ ?_
      rotate_left; · rintro w' ⟨s0, s1, s2, s3, s4, s5, s6, s7, s8, s9, s10, s11, s12, s13, s14, s15, s16, s17⟩; go_simp; with_reducible rfl
      rotate_left; · simp only [Act.put, List.setIfInBounds_toArray, List.set_cons_zero, List.set_cons_succ, i64_w, i32_w]; rfl
      refine take_ (i := 5) (N := some 21) (v := ?_) (a' := ?_) #[true, true, true, true, true, true, true, true, true, true, false, true, true, true, true, false, false, false, false, false, false, false, false] rfl rfl (take_ofW HT_.out HW_.out (by kernel_rfl)) (fun _ _ _ h => h) (Or.inl ⟨by rfl, ?_⟩) hHeld ?_ ?_
      rotate_left; · rintro w' ⟨s0, s1, s2, s3, s4, s5, s6, s7, s8, s9, s10, s11, s12, s13, s14, s15, s16, s17⟩; go_simp; with_reducible rfl
      rotate_left; · simp only [Act.put, List.setIfInBounds_toArray, List.set_cons_zero, List.set_cons_succ, i64_w, i32_w]; rfl
      refine take_ (i := 10) (N := some 26) (v := ?_) (a' := ?_) #[true, true, true, true, true, true, true, true, true, true, true, true, true, true, true, false, false, false, false, false, false, false, false] rfl rfl (take_ofW HT_.out HW_.out (by kernel_rfl)) (fun _ _ _ h => h) (Or.inl ⟨by rfl, ?_⟩) hHeld ?_ ?_
      rotate_left; · rintro w' ⟨s0, s1, s2, s3, s4, s5, s6, s7, s8, s9, s10, s11, s12, s13, s14, s15, s16, s17⟩; go_simp; with_reducible rfl
      rotate_left; · simp only [Act.put, List.setIfInBounds_toArray, List.set_cons_zero, List.set_cons_succ, i64_w, i32_w]; rfl
      refine take_ (i := 15) (N := some 31) (v := ?_) (a' := ?_) #[true, true, true, true, true, true, true, true, true, true, true, true, true, true, true, true, false, false, false, false, false, false, false] rfl rfl (take_ofW HT_.out HW_.out (by kernel_rfl)) (fun _ _ _ h => h) (Or.inl ⟨by rfl, ?_⟩) hHeld ?_ ?_
      rotate_left; · rintro w' ⟨s0, s1, s2, s3, s4, s5, s6, s7, s8, s9, s10, s11, s12, s13, s14, s15, s16, s17⟩; go_simp; with_reducible rfl
      rotate_left; · simp only [Act.put, List.setIfInBounds_toArray, List.set_cons_zero, List.set_cons_succ, i64_w, i32_w]; rfl
      refine join_ (σ := Value × Value × Value × Nat) 2 #[true, true, true, true, true, true, true, true, true, true, true, true, true, true, true, true, true, true, true, true, true, false, false] (fun s_ => [(32, .tuple #[.agg #[s_.1, s_.2.1, .int .i64 t381, .int .i64 t382, .int .i64 t383, s_.2.2.1], .int .i64 t387]), (7, .pointer (some ⟨s_.2.2.2, 0, none⟩)), (15, .tuple #[.agg #[s_.1, s_.2.1, .int .i64 t381, .int .i64 t382, .int .i64 t383, s_.2.2.1], .int .i64 t387]), (33, .agg #[s_.1, s_.2.1, .int .i64 t381, .int .i64 t382, .int .i64 t383, s_.2.2.1]), (34, .int .i64 t387)]) (fun s_ w' => (w'.cell? ⟨gb370, 0, none⟩ = some (.slice Ao9 x371000_1.length co9) ∧ w'.cell? ⟨gb370, 1, none⟩ = some (.slice Ao10 x371001_1.length co10) ∧ w'.cell? ⟨gb370, 2, none⟩ = some (.int .i64 x371002_1) ∧ w'.cell? ⟨gb370, 3, none⟩ = some (.int .i64 x371003_1) ∧ w'.cell? ⟨gb370, 4, none⟩ = some (.int .i64 x371004_1) ∧ w'.cell? ⟨gb370, 5, none⟩ = some (.slice Ao11 x371005_1.length co11) ∧ w'.cell? (ad372.add ((x6_1).toNat * 4)) = some (.int .i64 ((rd_T43 l1 x6_1).f0.f0)) ∧ w'.cell? ⟨(ad372.add ((x6_1).toNat * 4)).block, (ad372.add ((x6_1).toNat * 4)).off + 1, none⟩ = some (.int .i64 ((rd_T43 l1 x6_1).f0.f1)) ∧ w'.cell? ⟨(ad372.add ((x6_1).toNat * 4)).block, (ad372.add ((x6_1).toNat * 4)).off + 2, none⟩ = some (.int .i64 ((rd_T43 l1 x6_1).f1)) ∧ w'.cell? ⟨(ad372.add ((x6_1).toNat * 4)).block, (ad372.add ((x6_1).toNat * 4)).off + 3, none⟩ = some (.int .i64 ((rd_T43 l1 x6_1).f2)) ∧ w'.cell? (ad372.add ((x6_1).toNat * 4)) = some (.int .i64 ((rd_T43 l1 x6_1).f0.f0)) ∧ w'.cell? ⟨(ad372.add ((x6_1).toNat * 4)).block, (ad372.add ((x6_1).toNat * 4)).off + 1, none⟩ = some (.int .i64 ((rd_T43 l1 x6_1).f0.f1)) ∧ w'.cell? ⟨(ad372.add ((x6_1).toNat * 4)).block, (ad372.add ((x6_1).toNat * 4)).off + 2, none⟩ = some (.int .i64 ((rd_T43 l1 x6_1).f1)) ∧ w'.cell? ⟨(ad372.add ((x6_1).toNat * 4)).block, (ad372.add ((x6_1).toNat * 4)).off + 3, none⟩ = some (.int .i64 ((rd_T43 l1 x6_1).f2)) ∧ w'.cell? (ad372.add ((x6_1).toNat * 4)) = some (.int .i64 ((rd_T43 l1 x6_1).f0.f0)) ∧ w'.cell? ⟨(ad372.add ((x6_1).toNat * 4)).block, (ad372.add ((x6_1).toNat * 4)).off + 1, none⟩ = some (.int .i64 ((rd_T43 l1 x6_1).f0.f1)) ∧ w'.cell? ⟨(ad372.add ((x6_1).toNat * 4)).block, (ad372.add ((x6_1).toNat * 4)).off + 2, none⟩ = some (.int .i64 ((rd_T43 l1 x6_1).f1)) ∧ w'.cell? ⟨(ad372.add ((x6_1).toNat * 4)).block, (ad372.add ((x6_1).toNat * 4)).off + 3, none⟩ = some (.int .i64 ((rd_T43 l1 x6_1).f2))) ∧ (Kd.R k32 32 w' w.heap.size (fun k_ => (w.heap.size ≤ k_)) s_.1 t375) ∧ (Kd.R k55 55 w' w.heap.size (fun k_ => (w.heap.size ≤ k_)) s_.2.1 t378) ∧ (Kd.R k67 67 w' w.heap.size (fun k_ => (w.heap.size ≤ k_)) s_.2.2.1 t384) ∧ (Kd.V k32 32 w' w.heap.size (fun k_ => ((P0_0_ k_ ∨ P0_1_ k_ ∨ P0_5_ k_) ∨ w.heap.size ≤ k_) ∧ some k_ ≠ (s_.1 : Value).ownBlock ∧ some k_ ≠ (s_.2.1 : Value).ownBlock ∧ some k_ ≠ (s_.2.2.1 : Value).ownBlock ∧ k_ ≠ gb370 ∧ k_ ≠ gb371 ∧ k_ ≠ s_.2.2.2) (.slice Ao9 x371000_1.length co9) x371000_1) ∧ (Kd.V k55 55 w' w.heap.size (fun k_ => ((P0_0_ k_ ∨ P0_1_ k_ ∨ P0_5_ k_) ∨ w.heap.size ≤ k_) ∧ some k_ ≠ (s_.1 : Value).ownBlock ∧ some k_ ≠ (s_.2.1 : Value).ownBlock ∧ some k_ ≠ (s_.2.2.1 : Value).ownBlock ∧ k_ ≠ gb370 ∧ k_ ≠ gb371 ∧ k_ ≠ s_.2.2.2) (.slice Ao10 x371001_1.length co10) x371001_1) ∧ (Kd.V k67 67 w' w.heap.size (fun k_ => ((P0_0_ k_ ∨ P0_1_ k_ ∨ P0_5_ k_) ∨ w.heap.size ≤ k_) ∧ some k_ ≠ (s_.1 : Value).ownBlock ∧ some k_ ≠ (s_.2.1 : Value).ownBlock ∧ some k_ ≠ (s_.2.2.1 : Value).ownBlock ∧ k_ ≠ gb370 ∧ k_ ≠ gb371 ∧ k_ ≠ s_.2.2.2) (.slice Ao11 x371005_1.length co11) x371005_1) ∧ (w'.heap[gb370]? = some (.cells #[.slice Ao9 x371000_1.length co9, .slice Ao10 x371001_1.length co10, .int .i64 x371002_1, .int .i64 x371003_1, .int .i64 x371004_1, .slice Ao11 x371005_1.length co11] 30 (0, 0))) ∧ (w'.heap[gb371]? = some (.cells #[.slice none 0 0, .slice none 0 0, .int .i64 x372002_1, .int .i64 x372003_1, .int .i64 x372004_1, .slice none 0 0] 30 (0, 0))) ∧ (w'.heap[s_.2.2.2]? = some (.cells #[.slice none 0 0, .slice none 0 0, .int .i64 0, .int .i64 0, .int .i64 0, .slice none 0 0] 30 (0, 0))) ∧ (w.heap.size ≤ s_.2.2.2) ∧ (w.heap.size ≤ s_.2.2.2) ∧ (gb370 ≠ s_.2.2.2) ∧ (s_.2.2.2 ≠ gb370) ∧ (gb371 ≠ s_.2.2.2) ∧ (s_.2.2.2 ≠ gb371) ∧ (Below w.heap.size w w')) ?_ ?_
      rotate_left
      ·intro hCont
       refine two_ (i := 16) (j := 20) (Ni := some 32) (Nj := some 7) #[true, true, true, true, true, true, true, true, true, true, true, true, true, true, true, true, true, false, false, false, false, false, false] #[true, true, true, true, true, true, true, true, true, true, true, true, true, true, true, true, false, false, false, false, true, false, false] rfl rfl rfl rfl (two_of HT_.out (by kernel_rfl)) (by decide) (by decide) (fun K hK => ?_) (fun K hK => ?_)
       ·skip
        refine goes_ Try.func9 (by kernel_rfl) rfl #[.agg #[.slice Ao9 x371000_1.length co9, .slice Ao10 x371001_1.length co10, .int .i64 x371002_1, .int .i64 x371003_1, .int .i64 x371004_1, .slice Ao11 x371005_1.length co11], .agg #[.int .i64 ((rd_T43 l1 x6_1).f0.f0), .int .i64 ((rd_T43 l1 x6_1).f0.f1)], .int .i64 ((rd_T43 l1 x6_1).f1), .int .i64 ((rd_T43 l1 x6_1).f2)] (by rfl) rfl rfl za ?_
        with_reducible refine (wear_Probe.calls k1 _ _ x371000_1 _ _ x371001_1 x371002_1 x371003_1 x371004_1 _ _ x371005_1 ((rd_T43 l1 x6_1).f0.f0) ((rd_T43 l1 x6_1).f0.f1) ((rd_T43 l1 x6_1).f1) ((rd_T43 l1 x6_1).f2) t375 t378 t381 t382 t383 t384 t387 _ ?side1 ?side2 ?side3 ?side4 ?side5 ?side6 A7.out).mono ?_
        (case side1 => repeat (first | exact (Kd.V_reads' HO_371000.out).2.2 | (with_reducible refine Kd.C_alloc ?_ _) | (with_reducible refine Kd.C_drewN ?_ _) | (with_reducible refine Kd.C_drew ?_)))
        (case side2 => exact (Kd.V_reads' HO_371000.out).2.1)
        (case side3 => repeat (first | exact (Kd.V_reads' HO_371001.out).2.2 | (with_reducible refine Kd.C_alloc ?_ _) | (with_reducible refine Kd.C_drewN ?_ _) | (with_reducible refine Kd.C_drew ?_)))
        (case side4 => exact (Kd.V_reads' HO_371001.out).2.1)
        (case side5 => repeat (first | exact (Kd.V_reads' HO_371005.out).2.2 | (with_reducible refine Kd.C_alloc ?_ _) | (with_reducible refine Kd.C_drewN ?_ _) | (with_reducible refine Kd.C_drew ?_)))
        (case side6 => exact (Kd.V_reads' HO_371005.out).2.1)
        rintro e w13 ⟨v376, v379, v385, rfl, ho0, ho1, ho2, hb⟩
        refine ⟨_, rfl, ?_⟩
        have n0_ := Aside0.mk (Kd.V_mono (Kd.V_told (Kd.V_told (Kd.V_told (Kd.V_old (zT HO_371000) hb) (Kd.R_base ho0)) (Kd.R_base ho1)) (Kd.R_base ho2)) (fun _ h_ => h_.1))
        have n1_ := Aside0.mk (Kd.V_mono (Kd.V_told (Kd.V_told (Kd.V_told (Kd.V_old (zT HO_371001) hb) (Kd.R_base ho0)) (Kd.R_base ho1)) (Kd.R_base ho2)) (fun _ h_ => h_.1))
        have n2_ := Aside0.mk (Kd.V_mono (Kd.V_told (Kd.V_told (Kd.V_told (Kd.V_old (zT HO_371005) hb) (Kd.R_base ho0)) (Kd.R_base ho1)) (Kd.R_base ho2)) (fun _ h_ => h_.1))
        have n3_ := Aside0.mk (Kd.R_lower (Kd.R_newM (M := fun k_ => (w.heap.size ≤ k_)) ho0 (below_size (zw HB)) (fun k_ h_ => h_)) (below_size (zw HB)))
        have n4_ := Aside0.mk (Kd.R_lower (Kd.R_newM (M := fun k_ => (w.heap.size ≤ k_)) ho1 (below_size (zw HB)) (fun k_ h_ => h_)) (below_size (zw HB)))
        have n5_ := Aside0.mk (Kd.R_lower (Kd.R_newM (M := fun k_ => (w.heap.size ≤ k_)) ho2 (below_size (zw HB)) (fun k_ h_ => h_)) (below_size (zw HB)))
        have n6_ := zD BK370 hb
        have n7_ := zD BK371 hb
        have n8_ := zY HB hb
        clear HO_371000; clear HO_371001; clear HO_371005; clear BK370; clear BK371; clear HB
        have HO_371000 := n0_
        have HO_371001 := n1_
        have HO_371005 := n2_
        have HO377 := n3_
        have HO380 := n4_
        have HO386 := n5_
        have BK370 := n6_
        have BK371 := n7_
        have HB := n8_
        clear n0_ n1_ n2_ n3_ n4_ n5_ n6_ n7_ n8_
        (try clear hb)
        (try clear hb2)
        (try clear hk)
        (try clear hi)
        (try clear ho0)
        (try clear ho1)
        (try clear ho2)
        refine hK.out _ _ ⟨(blk_cell BK370.out 0).trans rfl, (blk_cell BK370.out 1).trans rfl, (blk_cell BK370.out 2).trans rfl, (blk_cell BK370.out 3).trans rfl, (blk_cell BK370.out 4).trans rfl, (blk_cell BK370.out 5).trans rfl, (zu hw372_0 HB), (zu hw372_1 HB), (zu hw372_2 HB), (zu hw372_3 HB), (zu hw373_0 HB), (zu hw373_1 HB), (zu hw373_2 HB), (zu hw373_3 HB), (zu hw374_0 HB), (zu hw374_1 HB), (zu hw374_2 HB), (zu hw374_3 HB)⟩ (fun hHeld => ?_)
        clear hK K
        refine norm_ (a' := ?_) ?_ ?_
        rotate_left
        ·show Act.put _ (some 32) _ = _
         simp only [Act.put, List.setIfInBounds_toArray, List.set_cons_zero, List.set_cons_succ, i64_w, i32_w]
         rfl
        refine zp 17 (some 15) #[true, true, true, true, true, true, true, true, true, true, true, true, true, true, true, true, true, true, false, false, false, false, false] rfl rfl (any_of HT_.out (by kernel_rfl)) ?_
        refine zp 18 (some 33) #[true, true, true, true, true, true, true, true, true, true, true, true, true, true, true, true, true, true, true, false, false, false, false] rfl rfl (any_of HT_.out (by kernel_rfl)) ?_
        refine zp 19 (some 34) #[true, true, true, true, true, true, true, true, true, true, true, true, true, true, true, true, true, true, true, true, false, false, false] rfl rfl (any_of HT_.out (by kernel_rfl)) ?_
        refine one_ (i := 20) (N := some 7) #[true, true, true, true, true, true, true, true, true, true, true, true, true, true, true, true, true, true, true, true, true, false, false] rfl rfl (one_of HT_.out (by kernel_rfl)) (by decide) (fun K hK => ?_)
        refine box_step ?hg (N := 7) ?hd (cs := #[.slice none 0 0, .slice none 0 0, .int .i64 0, .int .i64 0, .int .i64 0, .slice none 0 0]) (t := 30) ?hr ?_; (case hd => rfl); (case hg => rfl); (case hr => first | (go_simp; done) | (go_simp; rfl))
        intro gb388 hg w14 hbox hb
        have n0_ := Aside0.mk (Kd.V_below (Kd.V_elderB (zT HO_371000) gb388 (Nat.le_of_eq hg.symm)) hb)
        have n1_ := Aside0.mk (Kd.V_below (Kd.V_elderB (zT HO_371001) gb388 (Nat.le_of_eq hg.symm)) hb)
        have n2_ := Aside0.mk (Kd.V_below (Kd.V_elderB (zT HO_371005) gb388 (Nat.le_of_eq hg.symm)) hb)
        have n3_ := Aside0.mk (Kd.R_below (zt HO377) hb)
        have n4_ := Aside0.mk (Kd.R_below (zt HO380) hb)
        have n5_ := Aside0.mk (Kd.R_below (zt HO386) hb)
        have n6_ := zD BK370 hb
        have n7_ := zD BK371 hb
        have n8_ := zY HB hb
        have n9_ := Aside0.mk (hbox)
        have n10_ := zS hg HB
        have n11_ := zS hg HB
        have n12_ := zN hg BK370
        have n13_ := zM hg BK370
        have n14_ := zN hg BK371
        have n15_ := zM hg BK371
        clear HO_371000; clear HO_371001; clear HO_371005; clear HO377; clear HO380; clear HO386; clear BK370; clear BK371; clear HB
        have HO_371000 := n0_
        have HO_371001 := n1_
        have HO_371005 := n2_
        have HO377 := n3_
        have HO380 := n4_
        have HO386 := n5_
        have BK370 := n6_
        have BK371 := n7_
        have HB := n8_
        have BK388 := n9_
        have GW388 := n10_
        have GE388 := n11_
        have NB370_388 := n12_
        have NB388_370 := n13_
        have NB371_388 := n14_
        have NB388_371 := n15_
        clear n0_ n1_ n2_ n3_ n4_ n5_ n6_ n7_ n8_ n9_ n10_ n11_ n12_ n13_ n14_ n15_; clear hb hbox hg
        refine hK.out _ _ ⟨(blk_cell BK370.out 0).trans rfl, (blk_cell BK370.out 1).trans rfl, (blk_cell BK370.out 2).trans rfl, (blk_cell BK370.out 3).trans rfl, (blk_cell BK370.out 4).trans rfl, (blk_cell BK370.out 5).trans rfl, (zu hw372_0 HB), (zu hw372_1 HB), (zu hw372_2 HB), (zu hw372_3 HB), (zu hw373_0 HB), (zu hw373_1 HB), (zu hw373_2 HB), (zu hw373_3 HB), (zu hw374_0 HB), (zu hw374_1 HB), (zu hw374_2 HB), (zu hw374_3 HB)⟩ (fun hHeld => ?_)
        clear hK K
        refine norm_ (a' := ?_) ?_ ?_
        rotate_left
        ·show Act.put _ (some 7) _ = _
         simp only [Act.put, List.setIfInBounds_toArray, List.set_cons_zero, List.set_cons_succ, i64_w, i32_w]
         rfl
        exact norm_ (by simp only [putAll, Act.put, List.setIfInBounds_toArray, List.set_cons_zero, List.set_cons_succ]) (hCont (v376, v379, v385, gb388) _ ⟨hHeld, (by (with_reducible repeat (first | apply Kd.R_alloc | apply Kd.R_drewN | apply Kd.R_drew)); exact Kd.R_mono HO377.out (fun _ hk => hk.1)), (by (with_reducible repeat (first | apply Kd.R_alloc | apply Kd.R_drewN | apply Kd.R_drew)); exact Kd.R_mono HO380.out (fun _ hk => hk.1)), (by (with_reducible repeat (first | apply Kd.R_alloc | apply Kd.R_drewN | apply Kd.R_drew)); exact Kd.R_mono HO386.out (fun _ hk => hk.1)), (by (with_reducible repeat (first | apply Kd.V_alloc | apply Kd.V_drewN | apply Kd.V_drew)); exact Kd.V_mono HO_371000.out (fun _ hk => ⟨hk.1.1.1.1.1, ⟨hk.1.1.1.2, ⟨hk.1.1.2, ⟨hk.1.2, ⟨hk.1.1.1.1.2.1, ⟨hk.1.1.1.1.2.2, hk.2⟩⟩⟩⟩⟩⟩)), (by (with_reducible repeat (first | apply Kd.V_alloc | apply Kd.V_drewN | apply Kd.V_drew)); exact Kd.V_mono HO_371001.out (fun _ hk => ⟨hk.1.1.1.1.1, ⟨hk.1.1.1.2, ⟨hk.1.1.2, ⟨hk.1.2, ⟨hk.1.1.1.1.2.1, ⟨hk.1.1.1.1.2.2, hk.2⟩⟩⟩⟩⟩⟩)), (by (with_reducible repeat (first | apply Kd.V_alloc | apply Kd.V_drewN | apply Kd.V_drew)); exact Kd.V_mono HO_371005.out (fun _ hk => ⟨hk.1.1.1.1.1, ⟨hk.1.1.1.2, ⟨hk.1.1.2, ⟨hk.1.2, ⟨hk.1.1.1.1.2.1, ⟨hk.1.1.1.1.2.2, hk.2⟩⟩⟩⟩⟩⟩)), (zb BK370), (zb BK371), (zb BK388), GW388.out, GE388.out, NB370_388.out, NB388_370.out, NB371_388.out, NB388_371.out, (zw HB)⟩)
       skip
       refine box_step ?hg (N := 7) ?hd (cs := #[.slice none 0 0, .slice none 0 0, .int .i64 0, .int .i64 0, .int .i64 0, .slice none 0 0]) (t := 30) ?hr ?_; (case hd => rfl); (case hg => rfl); (case hr => first | (go_simp; done) | (go_simp; rfl))
       intro gb388 hg w13 hbox hb
       have n0_ := Aside0.mk (Kd.V_below (Kd.V_elderB (zT HO_371000) gb388 (Nat.le_of_eq hg.symm)) hb)
       have n1_ := Aside0.mk (Kd.V_below (Kd.V_elderB (zT HO_371001) gb388 (Nat.le_of_eq hg.symm)) hb)
       have n2_ := Aside0.mk (Kd.V_below (Kd.V_elderB (zT HO_371005) gb388 (Nat.le_of_eq hg.symm)) hb)
       have n3_ := zD BK370 hb
       have n4_ := zD BK371 hb
       have n5_ := zY HB hb
       have n6_ := Aside0.mk (hbox)
       have n7_ := zS hg HB
       have n8_ := zS hg HB
       have n9_ := zN hg BK370
       have n10_ := zM hg BK370
       have n11_ := zN hg BK371
       have n12_ := zM hg BK371
       clear HO_371000; clear HO_371001; clear HO_371005; clear BK370; clear BK371; clear HB
       have HO_371000 := n0_
       have HO_371001 := n1_
       have HO_371005 := n2_
       have BK370 := n3_
       have BK371 := n4_
       have HB := n5_
       have BK388 := n6_
       have GW388 := n7_
       have GE388 := n8_
       have NB370_388 := n9_
       have NB388_370 := n10_
       have NB371_388 := n11_
       have NB388_371 := n12_
       clear n0_ n1_ n2_ n3_ n4_ n5_ n6_ n7_ n8_ n9_ n10_ n11_ n12_; clear hb hbox hg
       refine hK.out _ _ ⟨(blk_cell BK370.out 0).trans rfl, (blk_cell BK370.out 1).trans rfl, (blk_cell BK370.out 2).trans rfl, (blk_cell BK370.out 3).trans rfl, (blk_cell BK370.out 4).trans rfl, (blk_cell BK370.out 5).trans rfl, (zu hw372_0 HB), (zu hw372_1 HB), (zu hw372_2 HB), (zu hw372_3 HB), (zu hw373_0 HB), (zu hw373_1 HB), (zu hw373_2 HB), (zu hw373_3 HB), (zu hw374_0 HB), (zu hw374_1 HB), (zu hw374_2 HB), (zu hw374_3 HB)⟩ (fun hHeld => ?_)
       clear hK K
       refine norm_ (a' := ?_) ?_ ?_
       rotate_left
       ·show Act.put _ (some 7) _ = _
        simp only [Act.put, List.setIfInBounds_toArray, List.set_cons_zero, List.set_cons_succ, i64_w, i32_w]
        rfl
       refine one_ (i := 16) (N := some 32) #[true, true, true, true, true, true, true, true, true, true, true, true, true, true, true, true, true, false, false, false, true, false, false] rfl rfl (one_of HT_.out (by kernel_rfl)) (by decide) (fun K hK => ?_)
       refine goes_ Try.func9 (by kernel_rfl) rfl #[.agg #[.slice Ao9 x371000_1.length co9, .slice Ao10 x371001_1.length co10, .int .i64 x371002_1, .int .i64 x371003_1, .int .i64 x371004_1, .slice Ao11 x371005_1.length co11], .agg #[.int .i64 ((rd_T43 l1 x6_1).f0.f0), .int .i64 ((rd_T43 l1 x6_1).f0.f1)], .int .i64 ((rd_T43 l1 x6_1).f1), .int .i64 ((rd_T43 l1 x6_1).f2)] (by rfl) rfl rfl za ?_
       with_reducible refine (wear_Probe.calls k1 _ _ x371000_1 _ _ x371001_1 x371002_1 x371003_1 x371004_1 _ _ x371005_1 ((rd_T43 l1 x6_1).f0.f0) ((rd_T43 l1 x6_1).f0.f1) ((rd_T43 l1 x6_1).f1) ((rd_T43 l1 x6_1).f2) t375 t378 t381 t382 t383 t384 t387 _ ?side1 ?side2 ?side3 ?side4 ?side5 ?side6 A7.out).mono ?_
       (case side1 => repeat (first | exact (Kd.V_reads' HO_371000.out).2.2 | (with_reducible refine Kd.C_alloc ?_ _) | (with_reducible refine Kd.C_drewN ?_ _) | (with_reducible refine Kd.C_drew ?_)))
       (case side2 => exact (Kd.V_reads' HO_371000.out).2.1)
       (case side3 => repeat (first | exact (Kd.V_reads' HO_371001.out).2.2 | (with_reducible refine Kd.C_alloc ?_ _) | (with_reducible refine Kd.C_drewN ?_ _) | (with_reducible refine Kd.C_drew ?_)))
       (case side4 => exact (Kd.V_reads' HO_371001.out).2.1)
       (case side5 => repeat (first | exact (Kd.V_reads' HO_371005.out).2.2 | (with_reducible refine Kd.C_alloc ?_ _) | (with_reducible refine Kd.C_drewN ?_ _) | (with_reducible refine Kd.C_drew ?_)))
       (case side6 => exact (Kd.V_reads' HO_371005.out).2.1)
       rintro e w14 ⟨v376, v379, v385, rfl, ho0, ho1, ho2, hb⟩
       refine ⟨_, rfl, ?_⟩
       have n0_ := Aside0.mk (Kd.V_mono (Kd.V_told (Kd.V_told (Kd.V_told (Kd.V_old (zT HO_371000) hb) (Kd.R_base ho0)) (Kd.R_base ho1)) (Kd.R_base ho2)) (fun _ h_ => h_.1))
       have n1_ := Aside0.mk (Kd.V_mono (Kd.V_told (Kd.V_told (Kd.V_told (Kd.V_old (zT HO_371001) hb) (Kd.R_base ho0)) (Kd.R_base ho1)) (Kd.R_base ho2)) (fun _ h_ => h_.1))
       have n2_ := Aside0.mk (Kd.V_mono (Kd.V_told (Kd.V_told (Kd.V_told (Kd.V_old (zT HO_371005) hb) (Kd.R_base ho0)) (Kd.R_base ho1)) (Kd.R_base ho2)) (fun _ h_ => h_.1))
       have n3_ := Aside0.mk (Kd.R_lower (Kd.R_newM (M := fun k_ => (w.heap.size ≤ k_)) ho0 (below_size (zw HB)) (fun k_ h_ => h_)) (below_size (zw HB)))
       have n4_ := Aside0.mk (Kd.R_lower (Kd.R_newM (M := fun k_ => (w.heap.size ≤ k_)) ho1 (below_size (zw HB)) (fun k_ h_ => h_)) (below_size (zw HB)))
       have n5_ := Aside0.mk (Kd.R_lower (Kd.R_newM (M := fun k_ => (w.heap.size ≤ k_)) ho2 (below_size (zw HB)) (fun k_ h_ => h_)) (below_size (zw HB)))
       have n6_ := zD BK370 hb
       have n7_ := zD BK371 hb
       have n8_ := zD BK388 hb
       have n9_ := zY HB hb
       clear HO_371000; clear HO_371001; clear HO_371005; clear BK370; clear BK371; clear BK388; clear HB
       have HO_371000 := n0_
       have HO_371001 := n1_
       have HO_371005 := n2_
       have HO377 := n3_
       have HO380 := n4_
       have HO386 := n5_
       have BK370 := n6_
       have BK371 := n7_
       have BK388 := n8_
       have HB := n9_
       clear n0_ n1_ n2_ n3_ n4_ n5_ n6_ n7_ n8_ n9_
       (try clear hb)
       (try clear hb2)
       (try clear hk)
       (try clear hi)
       (try clear ho0)
       (try clear ho1)
       (try clear ho2)
       refine hK.out _ _ ⟨(blk_cell BK370.out 0).trans rfl, (blk_cell BK370.out 1).trans rfl, (blk_cell BK370.out 2).trans rfl, (blk_cell BK370.out 3).trans rfl, (blk_cell BK370.out 4).trans rfl, (blk_cell BK370.out 5).trans rfl, (zu hw372_0 HB), (zu hw372_1 HB), (zu hw372_2 HB), (zu hw372_3 HB), (zu hw373_0 HB), (zu hw373_1 HB), (zu hw373_2 HB), (zu hw373_3 HB), (zu hw374_0 HB), (zu hw374_1 HB), (zu hw374_2 HB), (zu hw374_3 HB)⟩ (fun hHeld => ?_)
       clear hK K
       refine norm_ (a' := ?_) ?_ ?_
       rotate_left
       ·show Act.put _ (some 32) _ = _
        simp only [Act.put, List.setIfInBounds_toArray, List.set_cons_zero, List.set_cons_succ, i64_w, i32_w]
        rfl
       refine zp 17 (some 15) #[true, true, true, true, true, true, true, true, true, true, true, true, true, true, true, true, true, true, false, false, true, false, false] rfl rfl (any_of HT_.out (by kernel_rfl)) ?_
       refine zp 18 (some 33) #[true, true, true, true, true, true, true, true, true, true, true, true, true, true, true, true, true, true, true, false, true, false, false] rfl rfl (any_of HT_.out (by kernel_rfl)) ?_
       refine zp 19 (some 34) #[true, true, true, true, true, true, true, true, true, true, true, true, true, true, true, true, true, true, true, true, true, false, false] rfl rfl (any_of HT_.out (by kernel_rfl)) ?_
       exact norm_ (by simp only [putAll, Act.put, List.setIfInBounds_toArray, List.set_cons_zero, List.set_cons_succ]) (hCont (v376, v379, v385, gb388) _ ⟨hHeld, (by (with_reducible repeat (first | apply Kd.R_alloc | apply Kd.R_drewN | apply Kd.R_drew)); exact Kd.R_mono HO377.out (fun _ hk => hk.1)), (by (with_reducible repeat (first | apply Kd.R_alloc | apply Kd.R_drewN | apply Kd.R_drew)); exact Kd.R_mono HO380.out (fun _ hk => hk.1)), (by (with_reducible repeat (first | apply Kd.R_alloc | apply Kd.R_drewN | apply Kd.R_drew)); exact Kd.R_mono HO386.out (fun _ hk => hk.1)), (by (with_reducible repeat (first | apply Kd.V_alloc | apply Kd.V_drewN | apply Kd.V_drew)); exact Kd.V_mono HO_371000.out (fun _ hk => ⟨hk.1.1.1.1.1, ⟨hk.1.1.2, ⟨hk.1.2, ⟨hk.2, ⟨hk.1.1.1.1.2.1, ⟨hk.1.1.1.1.2.2, hk.1.1.1.2⟩⟩⟩⟩⟩⟩)), (by (with_reducible repeat (first | apply Kd.V_alloc | apply Kd.V_drewN | apply Kd.V_drew)); exact Kd.V_mono HO_371001.out (fun _ hk => ⟨hk.1.1.1.1.1, ⟨hk.1.1.2, ⟨hk.1.2, ⟨hk.2, ⟨hk.1.1.1.1.2.1, ⟨hk.1.1.1.1.2.2, hk.1.1.1.2⟩⟩⟩⟩⟩⟩)), (by (with_reducible repeat (first | apply Kd.V_alloc | apply Kd.V_drewN | apply Kd.V_drew)); exact Kd.V_mono HO_371005.out (fun _ hk => ⟨hk.1.1.1.1.1, ⟨hk.1.1.2, ⟨hk.1.2, ⟨hk.2, ⟨hk.1.1.1.1.2.1, ⟨hk.1.1.1.1.2.2, hk.1.1.1.2⟩⟩⟩⟩⟩⟩)), (zb BK370), (zb BK371), (zb BK388), GW388.out, GE388.out, NB370_388.out, NB388_370.out, NB371_388.out, NB388_371.out, (zw HB)⟩)
      rintro ⟨v376, v379, v385, gb388⟩ w15 ⟨hS_, h0_, h1_, h2_, h3_, h4_, h5_, h6_, h7_, h8_, h9_, h10_, h11_, h12_, h13_, h14_, h15_⟩
      have n0_ : Aside0 (Kd.R k32 32 w15 w.heap.size (fun k_ => (w.heap.size ≤ k_)) v376 t375) := ⟨h0_⟩
      have n1_ : Aside0 (Kd.R k55 55 w15 w.heap.size (fun k_ => (w.heap.size ≤ k_)) v379 t378) := ⟨h1_⟩
      have n2_ : Aside0 (Kd.R k67 67 w15 w.heap.size (fun k_ => (w.heap.size ≤ k_)) v385 t384) := ⟨h2_⟩
      have n3_ : Aside0 (Kd.V k32 32 w15 w.heap.size (fun k_ => ((P0_0_ k_ ∨ P0_1_ k_ ∨ P0_5_ k_) ∨ w.heap.size ≤ k_) ∧ some k_ ≠ (v376 : Value).ownBlock ∧ some k_ ≠ (v379 : Value).ownBlock ∧ some k_ ≠ (v385 : Value).ownBlock ∧ k_ ≠ gb370 ∧ k_ ≠ gb371 ∧ k_ ≠ gb388) (.slice Ao9 x371000_1.length co9) x371000_1) := ⟨h3_⟩
      have n4_ : Aside0 (Kd.V k55 55 w15 w.heap.size (fun k_ => ((P0_0_ k_ ∨ P0_1_ k_ ∨ P0_5_ k_) ∨ w.heap.size ≤ k_) ∧ some k_ ≠ (v376 : Value).ownBlock ∧ some k_ ≠ (v379 : Value).ownBlock ∧ some k_ ≠ (v385 : Value).ownBlock ∧ k_ ≠ gb370 ∧ k_ ≠ gb371 ∧ k_ ≠ gb388) (.slice Ao10 x371001_1.length co10) x371001_1) := ⟨h4_⟩
      have n5_ : Aside0 (Kd.V k67 67 w15 w.heap.size (fun k_ => ((P0_0_ k_ ∨ P0_1_ k_ ∨ P0_5_ k_) ∨ w.heap.size ≤ k_) ∧ some k_ ≠ (v376 : Value).ownBlock ∧ some k_ ≠ (v379 : Value).ownBlock ∧ some k_ ≠ (v385 : Value).ownBlock ∧ k_ ≠ gb370 ∧ k_ ≠ gb371 ∧ k_ ≠ gb388) (.slice Ao11 x371005_1.length co11) x371005_1) := ⟨h5_⟩
      have n6_ : Aside0 (w15.heap[gb370]? = some (.cells #[.slice Ao9 x371000_1.length co9, .slice Ao10 x371001_1.length co10, .int .i64 x371002_1, .int .i64 x371003_1, .int .i64 x371004_1, .slice Ao11 x371005_1.length co11] 30 (0, 0))) := ⟨h6_⟩
      have n7_ : Aside0 (w15.heap[gb371]? = some (.cells #[.slice none 0 0, .slice none 0 0, .int .i64 x372002_1, .int .i64 x372003_1, .int .i64 x372004_1, .slice none 0 0] 30 (0, 0))) := ⟨h7_⟩
      have n8_ : Aside0 (w15.heap[gb388]? = some (.cells #[.slice none 0 0, .slice none 0 0, .int .i64 0, .int .i64 0, .int .i64 0, .slice none 0 0] 30 (0, 0))) := ⟨h8_⟩
      have n9_ : Aside0 (w.heap.size ≤ gb388) := ⟨h9_⟩
      have n10_ : Aside0 (w.heap.size ≤ gb388) := ⟨h10_⟩
      have n11_ : Aside0 (gb370 ≠ gb388) := ⟨h11_⟩
      have n12_ : Aside0 (gb388 ≠ gb370) := ⟨h12_⟩
      have n13_ : Aside0 (gb371 ≠ gb388) := ⟨h13_⟩
      have n14_ : Aside0 (gb388 ≠ gb371) := ⟨h14_⟩
      have n15_ : Aside0 (Below w.heap.size w w15) := ⟨h15_⟩
      clear HO_371000; clear HO_371001; clear HO_371005; clear BK370; clear BK371; clear HB; clear h0_ h1_ h2_ h3_ h4_ h5_ h6_ h7_ h8_ h9_ h10_ h11_ h12_ h13_ h14_ h15_
      have HO377 := n0_
      have HO380 := n1_
      have HO386 := n2_
      have HO_371000 := n3_
      have HO_371001 := n4_
      have HO_371005 := n5_
      have BK370 := n6_
      have BK371 := n7_
      have BK388 := n8_
      have GW388 := n9_
      have GE388 := n10_
      have NB370_388 := n11_
      have NB388_370 := n12_
      have NB371_388 := n13_
      have NB388_371 := n14_
      have HB := n15_
      clear n0_ n1_ n2_ n3_ n4_ n5_ n6_ n7_ n8_ n9_ n10_ n11_ n12_ n13_ n14_ n15_
      have hHeld : w15.cell? ⟨gb370, 0, none⟩ = some (.slice Ao9 x371000_1.length co9) ∧ w15.cell? ⟨gb370, 1, none⟩ = some (.slice Ao10 x371001_1.length co10) ∧ w15.cell? ⟨gb370, 2, none⟩ = some (.int .i64 x371002_1) ∧ w15.cell? ⟨gb370, 3, none⟩ = some (.int .i64 x371003_1) ∧ w15.cell? ⟨gb370, 4, none⟩ = some (.int .i64 x371004_1) ∧ w15.cell? ⟨gb370, 5, none⟩ = some (.slice Ao11 x371005_1.length co11) ∧ w15.cell? (ad372.add ((x6_1).toNat * 4)) = some (.int .i64 ((rd_T43 l1 x6_1).f0.f0)) ∧ w15.cell? ⟨(ad372.add ((x6_1).toNat * 4)).block, (ad372.add ((x6_1).toNat * 4)).off + 1, none⟩ = some (.int .i64 ((rd_T43 l1 x6_1).f0.f1)) ∧ w15.cell? ⟨(ad372.add ((x6_1).toNat * 4)).block, (ad372.add ((x6_1).toNat * 4)).off + 2, none⟩ = some (.int .i64 ((rd_T43 l1 x6_1).f1)) ∧ w15.cell? ⟨(ad372.add ((x6_1).toNat * 4)).block, (ad372.add ((x6_1).toNat * 4)).off + 3, none⟩ = some (.int .i64 ((rd_T43 l1 x6_1).f2)) ∧ w15.cell? (ad372.add ((x6_1).toNat * 4)) = some (.int .i64 ((rd_T43 l1 x6_1).f0.f0)) ∧ w15.cell? ⟨(ad372.add ((x6_1).toNat * 4)).block, (ad372.add ((x6_1).toNat * 4)).off + 1, none⟩ = some (.int .i64 ((rd_T43 l1 x6_1).f0.f1)) ∧ w15.cell? ⟨(ad372.add ((x6_1).toNat * 4)).block, (ad372.add ((x6_1).toNat * 4)).off + 2, none⟩ = some (.int .i64 ((rd_T43 l1 x6_1).f1)) ∧ w15.cell? ⟨(ad372.add ((x6_1).toNat * 4)).block, (ad372.add ((x6_1).toNat * 4)).off + 3, none⟩ = some (.int .i64 ((rd_T43 l1 x6_1).f2)) ∧ w15.cell? (ad372.add ((x6_1).toNat * 4)) = some (.int .i64 ((rd_T43 l1 x6_1).f0.f0)) ∧ w15.cell? ⟨(ad372.add ((x6_1).toNat * 4)).block, (ad372.add ((x6_1).toNat * 4)).off + 1, none⟩ = some (.int .i64 ((rd_T43 l1 x6_1).f0.f1)) ∧ w15.cell? ⟨(ad372.add ((x6_1).toNat * 4)).block, (ad372.add ((x6_1).toNat * 4)).off + 2, none⟩ = some (.int .i64 ((rd_T43 l1 x6_1).f1)) ∧ w15.cell? ⟨(ad372.add ((x6_1).toNat * 4)).block, (ad372.add ((x6_1).toNat * 4)).off + 3, none⟩ = some (.int .i64 ((rd_T43 l1 x6_1).f2)) := hS_
      obtain ⟨Ao16, co16, eo16⟩ := Kd.R_slice HO377.out
      (first | subst eo16 | (injection eo16 with f1_ f2_ f3_; have f4_ := f1_.symm; have f5_ := f3_.symm; clear f1_ f2_ f3_; subst f4_; subst f5_))
      obtain ⟨Ao18, co18, eo18⟩ := Kd.R_slice HO380.out
      (first | subst eo18 | (injection eo18 with f1_ f2_ f3_; have f4_ := f1_.symm; have f5_ := f3_.symm; clear f1_ f2_ f3_; subst f4_; subst f5_))
      obtain ⟨Ao23, co23, eo23⟩ := Kd.R_slice HO386.out
      (first | subst eo23 | (injection eo23 with f1_ f2_ f3_; have f4_ := f1_.symm; have f5_ := f3_.symm; clear f1_ f2_ f3_; subst f4_; subst f5_))
      refine norm_ (a' := ?_) ?_ ?_
      rotate_left
      ·simp only [putAll, Act.put, List.setIfInBounds_toArray, List.set_cons_zero, List.set_cons_succ]
       rfl
      refine one_ (i := 21) (N := none) #[true, true, true, true, true, true, true, true, true, true, true, true, true, true, true, true, true, true, true, true, true, true, false] rfl rfl (one_of HT_.out (by kernel_rfl)) (by decide) (fun K hK => ?_)
      have hs17 : w15.cell? ⟨gb388, 0, none⟩ = some (.slice none 0 0) := (blk_cell BK388.out 0).trans rfl
      have hfs17 := blk_frozen BK388.out 0
      have hns17_0 := NB370_388.out
      have hns17_1 := NB371_388.out
      have hms17_0 := NB388_370.out
      have hms17_1 := NB388_371.out
      have hs19 : w15.cell? ⟨gb388, 1, none⟩ = some (.slice none 0 0) := (blk_cell BK388.out 1).trans rfl
      have hfs19 := blk_frozen BK388.out 1
      have hns19_0 := NB370_388.out
      have hns19_1 := NB371_388.out
      have hms19_0 := NB388_370.out
      have hms19_1 := NB388_371.out
      have hs20 : w15.cell? ⟨gb388, 2, none⟩ = some (.int .i64 0) := (blk_cell BK388.out 2).trans rfl
      have hfs20 := blk_frozen BK388.out 2
      have hns20_0 := NB370_388.out
      have hns20_1 := NB371_388.out
      have hms20_0 := NB388_370.out
      have hms20_1 := NB388_371.out
      have hs21 : w15.cell? ⟨gb388, 3, none⟩ = some (.int .i64 0) := (blk_cell BK388.out 3).trans rfl
      have hfs21 := blk_frozen BK388.out 3
      have hns21_0 := NB370_388.out
      have hns21_1 := NB371_388.out
      have hms21_0 := NB388_370.out
      have hms21_1 := NB388_371.out
      have hs22 : w15.cell? ⟨gb388, 4, none⟩ = some (.int .i64 0) := (blk_cell BK388.out 4).trans rfl
      have hfs22 := blk_frozen BK388.out 4
      have hns22_0 := NB370_388.out
      have hns22_1 := NB371_388.out
      have hms22_0 := NB388_370.out
      have hms22_1 := NB388_371.out
      have hs24 : w15.cell? ⟨gb388, 5, none⟩ = some (.slice none 0 0) := (blk_cell BK388.out 5).trans rfl
      have hfs24 := blk_frozen BK388.out 5
      have hns24_0 := NB370_388.out
      have hns24_1 := NB371_388.out
      have hms24_0 := NB388_370.out
      have hms24_1 := NB388_371.out
      refine skip_ (w1 := ?_) (by rfl) rfl ?_ ?_
      rotate_left
      ·go_simp
       rfl
      refine hK.out _ _ ⟨((cell_far (p := ⟨gb388, _, none⟩) NB370_388.out _).trans (((cell_far (p := ⟨gb388, _, none⟩) NB370_388.out _).trans (((cell_far (p := ⟨gb388, _, none⟩) NB370_388.out _).trans (((cell_far (p := ⟨gb388, _, none⟩) NB370_388.out _).trans (((cell_far (p := ⟨gb388, _, none⟩) NB370_388.out _).trans (((cell_far (p := ⟨gb388, _, none⟩) NB370_388.out _).trans (hHeld.1)))))))))))), ((cell_far (p := ⟨gb388, _, none⟩) NB370_388.out _).trans (((cell_far (p := ⟨gb388, _, none⟩) NB370_388.out _).trans (((cell_far (p := ⟨gb388, _, none⟩) NB370_388.out _).trans (((cell_far (p := ⟨gb388, _, none⟩) NB370_388.out _).trans (((cell_far (p := ⟨gb388, _, none⟩) NB370_388.out _).trans (((cell_far (p := ⟨gb388, _, none⟩) NB370_388.out _).trans (hHeld.2.1)))))))))))), ((cell_far (p := ⟨gb388, _, none⟩) NB370_388.out _).trans (((cell_far (p := ⟨gb388, _, none⟩) NB370_388.out _).trans (((cell_far (p := ⟨gb388, _, none⟩) NB370_388.out _).trans (((cell_far (p := ⟨gb388, _, none⟩) NB370_388.out _).trans (((cell_far (p := ⟨gb388, _, none⟩) NB370_388.out _).trans (((cell_far (p := ⟨gb388, _, none⟩) NB370_388.out _).trans (hHeld.2.2.1)))))))))))), ((cell_far (p := ⟨gb388, _, none⟩) NB370_388.out _).trans (((cell_far (p := ⟨gb388, _, none⟩) NB370_388.out _).trans (((cell_far (p := ⟨gb388, _, none⟩) NB370_388.out _).trans (((cell_far (p := ⟨gb388, _, none⟩) NB370_388.out _).trans (((cell_far (p := ⟨gb388, _, none⟩) NB370_388.out _).trans (((cell_far (p := ⟨gb388, _, none⟩) NB370_388.out _).trans (hHeld.2.2.2.1)))))))))))), ((cell_far (p := ⟨gb388, _, none⟩) NB370_388.out _).trans (((cell_far (p := ⟨gb388, _, none⟩) NB370_388.out _).trans (((cell_far (p := ⟨gb388, _, none⟩) NB370_388.out _).trans (((cell_far (p := ⟨gb388, _, none⟩) NB370_388.out _).trans (((cell_far (p := ⟨gb388, _, none⟩) NB370_388.out _).trans (((cell_far (p := ⟨gb388, _, none⟩) NB370_388.out _).trans (hHeld.2.2.2.2.1)))))))))))), ((cell_far (p := ⟨gb388, _, none⟩) NB370_388.out _).trans (((cell_far (p := ⟨gb388, _, none⟩) NB370_388.out _).trans (((cell_far (p := ⟨gb388, _, none⟩) NB370_388.out _).trans (((cell_far (p := ⟨gb388, _, none⟩) NB370_388.out _).trans (((cell_far (p := ⟨gb388, _, none⟩) NB370_388.out _).trans (((cell_far (p := ⟨gb388, _, none⟩) NB370_388.out _).trans (hHeld.2.2.2.2.2.1)))))))))))), ((cell_far (p := ⟨gb388, _, none⟩) (zf hw372_0 GW388) _).trans (((cell_far (p := ⟨gb388, _, none⟩) (zf hw372_0 GW388) _).trans (((cell_far (p := ⟨gb388, _, none⟩) (zf hw372_0 GW388) _).trans (((cell_far (p := ⟨gb388, _, none⟩) (zf hw372_0 GW388) _).trans (((cell_far (p := ⟨gb388, _, none⟩) (zf hw372_0 GW388) _).trans (((cell_far (p := ⟨gb388, _, none⟩) (zf hw372_0 GW388) _).trans (hHeld.2.2.2.2.2.2.1)))))))))))), ((cell_far (p := ⟨gb388, _, none⟩) (zf hw372_1 GW388) _).trans (((cell_far (p := ⟨gb388, _, none⟩) (zf hw372_1 GW388) _).trans (((cell_far (p := ⟨gb388, _, none⟩) (zf hw372_1 GW388) _).trans (((cell_far (p := ⟨gb388, _, none⟩) (zf hw372_1 GW388) _).trans (((cell_far (p := ⟨gb388, _, none⟩) (zf hw372_1 GW388) _).trans (((cell_far (p := ⟨gb388, _, none⟩) (zf hw372_1 GW388) _).trans (hHeld.2.2.2.2.2.2.2.1)))))))))))), ((cell_far (p := ⟨gb388, _, none⟩) (zf hw372_2 GW388) _).trans (((cell_far (p := ⟨gb388, _, none⟩) (zf hw372_2 GW388) _).trans (((cell_far (p := ⟨gb388, _, none⟩) (zf hw372_2 GW388) _).trans (((cell_far (p := ⟨gb388, _, none⟩) (zf hw372_2 GW388) _).trans (((cell_far (p := ⟨gb388, _, none⟩) (zf hw372_2 GW388) _).trans (((cell_far (p := ⟨gb388, _, none⟩) (zf hw372_2 GW388) _).trans (hHeld.2.2.2.2.2.2.2.2.1)))))))))))), ((cell_far (p := ⟨gb388, _, none⟩) (zf hw372_3 GW388) _).trans (((cell_far (p := ⟨gb388, _, none⟩) (zf hw372_3 GW388) _).trans (((cell_far (p := ⟨gb388, _, none⟩) (zf hw372_3 GW388) _).trans (((cell_far (p := ⟨gb388, _, none⟩) (zf hw372_3 GW388) _).trans (((cell_far (p := ⟨gb388, _, none⟩) (zf hw372_3 GW388) _).trans (((cell_far (p := ⟨gb388, _, none⟩) (zf hw372_3 GW388) _).trans (hHeld.2.2.2.2.2.2.2.2.2.1)))))))))))), ((cell_far (p := ⟨gb388, _, none⟩) (zf hw373_0 GW388) _).trans (((cell_far (p := ⟨gb388, _, none⟩) (zf hw373_0 GW388) _).trans (((cell_far (p := ⟨gb388, _, none⟩) (zf hw373_0 GW388) _).trans (((cell_far (p := ⟨gb388, _, none⟩) (zf hw373_0 GW388) _).trans (((cell_far (p := ⟨gb388, _, none⟩) (zf hw373_0 GW388) _).trans (((cell_far (p := ⟨gb388, _, none⟩) (zf hw373_0 GW388) _).trans (hHeld.2.2.2.2.2.2.2.2.2.2.1)))))))))))), ((cell_far (p := ⟨gb388, _, none⟩) (zf hw373_1 GW388) _).trans (((cell_far (p := ⟨gb388, _, none⟩) (zf hw373_1 GW388) _).trans (((cell_far (p := ⟨gb388, _, none⟩) (zf hw373_1 GW388) _).trans (((cell_far (p := ⟨gb388, _, none⟩) (zf hw373_1 GW388) _).trans (((cell_far (p := ⟨gb388, _, none⟩) (zf hw373_1 GW388) _).trans (((cell_far (p := ⟨gb388, _, none⟩) (zf hw373_1 GW388) _).trans (hHeld.2.2.2.2.2.2.2.2.2.2.2.1)))))))))))), ((cell_far (p := ⟨gb388, _, none⟩) (zf hw373_2 GW388) _).trans (((cell_far (p := ⟨gb388, _, none⟩) (zf hw373_2 GW388) _).trans (((cell_far (p := ⟨gb388, _, none⟩) (zf hw373_2 GW388) _).trans (((cell_far (p := ⟨gb388, _, none⟩) (zf hw373_2 GW388) _).trans (((cell_far (p := ⟨gb388, _, none⟩) (zf hw373_2 GW388) _).trans (((cell_far (p := ⟨gb388, _, none⟩) (zf hw373_2 GW388) _).trans (hHeld.2.2.2.2.2.2.2.2.2.2.2.2.1)))))))))))), ((cell_far (p := ⟨gb388, _, none⟩) (zf hw373_3 GW388) _).trans (((cell_far (p := ⟨gb388, _, none⟩) (zf hw373_3 GW388) _).trans (((cell_far (p := ⟨gb388, _, none⟩) (zf hw373_3 GW388) _).trans (((cell_far (p := ⟨gb388, _, none⟩) (zf hw373_3 GW388) _).trans (((cell_far (p := ⟨gb388, _, none⟩) (zf hw373_3 GW388) _).trans (((cell_far (p := ⟨gb388, _, none⟩) (zf hw373_3 GW388) _).trans (hHeld.2.2.2.2.2.2.2.2.2.2.2.2.2.1)))))))))))), ((cell_far (p := ⟨gb388, _, none⟩) (zf hw374_0 GW388) _).trans (((cell_far (p := ⟨gb388, _, none⟩) (zf hw374_0 GW388) _).trans (((cell_far (p := ⟨gb388, _, none⟩) (zf hw374_0 GW388) _).trans (((cell_far (p := ⟨gb388, _, none⟩) (zf hw374_0 GW388) _).trans (((cell_far (p := ⟨gb388, _, none⟩) (zf hw374_0 GW388) _).trans (((cell_far (p := ⟨gb388, _, none⟩) (zf hw374_0 GW388) _).trans (hHeld.2.2.2.2.2.2.2.2.2.2.2.2.2.2.1)))))))))))), ((cell_far (p := ⟨gb388, _, none⟩) (zf hw374_1 GW388) _).trans (((cell_far (p := ⟨gb388, _, none⟩) (zf hw374_1 GW388) _).trans (((cell_far (p := ⟨gb388, _, none⟩) (zf hw374_1 GW388) _).trans (((cell_far (p := ⟨gb388, _, none⟩) (zf hw374_1 GW388) _).trans (((cell_far (p := ⟨gb388, _, none⟩) (zf hw374_1 GW388) _).trans (((cell_far (p := ⟨gb388, _, none⟩) (zf hw374_1 GW388) _).trans (hHeld.2.2.2.2.2.2.2.2.2.2.2.2.2.2.2.1)))))))))))), ((cell_far (p := ⟨gb388, _, none⟩) (zf hw374_2 GW388) _).trans (((cell_far (p := ⟨gb388, _, none⟩) (zf hw374_2 GW388) _).trans (((cell_far (p := ⟨gb388, _, none⟩) (zf hw374_2 GW388) _).trans (((cell_far (p := ⟨gb388, _, none⟩) (zf hw374_2 GW388) _).trans (((cell_far (p := ⟨gb388, _, none⟩) (zf hw374_2 GW388) _).trans (((cell_far (p := ⟨gb388, _, none⟩) (zf hw374_2 GW388) _).trans (hHeld.2.2.2.2.2.2.2.2.2.2.2.2.2.2.2.2.1)))))))))))), ((cell_far (p := ⟨gb388, _, none⟩) (zf hw374_3 GW388) _).trans (((cell_far (p := ⟨gb388, _, none⟩) (zf hw374_3 GW388) _).trans (((cell_far (p := ⟨gb388, _, none⟩) (zf hw374_3 GW388) _).trans (((cell_far (p := ⟨gb388, _, none⟩) (zf hw374_3 GW388) _).trans (((cell_far (p := ⟨gb388, _, none⟩) (zf hw374_3 GW388) _).trans (((cell_far (p := ⟨gb388, _, none⟩) (zf hw374_3 GW388) _).trans (hHeld.2.2.2.2.2.2.2.2.2.2.2.2.2.2.2.2.2))))))))))))⟩ (fun hHeld => ?_)
      clear hK K
      refine zp 22 (some 8) #[true, true, true, true, true, true, true, true, true, true, true, true, true, true, true, true, true, true, true, true, true, true, true] rfl rfl (any_of HT_.out (by kernel_rfl)) ?_
      refine done_ (done_of HT_.out (by kernel_rfl)) ?_
      have hnb25 := NB388_370.out
      have hnc25 := NB370_388.out
      have hnb26 := NB388_371.out
      have hnc26 := NB371_388.out
      obtain ⟨hcz27_0, hcz27_1, hcz27_2, hcz27_3, hcz27_4, hcz27_5, hfz27_0, hfz27_1, hfz27_2, hfz27_3, hfz27_4, hfz27_5⟩ := zk6 BK388
      have hnb28 := NB370_371.out
      have hnc28 := NB371_370.out
      obtain ⟨hcz29_0, hcz29_1, hcz29_2, hcz29_3, hcz29_4, hcz29_5, hfz29_0, hfz29_1, hfz29_2, hfz29_3, hfz29_4, hfz29_5⟩ := zk6 BK370
      try go_wp2
      go_roundg k1
      case measure => have := HK1.out; omega
      case rel => exact ⟨(wrap64 (x6_1 + 1)), (t375), (t378), (t381), (t382), (t383), (t384), (x372002_1), (x372003_1), (x372004_1), (.slice Ao16 t375.length co16), (.slice Ao18 t378.length co18), (.slice Ao23 t384.length co23), zq, H', ⟨by have := HK1.out; omega⟩, ⟨Kd.V_mono (Kd.R_V (show Kd.R k32 32 _ w.heap.size (fun k_ => w.heap.size ≤ k_ ∧ k_ ≠ gb370 ∧ k_ ≠ gb371) _ _ from by (with_reducible repeat (first | apply Kd.R_alloc | apply Kd.R_drewN | apply Kd.R_drew)); exact Kd.R_mono (Kd.R_far (p := ⟨gb370, 5, none⟩) (Kd.R_far (p := ⟨gb370, 4, none⟩) (Kd.R_far (p := ⟨gb370, 3, none⟩) (Kd.R_far (p := ⟨gb370, 2, none⟩) (Kd.R_far (p := ⟨gb370, 1, none⟩) (Kd.R_far (p := ⟨gb370, 0, none⟩) (Kd.R_far (p := ⟨gb388, 5, none⟩) (Kd.R_far (p := ⟨gb388, 4, none⟩) (Kd.R_far (p := ⟨gb388, 3, none⟩) (Kd.R_far (p := ⟨gb388, 2, none⟩) (Kd.R_far (p := ⟨gb388, 1, none⟩) (Kd.R_far (p := ⟨gb388, 0, none⟩) (Kd.R_types (Kd.R_types (Kd.R_types (Kd.R_types HO377.out BK370.out (by decide)) BK371.out (by decide)) BK388.out (by decide)) BK370.out (by decide)) (fun _ hk => hk.1.2) (.slice Ao16 t375.length co16)) (fun _ hk => hk.1.2) (.slice Ao18 t378.length co18)) (fun _ hk => hk.1.2) (.int .i64 t381)) (fun _ hk => hk.1.2) (.int .i64 t382)) (fun _ hk => hk.1.2) (.int .i64 t383)) (fun _ hk => hk.1.2) (.slice Ao23 t384.length co23)) (fun _ hk => hk.2) (.slice Ao16 t375.length co16)) (fun _ hk => hk.2) (.slice Ao18 t378.length co18)) (fun _ hk => hk.2) (.int .i64 t381)) (fun _ hk => hk.2) (.int .i64 t382)) (fun _ hk => hk.2) (.int .i64 t383)) (fun _ hk => hk.2) (.slice Ao23 t384.length co23)) (fun _ hk => ⟨hk.1.1.1.1, ⟨hk.1.1.1.2, hk.1.1.2⟩⟩))) (fun k_ hk => by first | exact ⟨(.inr (hk.1)), hk.2⟩ | exact (.inr (hk)))⟩, ⟨Kd.V_mono (Kd.R_V (show Kd.R k55 55 _ w.heap.size (fun k_ => w.heap.size ≤ k_ ∧ k_ ≠ gb370 ∧ k_ ≠ gb371) _ _ from by (with_reducible repeat (first | apply Kd.R_alloc | apply Kd.R_drewN | apply Kd.R_drew)); exact Kd.R_mono (Kd.R_far (p := ⟨gb370, 5, none⟩) (Kd.R_far (p := ⟨gb370, 4, none⟩) (Kd.R_far (p := ⟨gb370, 3, none⟩) (Kd.R_far (p := ⟨gb370, 2, none⟩) (Kd.R_far (p := ⟨gb370, 1, none⟩) (Kd.R_far (p := ⟨gb370, 0, none⟩) (Kd.R_far (p := ⟨gb388, 5, none⟩) (Kd.R_far (p := ⟨gb388, 4, none⟩) (Kd.R_far (p := ⟨gb388, 3, none⟩) (Kd.R_far (p := ⟨gb388, 2, none⟩) (Kd.R_far (p := ⟨gb388, 1, none⟩) (Kd.R_far (p := ⟨gb388, 0, none⟩) (Kd.R_types (Kd.R_types (Kd.R_types (Kd.R_types HO380.out BK370.out (by decide)) BK371.out (by decide)) BK388.out (by decide)) BK370.out (by decide)) (fun _ hk => hk.1.2) (.slice Ao16 t375.length co16)) (fun _ hk => hk.1.2) (.slice Ao18 t378.length co18)) (fun _ hk => hk.1.2) (.int .i64 t381)) (fun _ hk => hk.1.2) (.int .i64 t382)) (fun _ hk => hk.1.2) (.int .i64 t383)) (fun _ hk => hk.1.2) (.slice Ao23 t384.length co23)) (fun _ hk => hk.2) (.slice Ao16 t375.length co16)) (fun _ hk => hk.2) (.slice Ao18 t378.length co18)) (fun _ hk => hk.2) (.int .i64 t381)) (fun _ hk => hk.2) (.int .i64 t382)) (fun _ hk => hk.2) (.int .i64 t383)) (fun _ hk => hk.2) (.slice Ao23 t384.length co23)) (fun _ hk => ⟨hk.1.1.1.1, ⟨hk.1.1.1.2, hk.1.1.2⟩⟩))) (fun k_ hk => by first | exact ⟨(.inr (hk.1)), hk.2⟩ | exact (.inr (hk)))⟩, ⟨Kd.V_mono (Kd.R_V (show Kd.R k67 67 _ w.heap.size (fun k_ => w.heap.size ≤ k_ ∧ k_ ≠ gb370 ∧ k_ ≠ gb371) _ _ from by (with_reducible repeat (first | apply Kd.R_alloc | apply Kd.R_drewN | apply Kd.R_drew)); exact Kd.R_mono (Kd.R_far (p := ⟨gb370, 5, none⟩) (Kd.R_far (p := ⟨gb370, 4, none⟩) (Kd.R_far (p := ⟨gb370, 3, none⟩) (Kd.R_far (p := ⟨gb370, 2, none⟩) (Kd.R_far (p := ⟨gb370, 1, none⟩) (Kd.R_far (p := ⟨gb370, 0, none⟩) (Kd.R_far (p := ⟨gb388, 5, none⟩) (Kd.R_far (p := ⟨gb388, 4, none⟩) (Kd.R_far (p := ⟨gb388, 3, none⟩) (Kd.R_far (p := ⟨gb388, 2, none⟩) (Kd.R_far (p := ⟨gb388, 1, none⟩) (Kd.R_far (p := ⟨gb388, 0, none⟩) (Kd.R_types (Kd.R_types (Kd.R_types (Kd.R_types HO386.out BK370.out (by decide)) BK371.out (by decide)) BK388.out (by decide)) BK370.out (by decide)) (fun _ hk => hk.1.2) (.slice Ao16 t375.length co16)) (fun _ hk => hk.1.2) (.slice Ao18 t378.length co18)) (fun _ hk => hk.1.2) (.int .i64 t381)) (fun _ hk => hk.1.2) (.int .i64 t382)) (fun _ hk => hk.1.2) (.int .i64 t383)) (fun _ hk => hk.1.2) (.slice Ao23 t384.length co23)) (fun _ hk => hk.2) (.slice Ao16 t375.length co16)) (fun _ hk => hk.2) (.slice Ao18 t378.length co18)) (fun _ hk => hk.2) (.int .i64 t381)) (fun _ hk => hk.2) (.int .i64 t382)) (fun _ hk => hk.2) (.int .i64 t383)) (fun _ hk => hk.2) (.slice Ao23 t384.length co23)) (fun _ hk => ⟨hk.1.1.1.1, ⟨hk.1.1.1.2, hk.1.1.2⟩⟩))) (fun k_ hk => by first | exact ⟨(.inr (hk.1)), hk.2⟩ | exact (.inr (hk)))⟩, ⟨by (with_reducible repeat (first | refine blk_drewN ?_ _ | refine blk_drew ?_ | refine blk_alloc ?_ _)); refine blk_put (cs := #[.slice Ao16 t375.length co16, .slice Ao18 t378.length co18, .int .i64 t381, .int .i64 t382, .int .i64 t383, .slice Ao11 x371005_1.length co11]) ?_ 5 _ rfl; (with_reducible repeat (first | refine blk_drewN ?_ _ | refine blk_drew ?_ | refine blk_alloc ?_ _)); refine blk_put (cs := #[.slice Ao16 t375.length co16, .slice Ao18 t378.length co18, .int .i64 t381, .int .i64 t382, .int .i64 x371004_1, .slice Ao11 x371005_1.length co11]) ?_ 4 _ rfl; (with_reducible repeat (first | refine blk_drewN ?_ _ | refine blk_drew ?_ | refine blk_alloc ?_ _)); refine blk_put (cs := #[.slice Ao16 t375.length co16, .slice Ao18 t378.length co18, .int .i64 t381, .int .i64 x371003_1, .int .i64 x371004_1, .slice Ao11 x371005_1.length co11]) ?_ 3 _ rfl; (with_reducible repeat (first | refine blk_drewN ?_ _ | refine blk_drew ?_ | refine blk_alloc ?_ _)); refine blk_put (cs := #[.slice Ao16 t375.length co16, .slice Ao18 t378.length co18, .int .i64 x371002_1, .int .i64 x371003_1, .int .i64 x371004_1, .slice Ao11 x371005_1.length co11]) ?_ 2 _ rfl; (with_reducible repeat (first | refine blk_drewN ?_ _ | refine blk_drew ?_ | refine blk_alloc ?_ _)); refine blk_put (cs := #[.slice Ao16 t375.length co16, .slice Ao10 x371001_1.length co10, .int .i64 x371002_1, .int .i64 x371003_1, .int .i64 x371004_1, .slice Ao11 x371005_1.length co11]) ?_ 1 _ rfl; (with_reducible repeat (first | refine blk_drewN ?_ _ | refine blk_drew ?_ | refine blk_alloc ?_ _)); refine blk_put (cs := #[.slice Ao9 x371000_1.length co9, .slice Ao10 x371001_1.length co10, .int .i64 x371002_1, .int .i64 x371003_1, .int .i64 x371004_1, .slice Ao11 x371005_1.length co11]) ?_ 0 _ rfl; (with_reducible repeat (first | refine blk_drewN ?_ _ | refine blk_drew ?_ | refine blk_alloc ?_ _)); refine blk_far ?_ NB370_388.out _; (with_reducible repeat (first | refine blk_drewN ?_ _ | refine blk_drew ?_ | refine blk_alloc ?_ _)); refine blk_far ?_ NB370_388.out _; (with_reducible repeat (first | refine blk_drewN ?_ _ | refine blk_drew ?_ | refine blk_alloc ?_ _)); refine blk_far ?_ NB370_388.out _; (with_reducible repeat (first | refine blk_drewN ?_ _ | refine blk_drew ?_ | refine blk_alloc ?_ _)); refine blk_far ?_ NB370_388.out _; (with_reducible repeat (first | refine blk_drewN ?_ _ | refine blk_drew ?_ | refine blk_alloc ?_ _)); refine blk_far ?_ NB370_388.out _; (with_reducible repeat (first | refine blk_drewN ?_ _ | refine blk_drew ?_ | refine blk_alloc ?_ _)); refine blk_far ?_ NB370_388.out _; (with_reducible repeat (first | refine blk_drewN ?_ _ | refine blk_drew ?_ | refine blk_alloc ?_ _)); exact BK370.out⟩, ⟨zv BK371⟩, ⟨zw HB⟩⟩
     rw [if_neg c8] at H
     have c8b0 : (t387 == 0) = false := beq_eq_false_iff_ne.mpr c8
     have c8b1 : (t387 != 0) = true := bne_iff_ne.mpr c8
     simp only [Option.some.injEq, Prod.mk.injEq] at H
     obtain ⟨rfl, rfl, rfl, rfl, rfl, rfl, rfl⟩ := H
     obtain ⟨Ao30, co30, eo30⟩ := Kd.V_slice HO_371000.out
     subst eo30
     obtain ⟨Ao31, co31, eo31⟩ := Kd.V_slice HO_371001.out
     subst eo31
     obtain ⟨Ao32, co32, eo32⟩ := Kd.V_slice HO_371005.out
     subst eo32
     try go_wp2
     have n0_ := Aside0.mk (Kd.V_drew HO_371000.out)
     have n1_ := Aside0.mk (Kd.V_drew HO_371001.out)
     have n2_ := Aside0.mk (Kd.V_drew HO_371005.out)
     have n3_ := Aside0.mk (blk_drew BK370.out)
     have n4_ := Aside0.mk (blk_drew BK371.out)
     have n5_ := Aside0.mk (below_drew1 HB.out)
     clear HO_371000; clear HO_371001; clear HO_371005; clear BK370; clear BK371; clear HB
     have HO_371000 := n0_
     have HO_371001 := n1_
     have HO_371005 := n2_
     have BK370 := n3_
     have BK371 := n4_
     have HB := n5_
     clear n0_ n1_ n2_ n3_ n4_ n5_
     have p372 : 0 ≤ (x6_1 : Int) := of_decide_eq_true zj
     have q372 : x6_1 < (l1.length : Int) := of_decide_eq_true zj
     obtain ⟨ad372, e372, hx372_0, hx372_1, hx372_2, hx372_3⟩ := at_T43 HR1.out x6_1 p372 q372
     have hw372_3 := hx372_3
     have hw372_2 := hx372_2
     have hw372_1 := hx372_1
     have hw372_0 := hx372_0
     cases e372
     replace hx372_0 := zu hx372_0 HB
     replace hx372_1 := zu hx372_1 HB
     replace hx372_2 := zu hx372_2 HB
     replace hx372_3 := zu hx372_3 HB
     replace p372 := eq_true p372
     replace q372 := eq_true q372
     have p373 : 0 ≤ (x6_1 : Int) := of_decide_eq_true zj
     have q373 : x6_1 < (l1.length : Int) := of_decide_eq_true zj
     obtain ⟨ad373, e373, hx373_0, hx373_1, hx373_2, hx373_3⟩ := at_T43 HR1.out x6_1 p373 q373
     have hw373_3 := hx373_3
     have hw373_2 := hx373_2
     have hw373_1 := hx373_1
     have hw373_0 := hx373_0
     obtain rfl : ad372 = ad373 := (by injection e373)
     replace hx373_0 := zu hx373_0 HB
     replace hx373_1 := zu hx373_1 HB
     replace hx373_2 := zu hx373_2 HB
     replace hx373_3 := zu hx373_3 HB
     replace p373 := eq_true p373
     replace q373 := eq_true q373
     have p374 : 0 ≤ (x6_1 : Int) := of_decide_eq_true zj
     have q374 : x6_1 < (l1.length : Int) := of_decide_eq_true zj
     obtain ⟨ad374, e374, hx374_0, hx374_1, hx374_2, hx374_3⟩ := at_T43 HR1.out x6_1 p374 q374
     have hw374_3 := hx374_3
     have hw374_2 := hx374_2
     have hw374_1 := hx374_1
     have hw374_0 := hx374_0
     obtain rfl : ad372 = ad374 := (by injection e374)
     replace hx374_0 := zu hx374_0 HB
     replace hx374_1 := zu hx374_1 HB
     replace hx374_2 := zu hx374_2 HB
     replace hx374_3 := zu hx374_3 HB
     replace p374 := eq_true p374
     replace q374 := eq_true q374
     refine start_ (n := 23) (S := fun w' => w'.cell? ⟨gb370, 0, none⟩ = some (.slice Ao30 x371000_1.length co30) ∧ w'.cell? ⟨gb370, 1, none⟩ = some (.slice Ao31 x371001_1.length co31) ∧ w'.cell? ⟨gb370, 2, none⟩ = some (.int .i64 x371002_1) ∧ w'.cell? ⟨gb370, 3, none⟩ = some (.int .i64 x371003_1) ∧ w'.cell? ⟨gb370, 4, none⟩ = some (.int .i64 x371004_1) ∧ w'.cell? ⟨gb370, 5, none⟩ = some (.slice Ao32 x371005_1.length co32) ∧ w'.cell? (ad372.add ((x6_1).toNat * 4)) = some (.int .i64 ((rd_T43 l1 x6_1).f0.f0)) ∧ w'.cell? ⟨(ad372.add ((x6_1).toNat * 4)).block, (ad372.add ((x6_1).toNat * 4)).off + 1, none⟩ = some (.int .i64 ((rd_T43 l1 x6_1).f0.f1)) ∧ w'.cell? ⟨(ad372.add ((x6_1).toNat * 4)).block, (ad372.add ((x6_1).toNat * 4)).off + 2, none⟩ = some (.int .i64 ((rd_T43 l1 x6_1).f1)) ∧ w'.cell? ⟨(ad372.add ((x6_1).toNat * 4)).block, (ad372.add ((x6_1).toNat * 4)).off + 3, none⟩ = some (.int .i64 ((rd_T43 l1 x6_1).f2)) ∧ w'.cell? (ad372.add ((x6_1).toNat * 4)) = some (.int .i64 ((rd_T43 l1 x6_1).f0.f0)) ∧ w'.cell? ⟨(ad372.add ((x6_1).toNat * 4)).block, (ad372.add ((x6_1).toNat * 4)).off + 1, none⟩ = some (.int .i64 ((rd_T43 l1 x6_1).f0.f1)) ∧ w'.cell? ⟨(ad372.add ((x6_1).toNat * 4)).block, (ad372.add ((x6_1).toNat * 4)).off + 2, none⟩ = some (.int .i64 ((rd_T43 l1 x6_1).f1)) ∧ w'.cell? ⟨(ad372.add ((x6_1).toNat * 4)).block, (ad372.add ((x6_1).toNat * 4)).off + 3, none⟩ = some (.int .i64 ((rd_T43 l1 x6_1).f2)) ∧ w'.cell? (ad372.add ((x6_1).toNat * 4)) = some (.int .i64 ((rd_T43 l1 x6_1).f0.f0)) ∧ w'.cell? ⟨(ad372.add ((x6_1).toNat * 4)).block, (ad372.add ((x6_1).toNat * 4)).off + 1, none⟩ = some (.int .i64 ((rd_T43 l1 x6_1).f0.f1)) ∧ w'.cell? ⟨(ad372.add ((x6_1).toNat * 4)).block, (ad372.add ((x6_1).toNat * 4)).off + 2, none⟩ = some (.int .i64 ((rd_T43 l1 x6_1).f1)) ∧ w'.cell? ⟨(ad372.add ((x6_1).toNat * 4)).block, (ad372.add ((x6_1).toNat * 4)).off + 3, none⟩ = some (.int .i64 ((rd_T43 l1 x6_1).f2))) (ds := []) #[false, false, false, false, false, false, false, false, false, false, false, false, false, false, false, false, false, false, false, false, false, false, false] (by kernel_rfl) rfl rfl ⟨(blk_cell BK370.out 0).trans rfl, (blk_cell BK370.out 1).trans rfl, (blk_cell BK370.out 2).trans rfl, (blk_cell BK370.out 3).trans rfl, (blk_cell BK370.out 4).trans rfl, (blk_cell BK370.out 5).trans rfl, (zu hw372_0 HB), (zu hw372_1 HB), (zu hw372_2 HB), (zu hw372_3 HB), (zu hw373_0 HB), (zu hw373_1 HB), (zu hw373_2 HB), (zu hw373_3 HB), (zu hw374_0 HB), (zu hw374_1 HB), (zu hw374_2 HB), (zu hw374_3 HB)⟩ (fun hHeld => ?_); refine with_tabW thatchlaw07_all.tab4 thatchlaw07_all.bits4 (fun HT_ HW_ => ?_)
     generalize wr.drew = w33 at HO_371000 HO_371001 HO_371005 BK370 BK371 HB hx372_0 hx372_1 hx372_2 hx372_3 hx373_0 hx373_1 hx373_2 hx373_3 hx374_0 hx374_1 hx374_2 hx374_3 hHeld ⊢
     refine zp 1 (some 17) #[false, true, false, false, false, false, false, false, false, false, false, false, false, false, false, false, false, false, false, false, false, false, false] rfl rfl (any_of HT_.out (by kernel_rfl)) ?_
     refine zp 2 (some 18) #[false, true, true, false, false, false, false, false, false, false, false, false, false, false, false, false, false, false, false, false, false, false, false] rfl rfl (any_of HT_.out (by kernel_rfl)) ?_
     refine zp 3 (some 19) #[false, true, true, true, false, false, false, false, false, false, false, false, false, false, false, false, false, false, false, false, false, false, false] rfl rfl (any_of HT_.out (by kernel_rfl)) ?_
     refine zp 4 (some 20) #[false, true, true, true, true, false, false, false, false, false, false, false, false, false, false, false, false, false, false, false, false, false, false] rfl rfl (any_of HT_.out (by kernel_rfl)) ?_
     refine zp 6 (some 22) #[false, true, true, true, true, false, true, false, false, false, false, false, false, false, false, false, false, false, false, false, false, false, false] rfl rfl (any_of HT_.out (by kernel_rfl)) ?_
     refine zp 7 (some 23) #[false, true, true, true, true, false, true, true, false, false, false, false, false, false, false, false, false, false, false, false, false, false, false] rfl rfl (any_of HT_.out (by kernel_rfl)) ?_
     refine zp 8 (some 24) #[false, true, true, true, true, false, true, true, true, false, false, false, false, false, false, false, false, false, false, false, false, false, false] rfl rfl (any_of HT_.out (by kernel_rfl)) ?_
     refine zp 9 (some 25) #[false, true, true, true, true, false, true, true, true, true, false, false, false, false, false, false, false, false, false, false, false, false, false] rfl rfl (any_of HT_.out (by kernel_rfl)) ?_
     refine zp 11 (some 27) #[false, true, true, true, true, false, true, true, true, true, false, true, false, false, false, false, false, false, false, false, false, false, false] rfl rfl (any_of HT_.out (by kernel_rfl)) ?_
     refine zp 12 (some 28) #[false, true, true, true, true, false, true, true, true, true, false, true, true, false, false, false, false, false, false, false, false, false, false] rfl rfl (any_of HT_.out (by kernel_rfl)) ?_
     refine zp 13 (some 29) #[false, true, true, true, true, false, true, true, true, true, false, true, true, true, false, false, false, false, false, false, false, false, false] rfl rfl (any_of HT_.out (by kernel_rfl)) ?_
     refine zp 14 (some 30) #[false, true, true, true, true, false, true, true, true, true, false, true, true, true, true, false, false, false, false, false, false, false, false] rfl rfl (any_of HT_.out (by kernel_rfl)) ?_
     refine take_ (i := 0) (N := some 16) (v := ?_) (a' := ?_) #[true, true, true, true, true, false, true, true, true, true, false, true, true, true, true, false, false, false, false, false, false, false, false] rfl rfl (take_ofW HT_.out HW_.out (by kernel_rfl)) (fun _ _ _ h => h) (Or.inl ⟨by rfl, ?_⟩) hHeld ?_ ?_
     rotate_left; · rintro w' ⟨s0, s1, s2, s3, s4, s5, s6, s7, s8, s9, s10, s11, s12, s13, s14, s15, s16, s17⟩; go_simp; with_reducible rfl
     rotate_left; · simp only [Act.put, List.setIfInBounds_toArray, List.set_cons_zero, List.set_cons_succ, i64_w, i32_w]; rfl
     refine take_ (i := 5) (N := some 21) (v := ?_) (a' := ?_) #[true, true, true, true, true, true, true, true, true, true, false, true, true, true, true, false, false, false, false, false, false, false, false] rfl rfl (take_ofW HT_.out HW_.out (by kernel_rfl)) (fun _ _ _ h => h) (Or.inl ⟨by rfl, ?_⟩) hHeld ?_ ?_
     rotate_left; · rintro w' ⟨s0, s1, s2, s3, s4, s5, s6, s7, s8, s9, s10, s11, s12, s13, s14, s15, s16, s17⟩; go_simp; with_reducible rfl
     rotate_left; · simp only [Act.put, List.setIfInBounds_toArray, List.set_cons_zero, List.set_cons_succ, i64_w, i32_w]; rfl
     refine take_ (i := 10) (N := some 26) (v := ?_) (a' := ?_) #[true, true, true, true, true, true, true, true, true, true, true, true, true, true, true, false, false, false, false, false, false, false, false] rfl rfl (take_ofW HT_.out HW_.out (by kernel_rfl)) (fun _ _ _ h => h) (Or.inl ⟨by rfl, ?_⟩) hHeld ?_ ?_
     rotate_left; · rintro w' ⟨s0, s1, s2, s3, s4, s5, s6, s7, s8, s9, s10, s11, s12, s13, s14, s15, s16, s17⟩; go_simp; with_reducible rfl
     rotate_left; · simp only [Act.put, List.setIfInBounds_toArray, List.set_cons_zero, List.set_cons_succ, i64_w, i32_w]; rfl
     refine take_ (i := 15) (N := some 31) (v := ?_) (a' := ?_) #[true, true, true, true, true, true, true, true, true, true, true, true, true, true, true, true, false, false, false, false, false, false, false] rfl rfl (take_ofW HT_.out HW_.out (by kernel_rfl)) (fun _ _ _ h => h) (Or.inl ⟨by rfl, ?_⟩) hHeld ?_ ?_
     rotate_left; · rintro w' ⟨s0, s1, s2, s3, s4, s5, s6, s7, s8, s9, s10, s11, s12, s13, s14, s15, s16, s17⟩; go_simp; with_reducible rfl
     rotate_left; · simp only [Act.put, List.setIfInBounds_toArray, List.set_cons_zero, List.set_cons_succ, i64_w, i32_w]; rfl
     refine join_ (σ := Value × Value × Value × Nat) 2 #[true, true, true, true, true, true, true, true, true, true, true, true, true, true, true, true, true, true, true, true, true, false, false] (fun s_ => [(32, .tuple #[.agg #[s_.1, s_.2.1, .int .i64 t381, .int .i64 t382, .int .i64 t383, s_.2.2.1], .int .i64 t387]), (7, .pointer (some ⟨s_.2.2.2, 0, none⟩)), (15, .tuple #[.agg #[s_.1, s_.2.1, .int .i64 t381, .int .i64 t382, .int .i64 t383, s_.2.2.1], .int .i64 t387]), (33, .agg #[s_.1, s_.2.1, .int .i64 t381, .int .i64 t382, .int .i64 t383, s_.2.2.1]), (34, .int .i64 t387)]) (fun s_ w' => (w'.cell? ⟨gb370, 0, none⟩ = some (.slice Ao30 x371000_1.length co30) ∧ w'.cell? ⟨gb370, 1, none⟩ = some (.slice Ao31 x371001_1.length co31) ∧ w'.cell? ⟨gb370, 2, none⟩ = some (.int .i64 x371002_1) ∧ w'.cell? ⟨gb370, 3, none⟩ = some (.int .i64 x371003_1) ∧ w'.cell? ⟨gb370, 4, none⟩ = some (.int .i64 x371004_1) ∧ w'.cell? ⟨gb370, 5, none⟩ = some (.slice Ao32 x371005_1.length co32) ∧ w'.cell? (ad372.add ((x6_1).toNat * 4)) = some (.int .i64 ((rd_T43 l1 x6_1).f0.f0)) ∧ w'.cell? ⟨(ad372.add ((x6_1).toNat * 4)).block, (ad372.add ((x6_1).toNat * 4)).off + 1, none⟩ = some (.int .i64 ((rd_T43 l1 x6_1).f0.f1)) ∧ w'.cell? ⟨(ad372.add ((x6_1).toNat * 4)).block, (ad372.add ((x6_1).toNat * 4)).off + 2, none⟩ = some (.int .i64 ((rd_T43 l1 x6_1).f1)) ∧ w'.cell? ⟨(ad372.add ((x6_1).toNat * 4)).block, (ad372.add ((x6_1).toNat * 4)).off + 3, none⟩ = some (.int .i64 ((rd_T43 l1 x6_1).f2)) ∧ w'.cell? (ad372.add ((x6_1).toNat * 4)) = some (.int .i64 ((rd_T43 l1 x6_1).f0.f0)) ∧ w'.cell? ⟨(ad372.add ((x6_1).toNat * 4)).block, (ad372.add ((x6_1).toNat * 4)).off + 1, none⟩ = some (.int .i64 ((rd_T43 l1 x6_1).f0.f1)) ∧ w'.cell? ⟨(ad372.add ((x6_1).toNat * 4)).block, (ad372.add ((x6_1).toNat * 4)).off + 2, none⟩ = some (.int .i64 ((rd_T43 l1 x6_1).f1)) ∧ w'.cell? ⟨(ad372.add ((x6_1).toNat * 4)).block, (ad372.add ((x6_1).toNat * 4)).off + 3, none⟩ = some (.int .i64 ((rd_T43 l1 x6_1).f2)) ∧ w'.cell? (ad372.add ((x6_1).toNat * 4)) = some (.int .i64 ((rd_T43 l1 x6_1).f0.f0)) ∧ w'.cell? ⟨(ad372.add ((x6_1).toNat * 4)).block, (ad372.add ((x6_1).toNat * 4)).off + 1, none⟩ = some (.int .i64 ((rd_T43 l1 x6_1).f0.f1)) ∧ w'.cell? ⟨(ad372.add ((x6_1).toNat * 4)).block, (ad372.add ((x6_1).toNat * 4)).off + 2, none⟩ = some (.int .i64 ((rd_T43 l1 x6_1).f1)) ∧ w'.cell? ⟨(ad372.add ((x6_1).toNat * 4)).block, (ad372.add ((x6_1).toNat * 4)).off + 3, none⟩ = some (.int .i64 ((rd_T43 l1 x6_1).f2))) ∧ (Kd.R k32 32 w' w.heap.size (fun k_ => (w.heap.size ≤ k_)) s_.1 t375) ∧ (Kd.R k55 55 w' w.heap.size (fun k_ => (w.heap.size ≤ k_)) s_.2.1 t378) ∧ (Kd.R k67 67 w' w.heap.size (fun k_ => (w.heap.size ≤ k_)) s_.2.2.1 t384) ∧ (Kd.V k32 32 w' w.heap.size (fun k_ => ((P0_0_ k_ ∨ P0_1_ k_ ∨ P0_5_ k_) ∨ w.heap.size ≤ k_) ∧ some k_ ≠ (s_.1 : Value).ownBlock ∧ some k_ ≠ (s_.2.1 : Value).ownBlock ∧ some k_ ≠ (s_.2.2.1 : Value).ownBlock ∧ k_ ≠ gb370 ∧ k_ ≠ gb371 ∧ k_ ≠ s_.2.2.2) (.slice Ao30 x371000_1.length co30) x371000_1) ∧ (Kd.V k55 55 w' w.heap.size (fun k_ => ((P0_0_ k_ ∨ P0_1_ k_ ∨ P0_5_ k_) ∨ w.heap.size ≤ k_) ∧ some k_ ≠ (s_.1 : Value).ownBlock ∧ some k_ ≠ (s_.2.1 : Value).ownBlock ∧ some k_ ≠ (s_.2.2.1 : Value).ownBlock ∧ k_ ≠ gb370 ∧ k_ ≠ gb371 ∧ k_ ≠ s_.2.2.2) (.slice Ao31 x371001_1.length co31) x371001_1) ∧ (Kd.V k67 67 w' w.heap.size (fun k_ => ((P0_0_ k_ ∨ P0_1_ k_ ∨ P0_5_ k_) ∨ w.heap.size ≤ k_) ∧ some k_ ≠ (s_.1 : Value).ownBlock ∧ some k_ ≠ (s_.2.1 : Value).ownBlock ∧ some k_ ≠ (s_.2.2.1 : Value).ownBlock ∧ k_ ≠ gb370 ∧ k_ ≠ gb371 ∧ k_ ≠ s_.2.2.2) (.slice Ao32 x371005_1.length co32) x371005_1) ∧ (w'.heap[gb370]? = some (.cells #[.slice Ao30 x371000_1.length co30, .slice Ao31 x371001_1.length co31, .int .i64 x371002_1, .int .i64 x371003_1, .int .i64 x371004_1, .slice Ao32 x371005_1.length co32] 30 (0, 0))) ∧ (w'.heap[gb371]? = some (.cells #[.slice none 0 0, .slice none 0 0, .int .i64 x372002_1, .int .i64 x372003_1, .int .i64 x372004_1, .slice none 0 0] 30 (0, 0))) ∧ (w'.heap[s_.2.2.2]? = some (.cells #[.slice none 0 0, .slice none 0 0, .int .i64 0, .int .i64 0, .int .i64 0, .slice none 0 0] 30 (0, 0))) ∧ (w.heap.size ≤ s_.2.2.2) ∧ (w.heap.size ≤ s_.2.2.2) ∧ (gb370 ≠ s_.2.2.2) ∧ (s_.2.2.2 ≠ gb370) ∧ (gb371 ≠ s_.2.2.2) ∧ (s_.2.2.2 ≠ gb371) ∧ (Below w.heap.size w w')) ?_ ?_
     rotate_left
     ·intro hCont
      refine two_ (i := 16) (j := 20) (Ni := some 32) (Nj := some 7) #[true, true, true, true, true, true, true, true, true, true, true, true, true, true, true, true, true, false, false, false, false, false, false] #[true, true, true, true, true, true, true, true, true, true, true, true, true, true, true, true, false, false, false, false, true, false, false] rfl rfl rfl rfl (two_of HT_.out (by kernel_rfl)) (by decide) (by decide) (fun K hK => ?_) (fun K hK => ?_)
      ·skip
       refine goes_ Try.func9 (by kernel_rfl) rfl #[.agg #[.slice Ao30 x371000_1.length co30, .slice Ao31 x371001_1.length co31, .int .i64 x371002_1, .int .i64 x371003_1, .int .i64 x371004_1, .slice Ao32 x371005_1.length co32], .agg #[.int .i64 ((rd_T43 l1 x6_1).f0.f0), .int .i64 ((rd_T43 l1 x6_1).f0.f1)], .int .i64 ((rd_T43 l1 x6_1).f1), .int .i64 ((rd_T43 l1 x6_1).f2)] (by rfl) rfl rfl za ?_
       with_reducible refine (wear_Probe.calls k1 _ _ x371000_1 _ _ x371001_1 x371002_1 x371003_1 x371004_1 _ _ x371005_1 ((rd_T43 l1 x6_1).f0.f0) ((rd_T43 l1 x6_1).f0.f1) ((rd_T43 l1 x6_1).f1) ((rd_T43 l1 x6_1).f2) t375 t378 t381 t382 t383 t384 t387 _ ?side1 ?side2 ?side3 ?side4 ?side5 ?side6 A7.out).mono ?_
       (case side1 => repeat (first | exact (Kd.V_reads' HO_371000.out).2.2 | (with_reducible refine Kd.C_alloc ?_ _) | (with_reducible refine Kd.C_drewN ?_ _) | (with_reducible refine Kd.C_drew ?_)))
       (case side2 => exact (Kd.V_reads' HO_371000.out).2.1)
       (case side3 => repeat (first | exact (Kd.V_reads' HO_371001.out).2.2 | (with_reducible refine Kd.C_alloc ?_ _) | (with_reducible refine Kd.C_drewN ?_ _) | (with_reducible refine Kd.C_drew ?_)))
       (case side4 => exact (Kd.V_reads' HO_371001.out).2.1)
       (case side5 => repeat (first | exact (Kd.V_reads' HO_371005.out).2.2 | (with_reducible refine Kd.C_alloc ?_ _) | (with_reducible refine Kd.C_drewN ?_ _) | (with_reducible refine Kd.C_drew ?_)))
       (case side6 => exact (Kd.V_reads' HO_371005.out).2.1)
       rintro e w34 ⟨v376, v379, v385, rfl, ho0, ho1, ho2, hb⟩
       refine ⟨_, rfl, ?_⟩
       have n0_ := Aside0.mk (Kd.V_mono (Kd.V_told (Kd.V_told (Kd.V_told (Kd.V_old (zT HO_371000) hb) (Kd.R_base ho0)) (Kd.R_base ho1)) (Kd.R_base ho2)) (fun _ h_ => h_.1))
       have n1_ := Aside0.mk (Kd.V_mono (Kd.V_told (Kd.V_told (Kd.V_told (Kd.V_old (zT HO_371001) hb) (Kd.R_base ho0)) (Kd.R_base ho1)) (Kd.R_base ho2)) (fun _ h_ => h_.1))
       have n2_ := Aside0.mk (Kd.V_mono (Kd.V_told (Kd.V_told (Kd.V_told (Kd.V_old (zT HO_371005) hb) (Kd.R_base ho0)) (Kd.R_base ho1)) (Kd.R_base ho2)) (fun _ h_ => h_.1))
       have n3_ := Aside0.mk (Kd.R_lower (Kd.R_newM (M := fun k_ => (w.heap.size ≤ k_)) ho0 (below_size (zw HB)) (fun k_ h_ => h_)) (below_size (zw HB)))
       have n4_ := Aside0.mk (Kd.R_lower (Kd.R_newM (M := fun k_ => (w.heap.size ≤ k_)) ho1 (below_size (zw HB)) (fun k_ h_ => h_)) (below_size (zw HB)))
       have n5_ := Aside0.mk (Kd.R_lower (Kd.R_newM (M := fun k_ => (w.heap.size ≤ k_)) ho2 (below_size (zw HB)) (fun k_ h_ => h_)) (below_size (zw HB)))
       have n6_ := zD BK370 hb
       have n7_ := zD BK371 hb
       have n8_ := zY HB hb
       clear HO_371000; clear HO_371001; clear HO_371005; clear BK370; clear BK371; clear HB
       have HO_371000 := n0_
       have HO_371001 := n1_
       have HO_371005 := n2_
       have HO377 := n3_
       have HO380 := n4_
       have HO386 := n5_
       have BK370 := n6_
       have BK371 := n7_
       have HB := n8_
       clear n0_ n1_ n2_ n3_ n4_ n5_ n6_ n7_ n8_
       (try clear hb)
       (try clear hb2)
       (try clear hk)
       (try clear hi)
       (try clear ho0)
       (try clear ho1)
       (try clear ho2)
       refine hK.out _ _ ⟨(blk_cell BK370.out 0).trans rfl, (blk_cell BK370.out 1).trans rfl, (blk_cell BK370.out 2).trans rfl, (blk_cell BK370.out 3).trans rfl, (blk_cell BK370.out 4).trans rfl, (blk_cell BK370.out 5).trans rfl, (zu hw372_0 HB), (zu hw372_1 HB), (zu hw372_2 HB), (zu hw372_3 HB), (zu hw373_0 HB), (zu hw373_1 HB), (zu hw373_2 HB), (zu hw373_3 HB), (zu hw374_0 HB), (zu hw374_1 HB), (zu hw374_2 HB), (zu hw374_3 HB)⟩ (fun hHeld => ?_)
       clear hK K
       refine norm_ (a' := ?_) ?_ ?_
       rotate_left
       ·show Act.put _ (some 32) _ = _
        simp only [Act.put, List.setIfInBounds_toArray, List.set_cons_zero, List.set_cons_succ, i64_w, i32_w]
        rfl
       refine zp 17 (some 15) #[true, true, true, true, true, true, true, true, true, true, true, true, true, true, true, true, true, true, false, false, false, false, false] rfl rfl (any_of HT_.out (by kernel_rfl)) ?_
       refine zp 18 (some 33) #[true, true, true, true, true, true, true, true, true, true, true, true, true, true, true, true, true, true, true, false, false, false, false] rfl rfl (any_of HT_.out (by kernel_rfl)) ?_
       refine zp 19 (some 34) #[true, true, true, true, true, true, true, true, true, true, true, true, true, true, true, true, true, true, true, true, false, false, false] rfl rfl (any_of HT_.out (by kernel_rfl)) ?_
       refine one_ (i := 20) (N := some 7) #[true, true, true, true, true, true, true, true, true, true, true, true, true, true, true, true, true, true, true, true, true, false, false] rfl rfl (one_of HT_.out (by kernel_rfl)) (by decide) (fun K hK => ?_)
       refine box_step ?hg (N := 7) ?hd (cs := #[.slice none 0 0, .slice none 0 0, .int .i64 0, .int .i64 0, .int .i64 0, .slice none 0 0]) (t := 30) ?hr ?_; (case hd => rfl); (case hg => rfl); (case hr => first | (go_simp; done) | (go_simp; rfl))
       intro gb388 hg w35 hbox hb
       have n0_ := Aside0.mk (Kd.V_below (Kd.V_elderB (zT HO_371000) gb388 (Nat.le_of_eq hg.symm)) hb)
       have n1_ := Aside0.mk (Kd.V_below (Kd.V_elderB (zT HO_371001) gb388 (Nat.le_of_eq hg.symm)) hb)
       have n2_ := Aside0.mk (Kd.V_below (Kd.V_elderB (zT HO_371005) gb388 (Nat.le_of_eq hg.symm)) hb)
       have n3_ := Aside0.mk (Kd.R_below (zt HO377) hb)
       have n4_ := Aside0.mk (Kd.R_below (zt HO380) hb)
       have n5_ := Aside0.mk (Kd.R_below (zt HO386) hb)
       have n6_ := zD BK370 hb
       have n7_ := zD BK371 hb
       have n8_ := zY HB hb
       have n9_ := Aside0.mk (hbox)
       have n10_ := zS hg HB
       have n11_ := zS hg HB
       have n12_ := zN hg BK370
       have n13_ := zM hg BK370
       have n14_ := zN hg BK371
       have n15_ := zM hg BK371
       clear HO_371000; clear HO_371001; clear HO_371005; clear HO377; clear HO380; clear HO386; clear BK370; clear BK371; clear HB
       have HO_371000 := n0_
       have HO_371001 := n1_
       have HO_371005 := n2_
       have HO377 := n3_
       have HO380 := n4_
       have HO386 := n5_
       have BK370 := n6_
       have BK371 := n7_
       have HB := n8_
       have BK388 := n9_
       have GW388 := n10_
       have GE388 := n11_
       have NB370_388 := n12_
       have NB388_370 := n13_
       have NB371_388 := n14_
       have NB388_371 := n15_
       clear n0_ n1_ n2_ n3_ n4_ n5_ n6_ n7_ n8_ n9_ n10_ n11_ n12_ n13_ n14_ n15_; clear hb hbox hg
       refine hK.out _ _ ⟨(blk_cell BK370.out 0).trans rfl, (blk_cell BK370.out 1).trans rfl, (blk_cell BK370.out 2).trans rfl, (blk_cell BK370.out 3).trans rfl, (blk_cell BK370.out 4).trans rfl, (blk_cell BK370.out 5).trans rfl, (zu hw372_0 HB), (zu hw372_1 HB), (zu hw372_2 HB), (zu hw372_3 HB), (zu hw373_0 HB), (zu hw373_1 HB), (zu hw373_2 HB), (zu hw373_3 HB), (zu hw374_0 HB), (zu hw374_1 HB), (zu hw374_2 HB), (zu hw374_3 HB)⟩ (fun hHeld => ?_)
       clear hK K
       refine norm_ (a' := ?_) ?_ ?_
       rotate_left
       ·show Act.put _ (some 7) _ = _
        simp only [Act.put, List.setIfInBounds_toArray, List.set_cons_zero, List.set_cons_succ, i64_w, i32_w]
        rfl
       exact norm_ (by simp only [putAll, Act.put, List.setIfInBounds_toArray, List.set_cons_zero, List.set_cons_succ]) (hCont (v376, v379, v385, gb388) _ ⟨hHeld, (by (with_reducible repeat (first | apply Kd.R_alloc | apply Kd.R_drewN | apply Kd.R_drew)); exact Kd.R_mono HO377.out (fun _ hk => hk.1)), (by (with_reducible repeat (first | apply Kd.R_alloc | apply Kd.R_drewN | apply Kd.R_drew)); exact Kd.R_mono HO380.out (fun _ hk => hk.1)), (by (with_reducible repeat (first | apply Kd.R_alloc | apply Kd.R_drewN | apply Kd.R_drew)); exact Kd.R_mono HO386.out (fun _ hk => hk.1)), (by (with_reducible repeat (first | apply Kd.V_alloc | apply Kd.V_drewN | apply Kd.V_drew)); exact Kd.V_mono HO_371000.out (fun _ hk => ⟨hk.1.1.1.1.1, ⟨hk.1.1.1.2, ⟨hk.1.1.2, ⟨hk.1.2, ⟨hk.1.1.1.1.2.1, ⟨hk.1.1.1.1.2.2, hk.2⟩⟩⟩⟩⟩⟩)), (by (with_reducible repeat (first | apply Kd.V_alloc | apply Kd.V_drewN | apply Kd.V_drew)); exact Kd.V_mono HO_371001.out (fun _ hk => ⟨hk.1.1.1.1.1, ⟨hk.1.1.1.2, ⟨hk.1.1.2, ⟨hk.1.2, ⟨hk.1.1.1.1.2.1, ⟨hk.1.1.1.1.2.2, hk.2⟩⟩⟩⟩⟩⟩)), (by (with_reducible repeat (first | apply Kd.V_alloc | apply Kd.V_drewN | apply Kd.V_drew)); exact Kd.V_mono HO_371005.out (fun _ hk => ⟨hk.1.1.1.1.1, ⟨hk.1.1.1.2, ⟨hk.1.1.2, ⟨hk.1.2, ⟨hk.1.1.1.1.2.1, ⟨hk.1.1.1.1.2.2, hk.2⟩⟩⟩⟩⟩⟩)), (zb BK370), (zb BK371), (zb BK388), GW388.out, GE388.out, NB370_388.out, NB388_370.out, NB371_388.out, NB388_371.out, (zw HB)⟩)
      skip
      refine box_step ?hg (N := 7) ?hd (cs := #[.slice none 0 0, .slice none 0 0, .int .i64 0, .int .i64 0, .int .i64 0, .slice none 0 0]) (t := 30) ?hr ?_; (case hd => rfl); (case hg => rfl); (case hr => first | (go_simp; done) | (go_simp; rfl))
      intro gb388 hg w34 hbox hb
      have n0_ := Aside0.mk (Kd.V_below (Kd.V_elderB (zT HO_371000) gb388 (Nat.le_of_eq hg.symm)) hb)
      have n1_ := Aside0.mk (Kd.V_below (Kd.V_elderB (zT HO_371001) gb388 (Nat.le_of_eq hg.symm)) hb)
      have n2_ := Aside0.mk (Kd.V_below (Kd.V_elderB (zT HO_371005) gb388 (Nat.le_of_eq hg.symm)) hb)
      have n3_ := zD BK370 hb
      have n4_ := zD BK371 hb
      have n5_ := zY HB hb
      have n6_ := Aside0.mk (hbox)
      have n7_ := zS hg HB
      have n8_ := zS hg HB
      have n9_ := zN hg BK370
      have n10_ := zM hg BK370
      have n11_ := zN hg BK371
      have n12_ := zM hg BK371
      clear HO_371000; clear HO_371001; clear HO_371005; clear BK370; clear BK371; clear HB
      have HO_371000 := n0_
      have HO_371001 := n1_
      have HO_371005 := n2_
      have BK370 := n3_
      have BK371 := n4_
      have HB := n5_
      have BK388 := n6_
      have GW388 := n7_
      have GE388 := n8_
      have NB370_388 := n9_
      have NB388_370 := n10_
      have NB371_388 := n11_
      have NB388_371 := n12_
      clear n0_ n1_ n2_ n3_ n4_ n5_ n6_ n7_ n8_ n9_ n10_ n11_ n12_; clear hb hbox hg
      refine hK.out _ _ ⟨(blk_cell BK370.out 0).trans rfl, (blk_cell BK370.out 1).trans rfl, (blk_cell BK370.out 2).trans rfl, (blk_cell BK370.out 3).trans rfl, (blk_cell BK370.out 4).trans rfl, (blk_cell BK370.out 5).trans rfl, (zu hw372_0 HB), (zu hw372_1 HB), (zu hw372_2 HB), (zu hw372_3 HB), (zu hw373_0 HB), (zu hw373_1 HB), (zu hw373_2 HB), (zu hw373_3 HB), (zu hw374_0 HB), (zu hw374_1 HB), (zu hw374_2 HB), (zu hw374_3 HB)⟩ (fun hHeld => ?_)
      clear hK K
      refine norm_ (a' := ?_) ?_ ?_
      rotate_left
      ·show Act.put _ (some 7) _ = _
       simp only [Act.put, List.setIfInBounds_toArray, List.set_cons_zero, List.set_cons_succ, i64_w, i32_w]
       rfl
      refine one_ (i := 16) (N := some 32) #[true, true, true, true, true, true, true, true, true, true, true, true, true, true, true, true, true, false, false, false, true, false, false] rfl rfl (one_of HT_.out (by kernel_rfl)) (by decide) (fun K hK => ?_)
      refine goes_ Try.func9 (by kernel_rfl) rfl #[.agg #[.slice Ao30 x371000_1.length co30, .slice Ao31 x371001_1.length co31, .int .i64 x371002_1, .int .i64 x371003_1, .int .i64 x371004_1, .slice Ao32 x371005_1.length co32], .agg #[.int .i64 ((rd_T43 l1 x6_1).f0.f0), .int .i64 ((rd_T43 l1 x6_1).f0.f1)], .int .i64 ((rd_T43 l1 x6_1).f1), .int .i64 ((rd_T43 l1 x6_1).f2)] (by rfl) rfl rfl za ?_
      with_reducible refine (wear_Probe.calls k1 _ _ x371000_1 _ _ x371001_1 x371002_1 x371003_1 x371004_1 _ _ x371005_1 ((rd_T43 l1 x6_1).f0.f0) ((rd_T43 l1 x6_1).f0.f1) ((rd_T43 l1 x6_1).f1) ((rd_T43 l1 x6_1).f2) t375 t378 t381 t382 t383 t384 t387 _ ?side1 ?side2 ?side3 ?side4 ?side5 ?side6 A7.out).mono ?_
      (case side1 => repeat (first | exact (Kd.V_reads' HO_371000.out).2.2 | (with_reducible refine Kd.C_alloc ?_ _) | (with_reducible refine Kd.C_drewN ?_ _) | (with_reducible refine Kd.C_drew ?_)))
      (case side2 => exact (Kd.V_reads' HO_371000.out).2.1)
      (case side3 => repeat (first | exact (Kd.V_reads' HO_371001.out).2.2 | (with_reducible refine Kd.C_alloc ?_ _) | (with_reducible refine Kd.C_drewN ?_ _) | (with_reducible refine Kd.C_drew ?_)))
      (case side4 => exact (Kd.V_reads' HO_371001.out).2.1)
      (case side5 => repeat (first | exact (Kd.V_reads' HO_371005.out).2.2 | (with_reducible refine Kd.C_alloc ?_ _) | (with_reducible refine Kd.C_drewN ?_ _) | (with_reducible refine Kd.C_drew ?_)))
      (case side6 => exact (Kd.V_reads' HO_371005.out).2.1)
      rintro e w35 ⟨v376, v379, v385, rfl, ho0, ho1, ho2, hb⟩
      refine ⟨_, rfl, ?_⟩
      have n0_ := Aside0.mk (Kd.V_mono (Kd.V_told (Kd.V_told (Kd.V_told (Kd.V_old (zT HO_371000) hb) (Kd.R_base ho0)) (Kd.R_base ho1)) (Kd.R_base ho2)) (fun _ h_ => h_.1))
      have n1_ := Aside0.mk (Kd.V_mono (Kd.V_told (Kd.V_told (Kd.V_told (Kd.V_old (zT HO_371001) hb) (Kd.R_base ho0)) (Kd.R_base ho1)) (Kd.R_base ho2)) (fun _ h_ => h_.1))
      have n2_ := Aside0.mk (Kd.V_mono (Kd.V_told (Kd.V_told (Kd.V_told (Kd.V_old (zT HO_371005) hb) (Kd.R_base ho0)) (Kd.R_base ho1)) (Kd.R_base ho2)) (fun _ h_ => h_.1))
      have n3_ := Aside0.mk (Kd.R_lower (Kd.R_newM (M := fun k_ => (w.heap.size ≤ k_)) ho0 (below_size (zw HB)) (fun k_ h_ => h_)) (below_size (zw HB)))
      have n4_ := Aside0.mk (Kd.R_lower (Kd.R_newM (M := fun k_ => (w.heap.size ≤ k_)) ho1 (below_size (zw HB)) (fun k_ h_ => h_)) (below_size (zw HB)))
      have n5_ := Aside0.mk (Kd.R_lower (Kd.R_newM (M := fun k_ => (w.heap.size ≤ k_)) ho2 (below_size (zw HB)) (fun k_ h_ => h_)) (below_size (zw HB)))
      have n6_ := zD BK370 hb
      have n7_ := zD BK371 hb
      have n8_ := zD BK388 hb
      have n9_ := zY HB hb
      clear HO_371000; clear HO_371001; clear HO_371005; clear BK370; clear BK371; clear BK388; clear HB
      have HO_371000 := n0_
      have HO_371001 := n1_
      have HO_371005 := n2_
      have HO377 := n3_
      have HO380 := n4_
      have HO386 := n5_
      have BK370 := n6_
      have BK371 := n7_
      have BK388 := n8_
      have HB := n9_
      clear n0_ n1_ n2_ n3_ n4_ n5_ n6_ n7_ n8_ n9_
      (try clear hb)
      (try clear hb2)
      (try clear hk)
      (try clear hi)
      (try clear ho0)
      (try clear ho1)
      (try clear ho2)
      refine hK.out _ _ ⟨(blk_cell BK370.out 0).trans rfl, (blk_cell BK370.out 1).trans rfl, (blk_cell BK370.out 2).trans rfl, (blk_cell BK370.out 3).trans rfl, (blk_cell BK370.out 4).trans rfl, (blk_cell BK370.out 5).trans rfl, (zu hw372_0 HB), (zu hw372_1 HB), (zu hw372_2 HB), (zu hw372_3 HB), (zu hw373_0 HB), (zu hw373_1 HB), (zu hw373_2 HB), (zu hw373_3 HB), (zu hw374_0 HB), (zu hw374_1 HB), (zu hw374_2 HB), (zu hw374_3 HB)⟩ (fun hHeld => ?_)
      clear hK K
      refine norm_ (a' := ?_) ?_ ?_
      rotate_left
      ·show Act.put _ (some 32) _ = _
       simp only [Act.put, List.setIfInBounds_toArray, List.set_cons_zero, List.set_cons_succ, i64_w, i32_w]
       rfl
      refine zp 17 (some 15) #[true, true, true, true, true, true, true, true, true, true, true, true, true, true, true, true, true, true, false, false, true, false, false] rfl rfl (any_of HT_.out (by kernel_rfl)) ?_
      refine zp 18 (some 33) #[true, true, true, true, true, true, true, true, true, true, true, true, true, true, true, true, true, true, true, false, true, false, false] rfl rfl (any_of HT_.out (by kernel_rfl)) ?_
      refine zp 19 (some 34) #[true, true, true, true, true, true, true, true, true, true, true, true, true, true, true, true, true, true, true, true, true, false, false] rfl rfl (any_of HT_.out (by kernel_rfl)) ?_
      exact norm_ (by simp only [putAll, Act.put, List.setIfInBounds_toArray, List.set_cons_zero, List.set_cons_succ]) (hCont (v376, v379, v385, gb388) _ ⟨hHeld, (by (with_reducible repeat (first | apply Kd.R_alloc | apply Kd.R_drewN | apply Kd.R_drew)); exact Kd.R_mono HO377.out (fun _ hk => hk.1)), (by (with_reducible repeat (first | apply Kd.R_alloc | apply Kd.R_drewN | apply Kd.R_drew)); exact Kd.R_mono HO380.out (fun _ hk => hk.1)), (by (with_reducible repeat (first | apply Kd.R_alloc | apply Kd.R_drewN | apply Kd.R_drew)); exact Kd.R_mono HO386.out (fun _ hk => hk.1)), (by (with_reducible repeat (first | apply Kd.V_alloc | apply Kd.V_drewN | apply Kd.V_drew)); exact Kd.V_mono HO_371000.out (fun _ hk => ⟨hk.1.1.1.1.1, ⟨hk.1.1.2, ⟨hk.1.2, ⟨hk.2, ⟨hk.1.1.1.1.2.1, ⟨hk.1.1.1.1.2.2, hk.1.1.1.2⟩⟩⟩⟩⟩⟩)), (by (with_reducible repeat (first | apply Kd.V_alloc | apply Kd.V_drewN | apply Kd.V_drew)); exact Kd.V_mono HO_371001.out (fun _ hk => ⟨hk.1.1.1.1.1, ⟨hk.1.1.2, ⟨hk.1.2, ⟨hk.2, ⟨hk.1.1.1.1.2.1, ⟨hk.1.1.1.1.2.2, hk.1.1.1.2⟩⟩⟩⟩⟩⟩)), (by (with_reducible repeat (first | apply Kd.V_alloc | apply Kd.V_drewN | apply Kd.V_drew)); exact Kd.V_mono HO_371005.out (fun _ hk => ⟨hk.1.1.1.1.1, ⟨hk.1.1.2, ⟨hk.1.2, ⟨hk.2, ⟨hk.1.1.1.1.2.1, ⟨hk.1.1.1.1.2.2, hk.1.1.1.2⟩⟩⟩⟩⟩⟩)), (zb BK370), (zb BK371), (zb BK388), GW388.out, GE388.out, NB370_388.out, NB388_370.out, NB371_388.out, NB388_371.out, (zw HB)⟩)
     rintro ⟨v376, v379, v385, gb388⟩ w36 ⟨hS_, h0_, h1_, h2_, h3_, h4_, h5_, h6_, h7_, h8_, h9_, h10_, h11_, h12_, h13_, h14_, h15_⟩
     have n0_ : Aside0 (Kd.R k32 32 w36 w.heap.size (fun k_ => (w.heap.size ≤ k_)) v376 t375) := ⟨h0_⟩
     have n1_ : Aside0 (Kd.R k55 55 w36 w.heap.size (fun k_ => (w.heap.size ≤ k_)) v379 t378) := ⟨h1_⟩
     have n2_ : Aside0 (Kd.R k67 67 w36 w.heap.size (fun k_ => (w.heap.size ≤ k_)) v385 t384) := ⟨h2_⟩
     have n3_ : Aside0 (Kd.V k32 32 w36 w.heap.size (fun k_ => ((P0_0_ k_ ∨ P0_1_ k_ ∨ P0_5_ k_) ∨ w.heap.size ≤ k_) ∧ some k_ ≠ (v376 : Value).ownBlock ∧ some k_ ≠ (v379 : Value).ownBlock ∧ some k_ ≠ (v385 : Value).ownBlock ∧ k_ ≠ gb370 ∧ k_ ≠ gb371 ∧ k_ ≠ gb388) (.slice Ao30 x371000_1.length co30) x371000_1) := ⟨h3_⟩
     have n4_ : Aside0 (Kd.V k55 55 w36 w.heap.size (fun k_ => ((P0_0_ k_ ∨ P0_1_ k_ ∨ P0_5_ k_) ∨ w.heap.size ≤ k_) ∧ some k_ ≠ (v376 : Value).ownBlock ∧ some k_ ≠ (v379 : Value).ownBlock ∧ some k_ ≠ (v385 : Value).ownBlock ∧ k_ ≠ gb370 ∧ k_ ≠ gb371 ∧ k_ ≠ gb388) (.slice Ao31 x371001_1.length co31) x371001_1) := ⟨h4_⟩
     have n5_ : Aside0 (Kd.V k67 67 w36 w.heap.size (fun k_ => ((P0_0_ k_ ∨ P0_1_ k_ ∨ P0_5_ k_) ∨ w.heap.size ≤ k_) ∧ some k_ ≠ (v376 : Value).ownBlock ∧ some k_ ≠ (v379 : Value).ownBlock ∧ some k_ ≠ (v385 : Value).ownBlock ∧ k_ ≠ gb370 ∧ k_ ≠ gb371 ∧ k_ ≠ gb388) (.slice Ao32 x371005_1.length co32) x371005_1) := ⟨h5_⟩
     have n6_ : Aside0 (w36.heap[gb370]? = some (.cells #[.slice Ao30 x371000_1.length co30, .slice Ao31 x371001_1.length co31, .int .i64 x371002_1, .int .i64 x371003_1, .int .i64 x371004_1, .slice Ao32 x371005_1.length co32] 30 (0, 0))) := ⟨h6_⟩
     have n7_ : Aside0 (w36.heap[gb371]? = some (.cells #[.slice none 0 0, .slice none 0 0, .int .i64 x372002_1, .int .i64 x372003_1, .int .i64 x372004_1, .slice none 0 0] 30 (0, 0))) := ⟨h7_⟩
     have n8_ : Aside0 (w36.heap[gb388]? = some (.cells #[.slice none 0 0, .slice none 0 0, .int .i64 0, .int .i64 0, .int .i64 0, .slice none 0 0] 30 (0, 0))) := ⟨h8_⟩
     have n9_ : Aside0 (w.heap.size ≤ gb388) := ⟨h9_⟩
     have n10_ : Aside0 (w.heap.size ≤ gb388) := ⟨h10_⟩
     have n11_ : Aside0 (gb370 ≠ gb388) := ⟨h11_⟩
     have n12_ : Aside0 (gb388 ≠ gb370) := ⟨h12_⟩
     have n13_ : Aside0 (gb371 ≠ gb388) := ⟨h13_⟩
     have n14_ : Aside0 (gb388 ≠ gb371) := ⟨h14_⟩
     have n15_ : Aside0 (Below w.heap.size w w36) := ⟨h15_⟩
     clear HO_371000; clear HO_371001; clear HO_371005; clear BK370; clear BK371; clear HB; clear h0_ h1_ h2_ h3_ h4_ h5_ h6_ h7_ h8_ h9_ h10_ h11_ h12_ h13_ h14_ h15_
     have HO377 := n0_
     have HO380 := n1_
     have HO386 := n2_
     have HO_371000 := n3_
     have HO_371001 := n4_
     have HO_371005 := n5_
     have BK370 := n6_
     have BK371 := n7_
     have BK388 := n8_
     have GW388 := n9_
     have GE388 := n10_
     have NB370_388 := n11_
     have NB388_370 := n12_
     have NB371_388 := n13_
     have NB388_371 := n14_
     have HB := n15_
     clear n0_ n1_ n2_ n3_ n4_ n5_ n6_ n7_ n8_ n9_ n10_ n11_ n12_ n13_ n14_ n15_
     have hHeld : w36.cell? ⟨gb370, 0, none⟩ = some (.slice Ao30 x371000_1.length co30) ∧ w36.cell? ⟨gb370, 1, none⟩ = some (.slice Ao31 x371001_1.length co31) ∧ w36.cell? ⟨gb370, 2, none⟩ = some (.int .i64 x371002_1) ∧ w36.cell? ⟨gb370, 3, none⟩ = some (.int .i64 x371003_1) ∧ w36.cell? ⟨gb370, 4, none⟩ = some (.int .i64 x371004_1) ∧ w36.cell? ⟨gb370, 5, none⟩ = some (.slice Ao32 x371005_1.length co32) ∧ w36.cell? (ad372.add ((x6_1).toNat * 4)) = some (.int .i64 ((rd_T43 l1 x6_1).f0.f0)) ∧ w36.cell? ⟨(ad372.add ((x6_1).toNat * 4)).block, (ad372.add ((x6_1).toNat * 4)).off + 1, none⟩ = some (.int .i64 ((rd_T43 l1 x6_1).f0.f1)) ∧ w36.cell? ⟨(ad372.add ((x6_1).toNat * 4)).block, (ad372.add ((x6_1).toNat * 4)).off + 2, none⟩ = some (.int .i64 ((rd_T43 l1 x6_1).f1)) ∧ w36.cell? ⟨(ad372.add ((x6_1).toNat * 4)).block, (ad372.add ((x6_1).toNat * 4)).off + 3, none⟩ = some (.int .i64 ((rd_T43 l1 x6_1).f2)) ∧ w36.cell? (ad372.add ((x6_1).toNat * 4)) = some (.int .i64 ((rd_T43 l1 x6_1).f0.f0)) ∧ w36.cell? ⟨(ad372.add ((x6_1).toNat * 4)).block, (ad372.add ((x6_1).toNat * 4)).off + 1, none⟩ = some (.int .i64 ((rd_T43 l1 x6_1).f0.f1)) ∧ w36.cell? ⟨(ad372.add ((x6_1).toNat * 4)).block, (ad372.add ((x6_1).toNat * 4)).off + 2, none⟩ = some (.int .i64 ((rd_T43 l1 x6_1).f1)) ∧ w36.cell? ⟨(ad372.add ((x6_1).toNat * 4)).block, (ad372.add ((x6_1).toNat * 4)).off + 3, none⟩ = some (.int .i64 ((rd_T43 l1 x6_1).f2)) ∧ w36.cell? (ad372.add ((x6_1).toNat * 4)) = some (.int .i64 ((rd_T43 l1 x6_1).f0.f0)) ∧ w36.cell? ⟨(ad372.add ((x6_1).toNat * 4)).block, (ad372.add ((x6_1).toNat * 4)).off + 1, none⟩ = some (.int .i64 ((rd_T43 l1 x6_1).f0.f1)) ∧ w36.cell? ⟨(ad372.add ((x6_1).toNat * 4)).block, (ad372.add ((x6_1).toNat * 4)).off + 2, none⟩ = some (.int .i64 ((rd_T43 l1 x6_1).f1)) ∧ w36.cell? ⟨(ad372.add ((x6_1).toNat * 4)).block, (ad372.add ((x6_1).toNat * 4)).off + 3, none⟩ = some (.int .i64 ((rd_T43 l1 x6_1).f2)) := hS_
     obtain ⟨Ao37, co37, eo37⟩ := Kd.R_slice HO377.out
     (first | subst eo37 | (injection eo37 with f1_ f2_ f3_; have f4_ := f1_.symm; have f5_ := f3_.symm; clear f1_ f2_ f3_; subst f4_; subst f5_))
     obtain ⟨Ao39, co39, eo39⟩ := Kd.R_slice HO380.out
     (first | subst eo39 | (injection eo39 with f1_ f2_ f3_; have f4_ := f1_.symm; have f5_ := f3_.symm; clear f1_ f2_ f3_; subst f4_; subst f5_))
     obtain ⟨Ao44, co44, eo44⟩ := Kd.R_slice HO386.out
     (first | subst eo44 | (injection eo44 with f1_ f2_ f3_; have f4_ := f1_.symm; have f5_ := f3_.symm; clear f1_ f2_ f3_; subst f4_; subst f5_))
     refine norm_ (a' := ?_) ?_ ?_
     rotate_left
     ·simp only [putAll, Act.put, List.setIfInBounds_toArray, List.set_cons_zero, List.set_cons_succ]
      rfl
     refine one_ (i := 21) (N := none) #[true, true, true, true, true, true, true, true, true, true, true, true, true, true, true, true, true, true, true, true, true, true, false] rfl rfl (one_of HT_.out (by kernel_rfl)) (by decide) (fun K hK => ?_)
     have hs38 : w36.cell? ⟨gb388, 0, none⟩ = some (.slice none 0 0) := (blk_cell BK388.out 0).trans rfl
     have hfs38 := blk_frozen BK388.out 0
     have hns38_0 := NB370_388.out
     have hns38_1 := NB371_388.out
     have hms38_0 := NB388_370.out
     have hms38_1 := NB388_371.out
     have hs40 : w36.cell? ⟨gb388, 1, none⟩ = some (.slice none 0 0) := (blk_cell BK388.out 1).trans rfl
     have hfs40 := blk_frozen BK388.out 1
     have hns40_0 := NB370_388.out
     have hns40_1 := NB371_388.out
     have hms40_0 := NB388_370.out
     have hms40_1 := NB388_371.out
     have hs41 : w36.cell? ⟨gb388, 2, none⟩ = some (.int .i64 0) := (blk_cell BK388.out 2).trans rfl
     have hfs41 := blk_frozen BK388.out 2
     have hns41_0 := NB370_388.out
     have hns41_1 := NB371_388.out
     have hms41_0 := NB388_370.out
     have hms41_1 := NB388_371.out
     have hs42 : w36.cell? ⟨gb388, 3, none⟩ = some (.int .i64 0) := (blk_cell BK388.out 3).trans rfl
     have hfs42 := blk_frozen BK388.out 3
     have hns42_0 := NB370_388.out
     have hns42_1 := NB371_388.out
     have hms42_0 := NB388_370.out
     have hms42_1 := NB388_371.out
     have hs43 : w36.cell? ⟨gb388, 4, none⟩ = some (.int .i64 0) := (blk_cell BK388.out 4).trans rfl
     have hfs43 := blk_frozen BK388.out 4
     have hns43_0 := NB370_388.out
     have hns43_1 := NB371_388.out
     have hms43_0 := NB388_370.out
     have hms43_1 := NB388_371.out
     have hs45 : w36.cell? ⟨gb388, 5, none⟩ = some (.slice none 0 0) := (blk_cell BK388.out 5).trans rfl
     have hfs45 := blk_frozen BK388.out 5
     have hns45_0 := NB370_388.out
     have hns45_1 := NB371_388.out
     have hms45_0 := NB388_370.out
     have hms45_1 := NB388_371.out
     refine skip_ (w1 := ?_) (by rfl) rfl ?_ ?_
     rotate_left
     ·go_simp
      rfl
     refine hK.out _ _ ⟨((cell_far (p := ⟨gb388, _, none⟩) NB370_388.out _).trans (((cell_far (p := ⟨gb388, _, none⟩) NB370_388.out _).trans (((cell_far (p := ⟨gb388, _, none⟩) NB370_388.out _).trans (((cell_far (p := ⟨gb388, _, none⟩) NB370_388.out _).trans (((cell_far (p := ⟨gb388, _, none⟩) NB370_388.out _).trans (((cell_far (p := ⟨gb388, _, none⟩) NB370_388.out _).trans (hHeld.1)))))))))))), ((cell_far (p := ⟨gb388, _, none⟩) NB370_388.out _).trans (((cell_far (p := ⟨gb388, _, none⟩) NB370_388.out _).trans (((cell_far (p := ⟨gb388, _, none⟩) NB370_388.out _).trans (((cell_far (p := ⟨gb388, _, none⟩) NB370_388.out _).trans (((cell_far (p := ⟨gb388, _, none⟩) NB370_388.out _).trans (((cell_far (p := ⟨gb388, _, none⟩) NB370_388.out _).trans (hHeld.2.1)))))))))))), ((cell_far (p := ⟨gb388, _, none⟩) NB370_388.out _).trans (((cell_far (p := ⟨gb388, _, none⟩) NB370_388.out _).trans (((cell_far (p := ⟨gb388, _, none⟩) NB370_388.out _).trans (((cell_far (p := ⟨gb388, _, none⟩) NB370_388.out _).trans (((cell_far (p := ⟨gb388, _, none⟩) NB370_388.out _).trans (((cell_far (p := ⟨gb388, _, none⟩) NB370_388.out _).trans (hHeld.2.2.1)))))))))))), ((cell_far (p := ⟨gb388, _, none⟩) NB370_388.out _).trans (((cell_far (p := ⟨gb388, _, none⟩) NB370_388.out _).trans (((cell_far (p := ⟨gb388, _, none⟩) NB370_388.out _).trans (((cell_far (p := ⟨gb388, _, none⟩) NB370_388.out _).trans (((cell_far (p := ⟨gb388, _, none⟩) NB370_388.out _).trans (((cell_far (p := ⟨gb388, _, none⟩) NB370_388.out _).trans (hHeld.2.2.2.1)))))))))))), ((cell_far (p := ⟨gb388, _, none⟩) NB370_388.out _).trans (((cell_far (p := ⟨gb388, _, none⟩) NB370_388.out _).trans (((cell_far (p := ⟨gb388, _, none⟩) NB370_388.out _).trans (((cell_far (p := ⟨gb388, _, none⟩) NB370_388.out _).trans (((cell_far (p := ⟨gb388, _, none⟩) NB370_388.out _).trans (((cell_far (p := ⟨gb388, _, none⟩) NB370_388.out _).trans (hHeld.2.2.2.2.1)))))))))))), ((cell_far (p := ⟨gb388, _, none⟩) NB370_388.out _).trans (((cell_far (p := ⟨gb388, _, none⟩) NB370_388.out _).trans (((cell_far (p := ⟨gb388, _, none⟩) NB370_388.out _).trans (((cell_far (p := ⟨gb388, _, none⟩) NB370_388.out _).trans (((cell_far (p := ⟨gb388, _, none⟩) NB370_388.out _).trans (((cell_far (p := ⟨gb388, _, none⟩) NB370_388.out _).trans (hHeld.2.2.2.2.2.1)))))))))))), ((cell_far (p := ⟨gb388, _, none⟩) (zf hw372_0 GW388) _).trans (((cell_far (p := ⟨gb388, _, none⟩) (zf hw372_0 GW388) _).trans (((cell_far (p := ⟨gb388, _, none⟩) (zf hw372_0 GW388) _).trans (((cell_far (p := ⟨gb388, _, none⟩) (zf hw372_0 GW388) _).trans (((cell_far (p := ⟨gb388, _, none⟩) (zf hw372_0 GW388) _).trans (((cell_far (p := ⟨gb388, _, none⟩) (zf hw372_0 GW388) _).trans (hHeld.2.2.2.2.2.2.1)))))))))))), ((cell_far (p := ⟨gb388, _, none⟩) (zf hw372_1 GW388) _).trans (((cell_far (p := ⟨gb388, _, none⟩) (zf hw372_1 GW388) _).trans (((cell_far (p := ⟨gb388, _, none⟩) (zf hw372_1 GW388) _).trans (((cell_far (p := ⟨gb388, _, none⟩) (zf hw372_1 GW388) _).trans (((cell_far (p := ⟨gb388, _, none⟩) (zf hw372_1 GW388) _).trans (((cell_far (p := ⟨gb388, _, none⟩) (zf hw372_1 GW388) _).trans (hHeld.2.2.2.2.2.2.2.1)))))))))))), ((cell_far (p := ⟨gb388, _, none⟩) (zf hw372_2 GW388) _).trans (((cell_far (p := ⟨gb388, _, none⟩) (zf hw372_2 GW388) _).trans (((cell_far (p := ⟨gb388, _, none⟩) (zf hw372_2 GW388) _).trans (((cell_far (p := ⟨gb388, _, none⟩) (zf hw372_2 GW388) _).trans (((cell_far (p := ⟨gb388, _, none⟩) (zf hw372_2 GW388) _).trans (((cell_far (p := ⟨gb388, _, none⟩) (zf hw372_2 GW388) _).trans (hHeld.2.2.2.2.2.2.2.2.1)))))))))))), ((cell_far (p := ⟨gb388, _, none⟩) (zf hw372_3 GW388) _).trans (((cell_far (p := ⟨gb388, _, none⟩) (zf hw372_3 GW388) _).trans (((cell_far (p := ⟨gb388, _, none⟩) (zf hw372_3 GW388) _).trans (((cell_far (p := ⟨gb388, _, none⟩) (zf hw372_3 GW388) _).trans (((cell_far (p := ⟨gb388, _, none⟩) (zf hw372_3 GW388) _).trans (((cell_far (p := ⟨gb388, _, none⟩) (zf hw372_3 GW388) _).trans (hHeld.2.2.2.2.2.2.2.2.2.1)))))))))))), ((cell_far (p := ⟨gb388, _, none⟩) (zf hw373_0 GW388) _).trans (((cell_far (p := ⟨gb388, _, none⟩) (zf hw373_0 GW388) _).trans (((cell_far (p := ⟨gb388, _, none⟩) (zf hw373_0 GW388) _).trans (((cell_far (p := ⟨gb388, _, none⟩) (zf hw373_0 GW388) _).trans (((cell_far (p := ⟨gb388, _, none⟩) (zf hw373_0 GW388) _).trans (((cell_far (p := ⟨gb388, _, none⟩) (zf hw373_0 GW388) _).trans (hHeld.2.2.2.2.2.2.2.2.2.2.1)))))))))))), ((cell_far (p := ⟨gb388, _, none⟩) (zf hw373_1 GW388) _).trans (((cell_far (p := ⟨gb388, _, none⟩) (zf hw373_1 GW388) _).trans (((cell_far (p := ⟨gb388, _, none⟩) (zf hw373_1 GW388) _).trans (((cell_far (p := ⟨gb388, _, none⟩) (zf hw373_1 GW388) _).trans (((cell_far (p := ⟨gb388, _, none⟩) (zf hw373_1 GW388) _).trans (((cell_far (p := ⟨gb388, _, none⟩) (zf hw373_1 GW388) _).trans (hHeld.2.2.2.2.2.2.2.2.2.2.2.1)))))))))))), ((cell_far (p := ⟨gb388, _, none⟩) (zf hw373_2 GW388) _).trans (((cell_far (p := ⟨gb388, _, none⟩) (zf hw373_2 GW388) _).trans (((cell_far (p := ⟨gb388, _, none⟩) (zf hw373_2 GW388) _).trans (((cell_far (p := ⟨gb388, _, none⟩) (zf hw373_2 GW388) _).trans (((cell_far (p := ⟨gb388, _, none⟩) (zf hw373_2 GW388) _).trans (((cell_far (p := ⟨gb388, _, none⟩) (zf hw373_2 GW388) _).trans (hHeld.2.2.2.2.2.2.2.2.2.2.2.2.1)))))))))))), ((cell_far (p := ⟨gb388, _, none⟩) (zf hw373_3 GW388) _).trans (((cell_far (p := ⟨gb388, _, none⟩) (zf hw373_3 GW388) _).trans (((cell_far (p := ⟨gb388, _, none⟩) (zf hw373_3 GW388) _).trans (((cell_far (p := ⟨gb388, _, none⟩) (zf hw373_3 GW388) _).trans (((cell_far (p := ⟨gb388, _, none⟩) (zf hw373_3 GW388) _).trans (((cell_far (p := ⟨gb388, _, none⟩) (zf hw373_3 GW388) _).trans (hHeld.2.2.2.2.2.2.2.2.2.2.2.2.2.1)))))))))))), ((cell_far (p := ⟨gb388, _, none⟩) (zf hw374_0 GW388) _).trans (((cell_far (p := ⟨gb388, _, none⟩) (zf hw374_0 GW388) _).trans (((cell_far (p := ⟨gb388, _, none⟩) (zf hw374_0 GW388) _).trans (((cell_far (p := ⟨gb388, _, none⟩) (zf hw374_0 GW388) _).trans (((cell_far (p := ⟨gb388, _, none⟩) (zf hw374_0 GW388) _).trans (((cell_far (p := ⟨gb388, _, none⟩) (zf hw374_0 GW388) _).trans (hHeld.2.2.2.2.2.2.2.2.2.2.2.2.2.2.1)))))))))))), ((cell_far (p := ⟨gb388, _, none⟩) (zf hw374_1 GW388) _).trans (((cell_far (p := ⟨gb388, _, none⟩) (zf hw374_1 GW388) _).trans (((cell_far (p := ⟨gb388, _, none⟩) (zf hw374_1 GW388) _).trans (((cell_far (p := ⟨gb388, _, none⟩) (zf hw374_1 GW388) _).trans (((cell_far (p := ⟨gb388, _, none⟩) (zf hw374_1 GW388) _).trans (((cell_far (p := ⟨gb388, _, none⟩) (zf hw374_1 GW388) _).trans (hHeld.2.2.2.2.2.2.2.2.2.2.2.2.2.2.2.1)))))))))))), ((cell_far (p := ⟨gb388, _, none⟩) (zf hw374_2 GW388) _).trans (((cell_far (p := ⟨gb388, _, none⟩) (zf hw374_2 GW388) _).trans (((cell_far (p := ⟨gb388, _, none⟩) (zf hw374_2 GW388) _).trans (((cell_far (p := ⟨gb388, _, none⟩) (zf hw374_2 GW388) _).trans (((cell_far (p := ⟨gb388, _, none⟩) (zf hw374_2 GW388) _).trans (((cell_far (p := ⟨gb388, _, none⟩) (zf hw374_2 GW388) _).trans (hHeld.2.2.2.2.2.2.2.2.2.2.2.2.2.2.2.2.1)))))))))))), ((cell_far (p := ⟨gb388, _, none⟩) (zf hw374_3 GW388) _).trans (((cell_far (p := ⟨gb388, _, none⟩) (zf hw374_3 GW388) _).trans (((cell_far (p := ⟨gb388, _, none⟩) (zf hw374_3 GW388) _).trans (((cell_far (p := ⟨gb388, _, none⟩) (zf hw374_3 GW388) _).trans (((cell_far (p := ⟨gb388, _, none⟩) (zf hw374_3 GW388) _).trans (((cell_far (p := ⟨gb388, _, none⟩) (zf hw374_3 GW388) _).trans (hHeld.2.2.2.2.2.2.2.2.2.2.2.2.2.2.2.2.2))))))))))))⟩ (fun hHeld => ?_)
     clear hK K
     refine zp 22 (some 8) #[true, true, true, true, true, true, true, true, true, true, true, true, true, true, true, true, true, true, true, true, true, true, true] rfl rfl (any_of HT_.out (by kernel_rfl)) ?_
     refine done_ (done_of HT_.out (by kernel_rfl)) ?_
     have hnb46 := NB371_370.out
     have hnc46 := NB370_371.out
     have hnb47 := NB371_388.out
     have hnc47 := NB388_371.out
     obtain ⟨hcz48_0, hcz48_1, hcz48_2, hcz48_3, hcz48_4, hcz48_5, hfz48_0, hfz48_1, hfz48_2, hfz48_3, hfz48_4, hfz48_5⟩ := zk6 BK371
     try go_wp2
     refine bodyPost_ret (results_ct rfl _ _ gb371 30 #[.slice none 0 0, .slice none 0 0, .int .i64 0, .int .i64 0, .int .i64 0, .slice none 0 0] (0, 0) _ rfl (by (with_reducible repeat (first | refine blk_drewN ?_ _ | refine blk_drew ?_ | refine blk_alloc ?_ _)); refine blk_put (cs := #[.slice none 0 0, .slice none 0 0, .int .i64 0, .int .i64 0, .int .i64 0, .slice none 0 0]) ?_ 5 _ rfl; (with_reducible repeat (first | refine blk_drewN ?_ _ | refine blk_drew ?_ | refine blk_alloc ?_ _)); refine blk_put (cs := #[.slice none 0 0, .slice none 0 0, .int .i64 0, .int .i64 0, .int .i64 x372004_1, .slice none 0 0]) ?_ 4 _ rfl; (with_reducible repeat (first | refine blk_drewN ?_ _ | refine blk_drew ?_ | refine blk_alloc ?_ _)); refine blk_put (cs := #[.slice none 0 0, .slice none 0 0, .int .i64 0, .int .i64 x372003_1, .int .i64 x372004_1, .slice none 0 0]) ?_ 3 _ rfl; (with_reducible repeat (first | refine blk_drewN ?_ _ | refine blk_drew ?_ | refine blk_alloc ?_ _)); refine blk_put (cs := #[.slice none 0 0, .slice none 0 0, .int .i64 x372002_1, .int .i64 x372003_1, .int .i64 x372004_1, .slice none 0 0]) ?_ 2 _ rfl; (with_reducible repeat (first | refine blk_drewN ?_ _ | refine blk_drew ?_ | refine blk_alloc ?_ _)); refine blk_put (cs := #[.slice none 0 0, .slice none 0 0, .int .i64 x372002_1, .int .i64 x372003_1, .int .i64 x372004_1, .slice none 0 0]) ?_ 1 _ rfl; (with_reducible repeat (first | refine blk_drewN ?_ _ | refine blk_drew ?_ | refine blk_alloc ?_ _)); refine blk_put (cs := #[.slice none 0 0, .slice none 0 0, .int .i64 x372002_1, .int .i64 x372003_1, .int .i64 x372004_1, .slice none 0 0]) ?_ 0 _ rfl; (with_reducible repeat (first | refine blk_drewN ?_ _ | refine blk_drew ?_ | refine blk_alloc ?_ _)); refine blk_far ?_ NB371_388.out _; (with_reducible repeat (first | refine blk_drewN ?_ _ | refine blk_drew ?_ | refine blk_alloc ?_ _)); refine blk_far ?_ NB371_388.out _; (with_reducible repeat (first | refine blk_drewN ?_ _ | refine blk_drew ?_ | refine blk_alloc ?_ _)); refine blk_far ?_ NB371_388.out _; (with_reducible repeat (first | refine blk_drewN ?_ _ | refine blk_drew ?_ | refine blk_alloc ?_ _)); refine blk_far ?_ NB371_388.out _; (with_reducible repeat (first | refine blk_drewN ?_ _ | refine blk_drew ?_ | refine blk_alloc ?_ _)); refine blk_far ?_ NB371_388.out _; (with_reducible repeat (first | refine blk_drewN ?_ _ | refine blk_drew ?_ | refine blk_alloc ?_ _)); refine blk_far ?_ NB371_388.out _; (with_reducible repeat (first | refine blk_drewN ?_ _ | refine blk_drew ?_ | refine blk_alloc ?_ _)); exact BK371.out) Try.underlying30 rfl (by kernel_rfl)) rfl ?_
     exact ⟨_, _, _, ze, Kd.V_mono (Kd.R_V (show Kd.R k32 32 _ w.heap.size (fun k_ => w.heap.size ≤ k_) _ _ from by first | exact Kd.R_nil _ _ _ _ _ | exact Kd.N_nil _ _ _ _ _ | exact Kd.V_nil _ _ _ _ _ | exact Kd.Q_nil _ _ _ _ _ | exact Kd.S_nil _ _ _ _ _)) (fun k_ hk => by first | exact ⟨(.inr (hk.1)), hk.2⟩ | exact (.inr (hk))), Kd.V_mono (Kd.R_V (show Kd.R k55 55 _ w.heap.size (fun k_ => w.heap.size ≤ k_) _ _ from by first | exact Kd.R_nil _ _ _ _ _ | exact Kd.N_nil _ _ _ _ _ | exact Kd.V_nil _ _ _ _ _ | exact Kd.Q_nil _ _ _ _ _ | exact Kd.S_nil _ _ _ _ _)) (fun k_ hk => by first | exact ⟨(.inr (hk.1)), hk.2⟩ | exact (.inr (hk))), Kd.V_mono (Kd.R_V (show Kd.R k67 67 _ w.heap.size (fun k_ => w.heap.size ≤ k_) _ _ from by first | exact Kd.R_nil _ _ _ _ _ | exact Kd.N_nil _ _ _ _ _ | exact Kd.V_nil _ _ _ _ _ | exact Kd.Q_nil _ _ _ _ _ | exact Kd.S_nil _ _ _ _ _)) (fun k_ hk => by first | exact ⟨(.inr (hk.1)), hk.2⟩ | exact (.inr (hk))), zw HB⟩
    rw [if_neg c6] at H
    exact absurd H (by simp)
   rw [if_neg c5] at H
   have c5b0 : decide (x6_1 < (l1.length : Int)) = false := decide_eq_false c5
   clear c5
   simp only [Option.some.injEq, Prod.mk.injEq] at H
   obtain ⟨rfl, rfl, rfl, rfl, rfl, rfl, rfl⟩ := H
   have hnb49 := NB370_371.out
   have hnc49 := NB371_370.out
   obtain ⟨hcz50_0, hcz50_1, hcz50_2, hcz50_3, hcz50_4, hcz50_5, hfz50_0, hfz50_1, hfz50_2, hfz50_3, hfz50_4, hfz50_5⟩ := zk6 BK370
   obtain ⟨Ao51, co51, eo51⟩ := Kd.V_slice HO_371000.out
   subst eo51
   obtain ⟨hcz52_0, hcz52_1, hcz52_2, hcz52_3, hcz52_4, hcz52_5, hfz52_0, hfz52_1, hfz52_2, hfz52_3, hfz52_4, hfz52_5⟩ := zk6 BK371
   obtain ⟨Ao53, co53, eo53⟩ := Kd.V_slice HO_371001.out
   subst eo53
   obtain ⟨Ao54, co54, eo54⟩ := Kd.V_slice HO_371005.out
   subst eo54
   go_wp2
   refine bodyPost_ret (results_ct rfl _ _ gb371 30 #[.slice Ao51 x371000_1.length co51, .slice Ao53 x371001_1.length co53, .int .i64 x371002_1, .int .i64 x371003_1, .int .i64 x371004_1, .slice Ao54 x371005_1.length co54] (0, 0) _ rfl (by (with_reducible repeat (first | refine blk_drewN ?_ _ | refine blk_drew ?_ | refine blk_alloc ?_ _)); refine blk_put (cs := #[.slice Ao51 x371000_1.length co51, .slice Ao53 x371001_1.length co53, .int .i64 x371002_1, .int .i64 x371003_1, .int .i64 x371004_1, .slice none 0 0]) ?_ 5 _ rfl; (with_reducible repeat (first | refine blk_drewN ?_ _ | refine blk_drew ?_ | refine blk_alloc ?_ _)); refine blk_put (cs := #[.slice Ao51 x371000_1.length co51, .slice Ao53 x371001_1.length co53, .int .i64 x371002_1, .int .i64 x371003_1, .int .i64 x372004_1, .slice none 0 0]) ?_ 4 _ rfl; (with_reducible repeat (first | refine blk_drewN ?_ _ | refine blk_drew ?_ | refine blk_alloc ?_ _)); refine blk_put (cs := #[.slice Ao51 x371000_1.length co51, .slice Ao53 x371001_1.length co53, .int .i64 x371002_1, .int .i64 x372003_1, .int .i64 x372004_1, .slice none 0 0]) ?_ 3 _ rfl; (with_reducible repeat (first | refine blk_drewN ?_ _ | refine blk_drew ?_ | refine blk_alloc ?_ _)); refine blk_put (cs := #[.slice Ao51 x371000_1.length co51, .slice Ao53 x371001_1.length co53, .int .i64 x372002_1, .int .i64 x372003_1, .int .i64 x372004_1, .slice none 0 0]) ?_ 2 _ rfl; (with_reducible repeat (first | refine blk_drewN ?_ _ | refine blk_drew ?_ | refine blk_alloc ?_ _)); refine blk_put (cs := #[.slice Ao51 x371000_1.length co51, .slice none 0 0, .int .i64 x372002_1, .int .i64 x372003_1, .int .i64 x372004_1, .slice none 0 0]) ?_ 1 _ rfl; (with_reducible repeat (first | refine blk_drewN ?_ _ | refine blk_drew ?_ | refine blk_alloc ?_ _)); refine blk_put (cs := #[.slice none 0 0, .slice none 0 0, .int .i64 x372002_1, .int .i64 x372003_1, .int .i64 x372004_1, .slice none 0 0]) ?_ 0 _ rfl; (with_reducible repeat (first | refine blk_drewN ?_ _ | refine blk_drew ?_ | refine blk_alloc ?_ _)); exact BK371.out) Try.underlying30 rfl (by kernel_rfl)) rfl ?_
   exact ⟨_, _, _, ze, by (with_reducible repeat (first | apply Kd.V_alloc | apply Kd.V_drewN | apply Kd.V_drew)); exact Kd.V_mono (Kd.V_far (p := ⟨gb371, 5, none⟩) (Kd.V_far (p := ⟨gb371, 4, none⟩) (Kd.V_far (p := ⟨gb371, 3, none⟩) (Kd.V_far (p := ⟨gb371, 2, none⟩) (Kd.V_far (p := ⟨gb371, 1, none⟩) (Kd.V_far (p := ⟨gb371, 0, none⟩) (Kd.V_mono HO_371000.out (fun k_ hk => (⟨hk, hk.2.2⟩ : _ ∧ k_ ≠ gb371))) (fun _ hk => hk.2) (.slice Ao51 x371000_1.length co51)) (fun _ hk => hk.2) (.slice Ao53 x371001_1.length co53)) (fun _ hk => hk.2) (.int .i64 x371002_1)) (fun _ hk => hk.2) (.int .i64 x371003_1)) (fun _ hk => hk.2) (.int .i64 x371004_1)) (fun _ hk => hk.2) (.slice Ao54 x371005_1.length co54)) (fun _ hk => hk.1.1), by (with_reducible repeat (first | apply Kd.V_alloc | apply Kd.V_drewN | apply Kd.V_drew)); exact Kd.V_mono (Kd.V_far (p := ⟨gb371, 5, none⟩) (Kd.V_far (p := ⟨gb371, 4, none⟩) (Kd.V_far (p := ⟨gb371, 3, none⟩) (Kd.V_far (p := ⟨gb371, 2, none⟩) (Kd.V_far (p := ⟨gb371, 1, none⟩) (Kd.V_far (p := ⟨gb371, 0, none⟩) (Kd.V_mono HO_371001.out (fun k_ hk => (⟨hk, hk.2.2⟩ : _ ∧ k_ ≠ gb371))) (fun _ hk => hk.2) (.slice Ao51 x371000_1.length co51)) (fun _ hk => hk.2) (.slice Ao53 x371001_1.length co53)) (fun _ hk => hk.2) (.int .i64 x371002_1)) (fun _ hk => hk.2) (.int .i64 x371003_1)) (fun _ hk => hk.2) (.int .i64 x371004_1)) (fun _ hk => hk.2) (.slice Ao54 x371005_1.length co54)) (fun _ hk => hk.1.1), by (with_reducible repeat (first | apply Kd.V_alloc | apply Kd.V_drewN | apply Kd.V_drew)); exact Kd.V_mono (Kd.V_far (p := ⟨gb371, 5, none⟩) (Kd.V_far (p := ⟨gb371, 4, none⟩) (Kd.V_far (p := ⟨gb371, 3, none⟩) (Kd.V_far (p := ⟨gb371, 2, none⟩) (Kd.V_far (p := ⟨gb371, 1, none⟩) (Kd.V_far (p := ⟨gb371, 0, none⟩) (Kd.V_mono HO_371005.out (fun k_ hk => (⟨hk, hk.2.2⟩ : _ ∧ k_ ≠ gb371))) (fun _ hk => hk.2) (.slice Ao51 x371000_1.length co51)) (fun _ hk => hk.2) (.slice Ao53 x371001_1.length co53)) (fun _ hk => hk.2) (.int .i64 x371002_1)) (fun _ hk => hk.2) (.int .i64 x371003_1)) (fun _ hk => hk.2) (.int .i64 x371004_1)) (fun _ hk => hk.2) (.slice Ao54 x371005_1.length co54)) (fun _ hk => hk.1.1), zw HB⟩
end Go.Proofs.Ytcfpclehogdmbaa.Q
end
section
namespace Go.Proofs.Ytcfpclehogdmbaa.Q
open Go.RowKit Go.Proofs.YtcfpclehogdmbaaW.PrintWords Go.Proofs.YtcfpclehogdmbaaW.PrintLast Go.Proofs.YtcfpclehogdmbaaW.PrintMore
attribute [local go_sem] max2_int min2_int max_two min_two max_three min_three max_four min_four   -- for this text's walks alone
set_option linter.unusedVariables false
set_option linter.unusedSimpArgs false
mutual
def thatchlaw07_WearOrder.j0 : Nat → List (S43) → Int → Bool → List (S32) → List (S55) → Int → Int → Int → List (S67) → Option (Bool)
 | 0, _, _, _, _, _, _, _, _, _ => none
 | k + 1, x1, x2, x25, x390000, x390001, x390002, x390003, x390004, x390005 => if x25 = true then ((thatchlaw07_lives.f k).bind fun t391 => (some t391)) else ((thatchlaw07_all.f k x390000 x390001 x390002 x390003 x390004 x390005 x1).bind fun bt392 => (if (x1.length : Int) = 0 then (none) else (thatchlaw07_WearOrder.l0 k x1 bt392.2.2.2.2.2.2 (Int.tmod (wrap64 (x2)) (x1.length : Int)) ([] : List (S43)) (wrap64 ((x1.length : Int) - 1)) x390000 x390001 x390002 x390003 x390004 x390005 bt392.1 bt392.2.1 bt392.2.2.1 bt392.2.2.2.1 bt392.2.2.2.2.1 bt392.2.2.2.2.2.1)))
def thatchlaw07_WearOrder.l0 : Nat → List (S43) → Int → Int → List (S43) → Int → List (S32) → List (S55) → Int → Int → Int → List (S67) → List (S32) → List (S55) → Int → Int → Int → List (S67) → Option (Bool)
 | 0, _, _, _, _, _, _, _, _, _, _, _, _, _, _, _, _, _ => none
 | k + 1, x1, x8, x9, x10, x11, x390000, x390001, x390002, x390003, x390004, x390005, x406000, x406001, x406002, x406003, x406004, x406005 => if x11 ≥ 0 then (if (x1.length : Int) = 0 then (none) else (if 0 ≤ (Int.tmod (wrap64 (x11 + x9)) (x1.length : Int)) then (if (Int.tmod (wrap64 (x11 + x9)) (x1.length : Int)) < (x1.length : Int) then (if x10.length < 4398046511104 then (thatchlaw07_WearOrder.l0 k x1 x8 x9 (x10 ++ [(⟨(⟨(rd_T43 x1 (Int.tmod (wrap64 (x11 + x9)) (x1.length : Int))).f0.f0, (rd_T43 x1 (Int.tmod (wrap64 (x11 + x9)) (x1.length : Int))).f0.f1⟩ : S32), (rd_T43 x1 (Int.tmod (wrap64 (x11 + x9)) (x1.length : Int))).f1, (rd_T43 x1 (Int.tmod (wrap64 (x11 + x9)) (x1.length : Int))).f2⟩ : S43)]) (wrap64 (x11 - 1)) x390000 x390001 x390002 x390003 x390004 x390005 x406000 x406001 x406002 x406003 x406004 x406005) else (none)) else (none)) else (none))) else ((thatchlaw07_all.f k x390000 x390001 x390002 x390003 x390004 x390005 x10).bind fun bt410 => (if ((x8 == 0) == (bt410.2.2.2.2.2.2 == 0)) = true then (if x8 = 0 then ((thatchref07_Same.f k x406000 x406001 x406002 x406003 x406004 x406005 bt410.1 bt410.2.1 bt410.2.2.1 bt410.2.2.2.1 bt410.2.2.2.2.1 bt410.2.2.2.2.2.1).bind fun t424 => (if t424 = true then ((thatchlaw07_lives.f k).bind fun t425 => (some t425)) else (some false))) else ((thatchlaw07_lives.f k).bind fun t426 => (some t426))) else (some false)))
end
def thatchlaw07_WearOrder.f (k : Nat) (l0_0 : List (S32)) (l0_1 : List (S55)) (a0_2 : Int) (a0_3 : Int) (a0_4 : Int) (l0_5 : List (S67)) (l1 : List (S43)) (a2 : Int) : Option (Bool) := (thatchlaw07_Great.f k l0_0 l0_1 a0_2 a0_3 a0_4 l0_5).bind fun t390 => (if t390 = true then (thatchlaw07_WearOrder.j0 k l1 a2 true l0_0 l0_1 a0_2 a0_3 a0_4 l0_5) else (if (l1.length : Int) > 20 then (thatchlaw07_WearOrder.j0 k l1 a2 true l0_0 l0_1 a0_2 a0_3 a0_4 l0_5) else (thatchlaw07_WearOrder.j0 k l1 a2 ((l1.length : Int) == 0) l0_0 l0_1 a0_2 a0_3 a0_4 l0_5)))
set_option maxHeartbeats 8000000 in
set_option maxRecDepth 100000 in
theorem thatchlaw07_WearOrder.calls (k : Nat) (A0_0 : Option Addr) (c0_0 : Nat) (l0_0 : List (S32)) (A0_1 : Option Addr) (c0_1 : Nat) (l0_1 : List (S55)) (a0_2 : Int) (a0_3 : Int) (a0_4 : Int) (A0_5 : Option Addr) (c0_5 : Nat) (l0_5 : List (S67)) (A1 : Option Addr) (c1 : Nat) (l1 : List (S43)) (a2 : Int) (r : Bool) (w : World) (hr0_0 : Kd.C k32 w A0_0 l0_0.length l0_0) (hc0_0 : l0_0.length ≤ c0_0) (hr0_1 : Kd.C k55 w A0_1 l0_1.length l0_1) (hc0_1 : l0_1.length ≤ c0_1) (hr0_5 : Kd.C k67 w A0_5 l0_5.length l0_5) (hc0_5 : l0_5.length ≤ c0_5) (hr1 : Kd.C k43 w A1 l1.length l1) (hc1 : l1.length ≤ c1) (h : thatchlaw07_WearOrder.f k l0_0 l0_1 a0_2 a0_3 a0_4 l0_5 l1 a2 = some r) :
  Calls Try.prog 4 #[.agg #[.slice A0_0 l0_0.length c0_0, .slice A0_1 l0_1.length c0_1, .int .i64 a0_2, .int .i64 a0_3, .int .i64 a0_4, .slice A0_5 l0_5.length c0_5], .slice A1 l1.length c1, .int .u8 a2] w fun e w' => e = .returned (.bool r) ∧ Below w.heap.size w w' := by
 have hu30 := Try.underlying30
 have hu43 := Try.underlying43
 have HR0_0 := Aside0.mk hr0_0
 have HC0_0 := Aside0.mk hc0_0
 clear hr0_0 hc0_0
 have HR0_1 := Aside0.mk hr0_1
 have HC0_1 := Aside0.mk hc0_1
 clear hr0_1 hc0_1
 have HR0_5 := Aside0.mk hr0_5
 have HC0_5 := Aside0.mk hc0_5
 clear hr0_5 hc0_5
 have HR1 := Aside0.mk hr1
 have HC1 := Aside0.mk hc1
 clear hr1 hc1
 have HB := Aside0.mk (Below.refl w.heap.size w)
 have H : ((thatchlaw07_Great.f k l0_0 l0_1 a0_2 a0_3 a0_4 l0_5).bind fun t390 => (if t390 = true then (thatchlaw07_WearOrder.j0 k l1 a2 true l0_0 l0_1 a0_2 a0_3 a0_4 l0_5) else (if (l1.length : Int) > 20 then (thatchlaw07_WearOrder.j0 k l1 a2 true l0_0 l0_1 a0_2 a0_3 a0_4 l0_5) else (thatchlaw07_WearOrder.j0 k l1 a2 ((l1.length : Int) == 0) l0_0 l0_1 a0_2 a0_3 a0_4 l0_5)))) = some r := h
 clear h
 have HC4 := Aside0.mk H
 clear H
 go_enter Try.func4, Try.ntmps4
 go_upto_region 1 with (first | ((with_reducible refine gate_dst (N := 3) rfl ?_); (try (refine gate_guard (by rfl) ?_; dsimp only)); refine zx 3 #[.slice A0_0 l0_0.length c0_0, .slice A0_1 l0_1.length c0_1, .int .i64 a0_2, .int .i64 a0_3, .int .i64 a0_4, .slice A0_5 l0_5.length c0_5] 30 ?_; intro gb389 hg w5 hbox hb; have n0_ := zY HB hb; have n1_ := Aside0.mk (hbox); have n2_ := zS hg HB; have n3_ := zS hg HB; clear HB; have HB := n0_; have BK389 := n1_; have GW389 := n2_; have GE389 := n3_; clear n0_ n1_ n2_ n3_; clear hb hbox hg))
 (try simp only [Act.put, List.setIfInBounds_toArray, List.set_cons_zero, List.set_cons_succ])
 go_cut [25] (fun v25 wc => ∃ (kq : Nat) (x25_3 : Bool), v25 = .bool x25_3 ∧ Aside0 (thatchlaw07_WearOrder.j0 kq l1 a2 x25_3 l0_0 l0_1 a0_2 a0_3 a0_4 l0_5 = some r) ∧ Aside0 (kq ≤ k) ∧ Aside0 (wc.heap[gb389]? = some (.cells #[(.slice A0_0 l0_0.length c0_0), (.slice A0_1 l0_1.length c0_1), .int .i64 a0_2, .int .i64 a0_3, .int .i64 a0_4, (.slice A0_5 l0_5.length c0_5)] 30 (0, 0))) ∧ Aside0 (Below w.heap.size w wc))
 case first =>
  have H := HC4.out
  clear HC4
  replace H := Option.bind_eq_some_iff.mp H
  obtain ⟨t390, A60, H⟩ := H
  replace H : (if t390 = true then (thatchlaw07_WearOrder.j0 k l1 a2 true l0_0 l0_1 a0_2 a0_3 a0_4 l0_5) else (if (l1.length : Int) > 20 then (thatchlaw07_WearOrder.j0 k l1 a2 true l0_0 l0_1 a0_2 a0_3 a0_4 l0_5) else (thatchlaw07_WearOrder.j0 k l1 a2 ((l1.length : Int) == 0) l0_0 l0_1 a0_2 a0_3 a0_4 l0_5))) = some r := H
  have A6 := Aside0.mk A60
  clear A60
  by_cases c7 : t390 = true
  ·subst c7
   have H1 : (thatchlaw07_WearOrder.j0 k l1 a2 true l0_0 l0_1 a0_2 a0_3 a0_4 l0_5) = some r := by rw [if_pos rfl] at H; exact H
   clear H
   have H := H1
   clear H1
   have H' := Aside0.mk H
   clear H
   obtain ⟨hcz8_0, hcz8_1, hcz8_2, hcz8_3, hcz8_4, hcz8_5, hfz8_0, hfz8_1, hfz8_2, hfz8_3, hfz8_4, hfz8_5⟩ := zk6 BK389
   go_wp2_with (first | ((with_reducible refine gate_callee (f := 7) rfl ?_); refine goesL_ (some 15) rfl rfl Try.func7 (by kernel_rfl) rfl #[.agg #[.slice A0_0 l0_0.length c0_0, .slice A0_1 l0_1.length c0_1, .int .i64 a0_2, .int .i64 a0_3, .int .i64 a0_4, .slice A0_5 l0_5.length c0_5]] rfl za ?_; (with_reducible refine (thatchlaw07_Great.calls k _ _ l0_0 _ _ l0_1 a0_2 a0_3 a0_4 _ _ l0_5 true _ ?side1 ?side2 ?side3 ?side4 ?side5 ?side6 A6.out).mono ?_); (case side1 => exact zl HR0_0 HB); (case side2 => exact HC0_0.out); (case side3 => exact zl HR0_1 HB); (case side4 => exact HC0_1.out); (case side5 => exact zl HR0_5 HB); (case side6 => exact HC0_5.out); rintro e w9 ⟨rfl, hb⟩; refine ⟨_, rfl, ?_⟩; have n0_ := zD BK389 hb; have n1_ := zY HB hb; clear BK389; clear HB; have BK389 := n0_; have HB := n1_; clear n0_ n1_; (try clear hb); (try clear hb2); (try clear hk); (try clear hi)))
   go_meet
   case rel => exact ⟨_, (true), zq, H', ⟨by first | omega | exact Nat.le_refl _⟩, ⟨zb BK389⟩, ⟨zw HB⟩⟩
  replace c7 := Bool.eq_false_iff.mpr c7
  subst c7
  have H1 : (if (l1.length : Int) > 20 then (thatchlaw07_WearOrder.j0 k l1 a2 true l0_0 l0_1 a0_2 a0_3 a0_4 l0_5) else (thatchlaw07_WearOrder.j0 k l1 a2 ((l1.length : Int) == 0) l0_0 l0_1 a0_2 a0_3 a0_4 l0_5)) = some r := by rw [if_neg (show ¬ (false = true) by decide)] at H; exact H
  clear H
  have H := H1
  clear H1
  by_cases c10 : (l1.length : Int) > 20
  ·rw [if_pos c10] at H
   have c10b0 : decide (20 < (l1.length : Int)) = true := decide_eq_true c10
   have c10b1 : decide (20 < l1.length) = true := decide_eq_true (by omega)
   clear c10
   (first | rw [c10b0] | (simp only [i64_w, i32_w]; rw [c10b0]) | skip)
   have H' := Aside0.mk H
   clear H
   obtain ⟨hcz11_0, hcz11_1, hcz11_2, hcz11_3, hcz11_4, hcz11_5, hfz11_0, hfz11_1, hfz11_2, hfz11_3, hfz11_4, hfz11_5⟩ := zk6 BK389
   go_wp2_with (first | ((with_reducible refine gate_callee (f := 7) rfl ?_); refine goesL_ (some 15) rfl rfl Try.func7 (by kernel_rfl) rfl #[.agg #[.slice A0_0 l0_0.length c0_0, .slice A0_1 l0_1.length c0_1, .int .i64 a0_2, .int .i64 a0_3, .int .i64 a0_4, .slice A0_5 l0_5.length c0_5]] rfl za ?_; (with_reducible refine (thatchlaw07_Great.calls k _ _ l0_0 _ _ l0_1 a0_2 a0_3 a0_4 _ _ l0_5 false _ ?side1 ?side2 ?side3 ?side4 ?side5 ?side6 A6.out).mono ?_); (case side1 => exact zl HR0_0 HB); (case side2 => exact HC0_0.out); (case side3 => exact zl HR0_1 HB); (case side4 => exact HC0_1.out); (case side5 => exact zl HR0_5 HB); (case side6 => exact HC0_5.out); rintro e w12 ⟨rfl, hb⟩; refine ⟨_, rfl, ?_⟩; have n0_ := zD BK389 hb; have n1_ := zY HB hb; clear BK389; clear HB; have BK389 := n0_; have HB := n1_; clear n0_ n1_; (try clear hb); (try clear hb2); (try clear hk); (try clear hi)))
   go_meet
   case rel => exact ⟨_, (true), zq, H', ⟨by first | omega | exact Nat.le_refl _⟩, ⟨zb BK389⟩, ⟨zw HB⟩⟩
  rw [if_neg c10] at H
  have c10b0 : decide (20 < (l1.length : Int)) = false := decide_eq_false c10
  have c10b1 : decide (20 < l1.length) = false := decide_eq_false (by omega)
  clear c10
  (first | rw [c10b0] | (simp only [i64_w, i32_w]; rw [c10b0]) | skip)
  have H' := Aside0.mk H
  clear H
  obtain ⟨hcz13_0, hcz13_1, hcz13_2, hcz13_3, hcz13_4, hcz13_5, hfz13_0, hfz13_1, hfz13_2, hfz13_3, hfz13_4, hfz13_5⟩ := zk6 BK389
  go_wp2_with (first | ((with_reducible refine gate_callee (f := 7) rfl ?_); refine goesL_ (some 15) rfl rfl Try.func7 (by kernel_rfl) rfl #[.agg #[.slice A0_0 l0_0.length c0_0, .slice A0_1 l0_1.length c0_1, .int .i64 a0_2, .int .i64 a0_3, .int .i64 a0_4, .slice A0_5 l0_5.length c0_5]] rfl za ?_; (with_reducible refine (thatchlaw07_Great.calls k _ _ l0_0 _ _ l0_1 a0_2 a0_3 a0_4 _ _ l0_5 false _ ?side1 ?side2 ?side3 ?side4 ?side5 ?side6 A6.out).mono ?_); (case side1 => exact zl HR0_0 HB); (case side2 => exact HC0_0.out); (case side3 => exact zl HR0_1 HB); (case side4 => exact HC0_1.out); (case side5 => exact zl HR0_5 HB); (case side6 => exact HC0_5.out); rintro e w14 ⟨rfl, hb⟩; refine ⟨_, rfl, ?_⟩; have n0_ := zD BK389 hb; have n1_ := zY HB hb; clear BK389; clear HB; have BK389 := n0_; have HB := n1_; clear n0_ n1_; (try clear hb); (try clear hb2); (try clear hk); (try clear hi)))
  go_meet
  case rel => exact ⟨_, (((l1.length : Int) == 0)), zq, H', ⟨by first | omega | exact Nat.le_refl _⟩, ⟨zb BK389⟩, ⟨zw HB⟩⟩
 case rest =>
  clear HC4; try clear c1; try clear p2; try clear c4; try clear c7; try clear c10; try clear c10b0; try clear c10b1; try clear hcz11_0 hcz11_1 hcz11_2 hcz11_3 hcz11_4 hcz11_5; try clear hcz13_0 hcz13_1 hcz13_2 hcz13_3 hcz13_4 hcz13_5; try clear hcz8_0 hcz8_1 hcz8_2 hcz8_3 hcz8_4 hcz8_5; try clear hfz11_0 hfz11_1 hfz11_2 hfz11_3 hfz11_4 hfz11_5; try clear hfz13_0 hfz13_1 hfz13_2 hfz13_3 hfz13_4 hfz13_5; try clear hfz8_0 hfz8_1 hfz8_2 hfz8_3 hfz8_4 hfz8_5
  obtain ⟨kq, x25_3, rfl, HA, HJ3, BK389, HB⟩ := hcut
  cases kq with
  | zero => exact absurd HA.out (by simp [thatchlaw07_WearOrder.j0])
  | succ kj3 =>
   have H := HA.out
   clear HA
   simp only [thatchlaw07_WearOrder.j0] at H
   by_cases c15 : x25_3 = true
   ·subst c15
    have H1 : ((thatchlaw07_lives.f kj3).bind fun t391 => (some t391)) = some r := by rw [if_pos rfl] at H; exact H
    clear H
    have H := H1
    clear H1
    replace H := Option.bind_eq_some_iff.mp H
    obtain ⟨t391, A160, H⟩ := H
    replace H : (some t391) = some r := H
    have A16 := Aside0.mk A160
    clear A160
    obtain rfl := Option.some.inj H
    go_wp2_with (first | ((with_reducible refine gate_callee (f := 8) rfl ?_); refine goesL_ (some 26) rfl rfl Try.func8 (by kernel_rfl) rfl #[] rfl za ?_; (with_reducible refine (thatchlaw07_lives.calls kj3  t391 _ A16.out).mono ?_); rintro e w17 ⟨rfl, hb⟩; refine ⟨_, rfl, ?_⟩; have n0_ := zD BK389 hb; have n1_ := zY HB hb; clear BK389; clear HB; have BK389 := n0_; have HB := n1_; clear n0_ n1_; (try clear hb); (try clear hb2); (try clear hk); (try clear hi)))
    go_ret
    exact ⟨ze, zw HB⟩
   replace c15 := Bool.eq_false_iff.mpr c15
   subst c15
   have H1 : ((thatchlaw07_all.f kj3 l0_0 l0_1 a0_2 a0_3 a0_4 l0_5 l1).bind fun bt392 => (if (l1.length : Int) = 0 then (none) else (thatchlaw07_WearOrder.l0 kj3 l1 bt392.2.2.2.2.2.2 (Int.tmod (wrap64 (a2)) (l1.length : Int)) ([] : List (S43)) (wrap64 ((l1.length : Int) - 1)) l0_0 l0_1 a0_2 a0_3 a0_4 l0_5 bt392.1 bt392.2.1 bt392.2.2.1 bt392.2.2.2.1 bt392.2.2.2.2.1 bt392.2.2.2.2.2.1))) = some r := by rw [if_neg (show ¬ (false = true) by decide)] at H; exact H
   clear H
   have H := H1
   clear H1
   replace H := Option.bind_eq_some_iff.mp H
   obtain ⟨⟨t392, t395, t398, t399, t400, t401, t404⟩, A180, H⟩ := H
   replace H : (if (l1.length : Int) = 0 then (none) else (thatchlaw07_WearOrder.l0 kj3 l1 t404 (Int.tmod (wrap64 (a2)) (l1.length : Int)) ([] : List (S43)) (wrap64 ((l1.length : Int) - 1)) l0_0 l0_1 a0_2 a0_3 a0_4 l0_5 t392 t395 t398 t399 t400 t401)) = some r := H
   have A18 := Aside0.mk A180
   clear A180
   by_cases c19 : (l1.length : Int) = 0
   ·rw [if_pos c19] at H
    exact absurd H (by simp)
   rw [if_neg c19] at H
   have c19b0 : ((l1.length : Int) == 0) = false := beq_eq_false_iff_ne.mpr c19
   have c19b1 : ((l1.length : Int) != 0) = true := bne_iff_ne.mpr c19
   have c19b2 : ¬ (l1 = []) := fun h_ => c19 (by rw [h_]; rfl)
   have H' := Aside0.mk H
   clear H
   obtain ⟨hcz20_0, hcz20_1, hcz20_2, hcz20_3, hcz20_4, hcz20_5, hfz20_0, hfz20_1, hfz20_2, hfz20_3, hfz20_4, hfz20_5⟩ := zk6 BK389
   go_wp2_with (first | ((with_reducible refine gate_callee (f := 12) rfl ?_); refine goesL_ (some 30) rfl rfl Try.func12 (by kernel_rfl) rfl #[.agg #[.slice A0_0 l0_0.length c0_0, .slice A0_1 l0_1.length c0_1, .int .i64 a0_2, .int .i64 a0_3, .int .i64 a0_4, .slice A0_5 l0_5.length c0_5], .slice A1 l1.length c1] rfl za ?_; (with_reducible refine (thatchlaw07_all.calls kj3 (fun k_ => k_ < w.heap.size) _ _ l0_0 (fun k_ => k_ < w.heap.size) _ _ l0_1 a0_2 a0_3 a0_4 (fun k_ => k_ < w.heap.size) _ _ l0_5 _ _ l1 t392 t395 t398 t399 t400 t401 t404 _ ?side1 ?side2 ?side3 ?side4 ?side5 A18.out).mono ?_); (case side1 => exact Kd.V_mk HC0_0.out (Kd.F_below (Kd.C_F k32_heap HR0_0.out) (zw HB))); (case side2 => exact Kd.V_mk HC0_1.out (Kd.F_below (Kd.C_F k55_heap HR0_1.out) (zw HB))); (case side3 => exact Kd.V_mk HC0_5.out (Kd.F_below (Kd.C_F k67_heap HR0_5.out) (zw HB))); (case side4 => exact zl HR1 HB); (case side5 => exact HC1.out); rintro e w21 ⟨v393, v396, v402, rfl, ho0, ho1, ho2, hb⟩; refine ⟨_, rfl, ?_⟩; have n0_ := Aside0.mk (Kd.V_lower (Kd.V_mono (ok' := fun k_ => k_ ≠ gb389) ho0 (fun k_ hk_ => Or.elim hk_ (fun hs_ => Or.elim hs_ (fun hs_ => fun e_ => Nat.not_le.2 hs_ (by rw [e_]; exact GW389.out)) (fun hs_ => Or.elim hs_ (fun hs_ => fun e_ => Nat.not_le.2 hs_ (by rw [e_]; exact GW389.out)) (fun hs_ => fun e_ => Nat.not_le.2 hs_ (by rw [e_]; exact GW389.out)))) (fun hn_ => (Kd.freshB (g := gb389) (o := .cells #[.slice A0_0 l0_0.length c0_0, .slice A0_1 l0_1.length c0_1, .int .i64 a0_2, .int .i64 a0_3, .int .i64 a0_4, .slice A0_5 l0_5.length c0_5] 30 (0, 0)) (zb BK389) k_ hn_)))) (below_size (zw HB))); have n1_ := Aside0.mk (Kd.V_lower (Kd.V_mono (ok' := fun k_ => k_ ≠ gb389) ho1 (fun k_ hk_ => Or.elim hk_ (fun hs_ => Or.elim hs_ (fun hs_ => fun e_ => Nat.not_le.2 hs_ (by rw [e_]; exact GW389.out)) (fun hs_ => Or.elim hs_ (fun hs_ => fun e_ => Nat.not_le.2 hs_ (by rw [e_]; exact GW389.out)) (fun hs_ => fun e_ => Nat.not_le.2 hs_ (by rw [e_]; exact GW389.out)))) (fun hn_ => (Kd.freshB (g := gb389) (o := .cells #[.slice A0_0 l0_0.length c0_0, .slice A0_1 l0_1.length c0_1, .int .i64 a0_2, .int .i64 a0_3, .int .i64 a0_4, .slice A0_5 l0_5.length c0_5] 30 (0, 0)) (zb BK389) k_ hn_)))) (below_size (zw HB))); have n2_ := Aside0.mk (Kd.V_lower (Kd.V_mono (ok' := fun k_ => k_ ≠ gb389) ho2 (fun k_ hk_ => Or.elim hk_ (fun hs_ => Or.elim hs_ (fun hs_ => fun e_ => Nat.not_le.2 hs_ (by rw [e_]; exact GW389.out)) (fun hs_ => Or.elim hs_ (fun hs_ => fun e_ => Nat.not_le.2 hs_ (by rw [e_]; exact GW389.out)) (fun hs_ => fun e_ => Nat.not_le.2 hs_ (by rw [e_]; exact GW389.out)))) (fun hn_ => (Kd.freshB (g := gb389) (o := .cells #[.slice A0_0 l0_0.length c0_0, .slice A0_1 l0_1.length c0_1, .int .i64 a0_2, .int .i64 a0_3, .int .i64 a0_4, .slice A0_5 l0_5.length c0_5] 30 (0, 0)) (zb BK389) k_ hn_)))) (below_size (zw HB))); have n3_ := zD BK389 hb; have n4_ := zY HB hb; clear BK389; clear HB; have HO394 := n0_; have HO397 := n1_; have HO403 := n2_; have BK389 := n3_; have HB := n4_; clear n0_ n1_ n2_ n3_ n4_; (try clear hb); (try clear hb2); (try clear hk); (try clear hi); (try clear ho0); (try clear ho1); (try clear ho2)) | ((with_reducible refine gate_dst (N := 7) rfl ?_); (try (refine gate_guard (by rfl) ?_; dsimp only)); refine zx 7 #[.slice none 0 0, .slice none 0 0, .int .i64 0, .int .i64 0, .int .i64 0, .slice none 0 0] 30 ?_; intro gb405 hg w22 hbox hb; have n0_ := Aside0.mk (Kd.V_below (Kd.V_elderB (zT HO394) gb405 (Nat.le_of_eq hg.symm)) hb); have n1_ := Aside0.mk (Kd.V_below (Kd.V_elderB (zT HO397) gb405 (Nat.le_of_eq hg.symm)) hb); have n2_ := Aside0.mk (Kd.V_below (Kd.V_elderB (zT HO403) gb405 (Nat.le_of_eq hg.symm)) hb); have n3_ := zD BK389 hb; have n4_ := zY HB hb; have n5_ := Aside0.mk (hbox); have n6_ := zS hg HB; have n7_ := zS hg HB; have n8_ := zN hg BK389; have n9_ := zM hg BK389; clear HO394; clear HO397; clear HO403; clear BK389; clear HB; have HO394 := n0_; have HO397 := n1_; have HO403 := n2_; have BK389 := n3_; have HB := n4_; have BK405 := n5_; have GW405 := n6_; have GE405 := n7_; have NB389_405 := n8_; have NB405_389 := n9_; clear n0_ n1_ n2_ n3_ n4_ n5_ n6_ n7_ n8_ n9_; clear hb hbox hg; obtain ⟨Ao23, co23, eo23⟩ := Kd.V_slice HO394.out; subst eo23; have hnb24 := NB405_389.out; have hnc24 := NB389_405.out; obtain ⟨hcz25_0, hcz25_1, hcz25_2, hcz25_3, hcz25_4, hcz25_5, hfz25_0, hfz25_1, hfz25_2, hfz25_3, hfz25_4, hfz25_5⟩ := zk6 BK405; obtain ⟨Ao26, co26, eo26⟩ := Kd.V_slice HO397.out; subst eo26; obtain ⟨Ao27, co27, eo27⟩ := Kd.V_slice HO403.out; subst eo27))
   go_loopg [10, 11] kj3 (fun kq v10 v11 w' => ∃ (x10_2 : List (S43)) (x11_2 : Int), v11 = .int .i64 x11_2 ∧ Aside0 (thatchlaw07_WearOrder.l0 kq l1 t404 (Int.tmod (wrap64 (a2)) (l1.length : Int)) x10_2 x11_2 l0_0 l0_1 a0_2 a0_3 a0_4 l0_5 t392 t395 t398 t399 t400 t401 = some r) ∧ Aside0 (kq ≤ kj3) ∧ Aside0 (Kd.R k43 43 w' w.heap.size (fun _ => True) v10 x10_2) ∧ Aside0 (Kd.V k32 32 w' w.heap.size (fun k_ => some k_ ≠ (v10 : Value).ownBlock ∧ k_ ≠ gb389 ∧ k_ ≠ gb405) (.slice Ao23 t392.length co23) t392) ∧ Aside0 (Kd.V k55 55 w' w.heap.size (fun k_ => some k_ ≠ (v10 : Value).ownBlock ∧ k_ ≠ gb389 ∧ k_ ≠ gb405) (.slice Ao26 t395.length co26) t395) ∧ Aside0 (Kd.V k67 67 w' w.heap.size (fun k_ => some k_ ≠ (v10 : Value).ownBlock ∧ k_ ≠ gb389 ∧ k_ ≠ gb405) (.slice Ao27 t401.length co27) t401) ∧ Aside0 (w'.heap[gb389]? = some (.cells #[(.slice A0_0 l0_0.length c0_0), (.slice A0_1 l0_1.length c0_1), .int .i64 a0_2, .int .i64 a0_3, .int .i64 a0_4, (.slice A0_5 l0_5.length c0_5)] 30 (0, 0))) ∧ Aside0 (w'.heap[gb405]? = some (.cells #[(.slice Ao23 t392.length co23), (.slice Ao26 t395.length co26), .int .i64 t398, .int .i64 t399, .int .i64 t400, (.slice Ao27 t401.length co27)] 30 (0, 0))) ∧ Aside0 (Below w.heap.size w w'))
   case atStart => exact ⟨(([] : List (S43))), (wrap64 ((l1.length : Int) - 1)), zq, H', ⟨Nat.le_refl _⟩, ⟨by first | exact Kd.R_nil _ _ _ _ _ | exact Kd.N_nil _ _ _ _ _ | exact Kd.V_nil _ _ _ _ _ | exact Kd.Q_nil _ _ _ _ _ | exact Kd.S_nil _ _ _ _ _⟩, ⟨by (with_reducible repeat (first | apply Kd.V_alloc | apply Kd.V_drewN | apply Kd.V_drew)); exact Kd.V_mono (Kd.V_far (p := ⟨gb405, 5, none⟩) (Kd.V_far (p := ⟨gb405, 4, none⟩) (Kd.V_far (p := ⟨gb405, 3, none⟩) (Kd.V_far (p := ⟨gb405, 2, none⟩) (Kd.V_far (p := ⟨gb405, 1, none⟩) (Kd.V_far (p := ⟨gb405, 0, none⟩) (Kd.V_mono HO394.out (fun k_ hk => (⟨hk, hk.2⟩ : _ ∧ k_ ≠ gb405))) (fun _ hk => hk.2) (.slice Ao23 t392.length co23)) (fun _ hk => hk.2) (.slice Ao26 t395.length co26)) (fun _ hk => hk.2) (.int .i64 t398)) (fun _ hk => hk.2) (.int .i64 t399)) (fun _ hk => hk.2) (.int .i64 t400)) (fun _ hk => hk.2) (.slice Ao27 t401.length co27)) (fun _ hk => ⟨(by simp [Value.ownBlock]), ⟨hk.1.1, hk.1.2⟩⟩)⟩, ⟨by (with_reducible repeat (first | apply Kd.V_alloc | apply Kd.V_drewN | apply Kd.V_drew)); exact Kd.V_mono (Kd.V_far (p := ⟨gb405, 5, none⟩) (Kd.V_far (p := ⟨gb405, 4, none⟩) (Kd.V_far (p := ⟨gb405, 3, none⟩) (Kd.V_far (p := ⟨gb405, 2, none⟩) (Kd.V_far (p := ⟨gb405, 1, none⟩) (Kd.V_far (p := ⟨gb405, 0, none⟩) (Kd.V_mono HO397.out (fun k_ hk => (⟨hk, hk.2⟩ : _ ∧ k_ ≠ gb405))) (fun _ hk => hk.2) (.slice Ao23 t392.length co23)) (fun _ hk => hk.2) (.slice Ao26 t395.length co26)) (fun _ hk => hk.2) (.int .i64 t398)) (fun _ hk => hk.2) (.int .i64 t399)) (fun _ hk => hk.2) (.int .i64 t400)) (fun _ hk => hk.2) (.slice Ao27 t401.length co27)) (fun _ hk => ⟨(by simp [Value.ownBlock]), ⟨hk.1.1, hk.1.2⟩⟩)⟩, ⟨by (with_reducible repeat (first | apply Kd.V_alloc | apply Kd.V_drewN | apply Kd.V_drew)); exact Kd.V_mono (Kd.V_far (p := ⟨gb405, 5, none⟩) (Kd.V_far (p := ⟨gb405, 4, none⟩) (Kd.V_far (p := ⟨gb405, 3, none⟩) (Kd.V_far (p := ⟨gb405, 2, none⟩) (Kd.V_far (p := ⟨gb405, 1, none⟩) (Kd.V_far (p := ⟨gb405, 0, none⟩) (Kd.V_mono HO403.out (fun k_ hk => (⟨hk, hk.2⟩ : _ ∧ k_ ≠ gb405))) (fun _ hk => hk.2) (.slice Ao23 t392.length co23)) (fun _ hk => hk.2) (.slice Ao26 t395.length co26)) (fun _ hk => hk.2) (.int .i64 t398)) (fun _ hk => hk.2) (.int .i64 t399)) (fun _ hk => hk.2) (.int .i64 t400)) (fun _ hk => hk.2) (.slice Ao27 t401.length co27)) (fun _ hk => ⟨(by simp [Value.ownBlock]), ⟨hk.1.1, hk.1.2⟩⟩)⟩, ⟨zv BK389⟩, ⟨by (with_reducible repeat (first | refine blk_drewN ?_ _ | refine blk_drew ?_ | refine blk_alloc ?_ _)); refine blk_put (cs := #[.slice Ao23 t392.length co23, .slice Ao26 t395.length co26, .int .i64 t398, .int .i64 t399, .int .i64 t400, .slice none 0 0]) ?_ 5 _ rfl; (with_reducible repeat (first | refine blk_drewN ?_ _ | refine blk_drew ?_ | refine blk_alloc ?_ _)); refine blk_put (cs := #[.slice Ao23 t392.length co23, .slice Ao26 t395.length co26, .int .i64 t398, .int .i64 t399, .int .i64 0, .slice none 0 0]) ?_ 4 _ rfl; (with_reducible repeat (first | refine blk_drewN ?_ _ | refine blk_drew ?_ | refine blk_alloc ?_ _)); refine blk_put (cs := #[.slice Ao23 t392.length co23, .slice Ao26 t395.length co26, .int .i64 t398, .int .i64 0, .int .i64 0, .slice none 0 0]) ?_ 3 _ rfl; (with_reducible repeat (first | refine blk_drewN ?_ _ | refine blk_drew ?_ | refine blk_alloc ?_ _)); refine blk_put (cs := #[.slice Ao23 t392.length co23, .slice Ao26 t395.length co26, .int .i64 0, .int .i64 0, .int .i64 0, .slice none 0 0]) ?_ 2 _ rfl; (with_reducible repeat (first | refine blk_drewN ?_ _ | refine blk_drew ?_ | refine blk_alloc ?_ _)); refine blk_put (cs := #[.slice Ao23 t392.length co23, .slice none 0 0, .int .i64 0, .int .i64 0, .int .i64 0, .slice none 0 0]) ?_ 1 _ rfl; (with_reducible repeat (first | refine blk_drewN ?_ _ | refine blk_drew ?_ | refine blk_alloc ?_ _)); refine blk_put (cs := #[.slice none 0 0, .slice none 0 0, .int .i64 0, .int .i64 0, .int .i64 0, .slice none 0 0]) ?_ 0 _ rfl; (with_reducible repeat (first | refine blk_drewN ?_ _ | refine blk_drew ?_ | refine blk_alloc ?_ _)); exact BK405.out⟩, ⟨zw HB⟩⟩
   case round =>
    clear H'; try clear c1; try clear c2; try clear p2; try clear c4; try clear p6; try clear c7; try clear c8; try clear c10; try clear c10b0; try clear c10b1; try clear c12; try clear c15; try clear c19; try clear c19b0; try clear c19b1; try clear c19b2; try clear c24; try clear hcz11_0 hcz11_1 hcz11_2 hcz11_3 hcz11_4 hcz11_5; try clear hcz13_0 hcz13_1 hcz13_2 hcz13_3 hcz13_4 hcz13_5; try clear hcz20_0 hcz20_1 hcz20_2 hcz20_3 hcz20_4 hcz20_5; try clear hcz25_0 hcz25_1 hcz25_2 hcz25_3 hcz25_4 hcz25_5; try clear hcz8_0 hcz8_1 hcz8_2 hcz8_3 hcz8_4 hcz8_5; try clear hfz11_0 hfz11_1 hfz11_2 hfz11_3 hfz11_4 hfz11_5; try clear hfz13_0 hfz13_1 hfz13_2 hfz13_3 hfz13_4 hfz13_5; try clear hfz20_0 hfz20_1 hfz20_2 hfz20_3 hfz20_4 hfz20_5; try clear hfz25_0 hfz25_1 hfz25_2 hfz25_3 hfz25_4 hfz25_5; try clear hfz8_0 hfz8_1 hfz8_2 hfz8_3 hfz8_4 hfz8_5; try clear p2
    obtain ⟨x10_2, x11_2, rfl, HA, HK2, HO_10, HO_406000, HO_406001, HO_406005, BK389, BK405, HB⟩ := hrel
    cases gk with
    | zero => exact absurd HA.out (by simp [thatchlaw07_WearOrder.l0])
    | succ k2 =>
     have H := HA.out
     clear HA
     simp only [thatchlaw07_WearOrder.l0] at H
     by_cases c28 : x11_2 ≥ 0
     ·rw [if_pos c28] at H
      have c28b0 : decide (0 ≤ x11_2) = true := decide_eq_true c28
      clear c28
      by_cases c29 : (l1.length : Int) = 0
      ·rw [if_pos c29] at H
       exact absurd H (by simp)
      rw [if_neg c29] at H
      have c29b0 : ((l1.length : Int) == 0) = false := beq_eq_false_iff_ne.mpr c29
      have c29b1 : ((l1.length : Int) != 0) = true := bne_iff_ne.mpr c29
      have c29b2 : ¬ (l1 = []) := fun h_ => c29 (by rw [h_]; rfl)
      obtain ⟨ji30, hji30⟩ : ∃ j_ : Int, (Int.tmod (wrap64 (x11_2 + (Int.tmod (wrap64 (a2)) (l1.length : Int)))) (l1.length : Int)) = j_ := ⟨_, rfl⟩
      replace H : (if 0 ≤ (ji30) then (if (ji30) < (l1.length : Int) then (if x10_2.length < 4398046511104 then (thatchlaw07_WearOrder.l0 k2 l1 t404 (Int.tmod (wrap64 (a2)) (l1.length : Int)) (x10_2 ++ [(⟨(⟨(rd_T43 l1 (ji30)).f0.f0, (rd_T43 l1 (ji30)).f0.f1⟩ : S32), (rd_T43 l1 (ji30)).f1, (rd_T43 l1 (ji30)).f2⟩ : S43)]) (wrap64 (x11_2 - 1)) l0_0 l0_1 a0_2 a0_3 a0_4 l0_5 t392 t395 t398 t399 t400 t401) else (none)) else (none)) else (none)) = some r := by first | (rw [hji30] at H; exact H) | (simp only [hji30] at H ⊢; exact H)
      by_cases c31 : 0 ≤ (ji30)
      ·rw [if_pos c31] at H
       have c31b0 : decide (0 ≤ (ji30)) = true := decide_eq_true c31
       clear c31
       by_cases c32 : (ji30) < (l1.length : Int)
       ·rw [if_pos c32] at H
        have c32b0 : decide ((ji30) < (l1.length : Int)) = true := decide_eq_true c32
        clear c32
        by_cases c33 : x10_2.length < 4398046511104
        ·rw [if_pos c33] at H
         have LMc33 := Aside0.mk c33
         clear c33
         obtain ⟨y407, hy407⟩ : ∃ y_ : List (S43), y_ = (x10_2 ++ [(⟨(⟨(rd_T43 l1 (ji30)).f0.f0, (rd_T43 l1 (ji30)).f0.f1⟩ : S32), (rd_T43 l1 (ji30)).f1, (rd_T43 l1 (ji30)).f2⟩ : S43)]) := ⟨_, rfl⟩
         replace H : (thatchlaw07_WearOrder.l0 k2 l1 t404 (Int.tmod (wrap64 (a2)) (l1.length : Int)) y407 (wrap64 (x11_2 - 1)) l0_0 l0_1 a0_2 a0_3 a0_4 l0_5 t392 t395 t398 t399 t400 t401) = some r := by first | (rw [hy407]; with_reducible exact H) | (have H2_ := (Option.bind_some _ _).symm.trans H; rw [hy407]; with_reducible exact H2_) | (have H2_ := (Option.bind_some _ _).symm.trans H; with_reducible exact H2_) | with_reducible exact H | (rw [hy407]; exact H) | exact H
         have Ny407 := Aside0.mk hy407
         clear hy407
         have H' := Aside0.mk H
         clear H
         have p406 : 0 ≤ ((ji30) : Int) := of_decide_eq_true zj
         have q406 : (ji30) < (l1.length : Int) := of_decide_eq_true zj
         obtain ⟨ad406, e406, hx406_0, hx406_1, hx406_2, hx406_3⟩ := at_T43 HR1.out (ji30) p406 q406
         cases e406
         replace hx406_0 := zu hx406_0 HB
         replace hx406_1 := zu hx406_1 HB
         replace hx406_2 := zu hx406_2 HB
         replace hx406_3 := zu hx406_3 HB
         replace p406 := eq_true p406
         replace q406 := eq_true q406
         go_wp2_with (first | ((with_reducible refine gate_builtin (b := .append) (xs := #[.tmp 45, .tmp 55]) rfl ?_); (try (refine gate_guard (by rfl) ?_; dsimp only)); at_builtin; refine Kd.R_append k43 (w0 := w) w.heap.size rfl (.tmp 45) (.tmp 55) 40 43 (.agg #[(.int .i64 0), (.int .i64 0), (.int .i64 0), (.int .i64 0)]) 32 rfl Try.underlying40 info43 rfl (by decide) (by omega) u10 x10_2 (⟨(⟨(rd_T43 l1 (ji30)).f0.f0, (rd_T43 l1 (ji30)).f0.f1⟩ : S32), (rd_T43 l1 (ji30)).f1, (rd_T43 l1 (ji30)).f2⟩ : S43) [.int .i64 ((rd_T43 l1 (ji30)).f0.f0), .int .i64 ((rd_T43 l1 (ji30)).f0.f1), .int .i64 ((rd_T43 l1 (ji30)).f1), .int .i64 ((rd_T43 l1 (ji30)).f2)] (fun _ => True) (fun _ => False) rfl rfl ?aP (fun _ hk => hk.elim) ?aF ?aO ?aB ?aS ?aL ?_; (case aP => exact k43_mkM _ _ _ (⟨(⟨(rd_T43 l1 (ji30)).f0.f0, (rd_T43 l1 (ji30)).f0.f1⟩ : S32), (rd_T43 l1 (ji30)).f1, (rd_T43 l1 (ji30)).f2⟩ : S43)); (case aB => exact (zw HB)); (case aF => exact (fun _ _ => trivial)); (case aO => exact (zt HO_10)); (case aS => exact (below_size (zw HB))); (case aL => have := LMc33.out; omega); intro v408 w34 ho hb hg hat; rw [← Ny407.out] at ho; have n0_ := Aside0.mk (Kd.V_afterv (ok := (fun k_ => k_ ≠ gb389 ∧ k_ ≠ gb405)) (by (with_reducible repeat (first | apply Kd.V_alloc | apply Kd.V_drewN | apply Kd.V_drew)); exact Kd.V_mono HO_406000.out (fun _ hk => ⟨⟨hk.2.1, hk.2.2⟩, hk.1⟩)) hg hat); have n1_ := Aside0.mk (Kd.V_afterv (ok := (fun k_ => k_ ≠ gb389 ∧ k_ ≠ gb405)) (by (with_reducible repeat (first | apply Kd.V_alloc | apply Kd.V_drewN | apply Kd.V_drew)); exact Kd.V_mono HO_406001.out (fun _ hk => ⟨⟨hk.2.1, hk.2.2⟩, hk.1⟩)) hg hat); have n2_ := Aside0.mk (Kd.V_afterv (ok := (fun k_ => k_ ≠ gb389 ∧ k_ ≠ gb405)) (by (with_reducible repeat (first | apply Kd.V_alloc | apply Kd.V_drewN | apply Kd.V_drew)); exact Kd.V_mono HO_406005.out (fun _ hk => ⟨⟨hk.2.1, hk.2.2⟩, hk.1⟩)) hg hat); have n3_ := Aside0.mk (blk_grown (g := gb389) (o := .cells #[.slice A0_0 l0_0.length c0_0, .slice A0_1 l0_1.length c0_1, .int .i64 a0_2, .int .i64 a0_3, .int .i64 a0_4, .slice A0_5 l0_5.length c0_5] 30 (0, 0)) (zb BK389) hg (Kd.R_ne HO_10.out BK389.out (by decide))); have n4_ := Aside0.mk (blk_grown (g := gb405) (o := .cells #[.slice Ao23 t392.length co23, .slice Ao26 t395.length co26, .int .i64 t398, .int .i64 t399, .int .i64 t400, .slice Ao27 t401.length co27] 30 (0, 0)) (zb BK405) hg (Kd.R_ne HO_10.out BK405.out (by decide))); have n5_ := Aside0.mk (hb); have n6_ := Aside0.mk (ho); clear HO_406000; clear HO_406001; clear HO_406005; clear BK389; clear BK405; clear HB; clear HO_10; have HO_406000 := n0_; have HO_406001 := n1_; have HO_406005 := n2_; have BK389 := n3_; have BK405 := n4_; have HB := n5_; have HO409 := n6_; clear n0_ n1_ n2_ n3_ n4_ n5_ n6_; clear ho hb hg hat))
         go_roundg k2
         case measure => have := HJ3.out; have := HK2.out; omega
         case rel => exact ⟨(y407), (wrap64 (x11_2 - 1)), zq, H', ⟨by have := HJ3.out; have := HK2.out; omega⟩, ⟨zt HO409⟩, ⟨by (with_reducible repeat (first | apply Kd.V_alloc | apply Kd.V_drewN | apply Kd.V_drew)); exact Kd.V_mono HO_406000.out (fun _ hk => ⟨hk.2, ⟨hk.1.1, hk.1.2⟩⟩)⟩, ⟨by (with_reducible repeat (first | apply Kd.V_alloc | apply Kd.V_drewN | apply Kd.V_drew)); exact Kd.V_mono HO_406001.out (fun _ hk => ⟨hk.2, ⟨hk.1.1, hk.1.2⟩⟩)⟩, ⟨by (with_reducible repeat (first | apply Kd.V_alloc | apply Kd.V_drewN | apply Kd.V_drew)); exact Kd.V_mono HO_406005.out (fun _ hk => ⟨hk.2, ⟨hk.1.1, hk.1.2⟩⟩)⟩, ⟨zb BK389⟩, ⟨zb BK405⟩, ⟨zw HB⟩⟩
        rw [if_neg c33] at H
        exact absurd H (by simp)
       rw [if_neg c32] at H
       exact absurd H (by simp)
      rw [if_neg c31] at H
      exact absurd H (by simp)
     rw [if_neg c28] at H
     have c28b0 : decide (0 ≤ x11_2) = false := decide_eq_false c28
     clear c28
     replace H := Option.bind_eq_some_iff.mp H
     obtain ⟨⟨t410, t413, t416, t417, t418, t419, t422⟩, A350, H⟩ := H
     replace H : (if ((t404 == 0) == (t422 == 0)) = true then (if t404 = 0 then ((thatchref07_Same.f k2 t392 t395 t398 t399 t400 t401 t410 t413 t416 t417 t418 t419).bind fun t424 => (if t424 = true then ((thatchlaw07_lives.f k2).bind fun t425 => (some t425)) else (some false))) else ((thatchlaw07_lives.f k2).bind fun t426 => (some t426))) else (some false)) = some r := H
     have A35 := Aside0.mk A350
     clear A350
     by_cases c36 : ((t404 == 0) == (t422 == 0)) = true
     ·rw [if_pos c36] at H
      have c36b0 : ((t404 == 0) == (t422 == 0)) = true := c36
      (try (have c36b1 : decide ((t404 == 0) = (t422 == 0)) = true := by simpa using c36))
      (try (have c36b2 : ((t404 == 0) == (t422 == 0)) = true := by simpa using c36))
      clear c36
      by_cases c37 : t404 = 0
      ·rw [if_pos c37] at H
       have c37b0 : (t404 == 0) = true := beq_iff_eq.mpr c37
       have c37b1 : (t404 != 0) = false := bne_eq_false_iff_eq.mpr c37
       have c422b0 : (t422 == 0) = true := by
        rw [c37b0] at c36b0
        simpa using c36b0
       have c422b1 : (t422 != 0) = false := by rw [bne, c422b0]; rfl
       clear c36b0; clear c37
       replace H := Option.bind_eq_some_iff.mp H
       obtain ⟨t424, A380, H⟩ := H
       replace H : (if t424 = true then ((thatchlaw07_lives.f k2).bind fun t425 => (some t425)) else (some false)) = some r := H
       have A38 := Aside0.mk A380
       clear A380
       by_cases c39 : t424 = true
       ·subst c39
        have H1 : ((thatchlaw07_lives.f k2).bind fun t425 => (some t425)) = some r := by rw [if_pos rfl] at H; exact H
        clear H
        have H := H1
        clear H1
        replace H := Option.bind_eq_some_iff.mp H
        obtain ⟨t425, A400, H⟩ := H
        replace H : (some t425) = some r := H
        have A40 := Aside0.mk A400
        clear A400
        obtain rfl := Option.some.inj H
        have hnb41 := NB389_405.out
        have hnc41 := NB405_389.out
        obtain ⟨hcz42_0, hcz42_1, hcz42_2, hcz42_3, hcz42_4, hcz42_5, hfz42_0, hfz42_1, hfz42_2, hfz42_3, hfz42_4, hfz42_5⟩ := zk6 BK389
        obtain ⟨Ao43, co43, eo43⟩ := Kd.R_slice HO_10.out
        subst eo43
        go_wp2_with (first | ((with_reducible refine gate_callee (f := 12) rfl ?_); refine goesL_ (some 60) rfl rfl Try.func12 (by kernel_rfl) rfl #[.agg #[.slice A0_0 l0_0.length c0_0, .slice A0_1 l0_1.length c0_1, .int .i64 a0_2, .int .i64 a0_3, .int .i64 a0_4, .slice A0_5 l0_5.length c0_5], .slice Ao43 x10_2.length co43] rfl za ?_; (with_reducible refine (thatchlaw07_all.calls k2 (fun k_ => k_ < w.heap.size) _ _ l0_0 (fun k_ => k_ < w.heap.size) _ _ l0_1 a0_2 a0_3 a0_4 (fun k_ => k_ < w.heap.size) _ _ l0_5 _ _ x10_2 t410 t413 t416 t417 t418 t419 t422 _ ?side1 ?side2 ?side3 ?side4 ?side5 A35.out).mono ?_); (case side1 => exact Kd.V_mk HC0_0.out (Kd.F_below (Kd.C_F k32_heap HR0_0.out) (zw HB))); (case side2 => exact Kd.V_mk HC0_1.out (Kd.F_below (Kd.C_F k55_heap HR0_1.out) (zw HB))); (case side3 => exact Kd.V_mk HC0_5.out (Kd.F_below (Kd.C_F k67_heap HR0_5.out) (zw HB))); (case side4 => exact zr (Kd.R_reads' HO_10.out).2.2); (case side5 => exact (Kd.R_reads' HO_10.out).2.1); rintro e w44 ⟨v411, v414, v420, rfl, ho0, ho1, ho2, hb⟩; refine ⟨_, rfl, ?_⟩; have n0_ := Aside0.mk (Kd.R_below (zt HO_10) hb); have n1_ := Aside0.mk (Kd.V_below (zT HO_406000) hb); have n2_ := Aside0.mk (Kd.V_below (zT HO_406001) hb); have n3_ := Aside0.mk (Kd.V_below (zT HO_406005) hb); have n4_ := Aside0.mk (Kd.V_lower (Kd.V_mono (ok' := fun k_ => some k_ ≠ (.slice Ao43 x10_2.length co43 : Value).ownBlock ∧ k_ ≠ gb389 ∧ k_ ≠ gb405) ho0 (fun k_ hk_ => ⟨Or.elim hk_ (fun hs_ => Or.elim hs_ (fun hs_ => fun e_ => Nat.not_le.2 hs_ (Kd.R_base HO_10.out k_ e_.symm)) (fun hs_ => Or.elim hs_ (fun hs_ => fun e_ => Nat.not_le.2 hs_ (Kd.R_base HO_10.out k_ e_.symm)) (fun hs_ => fun e_ => Nat.not_le.2 hs_ (Kd.R_base HO_10.out k_ e_.symm)))) (fun hn_ => (Kd.fresh' (Kd.R_lt (zt HO_10)) k_ hn_)), Or.elim hk_ (fun hs_ => Or.elim hs_ (fun hs_ => fun e_ => Nat.not_le.2 hs_ (by rw [e_]; exact GW389.out)) (fun hs_ => Or.elim hs_ (fun hs_ => fun e_ => Nat.not_le.2 hs_ (by rw [e_]; exact GW389.out)) (fun hs_ => fun e_ => Nat.not_le.2 hs_ (by rw [e_]; exact GW389.out)))) (fun hn_ => (Kd.freshB (g := gb389) (o := .cells #[.slice A0_0 l0_0.length c0_0, .slice A0_1 l0_1.length c0_1, .int .i64 a0_2, .int .i64 a0_3, .int .i64 a0_4, .slice A0_5 l0_5.length c0_5] 30 (0, 0)) (zb BK389) k_ hn_)), Or.elim hk_ (fun hs_ => Or.elim hs_ (fun hs_ => fun e_ => Nat.not_le.2 hs_ (by rw [e_]; exact GW405.out)) (fun hs_ => Or.elim hs_ (fun hs_ => fun e_ => Nat.not_le.2 hs_ (by rw [e_]; exact GW405.out)) (fun hs_ => fun e_ => Nat.not_le.2 hs_ (by rw [e_]; exact GW405.out)))) (fun hn_ => (Kd.freshB (g := gb405) (o := .cells #[.slice Ao23 t392.length co23, .slice Ao26 t395.length co26, .int .i64 t398, .int .i64 t399, .int .i64 t400, .slice Ao27 t401.length co27] 30 (0, 0)) (zb BK405) k_ hn_))⟩)) (below_size (zw HB))); have n5_ := Aside0.mk (Kd.V_lower (Kd.V_mono (ok' := fun k_ => some k_ ≠ (.slice Ao43 x10_2.length co43 : Value).ownBlock ∧ k_ ≠ gb389 ∧ k_ ≠ gb405) ho1 (fun k_ hk_ => ⟨Or.elim hk_ (fun hs_ => Or.elim hs_ (fun hs_ => fun e_ => Nat.not_le.2 hs_ (Kd.R_base HO_10.out k_ e_.symm)) (fun hs_ => Or.elim hs_ (fun hs_ => fun e_ => Nat.not_le.2 hs_ (Kd.R_base HO_10.out k_ e_.symm)) (fun hs_ => fun e_ => Nat.not_le.2 hs_ (Kd.R_base HO_10.out k_ e_.symm)))) (fun hn_ => (Kd.fresh' (Kd.R_lt (zt HO_10)) k_ hn_)), Or.elim hk_ (fun hs_ => Or.elim hs_ (fun hs_ => fun e_ => Nat.not_le.2 hs_ (by rw [e_]; exact GW389.out)) (fun hs_ => Or.elim hs_ (fun hs_ => fun e_ => Nat.not_le.2 hs_ (by rw [e_]; exact GW389.out)) (fun hs_ => fun e_ => Nat.not_le.2 hs_ (by rw [e_]; exact GW389.out)))) (fun hn_ => (Kd.freshB (g := gb389) (o := .cells #[.slice A0_0 l0_0.length c0_0, .slice A0_1 l0_1.length c0_1, .int .i64 a0_2, .int .i64 a0_3, .int .i64 a0_4, .slice A0_5 l0_5.length c0_5] 30 (0, 0)) (zb BK389) k_ hn_)), Or.elim hk_ (fun hs_ => Or.elim hs_ (fun hs_ => fun e_ => Nat.not_le.2 hs_ (by rw [e_]; exact GW405.out)) (fun hs_ => Or.elim hs_ (fun hs_ => fun e_ => Nat.not_le.2 hs_ (by rw [e_]; exact GW405.out)) (fun hs_ => fun e_ => Nat.not_le.2 hs_ (by rw [e_]; exact GW405.out)))) (fun hn_ => (Kd.freshB (g := gb405) (o := .cells #[.slice Ao23 t392.length co23, .slice Ao26 t395.length co26, .int .i64 t398, .int .i64 t399, .int .i64 t400, .slice Ao27 t401.length co27] 30 (0, 0)) (zb BK405) k_ hn_))⟩)) (below_size (zw HB))); have n6_ := Aside0.mk (Kd.V_lower (Kd.V_mono (ok' := fun k_ => some k_ ≠ (.slice Ao43 x10_2.length co43 : Value).ownBlock ∧ k_ ≠ gb389 ∧ k_ ≠ gb405) ho2 (fun k_ hk_ => ⟨Or.elim hk_ (fun hs_ => Or.elim hs_ (fun hs_ => fun e_ => Nat.not_le.2 hs_ (Kd.R_base HO_10.out k_ e_.symm)) (fun hs_ => Or.elim hs_ (fun hs_ => fun e_ => Nat.not_le.2 hs_ (Kd.R_base HO_10.out k_ e_.symm)) (fun hs_ => fun e_ => Nat.not_le.2 hs_ (Kd.R_base HO_10.out k_ e_.symm)))) (fun hn_ => (Kd.fresh' (Kd.R_lt (zt HO_10)) k_ hn_)), Or.elim hk_ (fun hs_ => Or.elim hs_ (fun hs_ => fun e_ => Nat.not_le.2 hs_ (by rw [e_]; exact GW389.out)) (fun hs_ => Or.elim hs_ (fun hs_ => fun e_ => Nat.not_le.2 hs_ (by rw [e_]; exact GW389.out)) (fun hs_ => fun e_ => Nat.not_le.2 hs_ (by rw [e_]; exact GW389.out)))) (fun hn_ => (Kd.freshB (g := gb389) (o := .cells #[.slice A0_0 l0_0.length c0_0, .slice A0_1 l0_1.length c0_1, .int .i64 a0_2, .int .i64 a0_3, .int .i64 a0_4, .slice A0_5 l0_5.length c0_5] 30 (0, 0)) (zb BK389) k_ hn_)), Or.elim hk_ (fun hs_ => Or.elim hs_ (fun hs_ => fun e_ => Nat.not_le.2 hs_ (by rw [e_]; exact GW405.out)) (fun hs_ => Or.elim hs_ (fun hs_ => fun e_ => Nat.not_le.2 hs_ (by rw [e_]; exact GW405.out)) (fun hs_ => fun e_ => Nat.not_le.2 hs_ (by rw [e_]; exact GW405.out)))) (fun hn_ => (Kd.freshB (g := gb405) (o := .cells #[.slice Ao23 t392.length co23, .slice Ao26 t395.length co26, .int .i64 t398, .int .i64 t399, .int .i64 t400, .slice Ao27 t401.length co27] 30 (0, 0)) (zb BK405) k_ hn_))⟩)) (below_size (zw HB))); have n7_ := zD BK389 hb; have n8_ := zD BK405 hb; have n9_ := zY HB hb; clear HO_10; clear HO_406000; clear HO_406001; clear HO_406005; clear BK389; clear BK405; clear HB; have HO_10 := n0_; have HO_406000 := n1_; have HO_406001 := n2_; have HO_406005 := n3_; have HO412 := n4_; have HO415 := n5_; have HO421 := n6_; have BK389 := n7_; have BK405 := n8_; have HB := n9_; clear n0_ n1_ n2_ n3_ n4_ n5_ n6_ n7_ n8_ n9_; (try clear hb); (try clear hb2); (try clear hk); (try clear hi); (try clear ho0); (try clear ho1); (try clear ho2)) | ((with_reducible refine gate_dst (N := 12) rfl ?_); (try (refine gate_guard (by rfl) ?_; dsimp only)); refine zx 12 #[.slice none 0 0, .slice none 0 0, .int .i64 0, .int .i64 0, .int .i64 0, .slice none 0 0] 30 ?_; intro gb423 hg w45 hbox hb; have n0_ := Aside0.mk (Kd.R_below (zt HO_10) hb); have n1_ := Aside0.mk (Kd.V_below (Kd.V_elderB (zT HO_406000) gb423 (Nat.le_of_eq hg.symm)) hb); have n2_ := Aside0.mk (Kd.V_below (Kd.V_elderB (zT HO_406001) gb423 (Nat.le_of_eq hg.symm)) hb); have n3_ := Aside0.mk (Kd.V_below (Kd.V_elderB (zT HO_406005) gb423 (Nat.le_of_eq hg.symm)) hb); have n4_ := Aside0.mk (Kd.V_below (Kd.V_elderB (zT HO412) gb423 (Nat.le_of_eq hg.symm)) hb); have n5_ := Aside0.mk (Kd.V_below (Kd.V_elderB (zT HO415) gb423 (Nat.le_of_eq hg.symm)) hb); have n6_ := Aside0.mk (Kd.V_below (Kd.V_elderB (zT HO421) gb423 (Nat.le_of_eq hg.symm)) hb); have n7_ := zD BK389 hb; have n8_ := zD BK405 hb; have n9_ := zY HB hb; have n10_ := Aside0.mk (hbox); have n11_ := zS hg HB; have n12_ := zS hg HB; have n13_ := zN hg BK389; have n14_ := zM hg BK389; have n15_ := zN hg BK405; have n16_ := zM hg BK405; clear HO_10; clear HO_406000; clear HO_406001; clear HO_406005; clear HO412; clear HO415; clear HO421; clear BK389; clear BK405; clear HB; have HO_10 := n0_; have HO_406000 := n1_; have HO_406001 := n2_; have HO_406005 := n3_; have HO412 := n4_; have HO415 := n5_; have HO421 := n6_; have BK389 := n7_; have BK405 := n8_; have HB := n9_; have BK423 := n10_; have GW423 := n11_; have GE423 := n12_; have NB389_423 := n13_; have NB423_389 := n14_; have NB405_423 := n15_; have NB423_405 := n16_; clear n0_ n1_ n2_ n3_ n4_ n5_ n6_ n7_ n8_ n9_ n10_ n11_ n12_ n13_ n14_ n15_ n16_; clear hb hbox hg; obtain ⟨Ao46, co46, eo46⟩ := Kd.V_slice HO412.out; subst eo46; have hnb47 := NB423_389.out; have hnc47 := NB389_423.out; have hnb48 := NB423_405.out; have hnc48 := NB405_423.out; obtain ⟨hcz49_0, hcz49_1, hcz49_2, hcz49_3, hcz49_4, hcz49_5, hfz49_0, hfz49_1, hfz49_2, hfz49_3, hfz49_4, hfz49_5⟩ := zk6 BK423; obtain ⟨Ao50, co50, eo50⟩ := Kd.V_slice HO415.out; subst eo50; obtain ⟨Ao51, co51, eo51⟩ := Kd.V_slice HO421.out; subst eo51; obtain ⟨hcz52_0, hcz52_1, hcz52_2, hcz52_3, hcz52_4, hcz52_5, hfz52_0, hfz52_1, hfz52_2, hfz52_3, hfz52_4, hfz52_5⟩ := zk6 BK405) | (go_at_call 11; (with_reducible refine (thatchref07_Same.calls k2 _ _ t392 _ _ t395 t398 t399 t400 _ _ t401 _ _ t410 _ _ t413 t416 t417 t418 _ _ t419 true _ ?side1 ?side2 ?side3 ?side4 ?side5 ?side6 ?side7 ?side8 ?side9 ?side10 ?side11 ?side12 A38.out).mono ?_); (case side1 => refine (Kd.V_reads' (e := 32) (base := w.heap.size) (ok := fun k_ => ((some k_ ≠ (.slice Ao43 x10_2.length co43 : Value).ownBlock ∧ (k_ ≠ gb389 ∧ k_ ≠ gb405)) ∧ k_ ≠ gb423)) (n := t392.length) (c := co23) ?_).2.2; exact (by (with_reducible repeat (first | apply Kd.V_alloc | apply Kd.V_drewN | apply Kd.V_drew)); exact (Kd.V_mono (Kd.V_far (p := ⟨gb423, 5, none⟩) (Kd.V_far (p := ⟨gb423, 4, none⟩) (Kd.V_far (p := ⟨gb423, 3, none⟩) (Kd.V_far (p := ⟨gb423, 2, none⟩) (Kd.V_far (p := ⟨gb423, 1, none⟩) (Kd.V_far (p := ⟨gb423, 0, none⟩) (Kd.V_mono HO_406000.out (fun k_ hk => (⟨hk, hk.2⟩ : _ ∧ k_ ≠ gb423))) (fun _ hk => hk.2) (.slice Ao46 t410.length co46)) (fun _ hk => hk.2) (.slice Ao50 t413.length co50)) (fun _ hk => hk.2) (.int .i64 t416)) (fun _ hk => hk.2) (.int .i64 t417)) (fun _ hk => hk.2) (.int .i64 t418)) (fun _ hk => hk.2) (.slice Ao51 t419.length co51)) (fun _ h_ => h_.1)))); (case side2 => exact (Kd.V_reads' HO_406000.out).2.1); (case side3 => refine (Kd.V_reads' (e := 55) (base := w.heap.size) (ok := fun k_ => ((some k_ ≠ (.slice Ao43 x10_2.length co43 : Value).ownBlock ∧ (k_ ≠ gb389 ∧ k_ ≠ gb405)) ∧ k_ ≠ gb423)) (n := t395.length) (c := co26) ?_).2.2; exact (by (with_reducible repeat (first | apply Kd.V_alloc | apply Kd.V_drewN | apply Kd.V_drew)); exact (Kd.V_mono (Kd.V_far (p := ⟨gb423, 5, none⟩) (Kd.V_far (p := ⟨gb423, 4, none⟩) (Kd.V_far (p := ⟨gb423, 3, none⟩) (Kd.V_far (p := ⟨gb423, 2, none⟩) (Kd.V_far (p := ⟨gb423, 1, none⟩) (Kd.V_far (p := ⟨gb423, 0, none⟩) (Kd.V_mono HO_406001.out (fun k_ hk => (⟨hk, hk.2⟩ : _ ∧ k_ ≠ gb423))) (fun _ hk => hk.2) (.slice Ao46 t410.length co46)) (fun _ hk => hk.2) (.slice Ao50 t413.length co50)) (fun _ hk => hk.2) (.int .i64 t416)) (fun _ hk => hk.2) (.int .i64 t417)) (fun _ hk => hk.2) (.int .i64 t418)) (fun _ hk => hk.2) (.slice Ao51 t419.length co51)) (fun _ h_ => h_.1)))); (case side4 => exact (Kd.V_reads' HO_406001.out).2.1); (case side5 => refine (Kd.V_reads' (e := 67) (base := w.heap.size) (ok := fun k_ => ((some k_ ≠ (.slice Ao43 x10_2.length co43 : Value).ownBlock ∧ (k_ ≠ gb389 ∧ k_ ≠ gb405)) ∧ k_ ≠ gb423)) (n := t401.length) (c := co27) ?_).2.2; exact (by (with_reducible repeat (first | apply Kd.V_alloc | apply Kd.V_drewN | apply Kd.V_drew)); exact (Kd.V_mono (Kd.V_far (p := ⟨gb423, 5, none⟩) (Kd.V_far (p := ⟨gb423, 4, none⟩) (Kd.V_far (p := ⟨gb423, 3, none⟩) (Kd.V_far (p := ⟨gb423, 2, none⟩) (Kd.V_far (p := ⟨gb423, 1, none⟩) (Kd.V_far (p := ⟨gb423, 0, none⟩) (Kd.V_mono HO_406005.out (fun k_ hk => (⟨hk, hk.2⟩ : _ ∧ k_ ≠ gb423))) (fun _ hk => hk.2) (.slice Ao46 t410.length co46)) (fun _ hk => hk.2) (.slice Ao50 t413.length co50)) (fun _ hk => hk.2) (.int .i64 t416)) (fun _ hk => hk.2) (.int .i64 t417)) (fun _ hk => hk.2) (.int .i64 t418)) (fun _ hk => hk.2) (.slice Ao51 t419.length co51)) (fun _ h_ => h_.1)))); (case side6 => exact (Kd.V_reads' HO_406005.out).2.1); (case side7 => refine (Kd.V_reads' (e := 32) (base := w.heap.size) (ok := fun k_ => ((some k_ ≠ (.slice Ao43 x10_2.length co43 : Value).ownBlock ∧ (k_ ≠ gb389 ∧ k_ ≠ gb405)) ∧ k_ ≠ gb423)) (n := t410.length) (c := co46) ?_).2.2; exact (by (with_reducible repeat (first | apply Kd.V_alloc | apply Kd.V_drewN | apply Kd.V_drew)); exact (Kd.V_mono (Kd.V_far (p := ⟨gb423, 5, none⟩) (Kd.V_far (p := ⟨gb423, 4, none⟩) (Kd.V_far (p := ⟨gb423, 3, none⟩) (Kd.V_far (p := ⟨gb423, 2, none⟩) (Kd.V_far (p := ⟨gb423, 1, none⟩) (Kd.V_far (p := ⟨gb423, 0, none⟩) (Kd.V_mono HO412.out (fun k_ hk => (⟨hk, hk.2⟩ : _ ∧ k_ ≠ gb423))) (fun _ hk => hk.2) (.slice Ao46 t410.length co46)) (fun _ hk => hk.2) (.slice Ao50 t413.length co50)) (fun _ hk => hk.2) (.int .i64 t416)) (fun _ hk => hk.2) (.int .i64 t417)) (fun _ hk => hk.2) (.int .i64 t418)) (fun _ hk => hk.2) (.slice Ao51 t419.length co51)) (fun _ h_ => h_.1)))); (case side8 => exact (Kd.V_reads' HO412.out).2.1); (case side9 => refine (Kd.V_reads' (e := 55) (base := w.heap.size) (ok := fun k_ => ((some k_ ≠ (.slice Ao43 x10_2.length co43 : Value).ownBlock ∧ (k_ ≠ gb389 ∧ k_ ≠ gb405)) ∧ k_ ≠ gb423)) (n := t413.length) (c := co50) ?_).2.2; exact (by (with_reducible repeat (first | apply Kd.V_alloc | apply Kd.V_drewN | apply Kd.V_drew)); exact (Kd.V_mono (Kd.V_far (p := ⟨gb423, 5, none⟩) (Kd.V_far (p := ⟨gb423, 4, none⟩) (Kd.V_far (p := ⟨gb423, 3, none⟩) (Kd.V_far (p := ⟨gb423, 2, none⟩) (Kd.V_far (p := ⟨gb423, 1, none⟩) (Kd.V_far (p := ⟨gb423, 0, none⟩) (Kd.V_mono HO415.out (fun k_ hk => (⟨hk, hk.2⟩ : _ ∧ k_ ≠ gb423))) (fun _ hk => hk.2) (.slice Ao46 t410.length co46)) (fun _ hk => hk.2) (.slice Ao50 t413.length co50)) (fun _ hk => hk.2) (.int .i64 t416)) (fun _ hk => hk.2) (.int .i64 t417)) (fun _ hk => hk.2) (.int .i64 t418)) (fun _ hk => hk.2) (.slice Ao51 t419.length co51)) (fun _ h_ => h_.1)))); (case side10 => exact (Kd.V_reads' HO415.out).2.1); (case side11 => refine (Kd.V_reads' (e := 67) (base := w.heap.size) (ok := fun k_ => ((some k_ ≠ (.slice Ao43 x10_2.length co43 : Value).ownBlock ∧ (k_ ≠ gb389 ∧ k_ ≠ gb405)) ∧ k_ ≠ gb423)) (n := t419.length) (c := co51) ?_).2.2; exact (by (with_reducible repeat (first | apply Kd.V_alloc | apply Kd.V_drewN | apply Kd.V_drew)); exact (Kd.V_mono (Kd.V_far (p := ⟨gb423, 5, none⟩) (Kd.V_far (p := ⟨gb423, 4, none⟩) (Kd.V_far (p := ⟨gb423, 3, none⟩) (Kd.V_far (p := ⟨gb423, 2, none⟩) (Kd.V_far (p := ⟨gb423, 1, none⟩) (Kd.V_far (p := ⟨gb423, 0, none⟩) (Kd.V_mono HO421.out (fun k_ hk => (⟨hk, hk.2⟩ : _ ∧ k_ ≠ gb423))) (fun _ hk => hk.2) (.slice Ao46 t410.length co46)) (fun _ hk => hk.2) (.slice Ao50 t413.length co50)) (fun _ hk => hk.2) (.int .i64 t416)) (fun _ hk => hk.2) (.int .i64 t417)) (fun _ hk => hk.2) (.int .i64 t418)) (fun _ hk => hk.2) (.slice Ao51 t419.length co51)) (fun _ h_ => h_.1)))); (case side12 => exact (Kd.V_reads' HO421.out).2.1); rintro e w53 ⟨rfl, hb⟩; have n0_ := Aside0.mk (Kd.R_below (by (with_reducible repeat (first | apply Kd.R_alloc | apply Kd.R_drewN | apply Kd.R_drew)); exact (Kd.R_mono (Kd.R_far (p := ⟨gb423, 5, none⟩) (Kd.R_far (p := ⟨gb423, 4, none⟩) (Kd.R_far (p := ⟨gb423, 3, none⟩) (Kd.R_far (p := ⟨gb423, 2, none⟩) (Kd.R_far (p := ⟨gb423, 1, none⟩) (Kd.R_far (p := ⟨gb423, 0, none⟩) (Kd.R_types HO_10.out BK423.out (by decide)) (fun _ hk => hk.2) (.slice Ao46 t410.length co46)) (fun _ hk => hk.2) (.slice Ao50 t413.length co50)) (fun _ hk => hk.2) (.int .i64 t416)) (fun _ hk => hk.2) (.int .i64 t417)) (fun _ hk => hk.2) (.int .i64 t418)) (fun _ hk => hk.2) (.slice Ao51 t419.length co51)) (fun _ h_ => h_.1))) hb); have n1_ := Aside0.mk (Kd.V_below (by (with_reducible repeat (first | apply Kd.V_alloc | apply Kd.V_drewN | apply Kd.V_drew)); exact (Kd.V_mono (Kd.V_far (p := ⟨gb423, 5, none⟩) (Kd.V_far (p := ⟨gb423, 4, none⟩) (Kd.V_far (p := ⟨gb423, 3, none⟩) (Kd.V_far (p := ⟨gb423, 2, none⟩) (Kd.V_far (p := ⟨gb423, 1, none⟩) (Kd.V_far (p := ⟨gb423, 0, none⟩) (Kd.V_mono HO_406000.out (fun k_ hk => (⟨hk, hk.2⟩ : _ ∧ k_ ≠ gb423))) (fun _ hk => hk.2) (.slice Ao46 t410.length co46)) (fun _ hk => hk.2) (.slice Ao50 t413.length co50)) (fun _ hk => hk.2) (.int .i64 t416)) (fun _ hk => hk.2) (.int .i64 t417)) (fun _ hk => hk.2) (.int .i64 t418)) (fun _ hk => hk.2) (.slice Ao51 t419.length co51)) (fun _ h_ => h_.1))) hb); have n2_ := Aside0.mk (Kd.V_below (by (with_reducible repeat (first | apply Kd.V_alloc | apply Kd.V_drewN | apply Kd.V_drew)); exact (Kd.V_mono (Kd.V_far (p := ⟨gb423, 5, none⟩) (Kd.V_far (p := ⟨gb423, 4, none⟩) (Kd.V_far (p := ⟨gb423, 3, none⟩) (Kd.V_far (p := ⟨gb423, 2, none⟩) (Kd.V_far (p := ⟨gb423, 1, none⟩) (Kd.V_far (p := ⟨gb423, 0, none⟩) (Kd.V_mono HO_406001.out (fun k_ hk => (⟨hk, hk.2⟩ : _ ∧ k_ ≠ gb423))) (fun _ hk => hk.2) (.slice Ao46 t410.length co46)) (fun _ hk => hk.2) (.slice Ao50 t413.length co50)) (fun _ hk => hk.2) (.int .i64 t416)) (fun _ hk => hk.2) (.int .i64 t417)) (fun _ hk => hk.2) (.int .i64 t418)) (fun _ hk => hk.2) (.slice Ao51 t419.length co51)) (fun _ h_ => h_.1))) hb); have n3_ := Aside0.mk (Kd.V_below (by (with_reducible repeat (first | apply Kd.V_alloc | apply Kd.V_drewN | apply Kd.V_drew)); exact (Kd.V_mono (Kd.V_far (p := ⟨gb423, 5, none⟩) (Kd.V_far (p := ⟨gb423, 4, none⟩) (Kd.V_far (p := ⟨gb423, 3, none⟩) (Kd.V_far (p := ⟨gb423, 2, none⟩) (Kd.V_far (p := ⟨gb423, 1, none⟩) (Kd.V_far (p := ⟨gb423, 0, none⟩) (Kd.V_mono HO_406005.out (fun k_ hk => (⟨hk, hk.2⟩ : _ ∧ k_ ≠ gb423))) (fun _ hk => hk.2) (.slice Ao46 t410.length co46)) (fun _ hk => hk.2) (.slice Ao50 t413.length co50)) (fun _ hk => hk.2) (.int .i64 t416)) (fun _ hk => hk.2) (.int .i64 t417)) (fun _ hk => hk.2) (.int .i64 t418)) (fun _ hk => hk.2) (.slice Ao51 t419.length co51)) (fun _ h_ => h_.1))) hb); have n4_ := Aside0.mk (Kd.V_below (by (with_reducible repeat (first | apply Kd.V_alloc | apply Kd.V_drewN | apply Kd.V_drew)); exact (Kd.V_mono (Kd.V_far (p := ⟨gb423, 5, none⟩) (Kd.V_far (p := ⟨gb423, 4, none⟩) (Kd.V_far (p := ⟨gb423, 3, none⟩) (Kd.V_far (p := ⟨gb423, 2, none⟩) (Kd.V_far (p := ⟨gb423, 1, none⟩) (Kd.V_far (p := ⟨gb423, 0, none⟩) (Kd.V_mono HO412.out (fun k_ hk => (⟨hk, hk.2⟩ : _ ∧ k_ ≠ gb423))) (fun _ hk => hk.2) (.slice Ao46 t410.length co46)) (fun _ hk => hk.2) (.slice Ao50 t413.length co50)) (fun _ hk => hk.2) (.int .i64 t416)) (fun _ hk => hk.2) (.int .i64 t417)) (fun _ hk => hk.2) (.int .i64 t418)) (fun _ hk => hk.2) (.slice Ao51 t419.length co51)) (fun _ h_ => h_.1))) hb); have n5_ := Aside0.mk (Kd.V_below (by (with_reducible repeat (first | apply Kd.V_alloc | apply Kd.V_drewN | apply Kd.V_drew)); exact (Kd.V_mono (Kd.V_far (p := ⟨gb423, 5, none⟩) (Kd.V_far (p := ⟨gb423, 4, none⟩) (Kd.V_far (p := ⟨gb423, 3, none⟩) (Kd.V_far (p := ⟨gb423, 2, none⟩) (Kd.V_far (p := ⟨gb423, 1, none⟩) (Kd.V_far (p := ⟨gb423, 0, none⟩) (Kd.V_mono HO415.out (fun k_ hk => (⟨hk, hk.2⟩ : _ ∧ k_ ≠ gb423))) (fun _ hk => hk.2) (.slice Ao46 t410.length co46)) (fun _ hk => hk.2) (.slice Ao50 t413.length co50)) (fun _ hk => hk.2) (.int .i64 t416)) (fun _ hk => hk.2) (.int .i64 t417)) (fun _ hk => hk.2) (.int .i64 t418)) (fun _ hk => hk.2) (.slice Ao51 t419.length co51)) (fun _ h_ => h_.1))) hb); have n6_ := Aside0.mk (Kd.V_below (by (with_reducible repeat (first | apply Kd.V_alloc | apply Kd.V_drewN | apply Kd.V_drew)); exact (Kd.V_mono (Kd.V_far (p := ⟨gb423, 5, none⟩) (Kd.V_far (p := ⟨gb423, 4, none⟩) (Kd.V_far (p := ⟨gb423, 3, none⟩) (Kd.V_far (p := ⟨gb423, 2, none⟩) (Kd.V_far (p := ⟨gb423, 1, none⟩) (Kd.V_far (p := ⟨gb423, 0, none⟩) (Kd.V_mono HO421.out (fun k_ hk => (⟨hk, hk.2⟩ : _ ∧ k_ ≠ gb423))) (fun _ hk => hk.2) (.slice Ao46 t410.length co46)) (fun _ hk => hk.2) (.slice Ao50 t413.length co50)) (fun _ hk => hk.2) (.int .i64 t416)) (fun _ hk => hk.2) (.int .i64 t417)) (fun _ hk => hk.2) (.int .i64 t418)) (fun _ hk => hk.2) (.slice Ao51 t419.length co51)) (fun _ h_ => h_.1))) hb); have n7_ := Aside0.mk (blk_below (g := gb389) (o := .cells #[.slice A0_0 l0_0.length c0_0, .slice A0_1 l0_1.length c0_1, .int .i64 a0_2, .int .i64 a0_3, .int .i64 a0_4, .slice A0_5 l0_5.length c0_5] 30 (0, 0)) (zv BK389) hb); have n8_ := Aside0.mk (blk_below (g := gb405) (o := .cells #[.slice Ao23 t392.length co23, .slice Ao26 t395.length co26, .int .i64 t398, .int .i64 t399, .int .i64 t400, .slice Ao27 t401.length co27] 30 (0, 0)) (zv BK405) hb); have n9_ := Aside0.mk (blk_below (g := gb423) (o := .cells #[.slice Ao46 t410.length co46, .slice Ao50 t413.length co50, .int .i64 t416, .int .i64 t417, .int .i64 t418, .slice Ao51 t419.length co51] 30 (0, 0)) (by (with_reducible repeat (first | refine blk_drewN ?_ _ | refine blk_drew ?_ | refine blk_alloc ?_ _)); refine blk_put (cs := #[.slice Ao46 t410.length co46, .slice Ao50 t413.length co50, .int .i64 t416, .int .i64 t417, .int .i64 t418, .slice none 0 0]) ?_ 5 _ rfl; (with_reducible repeat (first | refine blk_drewN ?_ _ | refine blk_drew ?_ | refine blk_alloc ?_ _)); refine blk_put (cs := #[.slice Ao46 t410.length co46, .slice Ao50 t413.length co50, .int .i64 t416, .int .i64 t417, .int .i64 0, .slice none 0 0]) ?_ 4 _ rfl; (with_reducible repeat (first | refine blk_drewN ?_ _ | refine blk_drew ?_ | refine blk_alloc ?_ _)); refine blk_put (cs := #[.slice Ao46 t410.length co46, .slice Ao50 t413.length co50, .int .i64 t416, .int .i64 0, .int .i64 0, .slice none 0 0]) ?_ 3 _ rfl; (with_reducible repeat (first | refine blk_drewN ?_ _ | refine blk_drew ?_ | refine blk_alloc ?_ _)); refine blk_put (cs := #[.slice Ao46 t410.length co46, .slice Ao50 t413.length co50, .int .i64 0, .int .i64 0, .int .i64 0, .slice none 0 0]) ?_ 2 _ rfl; (with_reducible repeat (first | refine blk_drewN ?_ _ | refine blk_drew ?_ | refine blk_alloc ?_ _)); refine blk_put (cs := #[.slice Ao46 t410.length co46, .slice none 0 0, .int .i64 0, .int .i64 0, .int .i64 0, .slice none 0 0]) ?_ 1 _ rfl; (with_reducible repeat (first | refine blk_drewN ?_ _ | refine blk_drew ?_ | refine blk_alloc ?_ _)); refine blk_put (cs := #[.slice none 0 0, .slice none 0 0, .int .i64 0, .int .i64 0, .int .i64 0, .slice none 0 0]) ?_ 0 _ rfl; (with_reducible repeat (first | refine blk_drewN ?_ _ | refine blk_drew ?_ | refine blk_alloc ?_ _)); exact BK423.out) hb); have n10_ := zY HB hb; clear HO_10; clear HO_406000; clear HO_406001; clear HO_406005; clear HO412; clear HO415; clear HO421; clear BK389; clear BK405; clear BK423; clear HB; have HO_10 := n0_; have HO_406000 := n1_; have HO_406001 := n2_; have HO_406005 := n3_; have HO412 := n4_; have HO415 := n5_; have HO421 := n6_; have BK389 := n7_; have BK405 := n8_; have BK423 := n9_; have HB := n10_; clear n0_ n1_ n2_ n3_ n4_ n5_ n6_ n7_ n8_ n9_ n10_; (try clear hb); (try clear hb2); (try clear hk); (try clear hi)) | (go_at_call 8; (with_reducible refine (thatchlaw07_lives.calls k2  t425 _ A40.out).mono ?_); rintro e w54 ⟨rfl, hb⟩; have n0_ := Aside0.mk (Kd.R_below (zt HO_10) hb); have n1_ := Aside0.mk (Kd.V_below (zT HO_406000) hb); have n2_ := Aside0.mk (Kd.V_below (zT HO_406001) hb); have n3_ := Aside0.mk (Kd.V_below (zT HO_406005) hb); have n4_ := Aside0.mk (Kd.V_below (zT HO412) hb); have n5_ := Aside0.mk (Kd.V_below (zT HO415) hb); have n6_ := Aside0.mk (Kd.V_below (zT HO421) hb); have n7_ := zD BK389 hb; have n8_ := zD BK405 hb; have n9_ := zD BK423 hb; have n10_ := zY HB hb; clear HO_10; clear HO_406000; clear HO_406001; clear HO_406005; clear HO412; clear HO415; clear HO421; clear BK389; clear BK405; clear BK423; clear HB; have HO_10 := n0_; have HO_406000 := n1_; have HO_406001 := n2_; have HO_406005 := n3_; have HO412 := n4_; have HO415 := n5_; have HO421 := n6_; have BK389 := n7_; have BK405 := n8_; have BK423 := n9_; have HB := n10_; clear n0_ n1_ n2_ n3_ n4_ n5_ n6_ n7_ n8_ n9_ n10_; (try clear hb); (try clear hb2); (try clear hk); (try clear hi)))
        go_ret
        exact ⟨ze, zw HB⟩
       replace c39 := Bool.eq_false_iff.mpr c39
       subst c39
       have H1 : (some false) = some r := by rw [if_neg (show ¬ (false = true) by decide)] at H; exact H
       clear H
       have H := H1
       clear H1
       obtain rfl := Option.some.inj H
       have hnb55 := NB389_405.out
       have hnc55 := NB405_389.out
       obtain ⟨hcz56_0, hcz56_1, hcz56_2, hcz56_3, hcz56_4, hcz56_5, hfz56_0, hfz56_1, hfz56_2, hfz56_3, hfz56_4, hfz56_5⟩ := zk6 BK389
       obtain ⟨Ao57, co57, eo57⟩ := Kd.R_slice HO_10.out
       subst eo57
       go_wp2_with (first | ((with_reducible refine gate_callee (f := 12) rfl ?_); refine goesL_ (some 60) rfl rfl Try.func12 (by kernel_rfl) rfl #[.agg #[.slice A0_0 l0_0.length c0_0, .slice A0_1 l0_1.length c0_1, .int .i64 a0_2, .int .i64 a0_3, .int .i64 a0_4, .slice A0_5 l0_5.length c0_5], .slice Ao57 x10_2.length co57] rfl za ?_; (with_reducible refine (thatchlaw07_all.calls k2 (fun k_ => k_ < w.heap.size) _ _ l0_0 (fun k_ => k_ < w.heap.size) _ _ l0_1 a0_2 a0_3 a0_4 (fun k_ => k_ < w.heap.size) _ _ l0_5 _ _ x10_2 t410 t413 t416 t417 t418 t419 t422 _ ?side1 ?side2 ?side3 ?side4 ?side5 A35.out).mono ?_); (case side1 => exact Kd.V_mk HC0_0.out (Kd.F_below (Kd.C_F k32_heap HR0_0.out) (zw HB))); (case side2 => exact Kd.V_mk HC0_1.out (Kd.F_below (Kd.C_F k55_heap HR0_1.out) (zw HB))); (case side3 => exact Kd.V_mk HC0_5.out (Kd.F_below (Kd.C_F k67_heap HR0_5.out) (zw HB))); (case side4 => exact zr (Kd.R_reads' HO_10.out).2.2); (case side5 => exact (Kd.R_reads' HO_10.out).2.1); rintro e w58 ⟨v411, v414, v420, rfl, ho0, ho1, ho2, hb⟩; refine ⟨_, rfl, ?_⟩; have n0_ := Aside0.mk (Kd.R_below (zt HO_10) hb); have n1_ := Aside0.mk (Kd.V_below (zT HO_406000) hb); have n2_ := Aside0.mk (Kd.V_below (zT HO_406001) hb); have n3_ := Aside0.mk (Kd.V_below (zT HO_406005) hb); have n4_ := Aside0.mk (Kd.V_lower (Kd.V_mono (ok' := fun k_ => some k_ ≠ (.slice Ao57 x10_2.length co57 : Value).ownBlock ∧ k_ ≠ gb389 ∧ k_ ≠ gb405) ho0 (fun k_ hk_ => ⟨Or.elim hk_ (fun hs_ => Or.elim hs_ (fun hs_ => fun e_ => Nat.not_le.2 hs_ (Kd.R_base HO_10.out k_ e_.symm)) (fun hs_ => Or.elim hs_ (fun hs_ => fun e_ => Nat.not_le.2 hs_ (Kd.R_base HO_10.out k_ e_.symm)) (fun hs_ => fun e_ => Nat.not_le.2 hs_ (Kd.R_base HO_10.out k_ e_.symm)))) (fun hn_ => (Kd.fresh' (Kd.R_lt (zt HO_10)) k_ hn_)), Or.elim hk_ (fun hs_ => Or.elim hs_ (fun hs_ => fun e_ => Nat.not_le.2 hs_ (by rw [e_]; exact GW389.out)) (fun hs_ => Or.elim hs_ (fun hs_ => fun e_ => Nat.not_le.2 hs_ (by rw [e_]; exact GW389.out)) (fun hs_ => fun e_ => Nat.not_le.2 hs_ (by rw [e_]; exact GW389.out)))) (fun hn_ => (Kd.freshB (g := gb389) (o := .cells #[.slice A0_0 l0_0.length c0_0, .slice A0_1 l0_1.length c0_1, .int .i64 a0_2, .int .i64 a0_3, .int .i64 a0_4, .slice A0_5 l0_5.length c0_5] 30 (0, 0)) (zb BK389) k_ hn_)), Or.elim hk_ (fun hs_ => Or.elim hs_ (fun hs_ => fun e_ => Nat.not_le.2 hs_ (by rw [e_]; exact GW405.out)) (fun hs_ => Or.elim hs_ (fun hs_ => fun e_ => Nat.not_le.2 hs_ (by rw [e_]; exact GW405.out)) (fun hs_ => fun e_ => Nat.not_le.2 hs_ (by rw [e_]; exact GW405.out)))) (fun hn_ => (Kd.freshB (g := gb405) (o := .cells #[.slice Ao23 t392.length co23, .slice Ao26 t395.length co26, .int .i64 t398, .int .i64 t399, .int .i64 t400, .slice Ao27 t401.length co27] 30 (0, 0)) (zb BK405) k_ hn_))⟩)) (below_size (zw HB))); have n5_ := Aside0.mk (Kd.V_lower (Kd.V_mono (ok' := fun k_ => some k_ ≠ (.slice Ao57 x10_2.length co57 : Value).ownBlock ∧ k_ ≠ gb389 ∧ k_ ≠ gb405) ho1 (fun k_ hk_ => ⟨Or.elim hk_ (fun hs_ => Or.elim hs_ (fun hs_ => fun e_ => Nat.not_le.2 hs_ (Kd.R_base HO_10.out k_ e_.symm)) (fun hs_ => Or.elim hs_ (fun hs_ => fun e_ => Nat.not_le.2 hs_ (Kd.R_base HO_10.out k_ e_.symm)) (fun hs_ => fun e_ => Nat.not_le.2 hs_ (Kd.R_base HO_10.out k_ e_.symm)))) (fun hn_ => (Kd.fresh' (Kd.R_lt (zt HO_10)) k_ hn_)), Or.elim hk_ (fun hs_ => Or.elim hs_ (fun hs_ => fun e_ => Nat.not_le.2 hs_ (by rw [e_]; exact GW389.out)) (fun hs_ => Or.elim hs_ (fun hs_ => fun e_ => Nat.not_le.2 hs_ (by rw [e_]; exact GW389.out)) (fun hs_ => fun e_ => Nat.not_le.2 hs_ (by rw [e_]; exact GW389.out)))) (fun hn_ => (Kd.freshB (g := gb389) (o := .cells #[.slice A0_0 l0_0.length c0_0, .slice A0_1 l0_1.length c0_1, .int .i64 a0_2, .int .i64 a0_3, .int .i64 a0_4, .slice A0_5 l0_5.length c0_5] 30 (0, 0)) (zb BK389) k_ hn_)), Or.elim hk_ (fun hs_ => Or.elim hs_ (fun hs_ => fun e_ => Nat.not_le.2 hs_ (by rw [e_]; exact GW405.out)) (fun hs_ => Or.elim hs_ (fun hs_ => fun e_ => Nat.not_le.2 hs_ (by rw [e_]; exact GW405.out)) (fun hs_ => fun e_ => Nat.not_le.2 hs_ (by rw [e_]; exact GW405.out)))) (fun hn_ => (Kd.freshB (g := gb405) (o := .cells #[.slice Ao23 t392.length co23, .slice Ao26 t395.length co26, .int .i64 t398, .int .i64 t399, .int .i64 t400, .slice Ao27 t401.length co27] 30 (0, 0)) (zb BK405) k_ hn_))⟩)) (below_size (zw HB))); have n6_ := Aside0.mk (Kd.V_lower (Kd.V_mono (ok' := fun k_ => some k_ ≠ (.slice Ao57 x10_2.length co57 : Value).ownBlock ∧ k_ ≠ gb389 ∧ k_ ≠ gb405) ho2 (fun k_ hk_ => ⟨Or.elim hk_ (fun hs_ => Or.elim hs_ (fun hs_ => fun e_ => Nat.not_le.2 hs_ (Kd.R_base HO_10.out k_ e_.symm)) (fun hs_ => Or.elim hs_ (fun hs_ => fun e_ => Nat.not_le.2 hs_ (Kd.R_base HO_10.out k_ e_.symm)) (fun hs_ => fun e_ => Nat.not_le.2 hs_ (Kd.R_base HO_10.out k_ e_.symm)))) (fun hn_ => (Kd.fresh' (Kd.R_lt (zt HO_10)) k_ hn_)), Or.elim hk_ (fun hs_ => Or.elim hs_ (fun hs_ => fun e_ => Nat.not_le.2 hs_ (by rw [e_]; exact GW389.out)) (fun hs_ => Or.elim hs_ (fun hs_ => fun e_ => Nat.not_le.2 hs_ (by rw [e_]; exact GW389.out)) (fun hs_ => fun e_ => Nat.not_le.2 hs_ (by rw [e_]; exact GW389.out)))) (fun hn_ => (Kd.freshB (g := gb389) (o := .cells #[.slice A0_0 l0_0.length c0_0, .slice A0_1 l0_1.length c0_1, .int .i64 a0_2, .int .i64 a0_3, .int .i64 a0_4, .slice A0_5 l0_5.length c0_5] 30 (0, 0)) (zb BK389) k_ hn_)), Or.elim hk_ (fun hs_ => Or.elim hs_ (fun hs_ => fun e_ => Nat.not_le.2 hs_ (by rw [e_]; exact GW405.out)) (fun hs_ => Or.elim hs_ (fun hs_ => fun e_ => Nat.not_le.2 hs_ (by rw [e_]; exact GW405.out)) (fun hs_ => fun e_ => Nat.not_le.2 hs_ (by rw [e_]; exact GW405.out)))) (fun hn_ => (Kd.freshB (g := gb405) (o := .cells #[.slice Ao23 t392.length co23, .slice Ao26 t395.length co26, .int .i64 t398, .int .i64 t399, .int .i64 t400, .slice Ao27 t401.length co27] 30 (0, 0)) (zb BK405) k_ hn_))⟩)) (below_size (zw HB))); have n7_ := zD BK389 hb; have n8_ := zD BK405 hb; have n9_ := zY HB hb; clear HO_10; clear HO_406000; clear HO_406001; clear HO_406005; clear BK389; clear BK405; clear HB; have HO_10 := n0_; have HO_406000 := n1_; have HO_406001 := n2_; have HO_406005 := n3_; have HO412 := n4_; have HO415 := n5_; have HO421 := n6_; have BK389 := n7_; have BK405 := n8_; have HB := n9_; clear n0_ n1_ n2_ n3_ n4_ n5_ n6_ n7_ n8_ n9_; (try clear hb); (try clear hb2); (try clear hk); (try clear hi); (try clear ho0); (try clear ho1); (try clear ho2)) | ((with_reducible refine gate_dst (N := 12) rfl ?_); (try (refine gate_guard (by rfl) ?_; dsimp only)); refine zx 12 #[.slice none 0 0, .slice none 0 0, .int .i64 0, .int .i64 0, .int .i64 0, .slice none 0 0] 30 ?_; intro gb423 hg w59 hbox hb; have n0_ := Aside0.mk (Kd.R_below (zt HO_10) hb); have n1_ := Aside0.mk (Kd.V_below (Kd.V_elderB (zT HO_406000) gb423 (Nat.le_of_eq hg.symm)) hb); have n2_ := Aside0.mk (Kd.V_below (Kd.V_elderB (zT HO_406001) gb423 (Nat.le_of_eq hg.symm)) hb); have n3_ := Aside0.mk (Kd.V_below (Kd.V_elderB (zT HO_406005) gb423 (Nat.le_of_eq hg.symm)) hb); have n4_ := Aside0.mk (Kd.V_below (Kd.V_elderB (zT HO412) gb423 (Nat.le_of_eq hg.symm)) hb); have n5_ := Aside0.mk (Kd.V_below (Kd.V_elderB (zT HO415) gb423 (Nat.le_of_eq hg.symm)) hb); have n6_ := Aside0.mk (Kd.V_below (Kd.V_elderB (zT HO421) gb423 (Nat.le_of_eq hg.symm)) hb); have n7_ := zD BK389 hb; have n8_ := zD BK405 hb; have n9_ := zY HB hb; have n10_ := Aside0.mk (hbox); have n11_ := zS hg HB; have n12_ := zS hg HB; have n13_ := zN hg BK389; have n14_ := zM hg BK389; have n15_ := zN hg BK405; have n16_ := zM hg BK405; clear HO_10; clear HO_406000; clear HO_406001; clear HO_406005; clear HO412; clear HO415; clear HO421; clear BK389; clear BK405; clear HB; have HO_10 := n0_; have HO_406000 := n1_; have HO_406001 := n2_; have HO_406005 := n3_; have HO412 := n4_; have HO415 := n5_; have HO421 := n6_; have BK389 := n7_; have BK405 := n8_; have HB := n9_; have BK423 := n10_; have GW423 := n11_; have GE423 := n12_; have NB389_423 := n13_; have NB423_389 := n14_; have NB405_423 := n15_; have NB423_405 := n16_; clear n0_ n1_ n2_ n3_ n4_ n5_ n6_ n7_ n8_ n9_ n10_ n11_ n12_ n13_ n14_ n15_ n16_; clear hb hbox hg; obtain ⟨Ao60, co60, eo60⟩ := Kd.V_slice HO412.out; subst eo60; have hnb61 := NB423_389.out; have hnc61 := NB389_423.out; have hnb62 := NB423_405.out; have hnc62 := NB405_423.out; obtain ⟨hcz63_0, hcz63_1, hcz63_2, hcz63_3, hcz63_4, hcz63_5, hfz63_0, hfz63_1, hfz63_2, hfz63_3, hfz63_4, hfz63_5⟩ := zk6 BK423; obtain ⟨Ao64, co64, eo64⟩ := Kd.V_slice HO415.out; subst eo64; obtain ⟨Ao65, co65, eo65⟩ := Kd.V_slice HO421.out; subst eo65; obtain ⟨hcz66_0, hcz66_1, hcz66_2, hcz66_3, hcz66_4, hcz66_5, hfz66_0, hfz66_1, hfz66_2, hfz66_3, hfz66_4, hfz66_5⟩ := zk6 BK405) | (go_at_call 11; (with_reducible refine (thatchref07_Same.calls k2 _ _ t392 _ _ t395 t398 t399 t400 _ _ t401 _ _ t410 _ _ t413 t416 t417 t418 _ _ t419 false _ ?side1 ?side2 ?side3 ?side4 ?side5 ?side6 ?side7 ?side8 ?side9 ?side10 ?side11 ?side12 A38.out).mono ?_); (case side1 => refine (Kd.V_reads' (e := 32) (base := w.heap.size) (ok := fun k_ => ((some k_ ≠ (.slice Ao57 x10_2.length co57 : Value).ownBlock ∧ (k_ ≠ gb389 ∧ k_ ≠ gb405)) ∧ k_ ≠ gb423)) (n := t392.length) (c := co23) ?_).2.2; exact (by (with_reducible repeat (first | apply Kd.V_alloc | apply Kd.V_drewN | apply Kd.V_drew)); exact (Kd.V_mono (Kd.V_far (p := ⟨gb423, 5, none⟩) (Kd.V_far (p := ⟨gb423, 4, none⟩) (Kd.V_far (p := ⟨gb423, 3, none⟩) (Kd.V_far (p := ⟨gb423, 2, none⟩) (Kd.V_far (p := ⟨gb423, 1, none⟩) (Kd.V_far (p := ⟨gb423, 0, none⟩) (Kd.V_mono HO_406000.out (fun k_ hk => (⟨hk, hk.2⟩ : _ ∧ k_ ≠ gb423))) (fun _ hk => hk.2) (.slice Ao60 t410.length co60)) (fun _ hk => hk.2) (.slice Ao64 t413.length co64)) (fun _ hk => hk.2) (.int .i64 t416)) (fun _ hk => hk.2) (.int .i64 t417)) (fun _ hk => hk.2) (.int .i64 t418)) (fun _ hk => hk.2) (.slice Ao65 t419.length co65)) (fun _ h_ => h_.1)))); (case side2 => exact (Kd.V_reads' HO_406000.out).2.1); (case side3 => refine (Kd.V_reads' (e := 55) (base := w.heap.size) (ok := fun k_ => ((some k_ ≠ (.slice Ao57 x10_2.length co57 : Value).ownBlock ∧ (k_ ≠ gb389 ∧ k_ ≠ gb405)) ∧ k_ ≠ gb423)) (n := t395.length) (c := co26) ?_).2.2; exact (by (with_reducible repeat (first | apply Kd.V_alloc | apply Kd.V_drewN | apply Kd.V_drew)); exact (Kd.V_mono (Kd.V_far (p := ⟨gb423, 5, none⟩) (Kd.V_far (p := ⟨gb423, 4, none⟩) (Kd.V_far (p := ⟨gb423, 3, none⟩) (Kd.V_far (p := ⟨gb423, 2, none⟩) (Kd.V_far (p := ⟨gb423, 1, none⟩) (Kd.V_far (p := ⟨gb423, 0, none⟩) (Kd.V_mono HO_406001.out (fun k_ hk => (⟨hk, hk.2⟩ : _ ∧ k_ ≠ gb423))) (fun _ hk => hk.2) (.slice Ao60 t410.length co60)) (fun _ hk => hk.2) (.slice Ao64 t413.length co64)) (fun _ hk => hk.2) (.int .i64 t416)) (fun _ hk => hk.2) (.int .i64 t417)) (fun _ hk => hk.2) (.int .i64 t418)) (fun _ hk => hk.2) (.slice Ao65 t419.length co65)) (fun _ h_ => h_.1)))); (case side4 => exact (Kd.V_reads' HO_406001.out).2.1); (case side5 => refine (Kd.V_reads' (e := 67) (base := w.heap.size) (ok := fun k_ => ((some k_ ≠ (.slice Ao57 x10_2.length co57 : Value).ownBlock ∧ (k_ ≠ gb389 ∧ k_ ≠ gb405)) ∧ k_ ≠ gb423)) (n := t401.length) (c := co27) ?_).2.2; exact (by (with_reducible repeat (first | apply Kd.V_alloc | apply Kd.V_drewN | apply Kd.V_drew)); exact (Kd.V_mono (Kd.V_far (p := ⟨gb423, 5, none⟩) (Kd.V_far (p := ⟨gb423, 4, none⟩) (Kd.V_far (p := ⟨gb423, 3, none⟩) (Kd.V_far (p := ⟨gb423, 2, none⟩) (Kd.V_far (p := ⟨gb423, 1, none⟩) (Kd.V_far (p := ⟨gb423, 0, none⟩) (Kd.V_mono HO_406005.out (fun k_ hk => (⟨hk, hk.2⟩ : _ ∧ k_ ≠ gb423))) (fun _ hk => hk.2) (.slice Ao60 t410.length co60)) (fun _ hk => hk.2) (.slice Ao64 t413.length co64)) (fun _ hk => hk.2) (.int .i64 t416)) (fun _ hk => hk.2) (.int .i64 t417)) (fun _ hk => hk.2) (.int .i64 t418)) (fun _ hk => hk.2) (.slice Ao65 t419.length co65)) (fun _ h_ => h_.1)))); (case side6 => exact (Kd.V_reads' HO_406005.out).2.1); (case side7 => refine (Kd.V_reads' (e := 32) (base := w.heap.size) (ok := fun k_ => ((some k_ ≠ (.slice Ao57 x10_2.length co57 : Value).ownBlock ∧ (k_ ≠ gb389 ∧ k_ ≠ gb405)) ∧ k_ ≠ gb423)) (n := t410.length) (c := co60) ?_).2.2; exact (by (with_reducible repeat (first | apply Kd.V_alloc | apply Kd.V_drewN | apply Kd.V_drew)); exact (Kd.V_mono (Kd.V_far (p := ⟨gb423, 5, none⟩) (Kd.V_far (p := ⟨gb423, 4, none⟩) (Kd.V_far (p := ⟨gb423, 3, none⟩) (Kd.V_far (p := ⟨gb423, 2, none⟩) (Kd.V_far (p := ⟨gb423, 1, none⟩) (Kd.V_far (p := ⟨gb423, 0, none⟩) (Kd.V_mono HO412.out (fun k_ hk => (⟨hk, hk.2⟩ : _ ∧ k_ ≠ gb423))) (fun _ hk => hk.2) (.slice Ao60 t410.length co60)) (fun _ hk => hk.2) (.slice Ao64 t413.length co64)) (fun _ hk => hk.2) (.int .i64 t416)) (fun _ hk => hk.2) (.int .i64 t417)) (fun _ hk => hk.2) (.int .i64 t418)) (fun _ hk => hk.2) (.slice Ao65 t419.length co65)) (fun _ h_ => h_.1)))); (case side8 => exact (Kd.V_reads' HO412.out).2.1); (case side9 => refine (Kd.V_reads' (e := 55) (base := w.heap.size) (ok := fun k_ => ((some k_ ≠ (.slice Ao57 x10_2.length co57 : Value).ownBlock ∧ (k_ ≠ gb389 ∧ k_ ≠ gb405)) ∧ k_ ≠ gb423)) (n := t413.length) (c := co64) ?_).2.2; exact (by (with_reducible repeat (first | apply Kd.V_alloc | apply Kd.V_drewN | apply Kd.V_drew)); exact (Kd.V_mono (Kd.V_far (p := ⟨gb423, 5, none⟩) (Kd.V_far (p := ⟨gb423, 4, none⟩) (Kd.V_far (p := ⟨gb423, 3, none⟩) (Kd.V_far (p := ⟨gb423, 2, none⟩) (Kd.V_far (p := ⟨gb423, 1, none⟩) (Kd.V_far (p := ⟨gb423, 0, none⟩) (Kd.V_mono HO415.out (fun k_ hk => (⟨hk, hk.2⟩ : _ ∧ k_ ≠ gb423))) (fun _ hk => hk.2) (.slice Ao60 t410.length co60)) (fun _ hk => hk.2) (.slice Ao64 t413.length co64)) (fun _ hk => hk.2) (.int .i64 t416)) (fun _ hk => hk.2) (.int .i64 t417)) (fun _ hk => hk.2) (.int .i64 t418)) (fun _ hk => hk.2) (.slice Ao65 t419.length co65)) (fun _ h_ => h_.1)))); (case side10 => exact (Kd.V_reads' HO415.out).2.1); (case side11 => refine (Kd.V_reads' (e := 67) (base := w.heap.size) (ok := fun k_ => ((some k_ ≠ (.slice Ao57 x10_2.length co57 : Value).ownBlock ∧ (k_ ≠ gb389 ∧ k_ ≠ gb405)) ∧ k_ ≠ gb423)) (n := t419.length) (c := co65) ?_).2.2; exact (by (with_reducible repeat (first | apply Kd.V_alloc | apply Kd.V_drewN | apply Kd.V_drew)); exact (Kd.V_mono (Kd.V_far (p := ⟨gb423, 5, none⟩) (Kd.V_far (p := ⟨gb423, 4, none⟩) (Kd.V_far (p := ⟨gb423, 3, none⟩) (Kd.V_far (p := ⟨gb423, 2, none⟩) (Kd.V_far (p := ⟨gb423, 1, none⟩) (Kd.V_far (p := ⟨gb423, 0, none⟩) (Kd.V_mono HO421.out (fun k_ hk => (⟨hk, hk.2⟩ : _ ∧ k_ ≠ gb423))) (fun _ hk => hk.2) (.slice Ao60 t410.length co60)) (fun _ hk => hk.2) (.slice Ao64 t413.length co64)) (fun _ hk => hk.2) (.int .i64 t416)) (fun _ hk => hk.2) (.int .i64 t417)) (fun _ hk => hk.2) (.int .i64 t418)) (fun _ hk => hk.2) (.slice Ao65 t419.length co65)) (fun _ h_ => h_.1)))); (case side12 => exact (Kd.V_reads' HO421.out).2.1); rintro e w67 ⟨rfl, hb⟩; have n0_ := Aside0.mk (Kd.R_below (by (with_reducible repeat (first | apply Kd.R_alloc | apply Kd.R_drewN | apply Kd.R_drew)); exact (Kd.R_mono (Kd.R_far (p := ⟨gb423, 5, none⟩) (Kd.R_far (p := ⟨gb423, 4, none⟩) (Kd.R_far (p := ⟨gb423, 3, none⟩) (Kd.R_far (p := ⟨gb423, 2, none⟩) (Kd.R_far (p := ⟨gb423, 1, none⟩) (Kd.R_far (p := ⟨gb423, 0, none⟩) (Kd.R_types HO_10.out BK423.out (by decide)) (fun _ hk => hk.2) (.slice Ao60 t410.length co60)) (fun _ hk => hk.2) (.slice Ao64 t413.length co64)) (fun _ hk => hk.2) (.int .i64 t416)) (fun _ hk => hk.2) (.int .i64 t417)) (fun _ hk => hk.2) (.int .i64 t418)) (fun _ hk => hk.2) (.slice Ao65 t419.length co65)) (fun _ h_ => h_.1))) hb); have n1_ := Aside0.mk (Kd.V_below (by (with_reducible repeat (first | apply Kd.V_alloc | apply Kd.V_drewN | apply Kd.V_drew)); exact (Kd.V_mono (Kd.V_far (p := ⟨gb423, 5, none⟩) (Kd.V_far (p := ⟨gb423, 4, none⟩) (Kd.V_far (p := ⟨gb423, 3, none⟩) (Kd.V_far (p := ⟨gb423, 2, none⟩) (Kd.V_far (p := ⟨gb423, 1, none⟩) (Kd.V_far (p := ⟨gb423, 0, none⟩) (Kd.V_mono HO_406000.out (fun k_ hk => (⟨hk, hk.2⟩ : _ ∧ k_ ≠ gb423))) (fun _ hk => hk.2) (.slice Ao60 t410.length co60)) (fun _ hk => hk.2) (.slice Ao64 t413.length co64)) (fun _ hk => hk.2) (.int .i64 t416)) (fun _ hk => hk.2) (.int .i64 t417)) (fun _ hk => hk.2) (.int .i64 t418)) (fun _ hk => hk.2) (.slice Ao65 t419.length co65)) (fun _ h_ => h_.1))) hb); have n2_ := Aside0.mk (Kd.V_below (by (with_reducible repeat (first | apply Kd.V_alloc | apply Kd.V_drewN | apply Kd.V_drew)); exact (Kd.V_mono (Kd.V_far (p := ⟨gb423, 5, none⟩) (Kd.V_far (p := ⟨gb423, 4, none⟩) (Kd.V_far (p := ⟨gb423, 3, none⟩) (Kd.V_far (p := ⟨gb423, 2, none⟩) (Kd.V_far (p := ⟨gb423, 1, none⟩) (Kd.V_far (p := ⟨gb423, 0, none⟩) (Kd.V_mono HO_406001.out (fun k_ hk => (⟨hk, hk.2⟩ : _ ∧ k_ ≠ gb423))) (fun _ hk => hk.2) (.slice Ao60 t410.length co60)) (fun _ hk => hk.2) (.slice Ao64 t413.length co64)) (fun _ hk => hk.2) (.int .i64 t416)) (fun _ hk => hk.2) (.int .i64 t417)) (fun _ hk => hk.2) (.int .i64 t418)) (fun _ hk => hk.2) (.slice Ao65 t419.length co65)) (fun _ h_ => h_.1))) hb); have n3_ := Aside0.mk (Kd.V_below (by (with_reducible repeat (first | apply Kd.V_alloc | apply Kd.V_drewN | apply Kd.V_drew)); exact (Kd.V_mono (Kd.V_far (p := ⟨gb423, 5, none⟩) (Kd.V_far (p := ⟨gb423, 4, none⟩) (Kd.V_far (p := ⟨gb423, 3, none⟩) (Kd.V_far (p := ⟨gb423, 2, none⟩) (Kd.V_far (p := ⟨gb423, 1, none⟩) (Kd.V_far (p := ⟨gb423, 0, none⟩) (Kd.V_mono HO_406005.out (fun k_ hk => (⟨hk, hk.2⟩ : _ ∧ k_ ≠ gb423))) (fun _ hk => hk.2) (.slice Ao60 t410.length co60)) (fun _ hk => hk.2) (.slice Ao64 t413.length co64)) (fun _ hk => hk.2) (.int .i64 t416)) (fun _ hk => hk.2) (.int .i64 t417)) (fun _ hk => hk.2) (.int .i64 t418)) (fun _ hk => hk.2) (.slice Ao65 t419.length co65)) (fun _ h_ => h_.1))) hb); have n4_ := Aside0.mk (Kd.V_below (by (with_reducible repeat (first | apply Kd.V_alloc | apply Kd.V_drewN | apply Kd.V_drew)); exact (Kd.V_mono (Kd.V_far (p := ⟨gb423, 5, none⟩) (Kd.V_far (p := ⟨gb423, 4, none⟩) (Kd.V_far (p := ⟨gb423, 3, none⟩) (Kd.V_far (p := ⟨gb423, 2, none⟩) (Kd.V_far (p := ⟨gb423, 1, none⟩) (Kd.V_far (p := ⟨gb423, 0, none⟩) (Kd.V_mono HO412.out (fun k_ hk => (⟨hk, hk.2⟩ : _ ∧ k_ ≠ gb423))) (fun _ hk => hk.2) (.slice Ao60 t410.length co60)) (fun _ hk => hk.2) (.slice Ao64 t413.length co64)) (fun _ hk => hk.2) (.int .i64 t416)) (fun _ hk => hk.2) (.int .i64 t417)) (fun _ hk => hk.2) (.int .i64 t418)) (fun _ hk => hk.2) (.slice Ao65 t419.length co65)) (fun _ h_ => h_.1))) hb); have n5_ := Aside0.mk (Kd.V_below (by (with_reducible repeat (first | apply Kd.V_alloc | apply Kd.V_drewN | apply Kd.V_drew)); exact (Kd.V_mono (Kd.V_far (p := ⟨gb423, 5, none⟩) (Kd.V_far (p := ⟨gb423, 4, none⟩) (Kd.V_far (p := ⟨gb423, 3, none⟩) (Kd.V_far (p := ⟨gb423, 2, none⟩) (Kd.V_far (p := ⟨gb423, 1, none⟩) (Kd.V_far (p := ⟨gb423, 0, none⟩) (Kd.V_mono HO415.out (fun k_ hk => (⟨hk, hk.2⟩ : _ ∧ k_ ≠ gb423))) (fun _ hk => hk.2) (.slice Ao60 t410.length co60)) (fun _ hk => hk.2) (.slice Ao64 t413.length co64)) (fun _ hk => hk.2) (.int .i64 t416)) (fun _ hk => hk.2) (.int .i64 t417)) (fun _ hk => hk.2) (.int .i64 t418)) (fun _ hk => hk.2) (.slice Ao65 t419.length co65)) (fun _ h_ => h_.1))) hb); have n6_ := Aside0.mk (Kd.V_below (by (with_reducible repeat (first | apply Kd.V_alloc | apply Kd.V_drewN | apply Kd.V_drew)); exact (Kd.V_mono (Kd.V_far (p := ⟨gb423, 5, none⟩) (Kd.V_far (p := ⟨gb423, 4, none⟩) (Kd.V_far (p := ⟨gb423, 3, none⟩) (Kd.V_far (p := ⟨gb423, 2, none⟩) (Kd.V_far (p := ⟨gb423, 1, none⟩) (Kd.V_far (p := ⟨gb423, 0, none⟩) (Kd.V_mono HO421.out (fun k_ hk => (⟨hk, hk.2⟩ : _ ∧ k_ ≠ gb423))) (fun _ hk => hk.2) (.slice Ao60 t410.length co60)) (fun _ hk => hk.2) (.slice Ao64 t413.length co64)) (fun _ hk => hk.2) (.int .i64 t416)) (fun _ hk => hk.2) (.int .i64 t417)) (fun _ hk => hk.2) (.int .i64 t418)) (fun _ hk => hk.2) (.slice Ao65 t419.length co65)) (fun _ h_ => h_.1))) hb); have n7_ := Aside0.mk (blk_below (g := gb389) (o := .cells #[.slice A0_0 l0_0.length c0_0, .slice A0_1 l0_1.length c0_1, .int .i64 a0_2, .int .i64 a0_3, .int .i64 a0_4, .slice A0_5 l0_5.length c0_5] 30 (0, 0)) (zv BK389) hb); have n8_ := Aside0.mk (blk_below (g := gb405) (o := .cells #[.slice Ao23 t392.length co23, .slice Ao26 t395.length co26, .int .i64 t398, .int .i64 t399, .int .i64 t400, .slice Ao27 t401.length co27] 30 (0, 0)) (zv BK405) hb); have n9_ := Aside0.mk (blk_below (g := gb423) (o := .cells #[.slice Ao60 t410.length co60, .slice Ao64 t413.length co64, .int .i64 t416, .int .i64 t417, .int .i64 t418, .slice Ao65 t419.length co65] 30 (0, 0)) (by (with_reducible repeat (first | refine blk_drewN ?_ _ | refine blk_drew ?_ | refine blk_alloc ?_ _)); refine blk_put (cs := #[.slice Ao60 t410.length co60, .slice Ao64 t413.length co64, .int .i64 t416, .int .i64 t417, .int .i64 t418, .slice none 0 0]) ?_ 5 _ rfl; (with_reducible repeat (first | refine blk_drewN ?_ _ | refine blk_drew ?_ | refine blk_alloc ?_ _)); refine blk_put (cs := #[.slice Ao60 t410.length co60, .slice Ao64 t413.length co64, .int .i64 t416, .int .i64 t417, .int .i64 0, .slice none 0 0]) ?_ 4 _ rfl; (with_reducible repeat (first | refine blk_drewN ?_ _ | refine blk_drew ?_ | refine blk_alloc ?_ _)); refine blk_put (cs := #[.slice Ao60 t410.length co60, .slice Ao64 t413.length co64, .int .i64 t416, .int .i64 0, .int .i64 0, .slice none 0 0]) ?_ 3 _ rfl; (with_reducible repeat (first | refine blk_drewN ?_ _ | refine blk_drew ?_ | refine blk_alloc ?_ _)); refine blk_put (cs := #[.slice Ao60 t410.length co60, .slice Ao64 t413.length co64, .int .i64 0, .int .i64 0, .int .i64 0, .slice none 0 0]) ?_ 2 _ rfl; (with_reducible repeat (first | refine blk_drewN ?_ _ | refine blk_drew ?_ | refine blk_alloc ?_ _)); refine blk_put (cs := #[.slice Ao60 t410.length co60, .slice none 0 0, .int .i64 0, .int .i64 0, .int .i64 0, .slice none 0 0]) ?_ 1 _ rfl; (with_reducible repeat (first | refine blk_drewN ?_ _ | refine blk_drew ?_ | refine blk_alloc ?_ _)); refine blk_put (cs := #[.slice none 0 0, .slice none 0 0, .int .i64 0, .int .i64 0, .int .i64 0, .slice none 0 0]) ?_ 0 _ rfl; (with_reducible repeat (first | refine blk_drewN ?_ _ | refine blk_drew ?_ | refine blk_alloc ?_ _)); exact BK423.out) hb); have n10_ := zY HB hb; clear HO_10; clear HO_406000; clear HO_406001; clear HO_406005; clear HO412; clear HO415; clear HO421; clear BK389; clear BK405; clear BK423; clear HB; have HO_10 := n0_; have HO_406000 := n1_; have HO_406001 := n2_; have HO_406005 := n3_; have HO412 := n4_; have HO415 := n5_; have HO421 := n6_; have BK389 := n7_; have BK405 := n8_; have BK423 := n9_; have HB := n10_; clear n0_ n1_ n2_ n3_ n4_ n5_ n6_ n7_ n8_ n9_ n10_; (try clear hb); (try clear hb2); (try clear hk); (try clear hi)))
       go_ret
       exact ⟨ze, zw HB⟩
      rw [if_neg c37] at H
      have c37b0 : (t404 == 0) = false := beq_eq_false_iff_ne.mpr c37
      have c37b1 : (t404 != 0) = true := bne_iff_ne.mpr c37
      have c422b0 : (t422 == 0) = false := by
       rw [c37b0] at c36b0
       simpa using c36b0
      have c422b1 : (t422 != 0) = true := by rw [bne, c422b0]; rfl
      clear c36b0
      replace H := Option.bind_eq_some_iff.mp H
      obtain ⟨t426, A680, H⟩ := H
      replace H : (some t426) = some r := H
      have A68 := Aside0.mk A680
      clear A680
      obtain rfl := Option.some.inj H
      have hnb69 := NB389_405.out
      have hnc69 := NB405_389.out
      obtain ⟨hcz70_0, hcz70_1, hcz70_2, hcz70_3, hcz70_4, hcz70_5, hfz70_0, hfz70_1, hfz70_2, hfz70_3, hfz70_4, hfz70_5⟩ := zk6 BK389
      obtain ⟨Ao71, co71, eo71⟩ := Kd.R_slice HO_10.out
      subst eo71
      go_wp2_with (first | ((with_reducible refine gate_callee (f := 12) rfl ?_); refine goesL_ (some 60) rfl rfl Try.func12 (by kernel_rfl) rfl #[.agg #[.slice A0_0 l0_0.length c0_0, .slice A0_1 l0_1.length c0_1, .int .i64 a0_2, .int .i64 a0_3, .int .i64 a0_4, .slice A0_5 l0_5.length c0_5], .slice Ao71 x10_2.length co71] rfl za ?_; (with_reducible refine (thatchlaw07_all.calls k2 (fun k_ => k_ < w.heap.size) _ _ l0_0 (fun k_ => k_ < w.heap.size) _ _ l0_1 a0_2 a0_3 a0_4 (fun k_ => k_ < w.heap.size) _ _ l0_5 _ _ x10_2 t410 t413 t416 t417 t418 t419 t422 _ ?side1 ?side2 ?side3 ?side4 ?side5 A35.out).mono ?_); (case side1 => exact Kd.V_mk HC0_0.out (Kd.F_below (Kd.C_F k32_heap HR0_0.out) (zw HB))); (case side2 => exact Kd.V_mk HC0_1.out (Kd.F_below (Kd.C_F k55_heap HR0_1.out) (zw HB))); (case side3 => exact Kd.V_mk HC0_5.out (Kd.F_below (Kd.C_F k67_heap HR0_5.out) (zw HB))); (case side4 => exact zr (Kd.R_reads' HO_10.out).2.2); (case side5 => exact (Kd.R_reads' HO_10.out).2.1); rintro e w72 ⟨v411, v414, v420, rfl, ho0, ho1, ho2, hb⟩; refine ⟨_, rfl, ?_⟩; have n0_ := Aside0.mk (Kd.R_below (zt HO_10) hb); have n1_ := Aside0.mk (Kd.V_below (zT HO_406000) hb); have n2_ := Aside0.mk (Kd.V_below (zT HO_406001) hb); have n3_ := Aside0.mk (Kd.V_below (zT HO_406005) hb); have n4_ := Aside0.mk (Kd.V_lower (Kd.V_mono (ok' := fun k_ => some k_ ≠ (.slice Ao71 x10_2.length co71 : Value).ownBlock ∧ k_ ≠ gb389 ∧ k_ ≠ gb405) ho0 (fun k_ hk_ => ⟨Or.elim hk_ (fun hs_ => Or.elim hs_ (fun hs_ => fun e_ => Nat.not_le.2 hs_ (Kd.R_base HO_10.out k_ e_.symm)) (fun hs_ => Or.elim hs_ (fun hs_ => fun e_ => Nat.not_le.2 hs_ (Kd.R_base HO_10.out k_ e_.symm)) (fun hs_ => fun e_ => Nat.not_le.2 hs_ (Kd.R_base HO_10.out k_ e_.symm)))) (fun hn_ => (Kd.fresh' (Kd.R_lt (zt HO_10)) k_ hn_)), Or.elim hk_ (fun hs_ => Or.elim hs_ (fun hs_ => fun e_ => Nat.not_le.2 hs_ (by rw [e_]; exact GW389.out)) (fun hs_ => Or.elim hs_ (fun hs_ => fun e_ => Nat.not_le.2 hs_ (by rw [e_]; exact GW389.out)) (fun hs_ => fun e_ => Nat.not_le.2 hs_ (by rw [e_]; exact GW389.out)))) (fun hn_ => (Kd.freshB (g := gb389) (o := .cells #[.slice A0_0 l0_0.length c0_0, .slice A0_1 l0_1.length c0_1, .int .i64 a0_2, .int .i64 a0_3, .int .i64 a0_4, .slice A0_5 l0_5.length c0_5] 30 (0, 0)) (zb BK389) k_ hn_)), Or.elim hk_ (fun hs_ => Or.elim hs_ (fun hs_ => fun e_ => Nat.not_le.2 hs_ (by rw [e_]; exact GW405.out)) (fun hs_ => Or.elim hs_ (fun hs_ => fun e_ => Nat.not_le.2 hs_ (by rw [e_]; exact GW405.out)) (fun hs_ => fun e_ => Nat.not_le.2 hs_ (by rw [e_]; exact GW405.out)))) (fun hn_ => (Kd.freshB (g := gb405) (o := .cells #[.slice Ao23 t392.length co23, .slice Ao26 t395.length co26, .int .i64 t398, .int .i64 t399, .int .i64 t400, .slice Ao27 t401.length co27] 30 (0, 0)) (zb BK405) k_ hn_))⟩)) (below_size (zw HB))); have n5_ := Aside0.mk (Kd.V_lower (Kd.V_mono (ok' := fun k_ => some k_ ≠ (.slice Ao71 x10_2.length co71 : Value).ownBlock ∧ k_ ≠ gb389 ∧ k_ ≠ gb405) ho1 (fun k_ hk_ => ⟨Or.elim hk_ (fun hs_ => Or.elim hs_ (fun hs_ => fun e_ => Nat.not_le.2 hs_ (Kd.R_base HO_10.out k_ e_.symm)) (fun hs_ => Or.elim hs_ (fun hs_ => fun e_ => Nat.not_le.2 hs_ (Kd.R_base HO_10.out k_ e_.symm)) (fun hs_ => fun e_ => Nat.not_le.2 hs_ (Kd.R_base HO_10.out k_ e_.symm)))) (fun hn_ => (Kd.fresh' (Kd.R_lt (zt HO_10)) k_ hn_)), Or.elim hk_ (fun hs_ => Or.elim hs_ (fun hs_ => fun e_ => Nat.not_le.2 hs_ (by rw [e_]; exact GW389.out)) (fun hs_ => Or.elim hs_ (fun hs_ => fun e_ => Nat.not_le.2 hs_ (by rw [e_]; exact GW389.out)) (fun hs_ => fun e_ => Nat.not_le.2 hs_ (by rw [e_]; exact GW389.out)))) (fun hn_ => (Kd.freshB (g := gb389) (o := .cells #[.slice A0_0 l0_0.length c0_0, .slice A0_1 l0_1.length c0_1, .int .i64 a0_2, .int .i64 a0_3, .int .i64 a0_4, .slice A0_5 l0_5.length c0_5] 30 (0, 0)) (zb BK389) k_ hn_)), Or.elim hk_ (fun hs_ => Or.elim hs_ (fun hs_ => fun e_ => Nat.not_le.2 hs_ (by rw [e_]; exact GW405.out)) (fun hs_ => Or.elim hs_ (fun hs_ => fun e_ => Nat.not_le.2 hs_ (by rw [e_]; exact GW405.out)) (fun hs_ => fun e_ => Nat.not_le.2 hs_ (by rw [e_]; exact GW405.out)))) (fun hn_ => (Kd.freshB (g := gb405) (o := .cells #[.slice Ao23 t392.length co23, .slice Ao26 t395.length co26, .int .i64 t398, .int .i64 t399, .int .i64 t400, .slice Ao27 t401.length co27] 30 (0, 0)) (zb BK405) k_ hn_))⟩)) (below_size (zw HB))); have n6_ := Aside0.mk (Kd.V_lower (Kd.V_mono (ok' := fun k_ => some k_ ≠ (.slice Ao71 x10_2.length co71 : Value).ownBlock ∧ k_ ≠ gb389 ∧ k_ ≠ gb405) ho2 (fun k_ hk_ => ⟨Or.elim hk_ (fun hs_ => Or.elim hs_ (fun hs_ => fun e_ => Nat.not_le.2 hs_ (Kd.R_base HO_10.out k_ e_.symm)) (fun hs_ => Or.elim hs_ (fun hs_ => fun e_ => Nat.not_le.2 hs_ (Kd.R_base HO_10.out k_ e_.symm)) (fun hs_ => fun e_ => Nat.not_le.2 hs_ (Kd.R_base HO_10.out k_ e_.symm)))) (fun hn_ => (Kd.fresh' (Kd.R_lt (zt HO_10)) k_ hn_)), Or.elim hk_ (fun hs_ => Or.elim hs_ (fun hs_ => fun e_ => Nat.not_le.2 hs_ (by rw [e_]; exact GW389.out)) (fun hs_ => Or.elim hs_ (fun hs_ => fun e_ => Nat.not_le.2 hs_ (by rw [e_]; exact GW389.out)) (fun hs_ => fun e_ => Nat.not_le.2 hs_ (by rw [e_]; exact GW389.out)))) (fun hn_ => (Kd.freshB (g := gb389) (o := .cells #[.slice A0_0 l0_0.length c0_0, .slice A0_1 l0_1.length c0_1, .int .i64 a0_2, .int .i64 a0_3, .int .i64 a0_4, .slice A0_5 l0_5.length c0_5] 30 (0, 0)) (zb BK389) k_ hn_)), Or.elim hk_ (fun hs_ => Or.elim hs_ (fun hs_ => fun e_ => Nat.not_le.2 hs_ (by rw [e_]; exact GW405.out)) (fun hs_ => Or.elim hs_ (fun hs_ => fun e_ => Nat.not_le.2 hs_ (by rw [e_]; exact GW405.out)) (fun hs_ => fun e_ => Nat.not_le.2 hs_ (by rw [e_]; exact GW405.out)))) (fun hn_ => (Kd.freshB (g := gb405) (o := .cells #[.slice Ao23 t392.length co23, .slice Ao26 t395.length co26, .int .i64 t398, .int .i64 t399, .int .i64 t400, .slice Ao27 t401.length co27] 30 (0, 0)) (zb BK405) k_ hn_))⟩)) (below_size (zw HB))); have n7_ := zD BK389 hb; have n8_ := zD BK405 hb; have n9_ := zY HB hb; clear HO_10; clear HO_406000; clear HO_406001; clear HO_406005; clear BK389; clear BK405; clear HB; have HO_10 := n0_; have HO_406000 := n1_; have HO_406001 := n2_; have HO_406005 := n3_; have HO412 := n4_; have HO415 := n5_; have HO421 := n6_; have BK389 := n7_; have BK405 := n8_; have HB := n9_; clear n0_ n1_ n2_ n3_ n4_ n5_ n6_ n7_ n8_ n9_; (try clear hb); (try clear hb2); (try clear hk); (try clear hi); (try clear ho0); (try clear ho1); (try clear ho2)) | ((with_reducible refine gate_dst (N := 12) rfl ?_); (try (refine gate_guard (by rfl) ?_; dsimp only)); refine zx 12 #[.slice none 0 0, .slice none 0 0, .int .i64 0, .int .i64 0, .int .i64 0, .slice none 0 0] 30 ?_; intro gb423 hg w73 hbox hb; have n0_ := Aside0.mk (Kd.R_below (zt HO_10) hb); have n1_ := Aside0.mk (Kd.V_below (Kd.V_elderB (zT HO_406000) gb423 (Nat.le_of_eq hg.symm)) hb); have n2_ := Aside0.mk (Kd.V_below (Kd.V_elderB (zT HO_406001) gb423 (Nat.le_of_eq hg.symm)) hb); have n3_ := Aside0.mk (Kd.V_below (Kd.V_elderB (zT HO_406005) gb423 (Nat.le_of_eq hg.symm)) hb); have n4_ := Aside0.mk (Kd.V_below (Kd.V_elderB (zT HO412) gb423 (Nat.le_of_eq hg.symm)) hb); have n5_ := Aside0.mk (Kd.V_below (Kd.V_elderB (zT HO415) gb423 (Nat.le_of_eq hg.symm)) hb); have n6_ := Aside0.mk (Kd.V_below (Kd.V_elderB (zT HO421) gb423 (Nat.le_of_eq hg.symm)) hb); have n7_ := zD BK389 hb; have n8_ := zD BK405 hb; have n9_ := zY HB hb; have n10_ := Aside0.mk (hbox); have n11_ := zS hg HB; have n12_ := zS hg HB; have n13_ := zN hg BK389; have n14_ := zM hg BK389; have n15_ := zN hg BK405; have n16_ := zM hg BK405; clear HO_10; clear HO_406000; clear HO_406001; clear HO_406005; clear HO412; clear HO415; clear HO421; clear BK389; clear BK405; clear HB; have HO_10 := n0_; have HO_406000 := n1_; have HO_406001 := n2_; have HO_406005 := n3_; have HO412 := n4_; have HO415 := n5_; have HO421 := n6_; have BK389 := n7_; have BK405 := n8_; have HB := n9_; have BK423 := n10_; have GW423 := n11_; have GE423 := n12_; have NB389_423 := n13_; have NB423_389 := n14_; have NB405_423 := n15_; have NB423_405 := n16_; clear n0_ n1_ n2_ n3_ n4_ n5_ n6_ n7_ n8_ n9_ n10_ n11_ n12_ n13_ n14_ n15_ n16_; clear hb hbox hg; obtain ⟨Ao74, co74, eo74⟩ := Kd.V_slice HO412.out; subst eo74; have hnb75 := NB423_389.out; have hnc75 := NB389_423.out; have hnb76 := NB423_405.out; have hnc76 := NB405_423.out; obtain ⟨hcz77_0, hcz77_1, hcz77_2, hcz77_3, hcz77_4, hcz77_5, hfz77_0, hfz77_1, hfz77_2, hfz77_3, hfz77_4, hfz77_5⟩ := zk6 BK423; obtain ⟨Ao78, co78, eo78⟩ := Kd.V_slice HO415.out; subst eo78; obtain ⟨Ao79, co79, eo79⟩ := Kd.V_slice HO421.out; subst eo79) | (go_at_call 8; (with_reducible refine (thatchlaw07_lives.calls k2  t426 _ A68.out).mono ?_); rintro e w80 ⟨rfl, hb⟩; have n0_ := Aside0.mk (Kd.R_below (by (with_reducible repeat (first | apply Kd.R_alloc | apply Kd.R_drewN | apply Kd.R_drew)); exact (Kd.R_mono (Kd.R_far (p := ⟨gb423, 5, none⟩) (Kd.R_far (p := ⟨gb423, 4, none⟩) (Kd.R_far (p := ⟨gb423, 3, none⟩) (Kd.R_far (p := ⟨gb423, 2, none⟩) (Kd.R_far (p := ⟨gb423, 1, none⟩) (Kd.R_far (p := ⟨gb423, 0, none⟩) (Kd.R_types HO_10.out BK423.out (by decide)) (fun _ hk => hk.2) (.slice Ao74 t410.length co74)) (fun _ hk => hk.2) (.slice Ao78 t413.length co78)) (fun _ hk => hk.2) (.int .i64 t416)) (fun _ hk => hk.2) (.int .i64 t417)) (fun _ hk => hk.2) (.int .i64 t418)) (fun _ hk => hk.2) (.slice Ao79 t419.length co79)) (fun _ h_ => h_.1))) hb); have n1_ := Aside0.mk (Kd.V_below (by (with_reducible repeat (first | apply Kd.V_alloc | apply Kd.V_drewN | apply Kd.V_drew)); exact (Kd.V_mono (Kd.V_far (p := ⟨gb423, 5, none⟩) (Kd.V_far (p := ⟨gb423, 4, none⟩) (Kd.V_far (p := ⟨gb423, 3, none⟩) (Kd.V_far (p := ⟨gb423, 2, none⟩) (Kd.V_far (p := ⟨gb423, 1, none⟩) (Kd.V_far (p := ⟨gb423, 0, none⟩) (Kd.V_mono HO_406000.out (fun k_ hk => (⟨hk, hk.2⟩ : _ ∧ k_ ≠ gb423))) (fun _ hk => hk.2) (.slice Ao74 t410.length co74)) (fun _ hk => hk.2) (.slice Ao78 t413.length co78)) (fun _ hk => hk.2) (.int .i64 t416)) (fun _ hk => hk.2) (.int .i64 t417)) (fun _ hk => hk.2) (.int .i64 t418)) (fun _ hk => hk.2) (.slice Ao79 t419.length co79)) (fun _ h_ => h_.1))) hb); have n2_ := Aside0.mk (Kd.V_below (by (with_reducible repeat (first | apply Kd.V_alloc | apply Kd.V_drewN | apply Kd.V_drew)); exact (Kd.V_mono (Kd.V_far (p := ⟨gb423, 5, none⟩) (Kd.V_far (p := ⟨gb423, 4, none⟩) (Kd.V_far (p := ⟨gb423, 3, none⟩) (Kd.V_far (p := ⟨gb423, 2, none⟩) (Kd.V_far (p := ⟨gb423, 1, none⟩) (Kd.V_far (p := ⟨gb423, 0, none⟩) (Kd.V_mono HO_406001.out (fun k_ hk => (⟨hk, hk.2⟩ : _ ∧ k_ ≠ gb423))) (fun _ hk => hk.2) (.slice Ao74 t410.length co74)) (fun _ hk => hk.2) (.slice Ao78 t413.length co78)) (fun _ hk => hk.2) (.int .i64 t416)) (fun _ hk => hk.2) (.int .i64 t417)) (fun _ hk => hk.2) (.int .i64 t418)) (fun _ hk => hk.2) (.slice Ao79 t419.length co79)) (fun _ h_ => h_.1))) hb); have n3_ := Aside0.mk (Kd.V_below (by (with_reducible repeat (first | apply Kd.V_alloc | apply Kd.V_drewN | apply Kd.V_drew)); exact (Kd.V_mono (Kd.V_far (p := ⟨gb423, 5, none⟩) (Kd.V_far (p := ⟨gb423, 4, none⟩) (Kd.V_far (p := ⟨gb423, 3, none⟩) (Kd.V_far (p := ⟨gb423, 2, none⟩) (Kd.V_far (p := ⟨gb423, 1, none⟩) (Kd.V_far (p := ⟨gb423, 0, none⟩) (Kd.V_mono HO_406005.out (fun k_ hk => (⟨hk, hk.2⟩ : _ ∧ k_ ≠ gb423))) (fun _ hk => hk.2) (.slice Ao74 t410.length co74)) (fun _ hk => hk.2) (.slice Ao78 t413.length co78)) (fun _ hk => hk.2) (.int .i64 t416)) (fun _ hk => hk.2) (.int .i64 t417)) (fun _ hk => hk.2) (.int .i64 t418)) (fun _ hk => hk.2) (.slice Ao79 t419.length co79)) (fun _ h_ => h_.1))) hb); have n4_ := Aside0.mk (Kd.V_below (by (with_reducible repeat (first | apply Kd.V_alloc | apply Kd.V_drewN | apply Kd.V_drew)); exact (Kd.V_mono (Kd.V_far (p := ⟨gb423, 5, none⟩) (Kd.V_far (p := ⟨gb423, 4, none⟩) (Kd.V_far (p := ⟨gb423, 3, none⟩) (Kd.V_far (p := ⟨gb423, 2, none⟩) (Kd.V_far (p := ⟨gb423, 1, none⟩) (Kd.V_far (p := ⟨gb423, 0, none⟩) (Kd.V_mono HO412.out (fun k_ hk => (⟨hk, hk.2⟩ : _ ∧ k_ ≠ gb423))) (fun _ hk => hk.2) (.slice Ao74 t410.length co74)) (fun _ hk => hk.2) (.slice Ao78 t413.length co78)) (fun _ hk => hk.2) (.int .i64 t416)) (fun _ hk => hk.2) (.int .i64 t417)) (fun _ hk => hk.2) (.int .i64 t418)) (fun _ hk => hk.2) (.slice Ao79 t419.length co79)) (fun _ h_ => h_.1))) hb); have n5_ := Aside0.mk (Kd.V_below (by (with_reducible repeat (first | apply Kd.V_alloc | apply Kd.V_drewN | apply Kd.V_drew)); exact (Kd.V_mono (Kd.V_far (p := ⟨gb423, 5, none⟩) (Kd.V_far (p := ⟨gb423, 4, none⟩) (Kd.V_far (p := ⟨gb423, 3, none⟩) (Kd.V_far (p := ⟨gb423, 2, none⟩) (Kd.V_far (p := ⟨gb423, 1, none⟩) (Kd.V_far (p := ⟨gb423, 0, none⟩) (Kd.V_mono HO415.out (fun k_ hk => (⟨hk, hk.2⟩ : _ ∧ k_ ≠ gb423))) (fun _ hk => hk.2) (.slice Ao74 t410.length co74)) (fun _ hk => hk.2) (.slice Ao78 t413.length co78)) (fun _ hk => hk.2) (.int .i64 t416)) (fun _ hk => hk.2) (.int .i64 t417)) (fun _ hk => hk.2) (.int .i64 t418)) (fun _ hk => hk.2) (.slice Ao79 t419.length co79)) (fun _ h_ => h_.1))) hb); have n6_ := Aside0.mk (Kd.V_below (by (with_reducible repeat (first | apply Kd.V_alloc | apply Kd.V_drewN | apply Kd.V_drew)); exact (Kd.V_mono (Kd.V_far (p := ⟨gb423, 5, none⟩) (Kd.V_far (p := ⟨gb423, 4, none⟩) (Kd.V_far (p := ⟨gb423, 3, none⟩) (Kd.V_far (p := ⟨gb423, 2, none⟩) (Kd.V_far (p := ⟨gb423, 1, none⟩) (Kd.V_far (p := ⟨gb423, 0, none⟩) (Kd.V_mono HO421.out (fun k_ hk => (⟨hk, hk.2⟩ : _ ∧ k_ ≠ gb423))) (fun _ hk => hk.2) (.slice Ao74 t410.length co74)) (fun _ hk => hk.2) (.slice Ao78 t413.length co78)) (fun _ hk => hk.2) (.int .i64 t416)) (fun _ hk => hk.2) (.int .i64 t417)) (fun _ hk => hk.2) (.int .i64 t418)) (fun _ hk => hk.2) (.slice Ao79 t419.length co79)) (fun _ h_ => h_.1))) hb); have n7_ := Aside0.mk (blk_below (g := gb389) (o := .cells #[.slice A0_0 l0_0.length c0_0, .slice A0_1 l0_1.length c0_1, .int .i64 a0_2, .int .i64 a0_3, .int .i64 a0_4, .slice A0_5 l0_5.length c0_5] 30 (0, 0)) (zv BK389) hb); have n8_ := Aside0.mk (blk_below (g := gb405) (o := .cells #[.slice Ao23 t392.length co23, .slice Ao26 t395.length co26, .int .i64 t398, .int .i64 t399, .int .i64 t400, .slice Ao27 t401.length co27] 30 (0, 0)) (zv BK405) hb); have n9_ := Aside0.mk (blk_below (g := gb423) (o := .cells #[.slice Ao74 t410.length co74, .slice Ao78 t413.length co78, .int .i64 t416, .int .i64 t417, .int .i64 t418, .slice Ao79 t419.length co79] 30 (0, 0)) (by (with_reducible repeat (first | refine blk_drewN ?_ _ | refine blk_drew ?_ | refine blk_alloc ?_ _)); refine blk_put (cs := #[.slice Ao74 t410.length co74, .slice Ao78 t413.length co78, .int .i64 t416, .int .i64 t417, .int .i64 t418, .slice none 0 0]) ?_ 5 _ rfl; (with_reducible repeat (first | refine blk_drewN ?_ _ | refine blk_drew ?_ | refine blk_alloc ?_ _)); refine blk_put (cs := #[.slice Ao74 t410.length co74, .slice Ao78 t413.length co78, .int .i64 t416, .int .i64 t417, .int .i64 0, .slice none 0 0]) ?_ 4 _ rfl; (with_reducible repeat (first | refine blk_drewN ?_ _ | refine blk_drew ?_ | refine blk_alloc ?_ _)); refine blk_put (cs := #[.slice Ao74 t410.length co74, .slice Ao78 t413.length co78, .int .i64 t416, .int .i64 0, .int .i64 0, .slice none 0 0]) ?_ 3 _ rfl; (with_reducible repeat (first | refine blk_drewN ?_ _ | refine blk_drew ?_ | refine blk_alloc ?_ _)); refine blk_put (cs := #[.slice Ao74 t410.length co74, .slice Ao78 t413.length co78, .int .i64 0, .int .i64 0, .int .i64 0, .slice none 0 0]) ?_ 2 _ rfl; (with_reducible repeat (first | refine blk_drewN ?_ _ | refine blk_drew ?_ | refine blk_alloc ?_ _)); refine blk_put (cs := #[.slice Ao74 t410.length co74, .slice none 0 0, .int .i64 0, .int .i64 0, .int .i64 0, .slice none 0 0]) ?_ 1 _ rfl; (with_reducible repeat (first | refine blk_drewN ?_ _ | refine blk_drew ?_ | refine blk_alloc ?_ _)); refine blk_put (cs := #[.slice none 0 0, .slice none 0 0, .int .i64 0, .int .i64 0, .int .i64 0, .slice none 0 0]) ?_ 0 _ rfl; (with_reducible repeat (first | refine blk_drewN ?_ _ | refine blk_drew ?_ | refine blk_alloc ?_ _)); exact BK423.out) hb); have n10_ := zY HB hb; clear HO_10; clear HO_406000; clear HO_406001; clear HO_406005; clear HO412; clear HO415; clear HO421; clear BK389; clear BK405; clear BK423; clear HB; have HO_10 := n0_; have HO_406000 := n1_; have HO_406001 := n2_; have HO_406005 := n3_; have HO412 := n4_; have HO415 := n5_; have HO421 := n6_; have BK389 := n7_; have BK405 := n8_; have BK423 := n9_; have HB := n10_; clear n0_ n1_ n2_ n3_ n4_ n5_ n6_ n7_ n8_ n9_ n10_; (try clear hb); (try clear hb2); (try clear hk); (try clear hi)))
      go_ret
      exact ⟨ze, zw HB⟩
     rw [if_neg c36] at H
     have c36b0 : ((t404 == 0) == (t422 == 0)) = false := by simpa using c36
     (try (have c36b1 : decide ((t404 == 0) = (t422 == 0)) = false := by simpa using c36))
     (try (have c36b2 : ((t404 == 0) == (t422 == 0)) = false := by simpa using c36))
     (try (have c36b3 : ¬ ((t404 == 0) = (t422 == 0)) := by simpa using c36))
     clear c36
     obtain rfl := Option.some.inj H
     have hnb81 := NB389_405.out
     have hnc81 := NB405_389.out
     obtain ⟨hcz82_0, hcz82_1, hcz82_2, hcz82_3, hcz82_4, hcz82_5, hfz82_0, hfz82_1, hfz82_2, hfz82_3, hfz82_4, hfz82_5⟩ := zk6 BK389
     obtain ⟨Ao83, co83, eo83⟩ := Kd.R_slice HO_10.out
     subst eo83
     go_wp2_with (first | ((with_reducible refine gate_callee (f := 12) rfl ?_); refine goesL_ (some 60) rfl rfl Try.func12 (by kernel_rfl) rfl #[.agg #[.slice A0_0 l0_0.length c0_0, .slice A0_1 l0_1.length c0_1, .int .i64 a0_2, .int .i64 a0_3, .int .i64 a0_4, .slice A0_5 l0_5.length c0_5], .slice Ao83 x10_2.length co83] rfl za ?_; (with_reducible refine (thatchlaw07_all.calls k2 (fun k_ => k_ < w.heap.size) _ _ l0_0 (fun k_ => k_ < w.heap.size) _ _ l0_1 a0_2 a0_3 a0_4 (fun k_ => k_ < w.heap.size) _ _ l0_5 _ _ x10_2 t410 t413 t416 t417 t418 t419 t422 _ ?side1 ?side2 ?side3 ?side4 ?side5 A35.out).mono ?_); (case side1 => exact Kd.V_mk HC0_0.out (Kd.F_below (Kd.C_F k32_heap HR0_0.out) (zw HB))); (case side2 => exact Kd.V_mk HC0_1.out (Kd.F_below (Kd.C_F k55_heap HR0_1.out) (zw HB))); (case side3 => exact Kd.V_mk HC0_5.out (Kd.F_below (Kd.C_F k67_heap HR0_5.out) (zw HB))); (case side4 => exact zr (Kd.R_reads' HO_10.out).2.2); (case side5 => exact (Kd.R_reads' HO_10.out).2.1); rintro e w84 ⟨v411, v414, v420, rfl, ho0, ho1, ho2, hb⟩; refine ⟨_, rfl, ?_⟩; have n0_ := Aside0.mk (Kd.R_below (zt HO_10) hb); have n1_ := Aside0.mk (Kd.V_below (zT HO_406000) hb); have n2_ := Aside0.mk (Kd.V_below (zT HO_406001) hb); have n3_ := Aside0.mk (Kd.V_below (zT HO_406005) hb); have n4_ := Aside0.mk (Kd.V_lower (Kd.V_mono (ok' := fun k_ => some k_ ≠ (.slice Ao83 x10_2.length co83 : Value).ownBlock ∧ k_ ≠ gb389 ∧ k_ ≠ gb405) ho0 (fun k_ hk_ => ⟨Or.elim hk_ (fun hs_ => Or.elim hs_ (fun hs_ => fun e_ => Nat.not_le.2 hs_ (Kd.R_base HO_10.out k_ e_.symm)) (fun hs_ => Or.elim hs_ (fun hs_ => fun e_ => Nat.not_le.2 hs_ (Kd.R_base HO_10.out k_ e_.symm)) (fun hs_ => fun e_ => Nat.not_le.2 hs_ (Kd.R_base HO_10.out k_ e_.symm)))) (fun hn_ => (Kd.fresh' (Kd.R_lt (zt HO_10)) k_ hn_)), Or.elim hk_ (fun hs_ => Or.elim hs_ (fun hs_ => fun e_ => Nat.not_le.2 hs_ (by rw [e_]; exact GW389.out)) (fun hs_ => Or.elim hs_ (fun hs_ => fun e_ => Nat.not_le.2 hs_ (by rw [e_]; exact GW389.out)) (fun hs_ => fun e_ => Nat.not_le.2 hs_ (by rw [e_]; exact GW389.out)))) (fun hn_ => (Kd.freshB (g := gb389) (o := .cells #[.slice A0_0 l0_0.length c0_0, .slice A0_1 l0_1.length c0_1, .int .i64 a0_2, .int .i64 a0_3, .int .i64 a0_4, .slice A0_5 l0_5.length c0_5] 30 (0, 0)) (zb BK389) k_ hn_)), Or.elim hk_ (fun hs_ => Or.elim hs_ (fun hs_ => fun e_ => Nat.not_le.2 hs_ (by rw [e_]; exact GW405.out)) (fun hs_ => Or.elim hs_ (fun hs_ => fun e_ => Nat.not_le.2 hs_ (by rw [e_]; exact GW405.out)) (fun hs_ => fun e_ => Nat.not_le.2 hs_ (by rw [e_]; exact GW405.out)))) (fun hn_ => (Kd.freshB (g := gb405) (o := .cells #[.slice Ao23 t392.length co23, .slice Ao26 t395.length co26, .int .i64 t398, .int .i64 t399, .int .i64 t400, .slice Ao27 t401.length co27] 30 (0, 0)) (zb BK405) k_ hn_))⟩)) (below_size (zw HB))); have n5_ := Aside0.mk (Kd.V_lower (Kd.V_mono (ok' := fun k_ => some k_ ≠ (.slice Ao83 x10_2.length co83 : Value).ownBlock ∧ k_ ≠ gb389 ∧ k_ ≠ gb405) ho1 (fun k_ hk_ => ⟨Or.elim hk_ (fun hs_ => Or.elim hs_ (fun hs_ => fun e_ => Nat.not_le.2 hs_ (Kd.R_base HO_10.out k_ e_.symm)) (fun hs_ => Or.elim hs_ (fun hs_ => fun e_ => Nat.not_le.2 hs_ (Kd.R_base HO_10.out k_ e_.symm)) (fun hs_ => fun e_ => Nat.not_le.2 hs_ (Kd.R_base HO_10.out k_ e_.symm)))) (fun hn_ => (Kd.fresh' (Kd.R_lt (zt HO_10)) k_ hn_)), Or.elim hk_ (fun hs_ => Or.elim hs_ (fun hs_ => fun e_ => Nat.not_le.2 hs_ (by rw [e_]; exact GW389.out)) (fun hs_ => Or.elim hs_ (fun hs_ => fun e_ => Nat.not_le.2 hs_ (by rw [e_]; exact GW389.out)) (fun hs_ => fun e_ => Nat.not_le.2 hs_ (by rw [e_]; exact GW389.out)))) (fun hn_ => (Kd.freshB (g := gb389) (o := .cells #[.slice A0_0 l0_0.length c0_0, .slice A0_1 l0_1.length c0_1, .int .i64 a0_2, .int .i64 a0_3, .int .i64 a0_4, .slice A0_5 l0_5.length c0_5] 30 (0, 0)) (zb BK389) k_ hn_)), Or.elim hk_ (fun hs_ => Or.elim hs_ (fun hs_ => fun e_ => Nat.not_le.2 hs_ (by rw [e_]; exact GW405.out)) (fun hs_ => Or.elim hs_ (fun hs_ => fun e_ => Nat.not_le.2 hs_ (by rw [e_]; exact GW405.out)) (fun hs_ => fun e_ => Nat.not_le.2 hs_ (by rw [e_]; exact GW405.out)))) (fun hn_ => (Kd.freshB (g := gb405) (o := .cells #[.slice Ao23 t392.length co23, .slice Ao26 t395.length co26, .int .i64 t398, .int .i64 t399, .int .i64 t400, .slice Ao27 t401.length co27] 30 (0, 0)) (zb BK405) k_ hn_))⟩)) (below_size (zw HB))); have n6_ := Aside0.mk (Kd.V_lower (Kd.V_mono (ok' := fun k_ => some k_ ≠ (.slice Ao83 x10_2.length co83 : Value).ownBlock ∧ k_ ≠ gb389 ∧ k_ ≠ gb405) ho2 (fun k_ hk_ => ⟨Or.elim hk_ (fun hs_ => Or.elim hs_ (fun hs_ => fun e_ => Nat.not_le.2 hs_ (Kd.R_base HO_10.out k_ e_.symm)) (fun hs_ => Or.elim hs_ (fun hs_ => fun e_ => Nat.not_le.2 hs_ (Kd.R_base HO_10.out k_ e_.symm)) (fun hs_ => fun e_ => Nat.not_le.2 hs_ (Kd.R_base HO_10.out k_ e_.symm)))) (fun hn_ => (Kd.fresh' (Kd.R_lt (zt HO_10)) k_ hn_)), Or.elim hk_ (fun hs_ => Or.elim hs_ (fun hs_ => fun e_ => Nat.not_le.2 hs_ (by rw [e_]; exact GW389.out)) (fun hs_ => Or.elim hs_ (fun hs_ => fun e_ => Nat.not_le.2 hs_ (by rw [e_]; exact GW389.out)) (fun hs_ => fun e_ => Nat.not_le.2 hs_ (by rw [e_]; exact GW389.out)))) (fun hn_ => (Kd.freshB (g := gb389) (o := .cells #[.slice A0_0 l0_0.length c0_0, .slice A0_1 l0_1.length c0_1, .int .i64 a0_2, .int .i64 a0_3, .int .i64 a0_4, .slice A0_5 l0_5.length c0_5] 30 (0, 0)) (zb BK389) k_ hn_)), Or.elim hk_ (fun hs_ => Or.elim hs_ (fun hs_ => fun e_ => Nat.not_le.2 hs_ (by rw [e_]; exact GW405.out)) (fun hs_ => Or.elim hs_ (fun hs_ => fun e_ => Nat.not_le.2 hs_ (by rw [e_]; exact GW405.out)) (fun hs_ => fun e_ => Nat.not_le.2 hs_ (by rw [e_]; exact GW405.out)))) (fun hn_ => (Kd.freshB (g := gb405) (o := .cells #[.slice Ao23 t392.length co23, .slice Ao26 t395.length co26, .int .i64 t398, .int .i64 t399, .int .i64 t400, .slice Ao27 t401.length co27] 30 (0, 0)) (zb BK405) k_ hn_))⟩)) (below_size (zw HB))); have n7_ := zD BK389 hb; have n8_ := zD BK405 hb; have n9_ := zY HB hb; clear HO_10; clear HO_406000; clear HO_406001; clear HO_406005; clear BK389; clear BK405; clear HB; have HO_10 := n0_; have HO_406000 := n1_; have HO_406001 := n2_; have HO_406005 := n3_; have HO412 := n4_; have HO415 := n5_; have HO421 := n6_; have BK389 := n7_; have BK405 := n8_; have HB := n9_; clear n0_ n1_ n2_ n3_ n4_ n5_ n6_ n7_ n8_ n9_; (try clear hb); (try clear hb2); (try clear hk); (try clear hi); (try clear ho0); (try clear ho1); (try clear ho2)) | ((with_reducible refine gate_dst (N := 12) rfl ?_); (try (refine gate_guard (by rfl) ?_; dsimp only)); refine zx 12 #[.slice none 0 0, .slice none 0 0, .int .i64 0, .int .i64 0, .int .i64 0, .slice none 0 0] 30 ?_; intro gb423 hg w85 hbox hb; have n0_ := Aside0.mk (Kd.R_below (zt HO_10) hb); have n1_ := Aside0.mk (Kd.V_below (Kd.V_elderB (zT HO_406000) gb423 (Nat.le_of_eq hg.symm)) hb); have n2_ := Aside0.mk (Kd.V_below (Kd.V_elderB (zT HO_406001) gb423 (Nat.le_of_eq hg.symm)) hb); have n3_ := Aside0.mk (Kd.V_below (Kd.V_elderB (zT HO_406005) gb423 (Nat.le_of_eq hg.symm)) hb); have n4_ := Aside0.mk (Kd.V_below (Kd.V_elderB (zT HO412) gb423 (Nat.le_of_eq hg.symm)) hb); have n5_ := Aside0.mk (Kd.V_below (Kd.V_elderB (zT HO415) gb423 (Nat.le_of_eq hg.symm)) hb); have n6_ := Aside0.mk (Kd.V_below (Kd.V_elderB (zT HO421) gb423 (Nat.le_of_eq hg.symm)) hb); have n7_ := zD BK389 hb; have n8_ := zD BK405 hb; have n9_ := zY HB hb; have n10_ := Aside0.mk (hbox); have n11_ := zS hg HB; have n12_ := zS hg HB; have n13_ := zN hg BK389; have n14_ := zM hg BK389; have n15_ := zN hg BK405; have n16_ := zM hg BK405; clear HO_10; clear HO_406000; clear HO_406001; clear HO_406005; clear HO412; clear HO415; clear HO421; clear BK389; clear BK405; clear HB; have HO_10 := n0_; have HO_406000 := n1_; have HO_406001 := n2_; have HO_406005 := n3_; have HO412 := n4_; have HO415 := n5_; have HO421 := n6_; have BK389 := n7_; have BK405 := n8_; have HB := n9_; have BK423 := n10_; have GW423 := n11_; have GE423 := n12_; have NB389_423 := n13_; have NB423_389 := n14_; have NB405_423 := n15_; have NB423_405 := n16_; clear n0_ n1_ n2_ n3_ n4_ n5_ n6_ n7_ n8_ n9_ n10_ n11_ n12_ n13_ n14_ n15_ n16_; clear hb hbox hg; obtain ⟨Ao86, co86, eo86⟩ := Kd.V_slice HO412.out; subst eo86; have hnb87 := NB423_389.out; have hnc87 := NB389_423.out; have hnb88 := NB423_405.out; have hnc88 := NB405_423.out; obtain ⟨hcz89_0, hcz89_1, hcz89_2, hcz89_3, hcz89_4, hcz89_5, hfz89_0, hfz89_1, hfz89_2, hfz89_3, hfz89_4, hfz89_5⟩ := zk6 BK423; obtain ⟨Ao90, co90, eo90⟩ := Kd.V_slice HO415.out; subst eo90; obtain ⟨Ao91, co91, eo91⟩ := Kd.V_slice HO421.out; subst eo91))
     go_ret
     exact ⟨ze, zw HB⟩
end Go.Proofs.Ytcfpclehogdmbaa.Q
end
section
namespace Go.Proofs.Ytcfpclehogdmbaa.Q
open Go.RowKit Go.Proofs.YtcfpclehogdmbaaW.PrintWords Go.Proofs.YtcfpclehogdmbaaW.PrintLast Go.Proofs.YtcfpclehogdmbaaW.PrintMore
set_option linter.unusedVariables false
set_option linter.unusedSimpArgs false
theorem all_l0 (l0 : List S32) (l1 : List S55) (st lo hi : Int) (h0 : l0.length < 1000) (h1 : l1.length < 1000) (xs : List S43) (hx : xs.length < 1000000) : ∀ (d i : Nat) (l : List S67), xs.length - i = d → i ≤ xs.length → l.length < 900 →
    Tells (fun k => thatchlaw07_all.l0 k xs (i : Int) l0 l1 st lo hi l) (allV l0 l1 st lo hi (xs.drop i) l) := by
  intro d
  induction d with
  | zero =>
    intro i l hd hi2 hl
    obtain rfl : i = xs.length := by omega
    rw [List.drop_length]
    exact Tells.succ (h := fun _ => some (l0, l1, st, lo, hi, l, 0)) (Tells.const fun _ => rfl) (fun k => by rw [thatchlaw07_all.l0, if_neg (by omega)])
  | succ d ih =>
    intro i l hd hi2 hl
    have hlt : i < xs.length := by omega
    have hrd : rd_T43 xs (i : Int) = xs[i] := by simp [rd_T43, List.getD_eq_getElem?_getD, List.getElem?_eq_getElem hlt]
    rw [List.drop_eq_getElem_cons hlt]
    refine Tells.succ (Tells.bind (b := fun k bt => (if bt.2.2.2.2.2.2 = 0 then (thatchlaw07_all.l0 k xs ((i + 1 : Nat) : Int) bt.1 bt.2.1 bt.2.2.1 bt.2.2.2.1 bt.2.2.2.2.1 bt.2.2.2.2.2.1) else (some (([] : List (S32)), ([] : List (S55)), 0, 0, 0, ([] : List (S67)), bt.2.2.2.2.2.2)))) (probe_wear l0 l1 st lo hi l xs[i].f0.f0 xs[i].f0.f1 xs[i].f1 xs[i].f2 h0 h1 hl) ?_) (fun k => by
      rw [thatchlaw07_all.l0, if_pos (by omega), if_pos (by omega), wrap_nat hlt hx, hrd])
    unfold allV
    by_cases hp : ProbeOk l0 l1 st lo hi l xs[i].f0.f0 xs[i].f0.f1 xs[i].f1 xs[i].f2
    · rw [probeV_ok hp]
      simp only [if_true]
      exact ih (i + 1) (insX l xs[i]) (by omega) (by omega) (by have := hp.next.few; unfold insX; omega)
    · obtain ⟨e, he, e2⟩ := probeV_bad hp
      rw [e2]
      have he' : ¬ (errSkin e).2.2.2.2.2.2 = 0 := he
      simp only [if_neg he']
      exact Tells.const fun _ => rfl
theorem all_tells (l0 : List S32) (l1 : List S55) (st lo hi : Int) (l : List S67) (h0 : l0.length < 1000) (h1 : l1.length < 1000) (hl : l.length < 900) (xs : List S43) (hx : xs.length < 1000000) : Tells (fun k => thatchlaw07_all.f k l0 l1 st lo hi l xs) (allV l0 l1 st lo hi xs l) := by
  have h := all_l0 l0 l1 st lo hi h0 h1 xs hx xs.length 0 l (by omega) (by omega) hl
  rw [List.drop_zero] at h
  exact h
/-- the probes, turned about -/
def turned (xs : List S43) (c : Nat) : Nat → List S43
  | 0 => []
  | i + 1 => xs.getD ((i + c) % xs.length) z43 :: turned xs c i
theorem turned_eq (xs : List S43) (c : Nat) : ∀ i, turned xs c i = ((List.range i).map fun j => xs.getD ((j + c) % xs.length) z43).reverse := by
  intro i
  induction i with
  | zero => rfl
  | succ i ih => rw [turned, ih, List.range_succ, List.map_append, List.reverse_append]; rfl
theorem turned_perm (xs : List S43) (c : Nat) (hc : c < xs.length) : (turned xs c xs.length).Perm xs := by
  rw [turned_eq]
  refine (List.reverse_perm _).trans ?_
  have e : ((List.range xs.length).map fun j => xs.getD ((j + c) % xs.length) z43) = xs.drop c ++ xs.take c := by
    apply List.ext_getElem
    · simp; omega
    · intro i h1 h2
      simp only [List.length_map, List.length_range] at h1
      rw [List.getElem_map, List.getElem_range, List.getElem_append]
      by_cases hi : i < (xs.drop c).length
      · rw [dif_pos hi, List.getElem_drop]
        rw [List.length_drop] at hi
        rw [Nat.mod_eq_of_lt (by omega), List.getD_eq_getElem?_getD, List.getElem?_eq_getElem (by omega), Option.getD_some]
        congr 1
        omega
      · rw [dif_neg hi, List.getElem_take]
        rw [List.length_drop] at hi
        have hm : (i + c) % xs.length = i - (xs.length - c) := by
          rw [Nat.mod_eq_sub_mod (by omega), Nat.mod_eq_of_lt (by omega)]
          omega
        rw [List.getD_eq_getElem?_getD, hm, List.getElem?_eq_getElem (by omega), Option.getD_some]
        congr 1
        rw [List.length_drop]
  rw [e]
  exact (List.perm_append_comm).trans (by rw [List.take_append_drop])
theorem order_l0 (l0 : List S32) (l1 : List S55) (st lo hi : Int) (l : List S67) (h0 : l0.length < 1000) (h1 : l1.length < 1000) (hl : l.length < 900) (xs : List S43) (hx : xs.length < 1000) (hn : 0 < xs.length) (c : Nat) (hc : c < xs.length) (e : Int) (a : SkinE) (V : Bool)
    (hV : ∀ ys, ys = turned xs c xs.length → Tells (fun k => ((thatchlaw07_all.f k l0 l1 st lo hi l ys).bind fun bt410 => (if ((e == 0) == (bt410.2.2.2.2.2.2 == 0)) = true then (if e = 0 then ((thatchref07_Same.f k a.1 a.2.1 a.2.2.1 a.2.2.2.1 a.2.2.2.2.1 a.2.2.2.2.2.1 bt410.1 bt410.2.1 bt410.2.2.1 bt410.2.2.2.1 bt410.2.2.2.2.1 bt410.2.2.2.2.2.1).bind fun t424 => (if t424 = true then ((thatchlaw07_lives.f k).bind fun t425 => (some t425)) else (some false))) else ((thatchlaw07_lives.f k).bind fun t426 => (some t426))) else (some false)))) V) :
    ∀ (i : Nat) (acc : List S43), i ≤ xs.length → acc ++ turned xs c i = turned xs c xs.length →
    Tells (fun k => thatchlaw07_WearOrder.l0 k xs e (c : Int) acc ((i : Int) - 1) l0 l1 st lo hi l a.1 a.2.1 a.2.2.1 a.2.2.2.1 a.2.2.2.2.1 a.2.2.2.2.2.1) V := by
  intro i
  induction i with
  | zero =>
    intro acc hi2 hacc
    rw [turned, List.append_nil] at hacc
    exact Tells.succ (hV acc hacc) (fun k => by rw [thatchlaw07_WearOrder.l0, if_neg (by omega)])
  | succ i ih =>
    intro acc hi2 hacc
    have hal : acc.length < 4398046511104 := by
      have h := congrArg List.length hacc
      rw [List.length_append, turned_eq, turned_eq] at h
      simp at h
      omega
    have hw : wrap64 (((i + 1 : Nat) : Int) - 1 + (c : Int)) = ((i + c : Nat) : Int) := by rw [wrap_in (by omega) (by omega)]; omega
    have hm : Int.tmod ((i + c : Nat) : Int) (xs.length : Int) = (((i + c) % xs.length : Nat) : Int) := by rw [Int.natCast_emod]; exact Int.tmod_eq_emod_of_nonneg (by omega)
    have hml : (i + c) % xs.length < xs.length := Nat.mod_lt _ hn
    have hw2 : wrap64 (((i + 1 : Nat) : Int) - 1 - 1) = (i : Int) - 1 := by rw [wrap_in (by omega) (by omega)]; omega
    refine Tells.succ (ih (acc ++ [xs.getD ((i + c) % xs.length) z43]) (by omega) (by rw [List.append_assoc]; exact hacc)) (fun k => ?_)
    rw [thatchlaw07_WearOrder.l0, if_pos (by omega), if_neg (by omega), hw, hm, if_pos (by omega), if_pos (by omega), if_pos hal, hw2]
    rfl
/-- the plain law of WearOrder -/
theorem order_plain (l0 : List S32) (l1 : List S55) (st lo hi : Int) (l : List S67) (xs : List S43) (t : Int) (ht : 0 ≤ t ∧ t < 256) : ∃ k, thatchlaw07_WearOrder.f k l0 l1 st lo hi l xs t = some true := by
  refine Tells.at ?_
  obtain ⟨b, hb, hg⟩ := great_tells l0 l1 st lo hi l
  have tj : Tells (fun k => thatchlaw07_WearOrder.j0 k xs t true l0 l1 st lo hi l) true := Tells.succ (lives_tells.bind (b := fun _ x => some x) (Tells.const fun _ => rfl)) (fun k => by rw [thatchlaw07_WearOrder.j0, if_pos rfl])
  refine (Tells.bind (b := fun k t390 => (if t390 = true then (thatchlaw07_WearOrder.j0 k xs t true l0 l1 st lo hi l) else (if (xs.length : Int) > 20 then (thatchlaw07_WearOrder.j0 k xs t true l0 l1 st lo hi l) else (thatchlaw07_WearOrder.j0 k xs t ((xs.length : Int) == 0) l0 l1 st lo hi l)))) hb ?_).of_eq fun k => rfl
  cases b with
  | true => simpa using tj
  | false =>
    obtain ⟨g0, g1, g2⟩ := hg rfl
    simp only [Bool.false_eq_true, if_false]
    by_cases c20 : (xs.length : Int) > 20
    · simp only [if_pos c20]; exact tj
    · simp only [if_neg c20]
      by_cases cz : (xs.length : Int) = 0
      · rw [show ((xs.length : Int) == 0) = true from beq_iff_eq.2 cz]; exact tj
      · rw [show ((xs.length : Int) == 0) = false from beq_eq_false_iff_ne.2 cz]
        have hn : 0 < xs.length := by omega
        have ha := all_tells l0 l1 st lo hi l (by omega) (by omega) (by omega) xs (by omega)
        refine Tells.succ (ha.bind (b := fun k bt392 => (if (xs.length : Int) = 0 then (none) else (thatchlaw07_WearOrder.l0 k xs bt392.2.2.2.2.2.2 (Int.tmod (wrap64 t) (xs.length : Int)) ([] : List (S43)) (wrap64 ((xs.length : Int) - 1)) l0 l1 st lo hi l bt392.1 bt392.2.1 bt392.2.2.1 bt392.2.2.2.1 bt392.2.2.2.2.1 bt392.2.2.2.2.2.1))) ?_) (fun k => by rw [thatchlaw07_WearOrder.j0, if_neg (by decide)])
        simp only [if_neg cz]
        have hc : Int.tmod (wrap64 t) (xs.length : Int) = ((t.toNat % xs.length : Nat) : Int) := by
          rw [wrap_in (by omega) (by omega), Int.natCast_emod, show ((t.toNat : Nat) : Int) = t by omega]
          exact Int.tmod_eq_emod_of_nonneg (by omega)
        have hcl : t.toNat % xs.length < xs.length := Nat.mod_lt _ hn
        rw [hc, show wrap64 ((xs.length : Int) - 1) = (xs.length : Int) - 1 from wrap_in (by omega) (by omega)]
        have hp := turned_perm xs _ hcl
        refine order_l0 l0 l1 st lo hi l (by omega) (by omega) (by omega) xs (by omega) hn _ hcl _ (allV l0 l1 st lo hi xs l) true (fun ys hys => ?_) xs.length [] (Nat.le_refl _) rfl
        subst hys
        have hne : xs ≠ [] := fun h => by subst h; simp at hn
        have hb2 := all_tells l0 l1 st lo hi l (by omega) (by omega) (by omega) (turned xs (t.toNat % xs.length) xs.length) (by rw [hp.length_eq]; omega)
        refine hb2.bind ?_
        by_cases hok : AllOk l0 l1 st lo hi l xs
        · rw [allV_ok _ _ hok, allV_ok _ _ (hok.perm hp.symm), fold_perm hp l hok.ok.asc]
          simp only [if_true, beq_self_eq_true]
          have hlast := hok.last.few
          refine (same_self l0 l1 st lo hi (xs.foldl insX l) (by omega) (by omega) (by omega)).bind ?_
          simp only [if_true]
          exact lives_tells.bind (Tells.const fun _ => rfl)
        · have hok2 : ¬ AllOk l0 l1 st lo hi l (turned xs (t.toNat % xs.length) xs.length) := fun h => hok (h.perm hp)
          have hne2 : turned xs (t.toNat % xs.length) xs.length ≠ [] := fun h => by
            have := hp.length_eq
            rw [h] at this
            simp at this
            omega
          obtain ⟨e1, he1, q1⟩ := allV_bad xs l hne hok
          obtain ⟨e2, he2, q2⟩ := allV_bad _ l hne2 hok2
          rw [q1, q2]
          have b1 : ((errSkin e1).2.2.2.2.2.2 == 0) = false := beq_eq_false_iff_ne.2 he1
          have b2 : ((errSkin e2).2.2.2.2.2.2 == 0) = false := beq_eq_false_iff_ne.2 he2
          have n1 : ¬ (errSkin e1).2.2.2.2.2.2 = 0 := he1
          simp only [b1, b2, beq_self_eq_true, if_true, if_neg n1]
          exact lives_tells.bind (Tells.const fun _ => rfl)
end Go.Proofs.Ytcfpclehogdmbaa.Q
end
