/- part 2 of a proof over the translation: walks that a program of ours has printed and shortened, and plain laws; each says what stands in it -/
import Derived.Laws.Externs
import Derived.Laws.NewBlocks
import Derived.Lib.AppendZeros
import Derived.Shelf.RegionOpenPlain
import Derived.Test.YtcfpclehogdmbaaTB0
import Derived.Test.YtcfpclehogdmbaaTB1
section
namespace Go.Proofs.Ytcfpclehogdmbaa.Q
open Go.RowKit Go.Proofs.YtcfpclehogdmbaaW.PrintWords Go.Proofs.YtcfpclehogdmbaaW.PrintLast Go.Proofs.YtcfpclehogdmbaaW.PrintMore
attribute [local go_sem] max2_int min2_int max_two min_two max_three min_three max_four min_four   -- for this text's walks alone
set_option linter.unusedVariables false
set_option linter.unusedSimpArgs false
def cmpv (a b : Int) : Int := if a < b then -1 else if a > b then 1 else 0
def ordv (a0 a1 b0 b1 : Int) : Int := if cmpv a1 b1 = 0 then cmpv a0 b0 else cmpv a1 b1
theorem cmp_tells (a b : Int) : cmp_Compare_int.f a b = some (cmpv a b) := by
  simp only [cmp_Compare_int.f, cmp_isNaN_int.f, bne_self_eq_false, Option.bind_some, Bool.false_eq_true, if_false]
  unfold cmpv
  split
  · rfl
  split <;> rfl
theorem order_tells (a0 a1 b0 b1 : Int) : wear_order.f 3 a0 a1 b0 b1 = some (ordv a0 a1 b0 b1) := by
  simp only [wear_order.f, cmp_tells, Option.bind_some, cmp_Or_int.f, ordv]
  by_cases h : cmpv a1 b1 = 0
  · by_cases h2 : cmpv a0 b0 = 0
    · simp [cmp_Or_int.l0, rd, h, h2, wrap64]
    simp [cmp_Or_int.l0, rd, h, h2, wrap64]
  simp [cmp_Or_int.l0, rd, h]
set_option maxHeartbeats 1000000 in
set_option maxRecDepth 100000 in
theorem ordc.calls (x : S67) (b0 b1 : Int) (W : World) : Calls Try.prog 25 #[.agg #[.int .i64 x.f0.f0, .int .i64 x.f0.f1, .int .i64 x.f1.f0, .int .i64 x.f1.f1], .agg #[.int .i64 b0, .int .i64 b1]] W fun e W' => e = .returned (.int .i64 (ordv x.f0.f0 x.f0.f1 b0 b1)) ∧ Below W.heap.size W W' := by
  have hu32 := Try.underlying32
  have hu67 := Try.underlying67
  go_enter Try.func25, Try.ntmps25
  go_wp2_with (go_at_call 26; refine (wear_order.calls _ _ _ _ _ _ _ (order_tells _ _ _ _)).mono ?_; rintro e w1 ⟨rfl, hb⟩; have HB := Aside0.mk hb; clear hb)
  go_ret
  exact ⟨rfl, (((Below.refl _ W).alloc (Nat.le_refl _) _).alloc (by simp) _).trans (HB.out.mono (by simp; try omega))⟩
def bs.go (l : List S67) (p0 p1 : Int) : Nat → Nat → Nat → Nat
  | 0, i, _ => i
  | k + 1, i, j => if i < j then (if ordv (rd_T67 l ((i + j) / 2 : Nat)).f0.f0 (rd_T67 l ((i + j) / 2 : Nat)).f0.f1 p0 p1 < 0 then bs.go l p0 p1 k ((i + j) / 2 + 1) j else bs.go l p0 p1 k i ((i + j) / 2)) else i
theorem bs.fuel (l : List S67) (p0 p1 : Int) : ∀ (k i j : Nat), j - i ≤ k → bs.go l p0 p1 k i j = bs.go l p0 p1 (j - i) i j := by
  intro k
  induction k using Nat.strongRecOn with
  | _ k ih =>
    intro i j h
    by_cases hij : i < j
    · obtain ⟨k, rfl⟩ : ∃ m, k = m + 1 := ⟨k - 1, by omega⟩
      obtain ⟨d, hd⟩ : ∃ d, j - i = d + 1 := ⟨j - i - 1, by omega⟩
      rw [hd]
      simp only [bs.go, if_pos hij]
      split
      · rw [ih k (by omega) _ _ (by omega)]
        by_cases hkd : k = d
        · subst hkd; exact (ih k (by omega) _ _ (by omega)).symm
        exact (ih d (by omega) _ _ (by omega)).symm
      rw [ih k (by omega) _ _ (by omega)]
      by_cases hkd : k = d
      · subst hkd; exact (ih k (by omega) _ _ (by omega)).symm
      exact (ih d (by omega) _ _ (by omega)).symm
    rw [show j - i = 0 by omega]
    cases k with
    | zero => rfl
    | succ k => simp [bs.go, hij]
def bs.at (l : List S67) (p0 p1 : Int) (i j : Nat) : Nat := bs.go l p0 p1 (j - i) i j
theorem bs.at_done (l : List S67) (p0 p1 : Int) (i j : Nat) (h : ¬ i < j) : bs.at l p0 p1 i j = i := by
  unfold bs.at
  rw [show j - i = 0 by omega]
  rfl
theorem bs.at_up (l : List S67) (p0 p1 : Int) (i j : Nat) (h : i < j) (ho : ordv (rd_T67 l ((i + j) / 2 : Nat)).f0.f0 (rd_T67 l ((i + j) / 2 : Nat)).f0.f1 p0 p1 < 0) : bs.at l p0 p1 i j = bs.at l p0 p1 ((i + j) / 2 + 1) j := by
  unfold bs.at
  obtain ⟨d, hd⟩ : ∃ d, j - i = d + 1 := ⟨j - i - 1, by omega⟩
  rw [hd]
  simp only [bs.go, if_pos h, if_pos ho]
  exact bs.fuel _ _ _ _ _ _ (by omega)
theorem bs.at_down (l : List S67) (p0 p1 : Int) (i j : Nat) (h : i < j) (ho : ¬ ordv (rd_T67 l ((i + j) / 2 : Nat)).f0.f0 (rd_T67 l ((i + j) / 2 : Nat)).f0.f1 p0 p1 < 0) : bs.at l p0 p1 i j = bs.at l p0 p1 i ((i + j) / 2) := by
  unfold bs.at
  obtain ⟨d, hd⟩ : ∃ d, j - i = d + 1 := ⟨j - i - 1, by omega⟩
  rw [hd]
  simp only [bs.go, if_pos h, if_neg ho]
  exact bs.fuel _ _ _ _ _ _ (by omega)
def bs.there (l : List S67) (p0 p1 : Int) (i : Nat) : Bool := decide (i < l.length) && decide (ordv (rd_T67 l i).f0.f0 (rd_T67 l i).f0.f1 p0 p1 = 0)
def api_Pt_wear_Probe_1.f (l0 : List S67) (p0 p1 : Int) : Option (Int × Bool) := if 1000000 ≤ l0.length then none else some ((bs.at l0 p0 p1 0 l0.length : Nat), bs.there l0 p0 p1 (bs.at l0 p0 p1 0 l0.length))
set_option maxHeartbeats 4000000 in
set_option maxRecDepth 100000 in
theorem api_Pt_wear_Probe_1.calls (A0 : Option Addr) (c0 : Nat) (l0 : List S67) (p0 p1 : Int) (r0 : Int) (r1 : Bool) (w : World) (hr0 : Kd.C k67 w A0 l0.length l0) (hc0 : l0.length ≤ c0) (h : api_Pt_wear_Probe_1.f l0 p0 p1 = some (r0, r1)) :
    Calls Try.prog 24 #[.slice A0 l0.length c0, .agg #[.int .i64 p0, .int .i64 p1], .func (.func 25) #[] #[]] w fun e w' => e = .returned (.tuple #[.int .i64 r0, .bool r1]) ∧ Below w.heap.size w w' := by
  have hu28 := Try.underlying28
  have hu32 := Try.underlying32
  have hu67 := Try.underlying67
  have hln : (l0.length : Int) ≤ 9223372036854775807 := by have := hr0.2.1; omega
  have HR0 := Aside0.mk hr0
  have HC0 := Aside0.mk hc0
  have hbig : l0.length < 1000000 := by
    unfold api_Pt_wear_Probe_1.f at h
    by_cases hh : 1000000 ≤ l0.length
    · rw [if_pos hh] at h; cases h
    omega
  have hR : ((bs.at l0 p0 p1 0 l0.length : Nat) : Int) = r0 ∧ bs.there l0 p0 p1 (bs.at l0 p0 p1 0 l0.length) = r1 := by
    unfold api_Pt_wear_Probe_1.f at h
    rw [if_neg (by omega)] at h
    simpa using h
  have HR := Aside0.mk hR
  clear hr0 hc0 h hR
  have hcf : ∀ (args : Array Value) (W : World), (callFunc 25 args).run Try.prog W = .ok (.enter 25 args) W := enters_of Try.func25 (by kernel_rfl) rfl
  have hb1 : Below w.heap.size w (w.alloc (.cells #[.int .i64 p0, .int .i64 p1] 32)) := (Below.refl _ _).alloc (Nat.le_refl _) _
  have k1 : (w.alloc (.cells #[.int .i64 p0, .int .i64 p1] 32)).heap[w.heap.size]? = some (.cells #[.int .i64 p0, .int .i64 p1] 32 (0, 0)) := World.alloc_heap_new _ _
  have HB1 := Aside0.mk hb1
  have K1 := Aside0.mk k1
  clear hb1 k1
  go_enter Try.func24, Try.ntmps24
  go_wp2
  generalize w.alloc (.cells #[.int .i64 p0, .int .i64 p1] 32) = w1 at HB1 K1 ⊢
  go_loopw [9, 10] (fun i j wr => ∃ x y : Nat, i = .int .i64 (x : Int) ∧ j = .int .i64 (y : Int) ∧ x ≤ y ∧ y ≤ l0.length ∧ Aside0 (bs.at l0 p0 p1 x y = bs.at l0 p0 p1 0 l0.length) ∧ Aside0 (wr.heap[w.heap.size]? = some (.cells #[.int .i64 p0, .int .i64 p1] 32 (0, 0))) ∧ Aside0 (Below w.heap.size w wr))
    (fun i j _ => (intOf j).toNat - (intOf i).toNat)
  case atStart => exact ⟨0, l0.length, rfl, rfl, by omega, by omega, ⟨rfl⟩, K1, HB1⟩
  case round =>
    clear K1 HB1
    obtain ⟨x, y, rfl, rfl, hxy, hyn, HX, K1, HB1⟩ := hrel
    by_cases hlt : (x : Int) < (y : Int)
    · have pl := eq_true hlt
      have hlt2 : x < y := by omega
      obtain ⟨m, hm⟩ : ∃ m : Nat, (x + y) / 2 = m := ⟨_, rfl⟩
      have hmn : m < l0.length := by omega
      obtain ⟨ad, e1, g0, g1, g2, g3⟩ := at_T67 (Kd.C_below (w1 := wr) HR0.out HB1.out) (m : Int) (by omega) (by omega)
      subst e1
      rw [Int.toNat_natCast] at g0 g1 g2 g3
      have HU := bs.at_up l0 p0 p1 x y hlt2
      have HD := bs.at_down l0 p0 p1 x y hlt2
      rw [hm] at HU HD
      have HU := Aside0.mk HU
      have HD := Aside0.mk HD
      have HM := Aside0.mk hm
      have HMI : wrap64 (IntKind.u64.wrap (wrap64 ((x : Int) + (y : Int))) / 2) = (m : Int) := by
        have h1 : wrap64 ((x : Int) + (y : Int)) = (x : Int) + (y : Int) := IntWalk.wrap64_in _ (by omega)
        have h2 : IntKind.u64.wrap ((x : Int) + (y : Int)) = (x : Int) + (y : Int) := by simp [IntKind.wrap, IntKind.signed, IntKind.bits]; omega
        rw [h1, h2, ← hm]
        rw [IntWalk.wrap64_in _ (by omega)]
        omega
      have hlts := Aside0.mk hlt2
      have pm : (0 ≤ (m : Int)) = True := eq_true (by omega)
      have qm : ((m : Int) < (l0.length : Int)) = True := eq_true (by omega)
      have HMN := Aside0.mk hmn
      have HYN := Aside0.mk hyn
      clear hlt hlt2 hxy hyn hm hmn
      go_wp2
      have h4 : wr.cell? ⟨w.heap.size, 0, none⟩ = some (.int .i64 p0) := (blk_cell K1.out 0).trans rfl
      have h5 : wr.cell? ⟨w.heap.size, 1, none⟩ = some (.int .i64 p1) := (blk_cell K1.out 1).trans rfl
      refine start_ (n := 8) (S := fun w' => w'.cell? (ad.add (m * 4)) = some (.int .i64 (rd_T67 l0 m).f0.f0) ∧ w'.cell? ⟨(ad.add (m * 4)).block, (ad.add (m * 4)).off + 1, none⟩ = some (.int .i64 (rd_T67 l0 m).f0.f1) ∧ w'.cell? ⟨(ad.add (m * 4)).block, (ad.add (m * 4)).off + 2, none⟩ = some (.int .i64 (rd_T67 l0 m).f1.f0) ∧ w'.cell? ⟨(ad.add (m * 4)).block, (ad.add (m * 4)).off + 3, none⟩ = some (.int .i64 (rd_T67 l0 m).f1.f1) ∧ w'.cell? ⟨w.heap.size, 0, none⟩ = some (.int .i64 p0) ∧ w'.cell? ⟨w.heap.size, 1, none⟩ = some (.int .i64 p1)) (ds := [6]) #[Z0, Z0, Z0, Z0, Z0, Z0, Z0, Z0] (by kernel_rfl) rfl rfl ⟨g0, g1, g2, g3, h4, h5⟩ (fun hHeld => ?_)
      refine zp 0 (some 24) #[Z1, Z0, Z0, Z0, Z0, Z0, Z0, Z0] rfl rfl (by kernel_rfl) ?_
      refine zp 1 (some 25) #[Z1, Z1, Z0, Z0, Z0, Z0, Z0, Z0] rfl rfl (by kernel_rfl) ?_
      refine zp 2 (some 26) #[Z1, Z1, Z1, Z0, Z0, Z0, Z0, Z0] rfl rfl (by kernel_rfl) ?_
      refine zp 3 (some 27) #[Z1, Z1, Z1, Z1, Z0, Z0, Z0, Z0] rfl rfl (by kernel_rfl) ?_
      refine take_ (i := 4) (N := (some 28)) (v := ?_) (a' := ?_) #[Z1, Z1, Z1, Z1, Z1, Z0, Z0, Z0] rfl rfl (by kernel_rfl) (fun _ _ _ h => h) (Or.inl ⟨by rfl, ?_⟩) hHeld ?_ ?_
      rotate_left; · rintro w' ⟨s0, s1, s2, s3, s4, s5⟩; go_simp; with_reducible rfl
      rotate_left; · simp only [Act.put, List.setIfInBounds_toArray, List.set_cons_zero, List.set_cons_succ, i64_w, i32_w]; rfl
      refine take_ (i := 5) (N := (some 29)) (v := ?_) (a' := ?_) #[Z1, Z1, Z1, Z1, Z1, Z1, Z0, Z0] rfl rfl (by kernel_rfl) (fun _ _ _ h => h) (Or.inl ⟨by rfl, ?_⟩) hHeld ?_ ?_
      rotate_left; · rintro w' ⟨s0, s1, s2, s3, s4, s5⟩; go_simp; with_reducible rfl
      rotate_left; · simp only [Act.put, List.setIfInBounds_toArray, List.set_cons_zero, List.set_cons_succ, i64_w, i32_w]; rfl
      refine last_ (i := 6) (N := some 30) #[Z1, Z1, Z1, Z1, Z1, Z1, Z1, Z0] rfl rfl (by kernel_rfl) (by decide) (fun K hK => ?_)
      go_simp
      go_at_call 25
      refine (ordc.calls (rd_T67 l0 m) p0 p1 wr.drew).mono ?_
      rintro e w6 ⟨rfl, hb6⟩
      have hb6 : Below wr.heap.size wr w6 := (Below.refl _ wr).drew.trans hb6
      refine hK.out _ _ ?_
      have K6 := Aside0.mk ((hb6.block _ (Array.getElem?_eq_some_iff.1 K1.out).1).trans K1.out)
      have HB6 := Aside0.mk (HB1.out.trans (hb6.mono HB1.out.size))
      clear hK K hHeld h4 h5 g0 g1 g2 g3 hb6
      refine zp 7 (some 31) #[Z1, Z1, Z1, Z1, Z1, Z1, Z1, Z1] rfl rfl (by kernel_rfl) ?_
      refine done_ (by kernel_rfl) ?_
      generalize hL : ordv (rd_T67 l0 m).f0.f0 (rd_T67 l0 m).f0.f1 p0 p1 = L at HU HD ⊢
      by_cases hneg : L < 0
      · have hd := decide_eq_true hneg
        rw [hd]
        have HE := Aside0.mk (HU.out hneg)
        clear hneg hL
        go_wp2
        have hw1 : wrap64 ((m : Int) + 1) = ((m + 1 : Nat) : Int) := by rw [IntWalk.wrap64_in _ (by have := HMN.out; omega)]; omega
        rw [hw1]
        refine ⟨⟨m + 1, y, rfl, rfl, by have := HM.out; have := hlts.out; omega, HYN.out, ⟨HE.out ▸ HX.out⟩, K6, HB6⟩, ?_⟩
        have := HM.out
        have := hlts.out
        simp [intOf]
        omega
      have hd := decide_eq_false hneg
      rw [hd]
      have HE := Aside0.mk (HD.out (by omega))
      clear hneg hL
      go_wp2
      refine ⟨⟨x, m, rfl, rfl, by have := HM.out; have := hlts.out; omega, by have := HMN.out; omega, ⟨HE.out ▸ HX.out⟩, K6, HB6⟩, ?_⟩
      have := HM.out
      have := hlts.out
      simp [intOf]
      omega
    obtain rfl : x = y := by omega
    have hd0 : ¬ (x < x) := by omega
    have HE := Aside0.mk ((bs.at_done l0 p0 p1 x x hd0).symm.trans HX.out)
    clear hlt hxy hd0
    by_cases hxn : x < l0.length
    · obtain ⟨ad, e1, g0, g1, g2, g3⟩ := at_T67 (Kd.C_below (w1 := wr) HR0.out HB1.out) (x : Int) (by omega) (by omega)
      subst e1
      rw [Int.toNat_natCast] at g0 g1 g2 g3
      have pm : (0 ≤ (x : Int)) = True := eq_true (by omega)
      have qm : ((x : Int) < (l0.length : Int)) = True := eq_true (by omega)
      have HXN := Aside0.mk hxn
      clear hxn hyn
      go_wp2
      have h4 : wr.cell? ⟨w.heap.size, 0, none⟩ = some (.int .i64 p0) := (blk_cell K1.out 0).trans rfl
      have h5 : wr.cell? ⟨w.heap.size, 1, none⟩ = some (.int .i64 p1) := (blk_cell K1.out 1).trans rfl
      refine start_ (n := 16) (S := (fun w' => w'.cell? (ad.add (x * 4)) = some (.int .i64 (rd_T67 l0 x).f0.f0) ∧ w'.cell? ⟨(ad.add (x * 4)).block, (ad.add (x * 4)).off + 1, none⟩ = some (.int .i64 (rd_T67 l0 x).f0.f1) ∧ w'.cell? ⟨(ad.add (x * 4)).block, (ad.add (x * 4)).off + 2, none⟩ = some (.int .i64 (rd_T67 l0 x).f1.f0) ∧ w'.cell? ⟨(ad.add (x * 4)).block, (ad.add (x * 4)).off + 3, none⟩ = some (.int .i64 (rd_T67 l0 x).f1.f1) ∧ w'.cell? ⟨w.heap.size, 0, none⟩ = some (.int .i64 p0) ∧ w'.cell? ⟨w.heap.size, 1, none⟩ = some (.int .i64 p1))) (ds := [11]) #[Z0, Z0, Z0, Z0, Z0, Z0, Z0, Z0, Z0, Z0, Z0, Z0, Z0, Z0, Z0, Z0] (by kernel_rfl) rfl rfl ⟨g0, g1, g2, g3, h4, h5⟩ (fun hHeld => ?_)
      refine zp 0 (some 35) #[Z1, Z0, Z0, Z0, Z0, Z0, Z0, Z0, Z0, Z0, Z0, Z0, Z0, Z0, Z0, Z0] rfl rfl (by kernel_rfl) ?_
      refine zp 1 (some 36) #[Z1, Z1, Z0, Z0, Z0, Z0, Z0, Z0, Z0, Z0, Z0, Z0, Z0, Z0, Z0, Z0] rfl rfl (by kernel_rfl) ?_
      refine zp 2 (some 37) #[Z1, Z1, Z1, Z0, Z0, Z0, Z0, Z0, Z0, Z0, Z0, Z0, Z0, Z0, Z0, Z0] rfl rfl (by kernel_rfl) ?_
      refine zp 3 (some 38) #[Z1, Z1, Z1, Z1, Z0, Z0, Z0, Z0, Z0, Z0, Z0, Z0, Z0, Z0, Z0, Z0] rfl rfl (by kernel_rfl) ?_
      refine zp 4 (some 39) #[Z1, Z1, Z1, Z1, Z1, Z0, Z0, Z0, Z0, Z0, Z0, Z0, Z0, Z0, Z0, Z0] rfl rfl (by kernel_rfl) ?_
      refine zp 5 (some 40) #[Z1, Z1, Z1, Z1, Z1, Z1, Z0, Z0, Z0, Z0, Z0, Z0, Z0, Z0, Z0, Z0] rfl rfl (by kernel_rfl) ?_
      refine zp 6 (some 41) #[Z1, Z1, Z1, Z1, Z1, Z1, Z1, Z0, Z0, Z0, Z0, Z0, Z0, Z0, Z0, Z0] rfl rfl (by kernel_rfl) ?_
      refine zp 7 (some 42) #[Z1, Z1, Z1, Z1, Z1, Z1, Z1, Z1, Z0, Z0, Z0, Z0, Z0, Z0, Z0, Z0] rfl rfl (by kernel_rfl) ?_
      refine zp 8 (some 43) #[Z1, Z1, Z1, Z1, Z1, Z1, Z1, Z1, Z1, Z0, Z0, Z0, Z0, Z0, Z0, Z0] rfl rfl (by kernel_rfl) ?_
      refine take_ (i := 9) (N := (some 44)) (v := ?_) (a' := ?_) #[Z1, Z1, Z1, Z1, Z1, Z1, Z1, Z1, Z1, Z1, Z0, Z0, Z0, Z0, Z0, Z0] rfl rfl (by kernel_rfl) (fun _ _ _ h => h) (Or.inl ⟨by rfl, ?_⟩) hHeld ?_ ?_
      rotate_left; · rintro w' ⟨s0, s1, s2, s3, s4, s5⟩; go_simp; with_reducible rfl
      rotate_left; · simp only [Act.put, List.setIfInBounds_toArray, List.set_cons_zero, List.set_cons_succ, i64_w, i32_w]; rfl
      refine take_ (i := 10) (N := (some 45)) (v := ?_) (a' := ?_) #[Z1, Z1, Z1, Z1, Z1, Z1, Z1, Z1, Z1, Z1, Z1, Z0, Z0, Z0, Z0, Z0] rfl rfl (by kernel_rfl) (fun _ _ _ h => h) (Or.inl ⟨by rfl, ?_⟩) hHeld ?_ ?_
      rotate_left; · rintro w' ⟨s0, s1, s2, s3, s4, s5⟩; go_simp; with_reducible rfl
      rotate_left; · simp only [Act.put, List.setIfInBounds_toArray, List.set_cons_zero, List.set_cons_succ, i64_w, i32_w]; rfl
      refine last_ (i := 11) (N := some 46) #[Z1, Z1, Z1, Z1, Z1, Z1, Z1, Z1, Z1, Z1, Z1, Z1, Z0, Z0, Z0, Z0] rfl rfl (by kernel_rfl) (by decide) (fun K hK => ?_)
      go_simp
      go_at_call 25
      refine (ordc.calls (rd_T67 l0 x) p0 p1 wr.drew).mono ?_
      rintro e w6 ⟨rfl, hb6⟩
      have hb6 : Below wr.heap.size wr w6 := (Below.refl _ wr).drew.trans hb6
      refine hK.out _ _ ?_
      have HB6 := Aside0.mk (HB1.out.trans (hb6.mono HB1.out.size))
      clear hK K hHeld h4 h5 g0 g1 g2 g3 hb6
      refine zp 12 (some 47) #[Z1, Z1, Z1, Z1, Z1, Z1, Z1, Z1, Z1, Z1, Z1, Z1, Z1, Z0, Z0, Z0] rfl rfl (by kernel_rfl) ?_
      refine zp 13 (some 48) #[Z1, Z1, Z1, Z1, Z1, Z1, Z1, Z1, Z1, Z1, Z1, Z1, Z1, Z1, Z0, Z0] rfl rfl (by kernel_rfl) ?_
      refine zp 14 (some 6) #[Z1, Z1, Z1, Z1, Z1, Z1, Z1, Z1, Z1, Z1, Z1, Z1, Z1, Z1, Z1, Z0] rfl rfl (by kernel_rfl) ?_
      refine zp 15 (some 7) #[Z1, Z1, Z1, Z1, Z1, Z1, Z1, Z1, Z1, Z1, Z1, Z1, Z1, Z1, Z1, Z1] rfl rfl (by kernel_rfl) ?_
      refine done_ (by kernel_rfl) ?_
      go_wp2
      refine bodyPost_ret (v := .tuple #[.int .i64 (x : Int), .bool (ordv (rd_T67 l0 x).f0.f0 (rd_T67 l0 x).f0.f1 p0 p1 == 0)]) (by simp [results, Try.results24, go_sem]) rfl ⟨?_, HB6.out⟩
      rw [← HR.out.1, ← HR.out.2, ← HE.out]
      have := HXN.out
      simp [bs.there, this]
      rfl
    have pm : (x < l0.length) = False := eq_false hxn
    have qm : ((x : Int) < (l0.length : Int)) = False := eq_false (by omega)
    have HXN := Aside0.mk hxn
    clear hxn hyn
    go_wp2
    refine start_ (n := 16) (S := fun _ => True) (ds := []) #[Z0, Z0, Z0, Z0, Z0, Z0, Z0, Z0, Z0, Z0, Z0, Z0, Z0, Z0, Z0, Z0] (by kernel_rfl) rfl rfl trivial (fun hHeld => ?_)
    refine zp 0 (some 35) #[Z1, Z0, Z0, Z0, Z0, Z0, Z0, Z0, Z0, Z0, Z0, Z0, Z0, Z0, Z0, Z0] rfl rfl (by kernel_rfl) ?_
    refine zp 1 (some 36) #[Z1, Z1, Z0, Z0, Z0, Z0, Z0, Z0, Z0, Z0, Z0, Z0, Z0, Z0, Z0, Z0] rfl rfl (by kernel_rfl) ?_
    refine zp 2 (some 37) #[Z1, Z1, Z1, Z0, Z0, Z0, Z0, Z0, Z0, Z0, Z0, Z0, Z0, Z0, Z0, Z0] rfl rfl (by kernel_rfl) ?_
    refine zp 3 (some 38) #[Z1, Z1, Z1, Z1, Z0, Z0, Z0, Z0, Z0, Z0, Z0, Z0, Z0, Z0, Z0, Z0] rfl rfl (by kernel_rfl) ?_
    refine zp 4 (some 39) #[Z1, Z1, Z1, Z1, Z1, Z0, Z0, Z0, Z0, Z0, Z0, Z0, Z0, Z0, Z0, Z0] rfl rfl (by kernel_rfl) ?_
    refine pure_ (i := 5) (N := (some 40)) (v := undef) (a' := ?_) #[Z1, Z1, Z1, Z1, Z1, Z1, Z0, Z0, Z0, Z0, Z0, Z0, Z0, Z0, Z0, Z0] rfl rfl (by kernel_rfl) (fun _ _ _ h => h) (Or.inr ⟨by rfl, rfl⟩) ?_ ?_
    rotate_left
    · simp only [Act.put, List.setIfInBounds_toArray, List.set_cons_zero, List.set_cons_succ, i64_w, i32_w]
      rfl
    refine pure_ (i := 6) (N := (some 41)) (v := undef) (a' := ?_) #[Z1, Z1, Z1, Z1, Z1, Z1, Z1, Z0, Z0, Z0, Z0, Z0, Z0, Z0, Z0, Z0] rfl rfl (by kernel_rfl) (fun _ _ _ h => h) (Or.inr ⟨by rfl, rfl⟩) ?_ ?_
    rotate_left
    · simp only [Act.put, List.setIfInBounds_toArray, List.set_cons_zero, List.set_cons_succ, i64_w, i32_w]
      rfl
    refine pure_ (i := 7) (N := (some 42)) (v := undef) (a' := ?_) #[Z1, Z1, Z1, Z1, Z1, Z1, Z1, Z1, Z0, Z0, Z0, Z0, Z0, Z0, Z0, Z0] rfl rfl (by kernel_rfl) (fun _ _ _ h => h) (Or.inr ⟨by rfl, rfl⟩) ?_ ?_
    rotate_left
    · simp only [Act.put, List.setIfInBounds_toArray, List.set_cons_zero, List.set_cons_succ, i64_w, i32_w]
      rfl
    refine pure_ (i := 8) (N := (some 43)) (v := undef) (a' := ?_) #[Z1, Z1, Z1, Z1, Z1, Z1, Z1, Z1, Z1, Z0, Z0, Z0, Z0, Z0, Z0, Z0] rfl rfl (by kernel_rfl) (fun _ _ _ h => h) (Or.inr ⟨by rfl, rfl⟩) ?_ ?_
    rotate_left
    · simp only [Act.put, List.setIfInBounds_toArray, List.set_cons_zero, List.set_cons_succ, i64_w, i32_w]
      rfl
    refine pure_ (i := 9) (N := (some 44)) (v := undef) (a' := ?_) #[Z1, Z1, Z1, Z1, Z1, Z1, Z1, Z1, Z1, Z1, Z0, Z0, Z0, Z0, Z0, Z0] rfl rfl (by kernel_rfl) (fun _ _ _ h => h) (Or.inr ⟨by rfl, rfl⟩) ?_ ?_
    rotate_left
    · simp only [Act.put, List.setIfInBounds_toArray, List.set_cons_zero, List.set_cons_succ, i64_w, i32_w]
      rfl
    refine pure_ (i := 10) (N := (some 45)) (v := undef) (a' := ?_) #[Z1, Z1, Z1, Z1, Z1, Z1, Z1, Z1, Z1, Z1, Z1, Z0, Z0, Z0, Z0, Z0] rfl rfl (by kernel_rfl) (fun _ _ _ h => h) (Or.inr ⟨by rfl, rfl⟩) ?_ ?_
    rotate_left
    · simp only [Act.put, List.setIfInBounds_toArray, List.set_cons_zero, List.set_cons_succ, i64_w, i32_w]
      rfl
    refine pure_ (i := 11) (N := (some 46)) (v := undef) (a' := ?_) #[Z1, Z1, Z1, Z1, Z1, Z1, Z1, Z1, Z1, Z1, Z1, Z1, Z0, Z0, Z0, Z0] rfl rfl (by kernel_rfl) (fun _ _ _ h => h) (Or.inr ⟨by rfl, rfl⟩) ?_ ?_
    rotate_left
    · simp only [Act.put, List.setIfInBounds_toArray, List.set_cons_zero, List.set_cons_succ, i64_w, i32_w]
      rfl
    refine pure_ (i := 12) (N := (some 47)) (v := undef) (a' := ?_) #[Z1, Z1, Z1, Z1, Z1, Z1, Z1, Z1, Z1, Z1, Z1, Z1, Z1, Z0, Z0, Z0] rfl rfl (by kernel_rfl) (fun _ _ _ h => h) (Or.inr ⟨by rfl, rfl⟩) ?_ ?_
    rotate_left
    · simp only [Act.put, List.setIfInBounds_toArray, List.set_cons_zero, List.set_cons_succ, i64_w, i32_w]
      rfl
    refine zp 13 (some 48) #[Z1, Z1, Z1, Z1, Z1, Z1, Z1, Z1, Z1, Z1, Z1, Z1, Z1, Z1, Z0, Z0] rfl rfl (by kernel_rfl) ?_
    refine zp 14 (some 6) #[Z1, Z1, Z1, Z1, Z1, Z1, Z1, Z1, Z1, Z1, Z1, Z1, Z1, Z1, Z1, Z0] rfl rfl (by kernel_rfl) ?_
    refine zp 15 (some 7) #[Z1, Z1, Z1, Z1, Z1, Z1, Z1, Z1, Z1, Z1, Z1, Z1, Z1, Z1, Z1, Z1] rfl rfl (by kernel_rfl) ?_
    refine done_ (by kernel_rfl) ?_
    go_wp2
    refine bodyPost_ret (v := .tuple #[.int .i64 (x : Int), .bool false]) (by simp [results, Try.results24, go_sem]) rfl ⟨?_, by first | exact HB1.out | exact HB1.out.drew⟩
    rw [← HR.out.1, ← HR.out.2, ← HE.out]
    have := HXN.out
    simp [bs.there, this]
end Go.Proofs.Ytcfpclehogdmbaa.Q
end
section
namespace Go.Proofs.Ytcfpclehogdmbaa.Q
open Go.RowKit Go.Proofs.YtcfpclehogdmbaaW.PrintWords Go.Proofs.YtcfpclehogdmbaaW.PrintLast Go.Proofs.YtcfpclehogdmbaaW.PrintMore
set_option linter.unusedVariables false
set_option linter.unusedSimpArgs false
def behindB (a0 a1 b0 b1 : Int) : Bool := decide (a1 > b1 ∨ (a1 = b1 ∧ a0 > b0))
theorem behind_tells (a0 a1 b0 b1 : Int) : thatchref07_behind.f a0 a1 b0 b1 = some (behindB a0 a1 b0 b1) := by
  unfold thatchref07_behind.f behindB
  by_cases h : a1 > b1
  · rw [if_pos h]; simp [h]
  · rw [if_neg h]
    by_cases h2 : a1 = b1
    · rw [if_pos h2]; simp [h2]
    · rw [if_neg h2]; simp [h, h2]
theorem ordv_ge (a0 a1 b0 b1 : Int) : (0 ≤ ordv a0 a1 b0 b1) ↔ ¬ behindB b0 b1 a0 a1 = true := by
  unfold ordv behindB cmpv
  rw [decide_eq_true_iff]
  split <;> rename_i h <;> (repeat' split at h) <;> (repeat' split) <;> omega
theorem order_all (a0 a1 b0 b1 : Int) : Tells (fun k => wear_order.f k a0 a1 b0 b1) (ordv a0 a1 b0 b1) := Tells.mono (fun k => wear_order.mono _ _ _ _ k) (order_tells a0 a1 b0 b1)
def ascB : List S67 → Bool
  | [] => true
  | a :: t => (match t with | [] => true | b :: _ => behindB b.f0.f0 b.f0.f1 a.f0.f0 a.f0.f1) && ascB t
theorem ascB_drop (l : List S67) {i : Nat} (h0 : 1 ≤ i) (h : i < l.length) : ascB (l.drop (i - 1)) = (behindB l[i].f0.f0 l[i].f0.f1 l[i - 1].f0.f0 l[i - 1].f0.f1 && ascB (l.drop i)) := by
  rw [List.drop_eq_getElem_cons (show i - 1 < l.length by omega), show i - 1 + 1 = i by omega, List.drop_eq_getElem_cons h]
  rfl
theorem ascB_last (l : List S67) {i : Nat} (h : l.length ≤ i) : ascB (l.drop (i - 1)) = true := by
  by_cases h2 : l.length ≤ i - 1
  · rw [List.drop_of_length_le h2]; rfl
  · rw [List.drop_eq_getElem_cons (show i - 1 < l.length by omega), show i - 1 + 1 = i by omega, List.drop_of_length_le h]; rfl
theorem wrap_pred {i : Nat} (h0 : 1 ≤ i) (h : i < 1000000) : wrap64 ((i : Int) - 1) = ((i - 1 : Nat) : Int) := by rw [wrap_in (by omega) (by omega)]; omega
theorem check_l2_ref (l0 : List S32) (l1 : List S55) (st lo hi : Int) (l : List S67) (hl : l.length < 1000000) : ∀ (d i : Nat), l.length - i = d → 1 ≤ i →
    Tells (fun k => thatchref07_Check.l2 k (i : Int) l0 l1 st lo hi l) (if ascB (l.drop (i - 1)) = true then (if l.all (agreeOne st lo hi l) = true then 0 else 10) else 8) := by
  intro d
  induction d with
  | zero =>
    intro i hd h0
    rw [ascB_last l (by omega), if_pos rfl]
    have ha : Tells (fun k => thatchref07_agree.f k l0 l1 st lo hi l) (l.all (agreeOne st lo hi l)) := agree_l0 l0 l1 st lo hi l hl l.length 0 (by omega) (by omega)
    refine Tells.succ (Tells.bind (b := fun k t => if t = true then some 0 else some 10) ha ?_) (fun k => by rw [thatchref07_Check.l2, if_neg (by omega)])
    by_cases hc : l.all (agreeOne st lo hi l) = true
    · simp only [if_pos hc]; exact Tells.const fun _ => rfl
    · simp only [if_neg hc]; exact Tells.const fun _ => rfl
  | succ d ih =>
    intro i hd h0
    have hlt : i < l.length := by omega
    have hih := ih (i + 1) (by omega) (by omega)
    rw [show i + 1 - 1 = i by omega] at hih
    rw [ascB_drop l h0 hlt]
    have hstep : ∀ k, thatchref07_Check.l2 (k + 1) (i : Int) l0 l1 st lo hi l = if behindB l[i].f0.f0 l[i].f0.f1 l[i - 1].f0.f0 l[i - 1].f0.f1 = true then thatchref07_Check.l2 k ((i + 1 : Nat) : Int) l0 l1 st lo hi l else some 8 := fun k => by
      rw [thatchref07_Check.l2, if_pos (by omega), if_pos (by omega), wrap_pred h0 (by omega), if_pos (by omega), if_pos (by omega), wrap_nat hlt hl, rd_get67 l hlt, rd_get67 l (show i - 1 < l.length by omega), behind_tells, Option.bind_some]
    by_cases hc : behindB l[i].f0.f0 l[i].f0.f1 l[i - 1].f0.f0 l[i - 1].f0.f1 = true
    · rw [hc, Bool.true_and]
      exact Tells.succ hih (fun k => by rw [hstep, if_pos hc])
    · rw [Bool.eq_false_iff.2 hc, Bool.false_and, if_neg (by decide)]
      exact Tells.succ (h := fun _ => some 8) (Tells.const fun _ => rfl) (fun k => by rw [hstep, if_neg hc])
def clashAt (st lo hi : Int) (l : List S67) (m : S67) : Bool := decide ((boundsV st lo hi m.f0.f0 m.f0.f1 l).1 > (boundsV st lo hi m.f0.f0 m.f0.f1 l).2)
theorem check_l2_wear (l0 : List S32) (l1 : List S55) (st lo hi : Int) (l : List S67) (hl : l.length < 1000000) : ∀ (d i : Nat), l.length - i = d → i ≤ l.length →
    Tells (fun k => wear_Check.l2 k l (l.length : Int) (i : Int) l0 l1 st lo hi l) (if (l.drop i).any (clashAt st lo hi l) = true then 10 else 0) := by
  intro d
  induction d with
  | zero =>
    intro i hd hi2
    obtain rfl : i = l.length := by omega
    rw [List.drop_length, List.any_nil, if_neg (by decide)]
    exact Tells.succ (h := fun _ => some 0) (Tells.const fun _ => rfl) (fun k => by rw [wear_Check.l2, if_neg (by omega)])
  | succ d ih =>
    intro i hd hi2
    have hlt : i < l.length := by omega
    have hih := ih (i + 1) (by omega) (by omega)
    rw [List.drop_eq_getElem_cons hlt, List.any_cons]
    refine Tells.succ (Tells.bind (b := fun k t => if t.1 > t.2 then some 10 else wear_Check.l2 k l (l.length : Int) ((i + 1 : Nat) : Int) l0 l1 st lo hi l) (bounds_tells l0 l1 st lo hi l[i].f0.f0 l[i].f0.f1 l hl) ?_) (fun k => by
      rw [wear_Check.l2, if_pos (by omega), if_pos (by omega), if_pos (by omega), wrap_nat hlt hl, rd_get67 l hlt])
    by_cases hc : (boundsV st lo hi l[i].f0.f0 l[i].f0.f1 l).1 > (boundsV st lo hi l[i].f0.f0 l[i].f0.f1 l).2
    · rw [show clashAt st lo hi l l[i] = true from decide_eq_true hc, Bool.true_or, if_pos rfl]
      exact Tells.const fun _ => if_pos hc
    · rw [show clashAt st lo hi l l[i] = false from decide_eq_false hc, Bool.false_or]
      exact hih.of_eq fun _ => if_neg hc
theorem check_l1_wear1 (l0 : List S32) (l1 : List S55) (st lo hi : Int) (l : List S67) (hl : l.length < 1000000) (V : Int) (hV : Tells (fun k => wear_Check.l2 k l (l.length : Int) 0 l0 l1 st lo hi l) V) : ∀ (d i : Nat), l.length - i = d → 1 ≤ i →
    Tells (fun k => wear_Check.l1 k l (l.length : Int) (i : Int) l0 l1 st lo hi l) (if ascB (l.drop (i - 1)) = true then V else 8) := by
  intro d
  induction d with
  | zero =>
    intro i hd h0
    rw [ascB_last l (by omega), if_pos rfl]
    exact Tells.succ hV (fun k => by rw [wear_Check.l1, if_neg (by omega)])
  | succ d ih =>
    intro i hd h0
    have hlt : i < l.length := by omega
    have hih := ih (i + 1) (by omega) (by omega)
    rw [show i + 1 - 1 = i by omega] at hih
    rw [ascB_drop l h0 hlt]
    have hp : i - 1 < l.length := by omega
    refine Tells.succ (Tells.bind (b := fun k t => if t ≥ 0 then some 8 else wear_Check.l1 k l (l.length : Int) ((i + 1 : Nat) : Int) l0 l1 st lo hi l) (order_all l[i - 1].f0.f0 l[i - 1].f0.f1 l[i].f0.f0 l[i].f0.f1) ?_) (fun k => by
      rw [wear_Check.l1, if_pos (by omega), if_pos (by omega), if_pos (by omega), if_pos (show (i : Int) > 0 by omega), wrap_pred h0 (by omega), if_pos (by omega), if_pos (by omega), wrap_nat hlt hl, rd_get67 l hlt, rd_get67 l hp])
    have hge := ordv_ge l[i - 1].f0.f0 l[i - 1].f0.f1 l[i].f0.f0 l[i].f0.f1
    by_cases hc : behindB l[i].f0.f0 l[i].f0.f1 l[i - 1].f0.f0 l[i - 1].f0.f1 = true
    · rw [hc, Bool.true_and]
      exact hih.of_eq fun _ => if_neg (fun h => (hge.1 h) hc)
    · rw [Bool.eq_false_iff.2 hc, Bool.false_and, if_neg (by decide)]
      exact Tells.const fun _ => if_pos (hge.2 hc)
theorem check_l1_wear (l0 : List S32) (l1 : List S55) (st lo hi : Int) (l : List S67) (hl : l.length < 1000000) (V : Int) (hV : Tells (fun k => wear_Check.l2 k l (l.length : Int) 0 l0 l1 st lo hi l) V) :
    Tells (fun k => wear_Check.l1 k l (l.length : Int) 0 l0 l1 st lo hi l) (if ascB l = true then V else 8) := by
  have h1 := check_l1_wear1 l0 l1 st lo hi l hl V hV (l.length - 1) 1 rfl (Nat.le_refl _)
  rw [show 1 - 1 = 0 from rfl, List.drop_zero] at h1
  by_cases hn : 0 < l.length
  · exact Tells.succ h1 (fun k => by
      rw [wear_Check.l1, if_pos (by omega), if_pos (by omega), if_pos (by omega), if_neg (show ¬ (0 : Int) > 0 by omega), show wrap64 (0 + 1) = ((1 : Nat) : Int) by rw [wrap_in (by omega) (by omega)]; rfl])
  · obtain rfl : l = [] := List.eq_nil_of_length_eq_zero (by omega)
    exact Tells.succ hV (fun k => by rw [wear_Check.l1, if_neg (by simp)])
end Go.Proofs.Ytcfpclehogdmbaa.Q
end
section
namespace Go.Proofs.Ytcfpclehogdmbaa.Q
open Go.RowKit Go.Proofs.YtcfpclehogdmbaaW.PrintWords Go.Proofs.YtcfpclehogdmbaaW.PrintLast Go.Proofs.YtcfpclehogdmbaaW.PrintMore
set_option linter.unusedVariables false
set_option linter.unusedSimpArgs false
theorem mx_max (a b : Int) : mx a b = max a b := by unfold mx; split <;> omega
theorem mn_min (a b : Int) : mn a b = min a b := by unfold mn; split <;> omega
def dst (a b : S32) : Int := max (a.f0 - b.f0) (b.f0 - a.f0) + max (a.f1 - b.f1) (b.f1 - a.f1)
theorem dst_nn (a b : S32) : 0 ≤ dst a b := by unfold dst; omega
theorem dst_self (a : S32) : dst a a = 0 := by unfold dst; omega
theorem dst_comm (a b : S32) : dst a b = dst b a := by unfold dst; omega
theorem dst_tri (a b c : S32) : dst a c ≤ dst b a + dst b c := by unfold dst; omega
theorem dst_le (a b : S32) (ha : inP a) (hb : inP b) : dst a b ≤ 800 := by unfold dst inP at *; omega
theorem farV_plain (a b : S32) (ha : inP a) (hb : inP b) : farV a b = dst a b := by
  unfold farV dst inP at *
  rw [mx_max, mx_max]
  rw [wrap_in (n := a.f0 - b.f0) (by omega) (by omega), wrap_in (n := b.f0 - a.f0) (by omega) (by omega), wrap_in (n := a.f1 - b.f1) (by omega) (by omega), wrap_in (n := b.f1 - a.f1) (by omega) (by omega)]
  exact wrap_in (by omega) (by omega)
def okM (m : S67) : Prop := inP m.f0 ∧ 0 ≤ m.f1.f0 ∧ m.f1.f0 ≤ m.f1.f1 ∧ m.f1.f1 ≤ 2000
theorem st_mul (st : Int) (h : 0 ≤ st ∧ st ≤ 1000) (a b : S32) (ha : inP a) (hb : inP b) : 0 ≤ st * dst a b ∧ st * dst a b ≤ 800000 := by
  have h1 := dst_nn a b
  have h2 := dst_le a b ha hb
  refine ⟨Int.mul_nonneg h.1 h1, ?_⟩
  have := Int.mul_le_mul h.2 h2 h1 (by omega : (0 : Int) ≤ 1000)
  omega
theorem bstep_plain (st p0 p1 : Int) (b : Int × Int) (m : S67) (hst : 0 ≤ st ∧ st ≤ 1000) (hp : inP ⟨p0, p1⟩) (hm : okM m) : bstep st p0 p1 b m = (max b.1 (m.f1.f0 - st * dst ⟨p0, p1⟩ m.f0), min b.2 (m.f1.f1 + st * dst ⟨p0, p1⟩ m.f0)) := by
  unfold bstep
  rw [farV_plain _ _ hp hm.1, mx_max, mn_min]
  have h1 := st_mul st hst _ _ hp hm.1
  have h2 := hm.2
  rw [wrap_in (n := st * dst ⟨p0, p1⟩ m.f0) (by omega) (by omega), wrap_in (by omega) (by omega), wrap_in (by omega) (by omega)]
theorem fold_le (st p0 p1 : Int) (hst : 0 ≤ st ∧ st ≤ 1000) (hp : inP ⟨p0, p1⟩) (x : Int) : ∀ (l : List S67) (b : Int × Int), (∀ m ∈ l, okM m) →
    ((l.foldl (bstep st p0 p1) b).1 ≤ x ↔ b.1 ≤ x ∧ ∀ m ∈ l, m.f1.f0 - st * dst ⟨p0, p1⟩ m.f0 ≤ x) := by
  intro l
  induction l with
  | nil => intro b _; simp
  | cons m t ih =>
    intro b hm
    rw [List.foldl_cons, ih _ (fun y hy => hm y (List.mem_cons_of_mem _ hy)), bstep_plain st p0 p1 b m hst hp (hm m List.mem_cons_self)]
    simp only [List.forall_mem_cons]
    constructor
    · rintro ⟨h1, h2⟩; exact ⟨by omega, by omega, h2⟩
    · rintro ⟨h1, h2, h3⟩; exact ⟨by omega, h3⟩
theorem le_fold (st p0 p1 : Int) (hst : 0 ≤ st ∧ st ≤ 1000) (hp : inP ⟨p0, p1⟩) (x : Int) : ∀ (l : List S67) (b : Int × Int), (∀ m ∈ l, okM m) →
    (x ≤ (l.foldl (bstep st p0 p1) b).2 ↔ x ≤ b.2 ∧ ∀ m ∈ l, x ≤ m.f1.f1 + st * dst ⟨p0, p1⟩ m.f0) := by
  intro l
  induction l with
  | nil => intro b _; simp
  | cons m t ih =>
    intro b hm
    rw [List.foldl_cons, ih _ (fun y hy => hm y (List.mem_cons_of_mem _ hy)), bstep_plain st p0 p1 b m hst hp (hm m List.mem_cons_self)]
    simp only [List.forall_mem_cons]
    constructor
    · rintro ⟨h1, h2⟩; exact ⟨by omega, by omega, h2⟩
    · rintro ⟨h1, h2, h3⟩; exact ⟨by omega, h3⟩
theorem low_le (st lo hi p0 p1 : Int) (l : List S67) (hst : 0 ≤ st ∧ st ≤ 1000) (hp : inP ⟨p0, p1⟩) (hm : ∀ m ∈ l, okM m) (x : Int) : (boundsV st lo hi p0 p1 l).1 ≤ x ↔ lo ≤ x ∧ ∀ m ∈ l, m.f1.f0 - st * dst ⟨p0, p1⟩ m.f0 ≤ x := fold_le st p0 p1 hst hp x l (lo, hi) hm
theorem le_high (st lo hi p0 p1 : Int) (l : List S67) (hst : 0 ≤ st ∧ st ≤ 1000) (hp : inP ⟨p0, p1⟩) (hm : ∀ m ∈ l, okM m) (x : Int) : x ≤ (boundsV st lo hi p0 p1 l).2 ↔ x ≤ hi ∧ ∀ m ∈ l, x ≤ m.f1.f1 + st * dst ⟨p0, p1⟩ m.f0 := le_fold st p0 p1 hst hp x l (lo, hi) hm
def Agrees (st lo hi : Int) (l : List S67) : Prop := ∀ a ∈ l, a.f1.f0 ≤ hi ∧ lo ≤ a.f1.f1 ∧ ∀ b ∈ l, a.f1.f0 ≤ b.f1.f1 + st * dst a.f0 b.f0
theorem agrees_iff (st lo hi : Int) (l : List S67) (hst : 0 ≤ st ∧ st ≤ 1000) (hm : ∀ m ∈ l, okM m) : l.all (agreeOne st lo hi l) = true ↔ Agrees st lo hi l := by
  rw [List.all_eq_true]
  unfold Agrees
  refine forall_congr' fun a => forall_congr' fun ha => ?_
  have e : ∀ b ∈ l, (clashB st a b = false ↔ a.f1.f0 ≤ b.f1.f1 + st * dst a.f0 b.f0) := fun b hb => by
    have h1 := st_mul st hst _ _ (hm a ha).1 (hm b hb).1
    have h2 := (hm b hb).2
    unfold clashB
    rw [farV_plain _ _ (hm a ha).1 (hm b hb).1, wrap_in (n := st * dst a.f0 b.f0) (by omega) (by omega), wrap_in (by omega) (by omega), decide_eq_false_iff_not]
    omega
  unfold agreeOne
  simp only [Bool.and_eq_true, Bool.not_eq_true', decide_eq_false_iff_not, List.any_eq_false, and_assoc]
  constructor
  · rintro ⟨h1, h2, h3⟩
    exact ⟨by omega, by omega, fun b hb => (e b hb).1 (Bool.eq_false_iff.2 (h3 b hb))⟩
  · rintro ⟨h1, h2, h3⟩
    exact ⟨by omega, by omega, fun b hb => Bool.eq_false_iff.1 ((e b hb).2 (h3 b hb))⟩
theorem clash_iff (st lo hi : Int) (l : List S67) (hst : 0 ≤ st ∧ st ≤ 1000) (hlh : lo ≤ hi) (hm : ∀ m ∈ l, okM m) : l.any (clashAt st lo hi l) = false ↔ Agrees st lo hi l := by
  rw [List.any_eq_false]
  unfold clashAt Agrees
  simp only [decide_eq_true_eq, Int.not_lt, gt_iff_lt]
  constructor
  · intro h a ha
    have hb := h a ha
    have hpa : inP ⟨a.f0.f0, a.f0.f1⟩ := (hm a ha).1
    rw [low_le st lo hi _ _ l hst hpa hm, le_high st lo hi _ _ l hst hpa hm] at hb
    obtain ⟨⟨h1, h2⟩, h3⟩ := hb
    have ds : dst ⟨a.f0.f0, a.f0.f1⟩ a.f0 = 0 := dst_self a.f0
    have h4 := (le_high st lo hi _ _ l hst hpa hm _).1 (h3 a ha)
    rw [ds, Int.mul_zero] at h4
    have h5 := h2 a ha
    rw [ds, Int.mul_zero] at h5
    refine ⟨by omega, by omega, fun b hb2 => ?_⟩
    have := h4.2 b hb2
    have e : dst ⟨a.f0.f0, a.f0.f1⟩ b.f0 = dst a.f0 b.f0 := rfl
    rw [e] at this
    omega
  · intro h m hmm
    have hpm : inP ⟨m.f0.f0, m.f0.f1⟩ := (hm m hmm).1
    rw [low_le st lo hi _ _ l hst hpm hm, le_high st lo hi _ _ l hst hpm hm]
    refine ⟨⟨hlh, fun k hk => ?_⟩, fun j hj => ?_⟩
    · have h1 := (h k hk).2.1
      have h2 := (st_mul st hst _ _ hpm (hm k hk).1).1
      omega
    · rw [le_high st lo hi _ _ l hst hpm hm]
      have h2 := (st_mul st hst _ _ hpm (hm j hj).1).1
      refine ⟨?_, fun k hk => ?_⟩
      · have h1 := (h j hj).1
        omega
      · have h1 := (h j hj).2.2 k hk
        have h3 := Int.mul_le_mul_of_nonneg_left (dst_tri j.f0 ⟨m.f0.f0, m.f0.f1⟩ k.f0) hst.1
        rw [Int.mul_add] at h3
        omega
end Go.Proofs.Ytcfpclehogdmbaa.Q
end
section
namespace Go.Proofs.Ytcfpclehogdmbaa.Q
open Go.RowKit Go.Proofs.YtcfpclehogdmbaaW.PrintWords Go.Proofs.YtcfpclehogdmbaaW.PrintLast Go.Proofs.YtcfpclehogdmbaaW.PrintMore
set_option linter.unusedVariables false
set_option linter.unusedSimpArgs false
theorem Tells.of_eq' {α : Type} {g : Nat → Option α} {v v' : α} (h : Tells g v) (e : v = v') : Tells g v' := e ▸ h
theorem in_wear (a lo hi : Int) : wear_in.f a lo hi = some (decide (lo ≤ a ∧ a ≤ hi)) := by
  unfold wear_in.f
  by_cases h : lo ≤ a
  · rw [if_pos h]; simp [h]
  · rw [if_neg h]; simp [h]
theorem rd_get55 (l : List S55) {i : Nat} (h : i < l.length) : rd_T55 l (i : Int) = l[i] := by simp [rd_T55, List.getD_eq_getElem?_getD, List.getElem?_eq_getElem h]
theorem check_l0_ref (l0 : List S32) (l1 : List S55) (st lo hi : Int) (l : List S67) (hl : l1.length < 1000000) (V : Int)
    (hV : Tells (fun k => (thatchref07_in.f st 0 1000).bind fun t265 => (if t265 = true then ((thatchref07_span.f lo hi 2000).bind fun t266 => (thatchref07_Check.j1 k (!t266) l0 l1 st lo hi l)) else (thatchref07_Check.j1 k true l0 l1 st lo hi l))) V) : ∀ (d i : Nat), l1.length - i = d → i ≤ l1.length →
    Tells (fun k => thatchref07_Check.l0 k (i : Int) l0 l1 st lo hi l) (if (l1.drop i).any api_Box_wear_Check_1.bad = true then 1 else V) := by
  intro d
  induction d with
  | zero =>
    intro i hd hi2
    obtain rfl : i = l1.length := by omega
    rw [List.drop_length, List.any_nil, if_neg (by decide)]
    exact Tells.succ hV (fun k => by rw [thatchref07_Check.l0, if_neg (by omega)])
  | succ d ih =>
    intro i hd hi2
    have hlt : i < l1.length := by omega
    have hih := ih (i + 1) (by omega) (by omega)
    rw [List.drop_eq_getElem_cons hlt, List.any_cons]
    have hstep : ∀ k, thatchref07_Check.l0 (k + 1) (i : Int) l0 l1 st lo hi l = if api_Box_wear_Check_1.bad l1[i] = true then some 1 else thatchref07_Check.l0 k ((i + 1 : Nat) : Int) l0 l1 st lo hi l := fun k => by
      rw [thatchref07_Check.l0, if_pos (by omega), if_pos (by omega), wrap_nat hlt hl, rd_get55 l1 hlt]
      unfold api_Box_wear_Check_1.bad
      by_cases c1 : l1[i].f0.f0 ≥ l1[i].f1.f0
      · rw [if_pos c1, if_pos (by simp [c1])]
      · rw [if_neg c1]
        by_cases c2 : l1[i].f0.f1 ≥ l1[i].f1.f1
        · rw [if_pos c2, if_pos (by simp [c2])]
        · rw [if_neg c2, if_neg (by simp [c1, c2])]
    by_cases hc : api_Box_wear_Check_1.bad l1[i] = true
    · rw [hc, Bool.true_or, if_pos rfl]
      exact Tells.succ (h := fun _ => some 1) (Tells.const fun _ => rfl) (fun k => by rw [hstep, if_pos hc])
    · rw [Bool.eq_false_iff.2 hc, Bool.false_or]
      exact Tells.succ hih (fun k => by rw [hstep, if_neg hc])
def checkV (l0 : List S32) (l1 : List S55) (st lo hi : Int) (l : List S67) : Int :=
  if wear_checkOutline.err l0 = 0 then
    (if l1.length > 6 then 3 else if l1.any api_Box_wear_Check_1.bad = true then 1 else
      if 0 ≤ st ∧ st ≤ 1000 ∧ spanB lo hi 2000 = true then
        (if l.length > 40 then 3 else markE l0 l1 (if ascB l = true then (if l.all (agreeOne st lo hi l) = true then 0 else 10) else 8) l)
      else 1)
  else wear_checkOutline.err l0
theorem markE_same (l0 : List S32) (l1 : List S55) (V V' : Int) : ∀ (l : List S67), ((∀ m ∈ l, okM m) → V = V') → markE l0 l1 V l = markE l0 l1 V' l := by
  intro l
  induction l with
  | nil => intro h; exact h (by simp)
  | cons m t ih =>
    intro h
    unfold markE
    by_cases c0 : wear_has.b l0 l1 m.f0.f0 m.f0.f1 = true
    · rw [if_pos c0, if_pos c0]
      by_cases c1 : spanB m.f1.f0 m.f1.f1 2000 = true
      · rw [if_pos c1, if_pos c1]
        refine ih fun ht => h ?_
        rw [List.forall_mem_cons]
        refine ⟨?_, ht⟩
        have e0 : 0 ≤ m.f0.f0 ∧ m.f0.f0 ≤ 400 ∧ 0 ≤ m.f0.f1 ∧ m.f0.f1 ≤ 400 := by
          have := c0
          unfold wear_has.b at this
          simp only [Bool.and_eq_true, decide_eq_true_eq] at this
          exact this.1.1
        have e1 : 0 ≤ m.f1.f0 ∧ m.f1.f0 ≤ m.f1.f1 ∧ m.f1.f1 ≤ 2000 := by
          have := c1
          unfold spanB at this
          exact of_decide_eq_true this
        exact ⟨e0, e1⟩
      · rw [if_neg c1, if_neg c1]
    · rw [if_neg c0, if_neg c0]
theorem check_ref (l0 : List S32) (l1 : List S55) (st lo hi : Int) (l : List S67) (h0 : l0.length < 1000000) (h1 : l1.length < 1000000) (hl : l.length < 1000000) : Tells (fun k => thatchref07_Check.f k l0 l1 st lo hi l) (checkV l0 l1 st lo hi l) := by
  have t2 := check_l2_ref l0 l1 st lo hi l hl (l.length - 1) 1 rfl (Nat.le_refl _)
  rw [show 1 - 1 = 0 from rfl, List.drop_zero] at t2
  have t1 := check_l1_ref l0 l1 st lo hi l h0 h1 hl _ t2 l.length 0 (by omega) (by omega)
  rw [List.drop_zero] at t1
  have tj : ∀ b, Tells (fun k => thatchref07_Check.j1 k b l0 l1 st lo hi l) (if b = true then 1 else if l.length > 40 then 3 else markE l0 l1 (if ascB l = true then (if l.all (agreeOne st lo hi l) = true then 0 else 10) else 8) l) := fun b => by
    cases b with
    | true => exact Tells.succ (h := fun _ => some 1) (Tells.const fun _ => rfl) (fun k => by rw [thatchref07_Check.j1, if_pos rfl])
    | false =>
      rw [if_neg (by decide)]
      by_cases h40 : l.length > 40
      · rw [if_pos h40]
        exact Tells.succ (h := fun _ => some 3) (Tells.const fun _ => rfl) (fun k => by rw [thatchref07_Check.j1, if_neg (by decide), if_pos (by omega)])
      · rw [if_neg h40]
        exact Tells.succ t1 (fun k => by rw [thatchref07_Check.j1, if_neg (by decide), if_neg (by omega)]; rfl)
  unfold checkV
  refine (Tells.bind (b := fun k t262 => (if t262 = 0 then (if (l1.length : Int) > 6 then (some 3) else (thatchref07_Check.l0 k 0 l0 l1 st lo hi l)) else (some t262))) (outline_tells outline_core l0) ?_).of_eq (fun k => rfl)
  by_cases e0 : wear_checkOutline.err l0 = 0
  · rw [if_pos e0]
    simp only [if_pos e0]
    by_cases e6 : l1.length > 6
    · rw [if_pos e6]
      exact Tells.const fun k => by rw [if_pos (by omega)]
    · rw [if_neg e6]
      have t0 := check_l0_ref l0 l1 st lo hi l h1 (if 0 ≤ st ∧ st ≤ 1000 ∧ spanB lo hi 2000 = true then (if l.length > 40 then 3 else markE l0 l1 (if ascB l = true then (if l.all (agreeOne st lo hi l) = true then 0 else 10) else 8) l) else 1) (by
        by_cases c0 : 0 ≤ st ∧ st ≤ 1000
        · simp only [in07_tells, decide_eq_true c0, Option.bind_some, if_true, span07_tells]
          refine (tj (!(spanB lo hi 2000))).of_eq' ?_
          cases hs : spanB lo hi 2000 with
          | true => rw [if_neg (show ¬ ((!true) = true) by decide), if_pos (show 0 ≤ st ∧ st ≤ 1000 ∧ true = true from ⟨c0.1, c0.2, rfl⟩)]
          | false => rw [if_pos (show (!false) = true from rfl), if_neg (show ¬ (0 ≤ st ∧ st ≤ 1000 ∧ false = true) by simp)]
        · simp only [in07_tells, decide_eq_false c0, Option.bind_some]
          refine (tj true).of_eq' ?_
          rw [if_pos rfl, if_neg (fun h => c0 ⟨h.1, h.2.1⟩)]) l1.length 0 (by omega) (by omega)
      rw [List.drop_zero] at t0
      exact t0.of_eq fun k => by rw [if_neg (by omega)]; rfl
  · rw [if_neg e0]
    exact Tells.const fun k => if_neg e0
theorem check_wear (l0 : List S32) (l1 : List S55) (st lo hi : Int) (l : List S67) (h0 : l0.length < 1000000) (h1 : l1.length < 1000000) (hl : l.length < 1000000) : Tells (fun k => wear_Check.f k l0 l1 st lo hi l) (checkV l0 l1 st lo hi l) := by
  have t2 := check_l2_wear l0 l1 st lo hi l hl l.length 0 (by omega) (by omega)
  rw [List.drop_zero] at t2
  have t1 := check_l1_wear l0 l1 st lo hi l hl _ t2
  have t0 := check_l0_wear l0 l1 st lo hi l hl _ t1 l.length 0 (by omega) (by omega)
  rw [List.drop_zero] at t0
  have tj : ∀ b, Tells (fun k => wear_Check.j0 k b l0 l1 st lo hi l) (if b = true then 1 else if l.length > 40 then 3 else markE l0 l1 (if ascB l = true then (if l.any (clashAt st lo hi l) = true then 10 else 0) else 8) l) := fun b => by
    cases b with
    | true => exact Tells.succ (h := fun _ => some 1) (Tells.const fun _ => rfl) (fun k => by rw [wear_Check.j0, if_pos rfl])
    | false =>
      rw [if_neg (by decide)]
      by_cases h40 : l.length > 40
      · rw [if_pos h40]
        exact Tells.succ (h := fun _ => some 3) (Tells.const fun _ => rfl) (fun k => by rw [wear_Check.j0, if_neg (by decide), if_pos (by omega)])
      · rw [if_neg h40]
        exact Tells.succ t0 (fun k => by rw [wear_Check.j0, if_neg (by decide), if_neg (by omega)]; rfl)
  unfold checkV
  have hf : ∀ k, wear_Check.f k l0 l1 st lo hi l = (if wear_checkOutline.err l0 = 0 then (if (l1.length : Int) > 6 then some 3 else if l1.any api_Box_wear_Check_1.bad = true then some 1 else (if 0 ≤ st ∧ st ≤ 1000 then wear_Check.j0 k (!(spanB lo hi 2000)) l0 l1 st lo hi l else wear_Check.j0 k true l0 l1 st lo hi l)) else some (wear_checkOutline.err l0)) := fun k => by
    simp only [wear_Check.f, wear_checkOutline.f, Option.bind_some, api_Box_wear_Check_1.f, in_wear, spans_tells, decide_eq_true_eq]
  refine Tells.of_eq ?_ hf
  by_cases e0 : wear_checkOutline.err l0 = 0
  · simp only [if_pos e0]
    by_cases e6 : l1.length > 6
    · rw [if_pos e6]
      exact Tells.const fun k => by rw [if_pos (by omega)]
    · rw [if_neg e6]
      refine Tells.of_eq ?_ (fun k => if_neg (by omega))
      by_cases eb : l1.any api_Box_wear_Check_1.bad = true
      · simp only [if_pos eb]; exact Tells.const fun _ => rfl
      · simp only [if_neg eb]
        by_cases c0 : 0 ≤ st ∧ st ≤ 1000
        · simp only [if_pos c0]
          refine (tj (!(spanB lo hi 2000))).of_eq' ?_
          cases hs : spanB lo hi 2000 with
          | true =>
            rw [if_neg (show ¬ ((!true) = true) by decide), if_pos (show 0 ≤ st ∧ st ≤ 1000 ∧ true = true from ⟨c0.1, c0.2, rfl⟩)]
            by_cases h40 : l.length > 40
            · rw [if_pos h40, if_pos h40]
            · rw [if_neg h40, if_neg h40]
              refine markE_same l0 l1 _ _ l fun hm => ?_
              have hlh : lo ≤ hi := by
                unfold spanB at hs
                have := of_decide_eq_true hs
                omega
              have e1 := clash_iff st lo hi l c0 hlh hm
              have e2 := agrees_iff st lo hi l c0 hm
              cases ascB l with
              | false => rfl
              | true =>
                rw [if_pos rfl, if_pos rfl]
                by_cases ha : Agrees st lo hi l
                · rw [if_neg (by rw [e1.2 ha]; decide), if_pos (e2.2 ha)]
                · rw [if_pos (by cases hx : l.any (clashAt st lo hi l) with
                    | true => rfl
                    | false => exact absurd (e1.1 hx) ha), if_neg (fun h => ha (e2.1 h))]
          | false => rw [if_pos (show (!false) = true from rfl), if_neg (show ¬ (0 ≤ st ∧ st ≤ 1000 ∧ false = true) by simp)]
        · simp only [if_neg c0]
          refine (tj true).of_eq' ?_
          rw [if_pos rfl, if_neg (fun h => c0 ⟨h.1, h.2.1⟩)]
  · simp only [if_neg e0]; exact Tells.const fun _ => rfl
end Go.Proofs.Ytcfpclehogdmbaa.Q
end
section
namespace Go.Proofs.Ytcfpclehogdmbaa.Q
open Go.RowKit Go.Proofs.YtcfpclehogdmbaaW.PrintWords Go.Proofs.YtcfpclehogdmbaaW.PrintLast Go.Proofs.YtcfpclehogdmbaaW.PrintMore
attribute [local go_sem] max2_int min2_int max_two min_two max_three min_three max_four min_four   -- for this text's walks alone
set_option linter.unusedVariables false
set_option linter.unusedSimpArgs false
def api_Pt_44.f (l0 : List (S32)) : Option (List (S32)) := if l0.length < 1000000 then some l0 else none
set_option maxHeartbeats 1000000 in
set_option maxRecDepth 100000 in
theorem api_Pt_44.calls (A0 : Option Addr) (c0 : Nat) (l0 : List (S32)) (r : List (S32)) (w : World) (hr0 : Kd.C k32 w A0 l0.length l0) (hc0 : l0.length ≤ c0) (h : api_Pt_44.f l0 = some r) :
    Calls Try.prog 44 #[.slice A0 l0.length c0] w fun e w' => ∃ v0_ : Value, e = .returned v0_ ∧ Kd.R k32 32 w' w.heap.size (fun _ => True) v0_ r ∧ Below w.heap.size w w' := by
  have hlen : l0.length < 1000000 := by
    unfold api_Pt_44.f at h
    by_cases hh : l0.length < 1000000
    · exact hh
    rw [if_neg hh] at h; cases h
  obtain rfl : l0 = r := by unfold api_Pt_44.f at h; rw [if_pos hlen] at h; exact Option.some.inj h
  clear h
  have HLEN := Aside0.mk hlen
  clear hlen
  cases A0 with
  | none =>
    have h0 : l0 = [] := by
      rcases Nat.eq_zero_or_pos l0.length with h | h
      · exact List.eq_nil_of_length_eq_zero h
      obtain ⟨ad, c, e, _⟩ := Kd.C_get hr0 z32 0 (by omega) (by omega)
      cases e
    subst h0
    clear hr0
    have hq : ∀ W : World, (binOp .eql 22 (.slice none 0 c0) (.slice none 0 0)).run Try.prog W = .ok (.bool true) W := fun W => Lib.run_eql_slice_nil W 22 32 _ _ c0 0 0 Try.underlying22
    go_enter Try.func44, Try.ntmps44
    go_wp2
    go_ret
    exact ⟨_, rfl, Kd.R_nil _ _ _ _ _, Below.refl _ _⟩
  | some ad =>
    have HR0 := Aside0.mk hr0
    have HC0 := Aside0.mk hc0
    clear hr0 hc0
    have hq : ∀ W : World, (binOp .eql 22 (.slice (some ad) l0.length c0) (.slice none 0 0)).run Try.prog W = .ok (.bool false) W := fun W => Lib.run_eql_slice_nil W 22 32 _ _ c0 0 0 Try.underlying22
    go_enter Try.func44, Try.ntmps44
    go_wp2_with (first
      | ((with_reducible refine gate_dst (N := 5) rfl ?_); refine Kd.R_lit (w0 := w) k32 w.heap.size 32 ?hg (N := 5) ?hd (xs := ([] : List (S32))) (inner := []) (ok := fun _ => True) (okp := fun _ => True) ?hr ?hp (fun _ hk => hk) trivial (Below.refl _ _) (Nat.le_refl _) (by simp) ?_; (case hd => rfl); (case hg => rfl); (case hr => first | (go_simp; done) | (go_simp; rfl)); (case hp => exact Reps.none _ _); intro v1 w1 ho hb hg_ hnew_; have HO := Aside0.mk ho; have HB := Aside0.mk hb; clear ho hb hg_ hnew_)
      | ((with_reducible refine gate_builtin (b := .append) (xs := #[.tmp 5, .tmp 6]) rfl ?_); at_builtin; refine Kd.R_append_rows k32 (w0 := w) w.heap.size rfl (.tmp 5) (.tmp 6) 22 32 (.agg #[(.int .i64 0), (.int .i64 0)]) 16 rfl Try.underlying22 info32 rfl (by decide) (by omega) v1 ([] : List (S32)) l0 _ _ _ (fun _ => True) (fun _ => False) rfl rfl HO.out (Kd.C_below HR0.out HB.out) (fun _ _ h => h) (fun _ h => h.elim) (fun _ _ => trivial) HB.out HB.out.size (by have := HLEN.out; simp; omega) ?_; intro v2 w2 ho hb hg hat; have HO2 := Aside0.mk ho; have HB2 := Aside0.mk hb; clear ho hb hg hat))
    go_ret
    exact ⟨_, rfl, HO2.out, HB2.out⟩
end Go.Proofs.Ytcfpclehogdmbaa.Q
end
section
namespace Go.Proofs.Ytcfpclehogdmbaa.Q
open Go.RowKit Go.Proofs.YtcfpclehogdmbaaW.PrintWords Go.Proofs.YtcfpclehogdmbaaW.PrintLast Go.Proofs.YtcfpclehogdmbaaW.PrintMore
attribute [local go_sem] max2_int min2_int max_two min_two max_three min_three max_four min_four   -- for this text's walks alone
set_option linter.unusedVariables false
set_option linter.unusedSimpArgs false
def api_Box_45.f (l0 : List (S55)) : Option (List (S55)) := if l0.length < 1000000 then some l0 else none
set_option maxHeartbeats 1000000 in
set_option maxRecDepth 100000 in
theorem api_Box_45.calls (A0 : Option Addr) (c0 : Nat) (l0 : List (S55)) (r : List (S55)) (w : World) (hr0 : Kd.C k55 w A0 l0.length l0) (hc0 : l0.length ≤ c0) (h : api_Box_45.f l0 = some r) :
    Calls Try.prog 45 #[.slice A0 l0.length c0] w fun e w' => ∃ v0_ : Value, e = .returned v0_ ∧ Kd.R k55 55 w' w.heap.size (fun _ => True) v0_ r ∧ Below w.heap.size w w' := by
  have hlen : l0.length < 1000000 := by
    unfold api_Box_45.f at h
    by_cases hh : l0.length < 1000000
    · exact hh
    rw [if_neg hh] at h; cases h
  obtain rfl : l0 = r := by unfold api_Box_45.f at h; rw [if_pos hlen] at h; exact Option.some.inj h
  clear h
  have HLEN := Aside0.mk hlen
  clear hlen
  cases A0 with
  | none =>
    have h0 : l0 = [] := by
      rcases Nat.eq_zero_or_pos l0.length with h | h
      · exact List.eq_nil_of_length_eq_zero h
      obtain ⟨ad, c, e, _⟩ := Kd.C_get hr0 z55 0 (by omega) (by omega)
      cases e
    subst h0
    clear hr0
    have hq : ∀ W : World, (binOp .eql 23 (.slice none 0 c0) (.slice none 0 0)).run Try.prog W = .ok (.bool true) W := fun W => Lib.run_eql_slice_nil W 23 55 _ _ c0 0 0 Try.underlying23
    go_enter Try.func45, Try.ntmps45
    go_wp2
    go_ret
    exact ⟨_, rfl, Kd.R_nil _ _ _ _ _, Below.refl _ _⟩
  | some ad =>
    have HR0 := Aside0.mk hr0
    have HC0 := Aside0.mk hc0
    clear hr0 hc0
    have hq : ∀ W : World, (binOp .eql 23 (.slice (some ad) l0.length c0) (.slice none 0 0)).run Try.prog W = .ok (.bool false) W := fun W => Lib.run_eql_slice_nil W 23 55 _ _ c0 0 0 Try.underlying23
    go_enter Try.func45, Try.ntmps45
    go_wp2_with (first
      | ((with_reducible refine gate_dst (N := 5) rfl ?_); refine Kd.R_lit (w0 := w) k55 w.heap.size 55 ?hg (N := 5) ?hd (xs := ([] : List (S55))) (inner := []) (ok := fun _ => True) (okp := fun _ => True) ?hr ?hp (fun _ hk => hk) trivial (Below.refl _ _) (Nat.le_refl _) (by simp) ?_; (case hd => rfl); (case hg => rfl); (case hr => first | (go_simp; done) | (go_simp; rfl)); (case hp => exact Reps.none _ _); intro v1 w1 ho hb hg_ hnew_; have HO := Aside0.mk ho; have HB := Aside0.mk hb; clear ho hb hg_ hnew_)
      | ((with_reducible refine gate_builtin (b := .append) (xs := #[.tmp 5, .tmp 6]) rfl ?_); at_builtin; refine Kd.R_append_rows k55 (w0 := w) w.heap.size rfl (.tmp 5) (.tmp 6) 23 55 (.agg #[(.int .i64 0), (.int .i64 0), (.int .i64 0), (.int .i64 0)]) 32 rfl Try.underlying23 info55 rfl (by decide) (by omega) v1 ([] : List (S55)) l0 _ _ _ (fun _ => True) (fun _ => False) rfl rfl HO.out (Kd.C_below HR0.out HB.out) (fun _ _ h => h) (fun _ h => h.elim) (fun _ _ => trivial) HB.out HB.out.size (by have := HLEN.out; simp; omega) ?_; intro v2 w2 ho hb hg hat; have HO2 := Aside0.mk ho; have HB2 := Aside0.mk hb; clear ho hb hg hat))
    go_ret
    exact ⟨_, rfl, HO2.out, HB2.out⟩
end Go.Proofs.Ytcfpclehogdmbaa.Q
end
section
namespace Go.Proofs.Ytcfpclehogdmbaa.Q
open Go.RowKit Go.Proofs.YtcfpclehogdmbaaW.PrintWords Go.Proofs.YtcfpclehogdmbaaW.PrintLast Go.Proofs.YtcfpclehogdmbaaW.PrintMore
attribute [local go_sem] max2_int min2_int max_two min_two max_three min_three max_four min_four   -- for this text's walks alone
set_option linter.unusedVariables false
set_option linter.unusedSimpArgs false
def api_Mark_46.f (l0 : List (S67)) : Option (List (S67)) := if l0.length < 1000000 then some l0 else none
set_option maxHeartbeats 1000000 in
set_option maxRecDepth 100000 in
theorem api_Mark_46.calls (A0 : Option Addr) (c0 : Nat) (l0 : List (S67)) (r : List (S67)) (w : World) (hr0 : Kd.C k67 w A0 l0.length l0) (hc0 : l0.length ≤ c0) (h : api_Mark_46.f l0 = some r) :
    Calls Try.prog 46 #[.slice A0 l0.length c0] w fun e w' => ∃ v0_ : Value, e = .returned v0_ ∧ Kd.R k67 67 w' w.heap.size (fun _ => True) v0_ r ∧ Below w.heap.size w w' := by
  have hlen : l0.length < 1000000 := by
    unfold api_Mark_46.f at h
    by_cases hh : l0.length < 1000000
    · exact hh
    rw [if_neg hh] at h; cases h
  obtain rfl : l0 = r := by unfold api_Mark_46.f at h; rw [if_pos hlen] at h; exact Option.some.inj h
  clear h
  have HLEN := Aside0.mk hlen
  clear hlen
  cases A0 with
  | none =>
    have h0 : l0 = [] := by
      rcases Nat.eq_zero_or_pos l0.length with h | h
      · exact List.eq_nil_of_length_eq_zero h
      obtain ⟨ad, c, e, _⟩ := Kd.C_get hr0 z67 0 (by omega) (by omega)
      cases e
    subst h0
    clear hr0
    have hq : ∀ W : World, (binOp .eql 28 (.slice none 0 c0) (.slice none 0 0)).run Try.prog W = .ok (.bool true) W := fun W => Lib.run_eql_slice_nil W 28 67 _ _ c0 0 0 Try.underlying28
    go_enter Try.func46, Try.ntmps46
    go_wp2
    go_ret
    exact ⟨_, rfl, Kd.R_nil _ _ _ _ _, Below.refl _ _⟩
  | some ad =>
    have HR0 := Aside0.mk hr0
    have HC0 := Aside0.mk hc0
    clear hr0 hc0
    have hq : ∀ W : World, (binOp .eql 28 (.slice (some ad) l0.length c0) (.slice none 0 0)).run Try.prog W = .ok (.bool false) W := fun W => Lib.run_eql_slice_nil W 28 67 _ _ c0 0 0 Try.underlying28
    go_enter Try.func46, Try.ntmps46
    go_wp2_with (first
      | ((with_reducible refine gate_dst (N := 5) rfl ?_); refine Kd.R_lit (w0 := w) k67 w.heap.size 67 ?hg (N := 5) ?hd (xs := ([] : List (S67))) (inner := []) (ok := fun _ => True) (okp := fun _ => True) ?hr ?hp (fun _ hk => hk) trivial (Below.refl _ _) (Nat.le_refl _) (by simp) ?_; (case hd => rfl); (case hg => rfl); (case hr => first | (go_simp; done) | (go_simp; rfl)); (case hp => exact Reps.none _ _); intro v1 w1 ho hb hg_ hnew_; have HO := Aside0.mk ho; have HB := Aside0.mk hb; clear ho hb hg_ hnew_)
      | ((with_reducible refine gate_builtin (b := .append) (xs := #[.tmp 5, .tmp 6]) rfl ?_); at_builtin; refine Kd.R_append_rows k67 (w0 := w) w.heap.size rfl (.tmp 5) (.tmp 6) 28 67 (.agg #[(.int .i64 0), (.int .i64 0), (.int .i64 0), (.int .i64 0)]) 32 rfl Try.underlying28 info67 rfl (by decide) (by omega) v1 ([] : List (S67)) l0 _ _ _ (fun _ => True) (fun _ => False) rfl rfl HO.out (Kd.C_below HR0.out HB.out) (fun _ _ h => h) (fun _ h => h.elim) (fun _ _ => trivial) HB.out HB.out.size (by have := HLEN.out; simp; omega) ?_; intro v2 w2 ho hb hg hat; have HO2 := Aside0.mk ho; have HB2 := Aside0.mk hb; clear ho hb hg hat))
    go_ret
    exact ⟨_, rfl, HO2.out, HB2.out⟩
end Go.Proofs.Ytcfpclehogdmbaa.Q
end
section
namespace Go.Proofs.Ytcfpclehogdmbaa.Q
open Go.RowKit Go.Proofs.YtcfpclehogdmbaaW.PrintWords Go.Proofs.YtcfpclehogdmbaaW.PrintLast Go.Proofs.YtcfpclehogdmbaaW.PrintMore
attribute [local go_sem] max2_int min2_int max_two min_two max_three min_three max_four min_four   -- for this text's walks alone
set_option linter.unusedVariables false
set_option linter.unusedSimpArgs false
def wear_twin.f (l0_0 : List (S32)) (l0_1 : List (S55)) (a0_2 : Int) (a0_3 : Int) (a0_4 : Int) (l0_5 : List (S67)) : Option ((List (S32)) × (List (S55)) × Int × Int × Int × (List (S67))) := (api_Pt_44.f l0_0).bind fun t202 => ((api_Box_45.f l0_1).bind fun t205 => ((api_Mark_46.f l0_5).bind fun t208 => (some (t202, t205, a0_2, a0_3, a0_4, t208))))
def wear_twin.T1 : Bool × List (List Nat × List Nat) := (true, [([], []), ([0], [0]), ([1], [1]), ([2], [2]), ([], []), ([4], [4]), ([5], [5]), ([6, 3], [6]), ([3, 7], [3, 7]), ([0, 1, 2, 3, 4, 5, 6, 7, 8], []), ([9, 8, 7, 0, 1, 2, 3, 4, 5, 6, 7, 8], [8, 9])])
def wear_twin.B1 : List Nat := [0, 1, 3, 7, 0, 16, 48, 127, 255, 511, 1023]
theorem wear_twin.tab1 : rtab .any (opsOf Try.f23 1) = wear_twin.T1 := by kernel_rfl
theorem wear_twin.bits1 : waitsOk wear_twin.T1.2 wear_twin.B1 = true := by kernel_rfl
set_option maxHeartbeats 8000000 in
set_option maxRecDepth 100000 in
theorem wear_twin.calls (A0_0 : Option Addr) (c0_0 : Nat) (l0_0 : List (S32)) (A0_1 : Option Addr) (c0_1 : Nat) (l0_1 : List (S55)) (a0_2 : Int) (a0_3 : Int) (a0_4 : Int) (A0_5 : Option Addr) (c0_5 : Nat) (l0_5 : List (S67)) (r1 : List (S32)) (r2 : List (S55)) (r3 : Int) (r4 : Int) (r5 : Int) (r6 : List (S67)) (w : World) (hr0_0 : Kd.C k32 w A0_0 l0_0.length l0_0) (hc0_0 : l0_0.length ≤ c0_0) (hr0_1 : Kd.C k55 w A0_1 l0_1.length l0_1) (hc0_1 : l0_1.length ≤ c0_1) (hr0_5 : Kd.C k67 w A0_5 l0_5.length l0_5) (hc0_5 : l0_5.length ≤ c0_5) (h : wear_twin.f l0_0 l0_1 a0_2 a0_3 a0_4 l0_5 = some (r1, r2, r3, r4, r5, r6)) :
  Calls Try.prog 23 #[.agg #[.slice A0_0 l0_0.length c0_0, .slice A0_1 l0_1.length c0_1, .int .i64 a0_2, .int .i64 a0_3, .int .i64 a0_4, .slice A0_5 l0_5.length c0_5]] w fun e w' => ∃ v0_ v1_ v5_ : Value, e = .returned (.agg #[v0_, v1_, .int .i64 r3, .int .i64 r4, .int .i64 r5, v5_]) ∧ Kd.R k32 32 w' w.heap.size (fun _ => True) v0_ r1 ∧ Kd.R k55 55 w' w.heap.size (fun _ => True) v1_ r2 ∧ Kd.R k67 67 w' w.heap.size (fun _ => True) v5_ r6 ∧ Below w.heap.size w w' := by
 have hu30 := Try.underlying30
 have hu25 := Try.underlying25
 have HR0_0 := Aside0.mk hr0_0
 have HC0_0 := Aside0.mk hc0_0
 clear hr0_0 hc0_0
 have HR0_1 := Aside0.mk hr0_1
 have HC0_1 := Aside0.mk hc0_1
 clear hr0_1 hc0_1
 have HR0_5 := Aside0.mk hr0_5
 have HC0_5 := Aside0.mk hc0_5
 clear hr0_5 hc0_5
 have HB := Aside0.mk (Below.refl w.heap.size w)
 have H : ((api_Pt_44.f l0_0).bind fun t202 => ((api_Box_45.f l0_1).bind fun t205 => ((api_Mark_46.f l0_5).bind fun t208 => (some (t202, t205, a0_2, a0_3, a0_4, t208))))) = some (r1, r2, r3, r4, r5, r6) := h
 clear h
 replace H := Option.bind_eq_some_iff.mp H
 obtain ⟨t202, A20, H⟩ := H
 replace H : ((api_Box_45.f l0_1).bind fun t205 => ((api_Mark_46.f l0_5).bind fun t208 => (some (t202, t205, a0_2, a0_3, a0_4, t208)))) = some (r1, r2, r3, r4, r5, r6) := H
 have A2 := Aside0.mk A20
 clear A20
 replace H := Option.bind_eq_some_iff.mp H
 obtain ⟨t205, A30, H⟩ := H
 replace H : ((api_Mark_46.f l0_5).bind fun t208 => (some (t202, t205, a0_2, a0_3, a0_4, t208))) = some (r1, r2, r3, r4, r5, r6) := H
 have A3 := Aside0.mk A30
 clear A30
 replace H := Option.bind_eq_some_iff.mp H
 obtain ⟨t208, A40, H⟩ := H
 replace H : (some (t202, t205, a0_2, a0_3, a0_4, t208)) = some (r1, r2, r3, r4, r5, r6) := H
 have A4 := Aside0.mk A40
 clear A40
 simp only [Option.some.injEq, Prod.mk.injEq] at H
 obtain ⟨rfl, rfl, rfl, rfl, rfl, rfl⟩ := H
 go_enter Try.func23, Try.ntmps23
 try go_wp2_with (first | ((with_reducible refine gate_dst (N := 1) rfl ?_); refine zx 1 #[.slice A0_0 l0_0.length c0_0, .slice A0_1 l0_1.length c0_1, .int .i64 a0_2, .int .i64 a0_3, .int .i64 a0_4, .slice A0_5 l0_5.length c0_5] 30 ?_; intro gb200 hg w5 hbox hb; have n0_ := zY HB hb; have n1_ := Aside0.mk (hbox); have n2_ := zS hg HB; have n3_ := zS hg HB; clear HB; have HB := n0_; have BK200 := n1_; have GW200 := n2_; have GE200 := n3_; clear n0_ n1_ n2_ n3_; clear hb hbox hg) | ((with_reducible refine gate_dst (N := 2) rfl ?_); refine zx 2 #[.slice none 0 0, .slice none 0 0, .int .i64 0, .int .i64 0, .int .i64 0, .slice none 0 0] 30 ?_; intro gb201 hg w6 hbox hb; have n0_ := zD BK200 hb; have n1_ := zY HB hb; have n2_ := Aside0.mk (hbox); have n3_ := zS hg HB; have n4_ := zS hg HB; have n5_ := zN hg BK200; have n6_ := zM hg BK200; clear BK200; clear HB; have BK200 := n0_; have HB := n1_; have BK201 := n2_; have GW201 := n3_; have GE201 := n4_; have NB200_201 := n5_; have NB201_200 := n6_; clear n0_ n1_ n2_ n3_ n4_ n5_ n6_; clear hb hbox hg))
 have n0_ := Aside0.mk (blk_drew BK200.out)
 have n1_ := Aside0.mk (blk_drew BK201.out)
 have n2_ := Aside0.mk (below_drew1 HB.out)
 clear BK200; clear BK201; clear HB
 have BK200 := n0_
 have BK201 := n1_
 have HB := n2_
 clear n0_ n1_ n2_
 refine start_ (n := 11) (S := fun w' => w'.cell? ⟨gb200, 0, none⟩ = some (.slice A0_0 l0_0.length c0_0) ∧ w'.cell? ⟨gb200, 1, none⟩ = some (.slice A0_1 l0_1.length c0_1) ∧ w'.cell? ⟨gb200, 2, none⟩ = some (.int .i64 a0_2) ∧ w'.cell? ⟨gb200, 3, none⟩ = some (.int .i64 a0_3) ∧ w'.cell? ⟨gb200, 4, none⟩ = some (.int .i64 a0_4) ∧ w'.cell? ⟨gb200, 5, none⟩ = some (.slice A0_5 l0_5.length c0_5)) (ds := [10]) #[Z0, Z0, Z0, Z0, Z0, Z0, Z0, Z0, Z0, Z0, Z0] (by kernel_rfl) rfl rfl ⟨(blk_cell BK200.out 0).trans rfl, (blk_cell BK200.out 1).trans rfl, (blk_cell BK200.out 2).trans rfl, (blk_cell BK200.out 3).trans rfl, (blk_cell BK200.out 4).trans rfl, (blk_cell BK200.out 5).trans rfl⟩ (fun hHeld => ?_); refine with_tabW wear_twin.tab1 wear_twin.bits1 (fun HT_ HW_ => ?_)
 generalize w6.drew = w7 at BK200 BK201 HB hHeld ⊢
 refine zp 0 (some 3) #[Z1, Z0, Z0, Z0, Z0, Z0, Z0, Z0, Z0, Z0, Z0] rfl rfl (any_of HT_.out (by kernel_rfl)) ?_
 refine zp 1 (some 4) #[Z1, Z1, Z0, Z0, Z0, Z0, Z0, Z0, Z0, Z0, Z0] rfl rfl (any_of HT_.out (by kernel_rfl)) ?_
 refine zp 4 (some 7) #[Z1, Z1, Z0, Z0, Z1, Z0, Z0, Z0, Z0, Z0, Z0] rfl rfl (any_of HT_.out (by kernel_rfl)) ?_
 refine zp 5 (some 8) #[Z1, Z1, Z0, Z0, Z1, Z1, Z0, Z0, Z0, Z0, Z0] rfl rfl (any_of HT_.out (by kernel_rfl)) ?_
 refine take_ (i := 2) (N := some 5) (v := ?_) (a' := ?_) #[Z1, Z1, Z1, Z0, Z1, Z1, Z0, Z0, Z0, Z0, Z0] rfl rfl (take_ofW HT_.out HW_.out (by kernel_rfl)) (fun _ _ _ h => h) (Or.inl ⟨by rfl, ?_⟩) hHeld ?_ ?_
 rotate_left; · rintro w' ⟨s0, s1, s2, s3, s4, s5⟩; go_simp; with_reducible rfl
 rotate_left; · simp only [Act.put, List.setIfInBounds_toArray, List.set_cons_zero, List.set_cons_succ, i64_w, i32_w]; rfl
 refine take_ (i := 6) (N := some 9) (v := ?_) (a' := ?_) #[Z1, Z1, Z1, Z0, Z1, Z1, Z1, Z0, Z0, Z0, Z0] rfl rfl (take_ofW HT_.out HW_.out (by kernel_rfl)) (fun _ _ _ h => h) (Or.inl ⟨by rfl, ?_⟩) hHeld ?_ ?_
 rotate_left; · rintro w' ⟨s0, s1, s2, s3, s4, s5⟩; go_simp; with_reducible rfl
 rotate_left; · simp only [Act.put, List.setIfInBounds_toArray, List.set_cons_zero, List.set_cons_succ, i64_w, i32_w]; rfl
 refine one_ (i := 3) (N := some 6) #[Z1, Z1, Z1, Z1, Z1, Z1, Z1, Z0, Z0, Z0, Z0] rfl rfl (one_of HT_.out (by kernel_rfl)) (by decide) (fun K hK => ?_)
 refine goes_ Try.func44 (by kernel_rfl) rfl #[.slice A0_0 l0_0.length c0_0] (by rfl) rfl rfl za ?_
 with_reducible refine (api_Pt_44.calls _ _ l0_0 t202 _ ?side1 ?side2 A2.out).mono ?_
 (case side1 => exact zl HR0_0 HB)
 (case side2 => exact HC0_0.out)
 rintro e w8 ⟨v203, rfl, ho0, hb⟩
 refine ⟨_, rfl, ?_⟩
 have n0_ := Aside0.mk (Kd.R_lower ho0 (below_size (zw HB)))
 have n1_ := zD BK200 hb
 have n2_ := zD BK201 hb
 have n3_ := zY HB hb
 clear BK200; clear BK201; clear HB
 have HO204 := n0_
 have BK200 := n1_
 have BK201 := n2_
 have HB := n3_
 clear n0_ n1_ n2_ n3_
 (try clear hb)
 (try clear hb2)
 (try clear hk)
 (try clear hi)
 (try clear ho0)
 refine hK.out _ _ ⟨(blk_cell BK200.out 0).trans rfl, (blk_cell BK200.out 1).trans rfl, (blk_cell BK200.out 2).trans rfl, (blk_cell BK200.out 3).trans rfl, (blk_cell BK200.out 4).trans rfl, (blk_cell BK200.out 5).trans rfl⟩ (fun hHeld => ?_)
 clear hK K
 refine norm_ (a' := ?_) ?_ ?_
 rotate_left
 ·show Act.put _ (some 6) _ = _
  simp only [Act.put, List.setIfInBounds_toArray, List.set_cons_zero, List.set_cons_succ, i64_w, i32_w]
  rfl
 refine one_ (i := 7) (N := some 10) #[Z1, Z1, Z1, Z1, Z1, Z1, Z1, Z1, Z0, Z0, Z0] rfl rfl (one_of HT_.out (by kernel_rfl)) (by decide) (fun K hK => ?_)
 refine goes_ Try.func45 (by kernel_rfl) rfl #[.slice A0_1 l0_1.length c0_1] (by rfl) rfl rfl za ?_
 with_reducible refine (api_Box_45.calls _ _ l0_1 t205 _ ?side1 ?side2 A3.out).mono ?_
 (case side1 => exact zl HR0_1 HB)
 (case side2 => exact HC0_1.out)
 rintro e w9 ⟨v206, rfl, ho0, hb⟩
 refine ⟨_, rfl, ?_⟩
 have n0_ := Aside0.mk (Kd.R_below (zt HO204) hb)
 have n1_ := Aside0.mk (Kd.R_lower ho0 (below_size (zw HB)))
 have n2_ := zD BK200 hb
 have n3_ := zD BK201 hb
 have n4_ := zY HB hb
 clear HO204; clear BK200; clear BK201; clear HB
 have HO204 := n0_
 have HO207 := n1_
 have BK200 := n2_
 have BK201 := n3_
 have HB := n4_
 clear n0_ n1_ n2_ n3_ n4_
 (try clear hb)
 (try clear hb2)
 (try clear hk)
 (try clear hi)
 (try clear ho0)
 obtain ⟨Ao10, co10, eo10⟩ := Kd.R_slice HO207.out
 (first | subst eo10 | (injection eo10 with f1_ f2_ f3_; have f4_ := f1_.symm; have f5_ := f3_.symm; clear f1_ f2_ f3_; subst f4_; subst f5_))
 obtain ⟨Ao11, co11, eo11⟩ := Kd.R_slice HO204.out
 (first | subst eo11 | (injection eo11 with f1_ f2_ f3_; have f4_ := f1_.symm; have f5_ := f3_.symm; clear f1_ f2_ f3_; subst f4_; subst f5_))
 refine hK.out _ _ ⟨(blk_cell BK200.out 0).trans rfl, (blk_cell BK200.out 1).trans rfl, (blk_cell BK200.out 2).trans rfl, (blk_cell BK200.out 3).trans rfl, (blk_cell BK200.out 4).trans rfl, (blk_cell BK200.out 5).trans rfl⟩ (fun hHeld => ?_)
 clear hK K
 refine norm_ (a' := ?_) ?_ ?_
 rotate_left
 ·show Act.put _ (some 10) _ = _
  simp only [Act.put, List.setIfInBounds_toArray, List.set_cons_zero, List.set_cons_succ, i64_w, i32_w]
  rfl
 refine zp 8 (some 11) #[Z1, Z1, Z1, Z1, Z1, Z1, Z1, Z1, Z1, Z0, Z0] rfl rfl (any_of HT_.out (by kernel_rfl)) ?_
 refine zp 9 (some 12) #[Z1, Z1, Z1, Z1, Z1, Z1, Z1, Z1, Z1, Z1, Z0] rfl rfl (any_of HT_.out (by kernel_rfl)) ?_
 refine last_ (i := 10) (N := none) #[Z1, Z1, Z1, Z1, Z1, Z1, Z1, Z1, Z1, Z1, Z1] rfl rfl (one_of HT_.out (by kernel_rfl)) (by decide) (fun K hK => ?_)
 have hs12 : w9.cell? ⟨gb200, 0, none⟩ = some (.slice A0_0 l0_0.length c0_0) := (blk_cell BK200.out 0).trans rfl
 have hfs12 := blk_frozen BK200.out 0
 have hns12_1 := NB201_200.out
 have hms12_1 := NB200_201.out
 have hs13 : w9.cell? ⟨gb200, 1, none⟩ = some (.slice A0_1 l0_1.length c0_1) := (blk_cell BK200.out 1).trans rfl
 have hfs13 := blk_frozen BK200.out 1
 have hns13_1 := NB201_200.out
 have hms13_1 := NB200_201.out
 refine skip_ (w1 := ?_) (by rfl) rfl ?_ ?_
 rotate_left
 ·go_simp
  rfl
 refine hK.out _ _ ?_
 clear hK K
 refine done_ (done_of HT_.out (by kernel_rfl)) ?_
 have hnb14 := NB200_201.out
 have hnc14 := NB201_200.out
 obtain ⟨hcz15_0, hcz15_1, hcz15_2, hcz15_3, hcz15_4, hcz15_5, hfz15_0, hfz15_1, hfz15_2, hfz15_3, hfz15_4, hfz15_5⟩ := zk6 BK200
 try go_wp2_with (first | ((with_reducible refine gate_callee (f := 46) rfl ?_); refine goesL_ (some 15) rfl rfl Try.func46 (by kernel_rfl) rfl #[.slice A0_5 l0_5.length c0_5] rfl za ?_; (with_reducible refine (api_Mark_46.calls _ _ l0_5 t208 _ ?side1 ?side2 A4.out).mono ?_); (case side1 => exact Kd.C_below HR0_5.out (zw HB)); (case side2 => exact HC0_5.out); rintro e w16 ⟨v209, rfl, ho0, hb⟩; refine ⟨_, rfl, ?_⟩; have n0_ := Aside0.mk (Kd.R_below (zF HO204 BK200) hb); have n1_ := Aside0.mk (Kd.R_below (zF HO207 BK200) hb); have n2_ := Aside0.mk (Kd.R_lower ho0 (below_size (zw HB))); have n3_ := Aside0.mk (blk_below (g := gb200) (o := .cells #[.slice Ao11 t202.length co11, .slice Ao10 t205.length co10, .int .i64 a0_2, .int .i64 a0_3, .int .i64 a0_4, .slice A0_5 l0_5.length c0_5] 30 (0, 0)) (by refine zQ ?_; refine blk_put (cs := #[.slice Ao11 t202.length co11, .slice A0_1 l0_1.length c0_1, .int .i64 a0_2, .int .i64 a0_3, .int .i64 a0_4, .slice A0_5 l0_5.length c0_5]) ?_ 1 _ rfl; refine zQ ?_; refine blk_put (cs := #[.slice A0_0 l0_0.length c0_0, .slice A0_1 l0_1.length c0_1, .int .i64 a0_2, .int .i64 a0_3, .int .i64 a0_4, .slice A0_5 l0_5.length c0_5]) ?_ 0 _ rfl; (with_reducible repeat (first | refine blk_drewN ?_ _ | refine blk_drew ?_ | refine blk_alloc ?_ _)); exact BK200.out) hb); have n4_ := Aside0.mk (blk_below (g := gb201) (o := .cells #[.slice none 0 0, .slice none 0 0, .int .i64 0, .int .i64 0, .int .i64 0, .slice none 0 0] 30 (0, 0)) (zv BK201) hb); have n5_ := zY HB hb; clear HO204; clear HO207; clear BK200; clear BK201; clear HB; have HO204 := n0_; have HO207 := n1_; have HO210 := n2_; have BK200 := n3_; have BK201 := n4_; have HB := n5_; clear n0_ n1_ n2_ n3_ n4_ n5_; (try clear hb); (try clear hb2); (try clear hk); (try clear hi); (try clear ho0); obtain ⟨Ao17, co17, eo17⟩ := Kd.R_slice HO210.out; subst eo17; obtain ⟨hcz18_0, hcz18_1, hcz18_2, hcz18_3, hcz18_4, hcz18_5, hfz18_0, hfz18_1, hfz18_2, hfz18_3, hfz18_4, hfz18_5⟩ := zk6 BK200; obtain ⟨hcz19_0, hcz19_1, hcz19_2, hcz19_3, hcz19_4, hcz19_5, hfz19_0, hfz19_1, hfz19_2, hfz19_3, hfz19_4, hfz19_5⟩ := zk6 BK201))
 refine bodyPost_ret (results_cell_row rfl _ _ gb201 30 #[.slice Ao11 t202.length co11, .slice Ao10 t205.length co10, .int .i64 a0_2, .int .i64 a0_3, .int .i64 a0_4, .slice Ao17 t208.length co17] (0, 0) _ rfl (by refine zQ ?_; refine blk_put (cs := #[.slice Ao11 t202.length co11, .slice Ao10 t205.length co10, .int .i64 a0_2, .int .i64 a0_3, .int .i64 a0_4, .slice none 0 0]) ?_ 5 _ rfl; refine zQ ?_; refine blk_put (cs := #[.slice Ao11 t202.length co11, .slice Ao10 t205.length co10, .int .i64 a0_2, .int .i64 a0_3, .int .i64 0, .slice none 0 0]) ?_ 4 _ rfl; refine zQ ?_; refine blk_put (cs := #[.slice Ao11 t202.length co11, .slice Ao10 t205.length co10, .int .i64 a0_2, .int .i64 0, .int .i64 0, .slice none 0 0]) ?_ 3 _ rfl; refine zQ ?_; refine blk_put (cs := #[.slice Ao11 t202.length co11, .slice Ao10 t205.length co10, .int .i64 0, .int .i64 0, .int .i64 0, .slice none 0 0]) ?_ 2 _ rfl; refine zQ ?_; refine blk_put (cs := #[.slice Ao11 t202.length co11, .slice none 0 0, .int .i64 0, .int .i64 0, .int .i64 0, .slice none 0 0]) ?_ 1 _ rfl; refine zQ ?_; refine blk_put (cs := #[.slice none 0 0, .slice none 0 0, .int .i64 0, .int .i64 0, .int .i64 0, .slice none 0 0]) ?_ 0 _ rfl; refine zQ ?_; refine blk_far ?_ NB201_200.out _; (with_reducible repeat (first | refine blk_drewN ?_ _ | refine blk_drew ?_ | refine blk_alloc ?_ _)); exact BK201.out) Try.underlying30 rfl (by kernel_rfl)) rfl ?_
 exact ⟨_, _, _, ze, by (with_reducible repeat (first | apply Kd.R_alloc | apply Kd.R_drewN | apply Kd.R_drew)); exact Kd.R_mono (Kd.R_far (p := ⟨gb201, 5, none⟩) (Kd.R_far (p := ⟨gb201, 4, none⟩) (Kd.R_far (p := ⟨gb201, 3, none⟩) (Kd.R_far (p := ⟨gb201, 2, none⟩) (Kd.R_far (p := ⟨gb201, 1, none⟩) (Kd.R_far (p := ⟨gb201, 0, none⟩) (Kd.R_far (p := ⟨gb200, 5, none⟩) (Kd.R_types (Kd.R_types HO204.out BK200.out (by decide)) BK201.out (by decide)) (fun _ hk => hk.1.2) (.slice Ao17 t208.length co17)) (fun _ hk => hk.2) (.slice Ao11 t202.length co11)) (fun _ hk => hk.2) (.slice Ao10 t205.length co10)) (fun _ hk => hk.2) (.int .i64 a0_2)) (fun _ hk => hk.2) (.int .i64 a0_3)) (fun _ hk => hk.2) (.int .i64 a0_4)) (fun _ hk => hk.2) (.slice Ao17 t208.length co17)) (fun _ hk => trivial), by (with_reducible repeat (first | apply Kd.R_alloc | apply Kd.R_drewN | apply Kd.R_drew)); exact Kd.R_mono (Kd.R_far (p := ⟨gb201, 5, none⟩) (Kd.R_far (p := ⟨gb201, 4, none⟩) (Kd.R_far (p := ⟨gb201, 3, none⟩) (Kd.R_far (p := ⟨gb201, 2, none⟩) (Kd.R_far (p := ⟨gb201, 1, none⟩) (Kd.R_far (p := ⟨gb201, 0, none⟩) (Kd.R_far (p := ⟨gb200, 5, none⟩) (Kd.R_types (Kd.R_types HO207.out BK200.out (by decide)) BK201.out (by decide)) (fun _ hk => hk.1.2) (.slice Ao17 t208.length co17)) (fun _ hk => hk.2) (.slice Ao11 t202.length co11)) (fun _ hk => hk.2) (.slice Ao10 t205.length co10)) (fun _ hk => hk.2) (.int .i64 a0_2)) (fun _ hk => hk.2) (.int .i64 a0_3)) (fun _ hk => hk.2) (.int .i64 a0_4)) (fun _ hk => hk.2) (.slice Ao17 t208.length co17)) (fun _ hk => trivial), by (with_reducible repeat (first | apply Kd.R_alloc | apply Kd.R_drewN | apply Kd.R_drew)); exact Kd.R_mono (Kd.R_far (p := ⟨gb201, 5, none⟩) (Kd.R_far (p := ⟨gb201, 4, none⟩) (Kd.R_far (p := ⟨gb201, 3, none⟩) (Kd.R_far (p := ⟨gb201, 2, none⟩) (Kd.R_far (p := ⟨gb201, 1, none⟩) (Kd.R_far (p := ⟨gb201, 0, none⟩) (Kd.R_far (p := ⟨gb200, 5, none⟩) (Kd.R_types (Kd.R_types HO210.out BK200.out (by decide)) BK201.out (by decide)) (fun _ hk => hk.1.2) (.slice Ao17 t208.length co17)) (fun _ hk => hk.2) (.slice Ao11 t202.length co11)) (fun _ hk => hk.2) (.slice Ao10 t205.length co10)) (fun _ hk => hk.2) (.int .i64 a0_2)) (fun _ hk => hk.2) (.int .i64 a0_3)) (fun _ hk => hk.2) (.int .i64 a0_4)) (fun _ hk => hk.2) (.slice Ao17 t208.length co17)) (fun _ hk => trivial), zw HB⟩
end Go.Proofs.Ytcfpclehogdmbaa.Q
end
section
namespace Go.Proofs.Ytcfpclehogdmbaa.Q
open Go.RowKit Go.Proofs.YtcfpclehogdmbaaW.PrintWords Go.Proofs.YtcfpclehogdmbaaW.PrintLast Go.Proofs.YtcfpclehogdmbaaW.PrintMore
attribute [local go_sem] max2_int min2_int max_two min_two max_three min_three max_four min_four   -- for this text's walks alone
set_option linter.unusedVariables false
set_option linter.unusedSimpArgs false
theorem run_copy_rowN {P : Program} (w : World) (dT sT ty elem : TypeId) (g o dLen dCap : Nat) (a : Addr) (sLen sCap : Nat) (cur : Array Value) (t : TypeId) (sz m : Nat) (cs : List Value)
    (hu : P.underlying dT = some (.slice elem)) (hs : (P.info? elem).map (·.size) = some sz)
    (hg : w.heap[g]? = some (.cells cur t (0, 0))) (hm : Nat.min sLen dLen = m) (hn : cs.length = m * sz)
    (hsrc : ∀ j v, cs[j]? = some v → w.cell? (a.add j) = some v) (hfit : o + cs.length ≤ cur.size) (h1 : ∀ v ∈ cs, v.oneCell' = true) :
    (Builtin.copy_ #[dT, sT] ty #[.slice (some ⟨g, o, none⟩) dLen dCap, .slice (some a) sLen sCap]).run P w =
      .ok (goInt m) (w.setRow g (cur.toList.take o ++ cs ++ cur.toList.drop (o + cs.length)).toArray) := by
  have hl := run_loadCells_list (P := P) w a cs hsrc
  have hst := run_storeCells_at P g o t cs 0 cur w hg (by simpa using hfit) h1
  cases hq : P.info? elem with
  | none => simp [hq] at hs
  | some i =>
    have hi : i.size = sz := by simpa [hq] using hs
    simp [Builtin.copy_, run_underlying hu, Builtin.lenOf, Builtin.firstCells, sizeOf, typeInfo, hq, hi, hm, ← hn, hl, hst]
theorem wpList_copy_runM {P : Program} (w : World) {ops : Array Oper} {rest : List Oper} {o : Oper} {a : Act} {Q : Exit → Act → World → Prop} (hgd : o.guard = none) (d s : Operand) (t t' : TypeId)
    (ho : o.op = .call { callee := .builtin .copy, args := #[d, s], argTypes := #[t, t'] }) (v u : Value) (hd : a.eval d = v) (hs : a.eval s = u) {v' : Value} {w' : World}
    (hr : (Builtin.copy_ #[t, t'] o.type #[v, u]).run P w = .ok v' w') (h : wpList P ops Q rest (a.put o.dst v') w') : wpList P ops Q (o :: rest) a w :=
  wpList_plain hgd fun K hK => by
    unfold Oper.wp execOp
    simp only [ho, resolve, invoke, builtin, Sem.run_bind, Sem.run_pure, Result.andThen_ok, List.map_toArray, List.map_cons, List.map_nil, hd, hs, hr]
    exact hK _ _ h
theorem step_copy_runM {P : Program} {ops : Array Oper} {o : Oper} {a : Act} {w : World} {K : Act → World → Prop} {Q : Exit → Act → World → Prop} {E : Prop}
    (hg : o.guard = none) (d x : Operand) (dT sT : TypeId) (hop : o.op = Op.call { callee := Callee.builtin Builtin.copy, args := #[d, x], argTypes := #[dT, sT] })
    (v u : Value) (hd : a.eval d = v) (hx : a.eval x = u) {v' : Value} {w' : World} (hr : (Builtin.copy_ #[dT, sT] o.type #[v, u]).run P w = .ok v' w') (hK : K (a.put o.dst v') w') :
    if Region.wanted o (yielded ops a.tmps) = true then Oper.wp P o a w K Q else E := by
  have hw : Region.wanted o (yielded ops a.tmps) = true := by simp [Region.wanted, hg]
  rw [if_pos hw]
  unfold Oper.wp
  simp [execOp, hop, resolve, invoke, builtin, hd, hx, hr, Result.andThen]
  exact hK
def spl (L : List Value) (o : Nat) (cs : List Value) : List Value := L.take o ++ cs ++ L.drop (o + cs.length)
theorem spl_length (L : List Value) (o : Nat) (cs : List Value) (h : o + cs.length ≤ L.length) : (spl L o cs).length = L.length := by simp [spl]; omega
theorem spl_take (L : List Value) (o k : Nat) (cs : List Value) (h : o + cs.length ≤ L.length) (hk : k ≤ o) : (spl L o cs).take k = L.take k := by
  unfold spl
  rw [List.append_assoc, List.take_append_of_le_length (by simp; omega), List.take_take, Nat.min_eq_left hk]
theorem spl_drop (L : List Value) (o : Nat) (cs : List Value) (h : o + cs.length ≤ L.length) : (spl L o cs).drop o = cs ++ L.drop (o + cs.length) := by
  unfold spl
  rw [List.append_assoc, List.drop_append_of_le_length (by simp; omega), List.drop_of_length_le (by simp; omega), List.nil_append]
theorem spl_take_all (L : List Value) (o : Nat) (cs : List Value) (h : o + cs.length ≤ L.length) : (spl L o cs).take (o + cs.length) = L.take o ++ cs := by
  unfold spl
  rw [List.take_append_of_le_length (by simp; omega), List.take_of_length_le (by simp; omega)]
theorem spl_two_a (L : List Value) (o e : Nat) (E C : List Value) (he : E.length = e) (h : o + e + C.length ≤ L.length) : (spl (spl L o E) (o + e) C).take (o + e + C.length) = L.take o ++ (E ++ C) := by
  subst he
  rw [spl_take_all _ _ _ (by rw [spl_length _ _ _ (by omega)]; omega), spl_take_all _ _ _ (by omega), List.append_assoc]
theorem spl_two_b (L : List Value) (o e : Nat) (E C : List Value) (he : E.length = e) (h : o + e + C.length ≤ L.length) : (spl (spl L (o + e) C) o E).take (o + e + C.length) = L.take o ++ (E ++ C) := by
  subst he
  have h1 : (spl L (o + E.length) C).length = L.length := spl_length _ _ _ (by omega)
  rw [show spl (spl L (o + E.length) C) o E = (spl L (o + E.length) C).take o ++ (E ++ (spl L (o + E.length) C).drop (o + E.length)) by unfold spl; rw [List.append_assoc],
    spl_take _ _ _ _ (by omega) (by omega), spl_drop _ _ _ (by omega)]
  rw [← List.append_assoc, ← List.append_assoc, List.take_append_of_le_length (by simp; omega), List.take_of_length_le (by simp; omega), List.append_assoc]
def encM (x : S67) : List Value := [.int .i64 x.f0.f0, .int .i64 x.f0.f1, .int .i64 x.f1.f0, .int .i64 x.f1.f1]
def Em (x : S67) (c : List Value) : Prop := c = encM x
theorem own_open {w : World} {base : Nat} {ok : Nat → Prop} {v : Value} {xs : List S67} (h : Kd.R k67 67 w base ok v xs) : (v = .slice none 0 0 ∧ xs = []) ∨ ∃ g cap cur, v = .slice (some ⟨g, 0, none⟩) xs.length cap ∧ base ≤ g ∧ ok g ∧ w.heap[g]? = some (.cells cur 67 (0, 0)) ∧ xs.length ≤ cap ∧ cap ≤ maxLen ∧ cur.size = cap * 4 ∧ Reps Em 4 xs (cur.toList.take (xs.length * 4)) := by
  obtain ⟨h1, inner, ⟨h2, h3⟩, h4⟩ := h
  rcases h3 with ⟨rfl, h0⟩ | ⟨g, cap, cur, rfl, hg, hh, hn, hc, hs, ht⟩
  · exact .inl ⟨rfl, List.eq_nil_of_length_eq_zero h0⟩
  subst ht
  exact .inr ⟨g, cap, cur, rfl, hg, h1 g rfl, hh, hn, hc, hs, h4.imp_ fun p c hp => k67_openM hp⟩
theorem own_close {w : World} {base : Nat} {ok : Nat → Prop} {g cap : Nat} {cur : Array Value} {xs : List S67} (hg : base ≤ g) (hok : ok g) (h : w.heap[g]? = some (.cells cur 67 (0, 0))) (hn : xs.length ≤ cap) (hc : cap ≤ maxLen) (hs : cur.size = cap * 4)
    (hr : Reps Em 4 xs (cur.toList.take (xs.length * 4))) : Kd.R k67 67 w base ok (.slice (some ⟨g, 0, none⟩) xs.length cap) xs :=
  ⟨fun k hk => by obtain rfl : g = k := by simpa [Value.ownBlock] using hk
                  exact hok, _, ⟨hr.1, .inr ⟨g, cap, cur, rfl, hg, h, hn, hc, hs, rfl⟩⟩, hr.imp_ fun p c hp => by rw [show c = encM p from hp]; exact k67_mkM _ _ _ p⟩
theorem Em_one (y : S67) : Reps Em 4 [y] (encM y) := ⟨rfl, fun j p h => by
  cases j with
  | zero => obtain rfl : y = p := by simpa using h
            rfl
  | succ j => simp at h⟩
theorem Em_insert {xs : List S67} {L : List Value} (h : Reps Em 4 xs L) (i : Nat) (hi : i ≤ xs.length) (y : S67) : Reps Em 4 (xs.take i ++ ([y] ++ xs.drop i)) (L.take (i * 4) ++ (encM y ++ L.drop (i * 4))) :=
  Kd.reps_append (Kd.reps_take h hi) (Kd.reps_append (Em_one y) (Kd.reps_drop h))
section
open Go.Shelf
theorem src_of_block {w : World} {g : Nat} {L : List Value} {cur : Array Value} {t : TypeId} (h : w.heap[g]? = some (.cells cur t (0, 0))) (o : Nat) {cs : List Value} (hcs : ∀ j v, cs[j]? = some v → cur.toList[o + j]? = some v) :
    ∀ j v, cs[j]? = some v → w.cell? ((⟨g, o, none⟩ : Addr).add j) = some v := fun j v hj => by
  have := blk_cell h (o + j)
  rw [Addr.add_lit, this]
  simpa using hcs j v hj
theorem oneCell_block {xs : List S67} {L : List Value} (h : Reps Em 4 xs L) : ∀ v ∈ L, v.oneCell' = true := by
  intro v hv
  obtain ⟨k, hk, rfl⟩ := List.getElem_of_mem hv
  have hl := h.1
  have hj : k / 4 < xs.length := by omega
  have h2 := h.2 (k / 4) xs[k / 4] (List.getElem?_eq_getElem hj)
  have h3 : ((L.drop (k / 4 * 4)).take 4)[k % 4]? = some L[k] := by
    rw [List.getElem?_take, if_pos (by omega), List.getElem?_drop, show k / 4 * 4 + k % 4 = k by omega, List.getElem?_eq_getElem hk]
  rw [show (L.drop (k / 4 * 4)).take 4 = encM xs[k / 4] from h2] at h3
  have h4 := List.mem_of_getElem? h3
  simp [encM] at h4
  rcases h4 with h4 | h4 | h4 | h4 <;> rw [h4] <;> rfl
set_option maxHeartbeats 4000000 in
set_option maxRecDepth 100000 in
theorem insert.shift (b cap n i vb : Nat) (cur : Array Value) (xs : List S67) (y : S67) (w : World) (hxn : xs.length = n) (hi : i < n) (hroom : n + 1 ≤ cap) (hc63 : cap ≤ 9223372036854775807) (hvb : vb ≠ b)
    (hb : w.heap[b]? = some (.cells cur 67 (0, 0))) (hsz : cur.size = cap * 4) (hr : Reps Em 4 xs (cur.toList.take (n * 4))) (hv : w.heap[vb]? = some (.cells (encM y).toArray 67 (0, 0))) :
    Calls Try.prog 27 #[.slice (some ⟨b, 0, none⟩) n cap, .int .i64 i, .slice (some ⟨vb, 0, none⟩) 1 1] w fun e w' =>
      e = .returned (.slice (some ⟨b, 0, none⟩) (n + 1) cap) ∧ ∃ L : List Value, w' = w.drew.setRow b L.toArray ∧ L.length = cap * 4 ∧ L.take ((n + 1) * 4) = (cur.toList.take (n * 4)).take (i * 4) ++ (encM y ++ (cur.toList.take (n * 4)).drop (i * 4)) := by
  have u28 := run_underlying Try.underlying28
  have hu28 := Try.underlying28
  have hu67 := Try.underlying67
  have hz1 : ¬ ((1 : Int) = 0) := by omega
  have hz2 : ¬ ((i : Int) = (n : Int)) := by omega
  have hsz4 : (Try.prog.info? 67).map (·.size) = some 4 := by kernel_rfl
  have hsize : ∀ W : World, (Go.sizeOf 67).run Try.prog W = .ok 4 W := fun W => by
    obtain ⟨i0, hi0, hq⟩ := Option.map_eq_some_iff.1 hsz4
    simp [sizeOf, typeInfo, hi0, hq]
  have hsh : w.shape? vb = some (67, 4) := by simp [World.shape?, hv, encM]
  have hsb : w.shape? b = some (67, cap * 4) := by simp [World.shape?, hb, hsz]
  have hov : ∀ lb cb, (callFunc 49 #[.slice (some ⟨vb, 0, none⟩) 1 1, .slice (some ⟨b, (i + 1) * 4, none⟩) lb cb]).run Try.prog w = .ok (.value (.bool false)) w := fun lb cb => by
    rw [run_callFunc_extern Try.func49 (by kernel_rfl) (by kernel_rfl) (by kernel_rfl) (e := Extern.SlicesOverlaps.overlaps #[28, 28] #[4]) (by kernel_rfl),
      Lib.run_overlaps_apart w 28 4 67 Try.underlying28 4 hsize ⟨vb, 0, none⟩ ⟨b, (i + 1) * 4, none⟩ 1 1 lb cb hvb 67 67 4 (cap * 4) hsh hsb (by omega) (blk_frozen hv 0) (blk_frozen hv 4)]
    rfl
  have hw1 : IntKind.i64.wrap ((i : Int) + 1) = (i : Int) + 1 := by rw [IntKind.wrap_i64]; omega
  have hw2 : wrap64 ((i : Int) + 1) = (i : Int) + 1 := IntWalk.wrap64_in _ (by omega)
  have hw3 : wrap64 ((n : Int) + 1) = (n : Int) + 1 := IntWalk.wrap64_in _ (by omega)
  have hb1 : (0 : Int) ≤ (i : Int) + 1 := by omega
  have hin : i ≤ n := by omega
  have htn : ((i : Int) + 1).toNat = i + 1 := by omega
  have htn2 : ((n : Int) + 1).toNat = n + 1 := by omega
  have hb2 : ¬ (cap = i + 1) := by omega
  have hb3 : (i : Int) ≤ (n : Int) + 1 := by omega
  have hb4 : ¬ (cap = i) := by omega
  obtain ⟨R, hR⟩ : ∃ R, R = cur.toList.take (n * 4) := ⟨_, rfl⟩
  have hLl : cur.toList.length = cap * 4 := by simpa using hsz
  have hRl : R.length = n * 4 := by rw [hR, List.length_take]; omega
  rw [← hR] at hr ⊢
  have hR1 := oneCell_block hr
  obtain ⟨C, hC⟩ : ∃ C, C = R.drop (i * 4) := ⟨_, rfl⟩
  have hCl : C.length = (n - i) * 4 := by rw [hC, List.length_drop, hRl]; omega
  have hC1 : ∀ v ∈ C, v.oneCell' = true := fun v hv => hR1 v (List.mem_of_mem_drop (hC ▸ hv))
  have hbd : w.drew.heap[b]? = some (.cells cur 67 (0, 0)) := hb
  have hcp1 : ∀ ty dc sc, (Builtin.copy_ #[28, 28] ty #[.slice (some ⟨b, (i + 1) * 4, none⟩) (n - i) dc, .slice (some ⟨b, i * 4, none⟩) (n + 1 - i) sc]).run Try.prog w.drew = .ok (goInt ((n - i : Nat) : Int)) (w.drew.setRow b (spl cur.toList ((i + 1) * 4) C).toArray) := fun ty dc sc =>
    run_copy_rowN w.drew 28 28 ty 67 b ((i + 1) * 4) (n - i) dc ⟨b, i * 4, none⟩ (n + 1 - i) sc cur 67 4 (n - i) C Try.underlying28 hsz4 hbd (by simp only [Nat.min_def]; split <;> omega) hCl
      (src_of_block (L := []) hbd (i * 4) (fun j v hj => by
        rw [hC, List.getElem?_drop, hR, List.getElem?_take] at hj
        split at hj
        · exact hj
        cases hj)) (by rw [hCl]; have : cur.size = cap * 4 := hsz; omega) hC1
  have hs1 : (spl cur.toList ((i + 1) * 4) C).length = cap * 4 := by rw [spl_length _ _ _ (by rw [hCl]; omega)]; exact hLl
  have hb2' : (w.drew.setRow b (spl cur.toList ((i + 1) * 4) C).toArray).heap[b]? = some (.cells (spl cur.toList ((i + 1) * 4) C).toArray 67 (0, 0)) := setRow_heap _ _ _ _ _ _ hbd
  have hv2 : (w.drew.setRow b (spl cur.toList ((i + 1) * 4) C).toArray).heap[vb]? = some (.cells (encM y).toArray 67 (0, 0)) := (setRow_other _ _ _ _ hvb).trans hv
  obtain ⟨S1, hS1⟩ : ∃ S1, S1 = spl cur.toList ((i + 1) * 4) C := ⟨_, rfl⟩
  rw [← hS1] at hcp1 hb2' hv2 hs1
  have hcp2 : ∀ ty dc, (Builtin.copy_ #[28, 28] ty #[.slice (some ⟨b, i * 4, none⟩) (n + 1 - i) dc, .slice (some ⟨vb, 0, none⟩) 1 1]).run Try.prog (w.drew.setRow b S1.toArray) = .ok (goInt ((1 : Nat) : Int)) ((w.drew.setRow b S1.toArray).setRow b (spl S1 (i * 4) (encM y)).toArray) := fun ty dc =>
    run_copy_rowN _ 28 28 ty 67 b (i * 4) (n + 1 - i) dc ⟨vb, 0, none⟩ 1 1 S1.toArray 67 4 1 (encM y) Try.underlying28 hsz4 hb2' (by simp only [Nat.min_def]; split <;> omega) rfl
      (src_of_block (L := []) hv2 0 (fun j v hj => by simpa using hj)) (by simp [encM]; omega) (oneCell_block (Em_one y))
  have hfin : (spl S1 (i * 4) (encM y)).take ((n + 1) * 4) = R.take (i * 4) ++ (encM y ++ R.drop (i * 4)) := by
    have h1 := spl_two_b cur.toList (i * 4) 4 (encM y) C rfl (by rw [hCl]; omega)
    rw [show i * 4 + 4 = (i + 1) * 4 by omega, hCl, show (i + 1) * 4 + (n - i) * 4 = (n + 1) * 4 by omega, ← hS1] at h1
    rw [h1, hR, List.take_take, Nat.min_eq_left (by omega), hC, hR]
  have hfl : (spl S1 (i * 4) (encM y)).length = cap * 4 := by rw [spl_length _ _ _ (by simp [encM]; omega)]; exact hs1
  clear hC hCl hC1 hR1 hbd hs1 hb2' hv2 hRl hLl hR hr hS1
  have mixed : Try.prog.follows Departure.mixedOrders = true := by kernel_rfl
  go_enter Try.func27, Try.ntmps27
  go_wp2_with (simp only [hov])
  go_region_law_o (refine step_copy_runM rfl _ _ 28 28 rfl _ _ (by simp [Act.eval, Act.put]) (by simp [Act.eval, Act.put]) (hcp1 _ _ _) ?_)
  go_wp2_with (at_builtin; refine wpList_copy_runM _ rfl _ _ 28 28 rfl _ _ rfl rfl (hcp2 _ _) ?_)
  go_ret
  exact ⟨rfl, _, setRow_setRow _ _ _ _, hfl, hfin⟩
end
section
open Go.Shelf
theorem below_setRowM {B g : Nat} {w0 w : World} (hb : Below B w0 w) (hBg : B ≤ g) (cs : Array Value) : Below B w0 (w.setRow g cs) :=
  hb.trans ⟨rfl, rfl, rfl, by simp [World.setRow], fun k hk => setRow_other w g k cs (by omega)⟩
set_option maxHeartbeats 4000000 in
set_option maxRecDepth 100000 in
theorem insert.grow (b cap n i vb : Nat) (cur : Array Value) (xs : List S67) (y : S67) (w : World) (hxn : xs.length = n) (hi : i < n) (hnc : n ≤ cap) (hroom : cap < n + 1) (hbig : (n + 1) * 32 ≤ 140737488355328)
    (hb : w.heap[b]? = some (.cells cur 67 (0, 0))) (hsz : cur.size = cap * 4) (hr : Reps Em 4 xs (cur.toList.take (n * 4))) (hv : w.heap[vb]? = some (.cells (encM y).toArray 67 (0, 0))) :
    Calls Try.prog 27 #[.slice (some ⟨b, 0, none⟩) n cap, .int .i64 i, .slice (some ⟨vb, 0, none⟩) 1 1] w fun e w' => ∃ (G : Nat) (L : List Value),
      e = .returned (.slice (some ⟨w.heap.size, 0, none⟩) (n + 1) G) ∧ w'.heap[w.heap.size]? = some (.cells L.toArray 67 (0, 0)) ∧ L.length = G * 4 ∧ n + 1 ≤ G ∧ G ≤ maxLen ∧ Below w.heap.size w w' ∧ L.take ((n + 1) * 4) = (cur.toList.take (n * 4)).take (i * 4) ++ (encM y ++ (cur.toList.take (n * 4)).drop (i * 4)) := by
  have hGi0 : ∀ G : Nat, n + 1 ≤ G → ¬ (G = i) := fun G h => by omega
  have hGim0 : ∀ G : Nat, n + 1 ≤ G → ¬ (G = i + 1) := fun G h => by omega
  have hci : ¬ (cap = i) := by omega
  have hw2 : wrap64 ((i : Int) + 1) = (i : Int) + 1 := IntWalk.wrap64_in _ (by omega)
  have hw1 : IntKind.i64.wrap ((i : Int) + 1) = (i : Int) + 1 := by rw [IntKind.wrap_i64]; omega
  have hw3 : wrap64 ((n : Int) + 1) = (n : Int) + 1 := IntWalk.wrap64_in _ (by omega)
  have hw4 : wrap64 ((n : Int) + 1 - (i : Int)) = (n : Int) + 1 - (i : Int) := IntWalk.wrap64_in _ (by omega)
  have hb1 : (0 : Int) ≤ (i : Int) + 1 := by omega
  have hin : i ≤ n := by omega
  have htn : ((i : Int) + 1).toNat = i + 1 := by omega
  have hb3 : (i : Int) ≤ (n : Int) := by omega
  have u28 := run_underlying Try.underlying28
  have u3 := run_underlying Try.underlying3
  have hu28 := Try.underlying28
  have hu67 := Try.underlying67
  obtain ⟨i0, hi0, hq0⟩ := Option.map_eq_some_iff.1 info67
  simp only [Prod.mk.injEq] at hq0
  obtain ⟨hz0, hzs, hzb⟩ := hq0
  have hsz4 : (Try.prog.info? 67).map (·.size) = some 4 := by rw [hi0]; simp [hzs]
  have hz1 : ¬ ((1 : Int) = 0) := by omega
  have hz2 : ¬ ((i : Int) = (n : Int)) := by omega
  have hz3 : (cap : Int) < (n : Int) + 1 := by omega
  have hbw : b < w.heap.size := (Array.getElem?_eq_some_iff.1 hb).1
  have hvw : vb < w.heap.size := (Array.getElem?_eq_some_iff.1 hv).1
  have hkk : (n : Int) + 1 - (i : Int) = ((n + 1 - i : Nat) : Int) := by omega
  have hik : i + (n + 1 - i) = n + 1 := by omega
  obtain ⟨R, hR⟩ : ∃ R, R = cur.toList.take (n * 4) := ⟨_, rfl⟩
  have hLl : cur.toList.length = cap * 4 := by simpa using hsz
  have hRl : R.length = n * 4 := by rw [hR, List.length_take]; omega
  rw [← hR] at hr ⊢
  have hR1 := oneCell_block hr
  obtain ⟨C, hC⟩ : ∃ C, C = R.drop (i * 4) := ⟨_, rfl⟩
  have hCl : C.length = (n - i) * 4 := by rw [hC, List.length_drop, hRl]; omega
  have hC1 : ∀ v ∈ C, v.oneCell' = true := fun v hv => hR1 v (List.mem_of_mem_drop (hC ▸ hv))
  have hol : (R.take (i * 4)).length = i * 4 := by rw [List.length_take, hRl]; omega
  have hold : (Builtin.firstCells i0.size i (.slice (some ⟨b, 0, none⟩) i cap)).run Try.prog w.drew = .ok (R.take (i * 4)).toArray w.drew := by
    rw [hzs]
    exact run_firstCells_some w.drew 4 i ⟨b, 0, none⟩ i cap (R.take (i * 4)) hol (src_of_block (L := []) hb 0 (fun j v hj => by
      rw [List.getElem?_take] at hj
      split at hj
      · rw [hR, List.getElem?_take] at hj
        split at hj
        · simpa using hj
        cases hj
      cases hj))
  have hrz : ∀ ty, (Builtin.append_ #[28, 3] ty #[.slice (some ⟨b, 0, none⟩) i cap, .int .i64 ((n : Int) + 1 - (i : Int))]).run Try.prog w =
      .ok (.slice (some ⟨w.heap.size, 0, none⟩) (n + 1) (grownCap w (n + 1) cap 67)) (w.drew.alloc (.cells ((R.take (i * 4)).toArray ++ Builtin.zeroCells (Value.agg #[(.int .i64 0), (.int .i64 0), (.int .i64 0), (.int .i64 0)]).cells (n + 1 - i) ++ Builtin.zeroCells (Value.agg #[(.int .i64 0), (.int .i64 0), (.int .i64 0), (.int .i64 0)]).cells (grownCap w (n + 1) cap 67 - (n + 1))) 67)) := fun ty => by
    have h := Lib.run_append_grow_zeros w 28 3 ty 67 i0 _ .i64 .i64 Try.underlying28 Try.underlying3 hi0 hz0 (some ⟨b, 0, none⟩) i cap (R.take (i * 4)) hold (n + 1 - i) (by omega) (by omega) (by omega) (by omega) (by rw [hzb]; omega) (by rw [hzb, hik]; exact growslice_fits hroom hbig)
    rw [hik] at h
    rw [hkk]
    exact h
  obtain ⟨G, hG⟩ : ∃ G, G = grownCap w (n + 1) cap 67 := ⟨_, rfl⟩
  have hGn : n + 1 ≤ G := by rw [hG]; exact grownCap_ge w _ _ _
  have hG63 : G ≤ maxLen := by
    have := grownCap_le_maxLen w (n + 1) cap 67 (by unfold maxLen; omega)
    rw [← hG] at this
    exact this
  have hG64 : G ≤ 9223372036854775807 := by unfold maxLen at hG63; omega
  obtain ⟨ROW, hROW⟩ : ∃ ROW : List Value, ROW = ((R.take (i * 4)).toArray ++ Builtin.zeroCells (Value.agg #[(.int .i64 0), (.int .i64 0), (.int .i64 0), (.int .i64 0)]).cells (n + 1 - i) ++ Builtin.zeroCells (Value.agg #[(.int .i64 0), (.int .i64 0), (.int .i64 0), (.int .i64 0)]).cells (G - (n + 1))).toList := ⟨_, rfl⟩
  have hRO : ROW.toArray = ((R.take (i * 4)).toArray ++ Builtin.zeroCells (Value.agg #[(.int .i64 0), (.int .i64 0), (.int .i64 0), (.int .i64 0)]).cells (n + 1 - i) ++ Builtin.zeroCells (Value.agg #[(.int .i64 0), (.int .i64 0), (.int .i64 0), (.int .i64 0)]).cells (G - (n + 1))) := by rw [hROW]
  have hROl : ROW.length = G * 4 := by
    rw [hROW, Array.length_toList]
    have e1 : ∀ m, (Builtin.zeroCells (Value.agg #[(.int .i64 0), (.int .i64 0), (.int .i64 0), (.int .i64 0)]).cells m).size = m * 4 := fun m => by simp [Builtin.zeroCells, Value.cells]
    rw [Array.size_append, Array.size_append, e1, e1, List.size_toArray, hol]
    omega
  have hROt : ROW.take (i * 4) = R.take (i * 4) := by
    rw [hROW, Array.toList_append, Array.toList_append, List.append_assoc, List.take_append_of_le_length (by simp [hol]), List.take_of_length_le (by simp [hol])]
  rw [← hG, ← hRO] at hrz
  have hnew : (w.drew.alloc (.cells ROW.toArray 67)).heap[w.heap.size]? = some (.cells ROW.toArray 67 (0, 0)) := World.alloc_heap_new w.drew _
  have hcpA : ∀ (W : World), W.heap[w.heap.size]? = some (.cells ROW.toArray 67 (0, 0)) → W.heap[vb]? = some (.cells (encM y).toArray 67 (0, 0)) → ∀ ty dc, (Builtin.copy_ #[28, 28] ty #[.slice (some ⟨w.heap.size, i * 4, none⟩) (n + 1 - i) dc, .slice (some ⟨vb, 0, none⟩) 1 1]).run Try.prog W = .ok (goInt ((1 : Nat) : Int)) (W.setRow w.heap.size (spl ROW (i * 4) (encM y)).toArray) := fun W h1 h2 ty dc =>
    run_copy_rowN W 28 28 ty 67 w.heap.size (i * 4) (n + 1 - i) dc ⟨vb, 0, none⟩ 1 1 ROW.toArray 67 4 1 (encM y) Try.underlying28 hsz4 h1 (by simp only [Nat.min_def]; split <;> omega) rfl
      (src_of_block (L := []) h2 0 (fun j v hj => by simpa using hj)) (by simp [encM]; omega) (oneCell_block (Em_one y))
  obtain ⟨S1, hS1⟩ : ∃ S1, S1 = spl ROW (i * 4) (encM y) := ⟨_, rfl⟩
  have hs1 : S1.length = G * 4 := by rw [hS1, spl_length _ _ _ (by simp [encM]; omega)]; exact hROl
  rw [← hS1] at hcpA
  have hcpB : ∀ (W : World), W.heap[w.heap.size]? = some (.cells S1.toArray 67 (0, 0)) → W.heap[b]? = some (.cells cur 67 (0, 0)) → ∀ ty dc sc, (Builtin.copy_ #[28, 28] ty #[.slice (some ⟨w.heap.size, (i + 1) * 4, none⟩) (n - i) dc, .slice (some ⟨b, i * 4, none⟩) (n - i) sc]).run Try.prog W = .ok (goInt ((n - i : Nat) : Int)) (W.setRow w.heap.size (spl S1 ((i + 1) * 4) C).toArray) := fun W h1 h2 ty dc sc =>
    run_copy_rowN W 28 28 ty 67 w.heap.size ((i + 1) * 4) (n - i) dc ⟨b, i * 4, none⟩ (n - i) sc S1.toArray 67 4 (n - i) C Try.underlying28 hsz4 h1 (by simp only [Nat.min_def]; split <;> omega) hCl
      (src_of_block (L := []) h2 (i * 4) (fun j v hj => by
        rw [hC, List.getElem?_drop, hR, List.getElem?_take] at hj
        split at hj
        · exact hj
        cases hj)) (by rw [hCl]; simp; omega) hC1
  have hfin : (spl S1 ((i + 1) * 4) C).take ((n + 1) * 4) = R.take (i * 4) ++ (encM y ++ R.drop (i * 4)) := by
    have h1 := spl_two_a ROW (i * 4) 4 (encM y) C rfl (by rw [hCl]; omega)
    rw [show i * 4 + 4 = (i + 1) * 4 by omega, hCl, show (i + 1) * 4 + (n - i) * 4 = (n + 1) * 4 by omega, ← hS1] at h1
    rw [h1, hROt, hC]
  have hfl : (spl S1 ((i + 1) * 4) C).length = G * 4 := by rw [spl_length _ _ _ (by rw [hCl]; omega)]; exact hs1
  have hGi : ¬ (G = i) := hGi0 G hGn
  have hGim : ¬ (G = i + 1) := hGim0 G hGn
  have hkb : (w.drew.alloc (.cells ROW.toArray 67)).heap[b]? = some (.cells cur 67 (0, 0)) := (Below.heap_alloc _ _ _ (by simpa using hbw)).trans hb
  have hkv : (w.drew.alloc (.cells ROW.toArray 67)).heap[vb]? = some (.cells (encM y).toArray 67 (0, 0)) := (Below.heap_alloc _ _ _ (by simpa using hvw)).trans hv
  have hS2 : (w.drew.alloc (.cells ROW.toArray 67)).heap = (w.alloc (.cells ROW.toArray 67)).heap := rfl
  have hA := hcpA ((w.alloc (.cells ROW.toArray 67)).drew) hnew hkv
  have hB1 : ((((w.alloc (.cells ROW.toArray 67)).drew).setRow w.heap.size S1.toArray).drew).heap[w.heap.size]? = some (.cells S1.toArray 67 (0, 0)) := setRow_heap _ _ _ _ _ _ (show ((w.alloc (.cells ROW.toArray 67)).drew).heap[w.heap.size]? = _ from hnew)
  have hB2 : ((((w.alloc (.cells ROW.toArray 67)).drew).setRow w.heap.size S1.toArray).drew).heap[b]? = some (.cells cur 67 (0, 0)) := (setRow_other _ _ _ _ (Nat.ne_of_lt hbw)).trans hkb
  have hBB := hcpB _ hB1 hB2
  have hlast : ((((w.alloc (.cells ROW.toArray 67)).drew).setRow w.heap.size S1.toArray).drew.setRow w.heap.size (spl S1 ((i + 1) * 4) C).toArray).heap[w.heap.size]? = some (.cells (spl S1 ((i + 1) * 4) C).toArray 67 (0, 0)) := setRow_heap _ _ _ _ _ _ hB1
  have hbel : Below w.heap.size w ((((w.alloc (.cells ROW.toArray 67)).drew).setRow w.heap.size S1.toArray).drew.setRow w.heap.size (spl S1 ((i + 1) * 4) C).toArray) :=
    below_setRowM (below_setRowM (((Below.refl _ w).alloc (Nat.le_refl _) _).drew) (Nat.le_refl _) _).drew (Nat.le_refl _) _
  clear hGi0 hGim0 hkk hik hold hRO hROW hROl hROt hnew hcpA hcpB hC hCl hC1 hR1 hS1 hs1 hR hRl hLl hol hr hG hB1 hB2 hkb hkv hS2
  have mixed : Try.prog.follows Departure.mixedOrders = true := by kernel_rfl
  go_enter Try.func27, Try.ntmps27
  go_wp2_with (first
    | (at_builtin; refine Lib.wpList_append_run _ rfl _ _ _ _ rfl _ _ rfl rfl _ _ (hrz _) ?_)
    | (at_builtin; refine wpList_copy_runM _ rfl _ _ 28 28 rfl _ _ rfl rfl (hA _ _) ?_))
  go_region_law_o (refine step_copy_runM rfl _ _ 28 28 rfl _ _ (by simp [Act.eval, Act.put]) (by simp [Act.eval, Act.put]) (hBB _ _ _) ?_)
  go_wp2
  go_ret
  exact ⟨G, _, rfl, hlast, hfl, hGn, hG63, hbel, hfin⟩
end
section
open Go.Shelf
theorem C_one {w : World} {g : Nat} {y : S67} (h : w.heap[g]? = some (.cells (encM y).toArray 67 (0, 0))) : Kd.C k67 w (some ⟨g, 0, none⟩) 1 [y] :=
  (Kd.R_reads' (own_close (xs := [y]) (base := 0) (ok := fun _ => True) (cap := 1) (Nat.zero_le _) trivial h (by simp) (by unfold maxLen; omega) rfl (Em_one y))).2.2
set_option maxHeartbeats 4000000 in
set_option maxRecDepth 100000 in
theorem insert.calls (vs : Value) (xs : List S67) (i vb : Nat) (y : S67) (w0 w : World) (hB : Below w0.heap.size w0 w) (hs : Kd.R k67 67 w w0.heap.size (fun _ => True) vs xs) (hi : i ≤ xs.length) (hlen : xs.length < 1000)
    (hv : w.heap[vb]? = some (.cells (encM y).toArray 67 (0, 0))) (hvb : vs.ownBlock ≠ some vb) :
    Calls Try.prog 27 #[vs, .int .i64 i, .slice (some ⟨vb, 0, none⟩) 1 1] w fun e w' => ∃ v', e = .returned v' ∧ Kd.R k67 67 w' w0.heap.size (fun _ => True) v' (xs.take i ++ ([y] ++ xs.drop i)) ∧ Below w0.heap.size w0 w' ∧ w.grownBy w' vs.ownBlock := by
  by_cases hin : i = xs.length
  · subst hin
    have hu28 := Try.underlying28
    rw [List.take_length, List.drop_length, List.append_nil]
    have HS := Aside0.mk hs
    have HB := Aside0.mk hB
    have HV := Aside0.mk hv
    have HL := Aside0.mk hlen
    obtain ⟨A, c, hvs⟩ := Kd.R_slice hs
    subst hvs
    have HC := Aside0.mk (C_one hv)
    have hnc : xs.length ≤ c := by
      rcases own_open hs with ⟨h1, h2⟩ | ⟨g, cap, cur, h1, _, _, _, h2, _⟩
      · rw [h2]; simp
      have := congrArg (fun v => match v with | Value.slice _ _ c => c | _ => 0) h1
      simp at this
      omega
    clear hs hB hv hlen hi
    go_enter Try.func27, Try.ntmps27
    go_wp2_with ((with_reducible refine gate_builtin (b := .append) (xs := #[.tmp 23, .tmp 24]) rfl ?_); at_builtin; refine Kd.R_append_rows k67 (w0 := w0) w0.heap.size rfl (.tmp 23) (.tmp 24) 28 67 (.agg #[(.int .i64 0), (.int .i64 0), (.int .i64 0), (.int .i64 0)]) 32 rfl Try.underlying28 info67 rfl (by decide) (by omega) (.slice A xs.length c) xs [y] _ _ _ (fun _ => True) (fun _ => False) rfl rfl HS.out HC.out (fun _ _ h => h) (fun _ h => h.elim) (fun _ _ => trivial) HB.out HB.out.size (by have := HL.out; omega) ?_; intro v2 w2 ho hb hg hat; have HO2 := Aside0.mk ho; have HB2 := Aside0.mk hb; have HG2 := Aside0.mk hg; clear ho hb hg hat)
    all_goals
      go_ret
      exact ⟨_, rfl, HO2.out, HB2.out, by cases A <;> exact HG2.out⟩
  rcases own_open hs with ⟨h1, h2⟩ | ⟨g, cap, cur, rfl, hg, _, hh, hn, hc, hsz, hr⟩
  · subst h2; simp at hi; simp [hi] at hin
  have hmx : cap ≤ 9223372036854775807 := by unfold maxLen at hc; omega
  have hlen2 : (xs.take i ++ ([y] ++ xs.drop i)).length = xs.length + 1 := by simp; omega
  by_cases hroom : xs.length + 1 ≤ cap
  · refine (insert.shift g cap xs.length i vb cur xs y w rfl (by omega) hroom hmx (by intro h; subst h; exact hvb rfl) hh hsz hr hv).mono ?_
    rintro e w' ⟨rfl, L, rfl, hl, ht⟩
    refine ⟨_, rfl, ?_, below_setRowM hB.drew hg _, ⟨rfl, rfl, rfl, by simp [World.setRow], fun k hk hne => setRow_other _ _ _ _ (fun h => hne (by rw [h]; rfl))⟩⟩
    rw [← hlen2]
    refine own_close hg trivial (setRow_heap _ _ _ _ _ _ (show w.drew.heap[g]? = _ from hh)) (by omega) hc (by simpa using hl) ?_
    rw [hlen2]
    show Reps Em 4 _ (L.take ((xs.length + 1) * 4))
    rw [ht]
    exact Em_insert hr i hi y
  refine (insert.grow g cap xs.length i vb cur xs y w rfl (by omega) hn (by omega) (by omega) hh hsz hr hv).mono ?_
  rintro e w' ⟨G, L, rfl, hhe, hl, hG, hGm, hbe, ht⟩
  refine ⟨_, rfl, ?_, hB.trans (hbe.mono hB.size), ⟨hbe.os, hbe.tape, hbe.output, hbe.size, fun k hk hne => hbe.block k hk⟩⟩
  rw [← hlen2]
  refine own_close (cap := G) hB.size trivial hhe (by omega) hGm (by simpa using hl) ?_
  rw [hlen2]
  show Reps Em 4 _ (L.take ((xs.length + 1) * 4))
  rw [ht]
  exact Em_insert hr i hi y
end
end Go.Proofs.Ytcfpclehogdmbaa.Q
end
section
namespace Go.Proofs.Ytcfpclehogdmbaa.Q
open Go.RowKit Go.Proofs.YtcfpclehogdmbaaW.PrintWords Go.Proofs.YtcfpclehogdmbaaW.PrintLast Go.Proofs.YtcfpclehogdmbaaW.PrintMore
attribute [local go_sem] max2_int min2_int max_two min_two max_three min_three max_four min_four   -- for this text's walks alone
set_option linter.unusedVariables false
set_option linter.unusedSimpArgs false
theorem six_set {W : World} {g : Nat} {c0 c1 c2 c3 c4 c5 p0 p1 p2 p3 p4 p5 : Value} {t : TypeId} (h : W.heap[g]? = some (.cells #[c0, c1, c2, c3, c4, c5] t (0, 0))) :
    ((((((W.setCell ⟨g, 0, none⟩ p0).setCell ⟨g, 1, none⟩ p1).setCell ⟨g, 2, none⟩ p2).setCell ⟨g, 3, none⟩ p3).setCell ⟨g, 4, none⟩ p4).setCell ⟨g, 5, none⟩ p5).heap[g]? = some (.cells #[p0, p1, p2, p3, p4, p5] t (0, 0)) := by
  refine blk_put (cs := #[p0, p1, p2, p3, p4, c5]) ?_ 5 _ rfl
  refine blk_put (cs := #[p0, p1, p2, p3, c4, c5]) ?_ 4 _ rfl
  refine blk_put (cs := #[p0, p1, p2, c3, c4, c5]) ?_ 3 _ rfl
  refine blk_put (cs := #[p0, p1, c2, c3, c4, c5]) ?_ 2 _ rfl
  refine blk_put (cs := #[p0, c1, c2, c3, c4, c5]) ?_ 1 _ rfl
  exact blk_put (cs := #[c0, c1, c2, c3, c4, c5]) h 0 _ rfl
theorem six_other {W : World} {g k : Nat} {p0 p1 p2 p3 p4 p5 : Value} (hk : k ≠ g) : ((((((W.setCell ⟨g, 0, none⟩ p0).setCell ⟨g, 1, none⟩ p1).setCell ⟨g, 2, none⟩ p2).setCell ⟨g, 3, none⟩ p3).setCell ⟨g, 4, none⟩ p4).setCell ⟨g, 5, none⟩ p5).heap[k]? = W.heap[k]? := by
  rw [Below.heap_setCell _ _ _ k hk, Below.heap_setCell _ _ _ k hk, Below.heap_setCell _ _ _ k hk, Below.heap_setCell _ _ _ k hk, Below.heap_setCell _ _ _ k hk, Below.heap_setCell _ _ _ k hk]
theorem six_below {B : Nat} {V W : World} {g : Nat} {p0 p1 p2 p3 p4 p5 : Value} (h : Below B V W) (hg : B ≤ g) : Below B V ((((((W.setCell ⟨g, 0, none⟩ p0).setCell ⟨g, 1, none⟩ p1).setCell ⟨g, 2, none⟩ p2).setCell ⟨g, 3, none⟩ p3).setCell ⟨g, 4, none⟩ p4).setCell ⟨g, 5, none⟩ p5) :=
  (((((h.setCell hg _).setCell hg _).setCell hg _).setCell hg _).setCell hg _).setCell hg _
theorem six_size {W : World} {g : Nat} {p0 p1 p2 p3 p4 p5 : Value} : ((((((W.setCell ⟨g, 0, none⟩ p0).setCell ⟨g, 1, none⟩ p1).setCell ⟨g, 2, none⟩ p2).setCell ⟨g, 3, none⟩ p3).setCell ⟨g, 4, none⟩ p4).setCell ⟨g, 5, none⟩ p5).heap.size = W.heap.size := by simp [World.setCell]
structure pb.A (w : World) (sk : Array Value) (p0 p1 : Int) (W : World) : Prop where
  k4 : W.heap[w.heap.size]? = some (.cells sk 30 (0, 0))
  k5 : W.heap[w.heap.size + 1]? = some (.cells #[.int .i64 p0, .int .i64 p1] 32 (0, 0))
  k8 : W.heap[w.heap.size + 1 + 1]? = some (.cells #[.slice none 0 0, .slice none 0 0, .int .i64 0, .int .i64 0, .int .i64 0, .slice none 0 0] 30 (0, 0))
  ks : w.heap.size + 3 ≤ W.heap.size
  kb : Below w.heap.size w W
theorem pb.A.below {w : World} {sk : Array Value} {p0 p1 : Int} {W W' : World} (h : pb.A w sk p0 p1 W) (hb : Below W.heap.size W W') : pb.A w sk p0 p1 W' :=
  ⟨(hb.block _ (Array.getElem?_eq_some_iff.1 h.k4).1).trans h.k4, (hb.block _ (Array.getElem?_eq_some_iff.1 h.k5).1).trans h.k5, (hb.block _ (Array.getElem?_eq_some_iff.1 h.k8).1).trans h.k8, Nat.le_trans h.ks hb.size, h.kb.trans (hb.mono h.kb.size)⟩
theorem pb.A.mk3 {w w1 : World} {sk : Array Value} {p0 p1 : Int} (hb : Below (((w.alloc (.cells sk 30)).alloc (.cells #[.int .i64 p0, .int .i64 p1] 32)).alloc (.cells #[.slice none 0 0, .slice none 0 0, .int .i64 0, .int .i64 0, .int .i64 0, .slice none 0 0] 30)).heap.size (((w.alloc (.cells sk 30)).alloc (.cells #[.int .i64 p0, .int .i64 p1] 32)).alloc (.cells #[.slice none 0 0, .slice none 0 0, .int .i64 0, .int .i64 0, .int .i64 0, .slice none 0 0] 30)) w1) : pb.A w sk p0 p1 w1 := by
  obtain ⟨h1, h2, h3, h4, h5⟩ := three_boxes w _ _ _ w1 hb
  exact ⟨h1, h2, h3, h4, h5⟩
theorem pb.A.zero {w : World} {sk : Array Value} {p0 p1 : Int} {W : World} (h : pb.A w sk p0 p1 W) :
    ((((((W.setCell ⟨w.heap.size + 1 + 1, 0, none⟩ (.slice none 0 0)).setCell ⟨w.heap.size + 1 + 1, 1, none⟩ (.slice none 0 0)).setCell ⟨w.heap.size + 1 + 1, 2, none⟩ (.int .i64 0)).setCell ⟨w.heap.size + 1 + 1, 3, none⟩ (.int .i64 0)).setCell ⟨w.heap.size + 1 + 1, 4, none⟩ (.int .i64 0)).setCell ⟨w.heap.size + 1 + 1, 5, none⟩ (.slice none 0 0)).heap[w.heap.size + 1 + 1]? = some (.cells #[.slice none 0 0, .slice none 0 0, .int .i64 0, .int .i64 0, .int .i64 0, .slice none 0 0] 30 (0, 0)) ∧ Below w.heap.size w ((((((W.setCell ⟨w.heap.size + 1 + 1, 0, none⟩ (.slice none 0 0)).setCell ⟨w.heap.size + 1 + 1, 1, none⟩ (.slice none 0 0)).setCell ⟨w.heap.size + 1 + 1, 2, none⟩ (.int .i64 0)).setCell ⟨w.heap.size + 1 + 1, 3, none⟩ (.int .i64 0)).setCell ⟨w.heap.size + 1 + 1, 4, none⟩ (.int .i64 0)).setCell ⟨w.heap.size + 1 + 1, 5, none⟩ (.slice none 0 0)) :=
  ⟨six_set h.k8, six_below h.kb (by omega)⟩
def wear_Probe.put (l : List S67) (p0 p1 lo hi : Int) (i : Nat) (there : Bool) : List S67 :=
  if there then l.set i ⟨(l.getD i z67).f0, ⟨mx (l.getD i z67).f1.f0 lo, mn (l.getD i z67).f1.f1 hi⟩⟩ else l.take i ++ ([(⟨⟨p0, p1⟩, ⟨lo, hi⟩⟩ : S67)] ++ l.drop i)
def wear_Probe.marks (l : List S67) (p0 p1 rd wr : Int) : List S67 :=
  wear_Probe.put l p0 p1 (mx (wrap64 (rd - wr)) 0) (mn (wrap64 (rd + wr)) 2000) (bs.at l p0 p1 0 l.length) (bs.there l p0 p1 (bs.at l p0 p1 0 l.length))
def wear_Probe.f (k : Nat) (l0_0 : List S32) (l0_1 : List S55) (a0_2 a0_3 a0_4 : Int) (l0_5 : List S67) (a1_0 a1_1 a2 a3 : Int) : Option ((List S32) × (List S55) × Int × Int × Int × (List S67) × Int) :=
  (wear_Check.f k l0_0 l0_1 a0_2 a0_3 a0_4 l0_5).bind fun e => if e = 0 then
    (if wear_has.b l0_0 l0_1 a1_0 a1_1 = true then
      (if 0 ≤ a2 ∧ a2 ≤ 2000 then (if 0 ≤ a3 ∧ a3 ≤ 2000 then
        (if l0_0.length < 1000 ∧ l0_1.length < 1000 ∧ l0_5.length < 900 then
          (if 40 < (wear_Probe.marks l0_5 a1_0 a1_1 a2 a3).length then some ([], [], 0, 0, 0, [], 3) else
            (wear_Check.f k l0_0 l0_1 a0_2 a0_3 a0_4 (wear_Probe.marks l0_5 a1_0 a1_1 a2 a3)).bind fun e2 => if e2 = 0 then some (l0_0, l0_1, a0_2, a0_3, a0_4, wear_Probe.marks l0_5 a1_0 a1_1 a2 a3, 0) else some ([], [], 0, 0, 0, [], 10))
        else none)
      else some ([], [], 0, 0, 0, [], 1)) else some ([], [], 0, 0, 0, [], 1))
    else some ([], [], 0, 0, 0, [], 7))
  else some ([], [], 0, 0, 0, [], e)
set_option maxHeartbeats 4000000 in
set_option maxRecDepth 100000 in
theorem wear_Probe.x_bad (k : Nat) (A0_0 : Option Addr) (c0_0 : Nat) (l0_0 : List S32) (A0_1 : Option Addr) (c0_1 : Nat) (l0_1 : List S55) (a0_2 : Int) (a0_3 : Int) (a0_4 : Int) (A0_5 : Option Addr) (c0_5 : Nat) (l0_5 : List S67) (a1_0 : Int) (a1_1 : Int) (a2 : Int) (a3 : Int) (w : World) (hr0_0 : Kd.C k32 w A0_0 l0_0.length l0_0) (hc0_0 : l0_0.length ≤ c0_0) (hr0_1 : Kd.C k55 w A0_1 l0_1.length l0_1) (hc0_1 : l0_1.length ≤ c0_1) (hr0_5 : Kd.C k67 w A0_5 l0_5.length l0_5) (hc0_5 : l0_5.length ≤ c0_5) (cc : Int) (hck : wear_Check.f k l0_0 l0_1 a0_2 a0_3 a0_4 l0_5 = some cc) (he : ¬ cc = 0) :
    Calls Try.prog 9 #[.agg #[.slice A0_0 l0_0.length c0_0, .slice A0_1 l0_1.length c0_1, .int .i64 a0_2, .int .i64 a0_3, .int .i64 a0_4, .slice A0_5 l0_5.length c0_5], .agg #[.int .i64 a1_0, .int .i64 a1_1], .int .i64 a2, .int .i64 a3] w fun e w' => ∃ v0_ v1_ v5_ : Value, e = .returned (.tuple #[.agg #[v0_, v1_, .int .i64 0, .int .i64 0, .int .i64 0, v5_], .int .i64 cc]) ∧ Kd.R k32 32 w' w.heap.size (fun _ => True) v0_ [] ∧ Kd.R k55 55 w' w.heap.size (fun _ => True) v1_ [] ∧ Kd.R k67 67 w' w.heap.size (fun _ => True) v5_ [] ∧ Below w.heap.size w w' := by
  have hu30 := Try.underlying30
  have hu25 := Try.underlying25
  have hu27 := Try.underlying27
  have hu28 := Try.underlying28
  have hu32 := Try.underlying32
  have hu67 := Try.underlying67
  have hb0 : Below w.heap.size w (((w.alloc (.cells #[.slice A0_0 l0_0.length c0_0, .slice A0_1 l0_1.length c0_1, .int .i64 a0_2, .int .i64 a0_3, .int .i64 a0_4, .slice A0_5 l0_5.length c0_5] 30)).alloc (.cells #[.int .i64 a1_0, .int .i64 a1_1] 32)).alloc (.cells #[.slice none 0 0, .slice none 0 0, .int .i64 0, .int .i64 0, .int .i64 0, .slice none 0 0] 30)) := (((Below.refl _ w).alloc (Nat.le_refl _) _).alloc (by simp) _).alloc (by simp; omega) _
  have HB0 := Aside0.mk hb0
  have HR0 := Aside0.mk hr0_0
  have HC0 := Aside0.mk hc0_0
  have HR1 := Aside0.mk hr0_1
  have HC1 := Aside0.mk hc0_1
  have HR5 := Aside0.mk hr0_5
  have HC5 := Aside0.mk hc0_5
  clear hr0_0 hc0_0 hr0_1 hc0_1 hr0_5 hc0_5 hb0
  have HCK := Aside0.mk hck
  have he1 : (cc == 0) = false := beq_eq_false_iff_ne.2 he
  have he2 : (cc != 0) = true := bne_iff_ne.2 he
  clear hck he
  go_enter Try.func9, Try.ntmps9
  go_wp2_with (go_at_call 15; refine (wear_Check.calls k _ _ l0_0 _ _ l0_1 a0_2 a0_3 a0_4 _ _ l0_5 _ _ (Kd.C_below HR0.out HB0.out) HC0.out (Kd.C_below HR1.out HB0.out) HC1.out (Kd.C_below HR5.out HB0.out) HC5.out HCK.out).mono ?_; rintro e w1 ⟨rfl, hb⟩; have ha := pb.A.mk3 hb; obtain ⟨q0, q1, q2, q3, q4, q5⟩ := zc6 ⟨ha.k4⟩; obtain ⟨p0, p1⟩ := zc2 ⟨ha.k5⟩; obtain ⟨z0, z1, z2, z3, z4, z5⟩ := zc6 ⟨ha.k8⟩; obtain ⟨y0, y1, y2, y3, y4, y5⟩ := zg6 ⟨ha.k8⟩; have HA := Aside0.mk ha; clear hb ha)
  have hz := HA.out.zero
  obtain ⟨hz1, hz2⟩ := hz
  have r0 := (blk_cell hz1 0).trans rfl
  have r1 := (blk_cell hz1 1).trans rfl
  have r2 := (blk_cell hz1 2).trans rfl
  have r3 := (blk_cell hz1 3).trans rfl
  have r4 := (blk_cell hz1 4).trans rfl
  have r5 := (blk_cell hz1 5).trans rfl
  refine bodyPost_ret (v := .tuple #[.agg #[.slice none 0 0, .slice none 0 0, .int .i64 0, .int .i64 0, .int .i64 0, .slice none 0 0], .int .i64 cc]) (by simp [results, Try.results9, go_sem, r0, r1, r2, r3, r4, r5]) rfl ⟨_, _, _, rfl, Kd.R_nil _ _ _ _ _, Kd.R_nil _ _ _ _ _, Kd.R_nil _ _ _ _ _, hz2⟩
set_option maxHeartbeats 4000000 in
set_option maxRecDepth 100000 in
theorem wear_Probe.x_none (k : Nat) (A0_0 : Option Addr) (c0_0 : Nat) (l0_0 : List S32) (A0_1 : Option Addr) (c0_1 : Nat) (l0_1 : List S55) (a0_2 : Int) (a0_3 : Int) (a0_4 : Int) (A0_5 : Option Addr) (c0_5 : Nat) (l0_5 : List S67) (a1_0 : Int) (a1_1 : Int) (a2 : Int) (a3 : Int) (w : World) (hr0_0 : Kd.C k32 w A0_0 l0_0.length l0_0) (hc0_0 : l0_0.length ≤ c0_0) (hr0_1 : Kd.C k55 w A0_1 l0_1.length l0_1) (hc0_1 : l0_1.length ≤ c0_1) (hr0_5 : Kd.C k67 w A0_5 l0_5.length l0_5) (hc0_5 : l0_5.length ≤ c0_5) (hck : wear_Check.f k l0_0 l0_1 a0_2 a0_3 a0_4 l0_5 = some 0) (hhb : wear_has.f l0_0 l0_1 a1_0 a1_1 = some false) :
    Calls Try.prog 9 #[.agg #[.slice A0_0 l0_0.length c0_0, .slice A0_1 l0_1.length c0_1, .int .i64 a0_2, .int .i64 a0_3, .int .i64 a0_4, .slice A0_5 l0_5.length c0_5], .agg #[.int .i64 a1_0, .int .i64 a1_1], .int .i64 a2, .int .i64 a3] w fun e w' => ∃ v0_ v1_ v5_ : Value, e = .returned (.tuple #[.agg #[v0_, v1_, .int .i64 0, .int .i64 0, .int .i64 0, v5_], .int .i64 7]) ∧ Kd.R k32 32 w' w.heap.size (fun _ => True) v0_ [] ∧ Kd.R k55 55 w' w.heap.size (fun _ => True) v1_ [] ∧ Kd.R k67 67 w' w.heap.size (fun _ => True) v5_ [] ∧ Below w.heap.size w w' := by
  have hu30 := Try.underlying30
  have hu25 := Try.underlying25
  have hu27 := Try.underlying27
  have hu28 := Try.underlying28
  have hu32 := Try.underlying32
  have hu67 := Try.underlying67
  have hb0 : Below w.heap.size w (((w.alloc (.cells #[.slice A0_0 l0_0.length c0_0, .slice A0_1 l0_1.length c0_1, .int .i64 a0_2, .int .i64 a0_3, .int .i64 a0_4, .slice A0_5 l0_5.length c0_5] 30)).alloc (.cells #[.int .i64 a1_0, .int .i64 a1_1] 32)).alloc (.cells #[.slice none 0 0, .slice none 0 0, .int .i64 0, .int .i64 0, .int .i64 0, .slice none 0 0] 30)) := (((Below.refl _ w).alloc (Nat.le_refl _) _).alloc (by simp) _).alloc (by simp; omega) _
  have HB0 := Aside0.mk hb0
  have HR0 := Aside0.mk hr0_0
  have HC0 := Aside0.mk hc0_0
  have HR1 := Aside0.mk hr0_1
  have HC1 := Aside0.mk hc0_1
  have HR5 := Aside0.mk hr0_5
  have HC5 := Aside0.mk hc0_5
  clear hr0_0 hc0_0 hr0_1 hc0_1 hr0_5 hc0_5 hb0
  have HCK := Aside0.mk hck
  have HHB := Aside0.mk hhb
  clear hck hhb
  go_enter Try.func9, Try.ntmps9
  go_wp2_with (first | (go_at_call 15; refine (wear_Check.calls k _ _ l0_0 _ _ l0_1 a0_2 a0_3 a0_4 _ _ l0_5 _ _ (Kd.C_below HR0.out HB0.out) HC0.out (Kd.C_below HR1.out HB0.out) HC1.out (Kd.C_below HR5.out HB0.out) HC5.out HCK.out).mono ?_; rintro e w1 ⟨rfl, hb⟩; have ha := pb.A.mk3 hb; obtain ⟨q0, q1, q2, q3, q4, q5⟩ := zc6 ⟨ha.k4⟩; obtain ⟨p0, p1⟩ := zc2 ⟨ha.k5⟩; obtain ⟨z0, z1, z2, z3, z4, z5⟩ := zc6 ⟨ha.k8⟩; obtain ⟨y0, y1, y2, y3, y4, y5⟩ := zg6 ⟨ha.k8⟩; have HA := Aside0.mk ha; clear hb ha) | (go_at_call 21; refine (wear_has.calls _ _ l0_0 _ _ l0_1 a1_0 a1_1 false _ (Kd.C_below HR0.out HA.out.kb) HC0.out (Kd.C_below HR1.out HA.out.kb) HC1.out HHB.out).mono ?_; rintro e w2 ⟨rfl, hb⟩; have ha := HA.out.below hb; clear HA q0 q1 q2 q3 q4 q5 p0 p1 z0 z1 z2 z3 z4 z5 y0 y1 y2 y3 y4 y5; obtain ⟨q0, q1, q2, q3, q4, q5⟩ := zc6 ⟨ha.k4⟩; obtain ⟨p0, p1⟩ := zc2 ⟨ha.k5⟩; obtain ⟨z0, z1, z2, z3, z4, z5⟩ := zc6 ⟨ha.k8⟩; obtain ⟨y0, y1, y2, y3, y4, y5⟩ := zg6 ⟨ha.k8⟩; have HA := Aside0.mk ha; clear hb ha))
  have hz := HA.out.zero
  obtain ⟨hz1, hz2⟩ := hz
  have r0 := (blk_cell hz1 0).trans rfl
  have r1 := (blk_cell hz1 1).trans rfl
  have r2 := (blk_cell hz1 2).trans rfl
  have r3 := (blk_cell hz1 3).trans rfl
  have r4 := (blk_cell hz1 4).trans rfl
  have r5 := (blk_cell hz1 5).trans rfl
  refine bodyPost_ret (v := .tuple #[.agg #[.slice none 0 0, .slice none 0 0, .int .i64 0, .int .i64 0, .int .i64 0, .slice none 0 0], .int .i64 7]) (by simp [results, Try.results9, go_sem, r0, r1, r2, r3, r4, r5]) rfl ⟨_, _, _, rfl, Kd.R_nil _ _ _ _ _, Kd.R_nil _ _ _ _ _, Kd.R_nil _ _ _ _ _, hz2⟩
set_option maxHeartbeats 4000000 in
set_option maxRecDepth 100000 in
theorem wear_Probe.x_arg1 (k : Nat) (A0_0 : Option Addr) (c0_0 : Nat) (l0_0 : List S32) (A0_1 : Option Addr) (c0_1 : Nat) (l0_1 : List S55) (a0_2 : Int) (a0_3 : Int) (a0_4 : Int) (A0_5 : Option Addr) (c0_5 : Nat) (l0_5 : List S67) (a1_0 : Int) (a1_1 : Int) (a2 : Int) (a3 : Int) (w : World) (hr0_0 : Kd.C k32 w A0_0 l0_0.length l0_0) (hc0_0 : l0_0.length ≤ c0_0) (hr0_1 : Kd.C k55 w A0_1 l0_1.length l0_1) (hc0_1 : l0_1.length ≤ c0_1) (hr0_5 : Kd.C k67 w A0_5 l0_5.length l0_5) (hc0_5 : l0_5.length ≤ c0_5) (hck : wear_Check.f k l0_0 l0_1 a0_2 a0_3 a0_4 l0_5 = some 0) (hhb : wear_has.f l0_0 l0_1 a1_0 a1_1 = some true) (hin : wear_in.f a2 0 2000 = some false) :
    Calls Try.prog 9 #[.agg #[.slice A0_0 l0_0.length c0_0, .slice A0_1 l0_1.length c0_1, .int .i64 a0_2, .int .i64 a0_3, .int .i64 a0_4, .slice A0_5 l0_5.length c0_5], .agg #[.int .i64 a1_0, .int .i64 a1_1], .int .i64 a2, .int .i64 a3] w fun e w' => ∃ v0_ v1_ v5_ : Value, e = .returned (.tuple #[.agg #[v0_, v1_, .int .i64 0, .int .i64 0, .int .i64 0, v5_], .int .i64 1]) ∧ Kd.R k32 32 w' w.heap.size (fun _ => True) v0_ [] ∧ Kd.R k55 55 w' w.heap.size (fun _ => True) v1_ [] ∧ Kd.R k67 67 w' w.heap.size (fun _ => True) v5_ [] ∧ Below w.heap.size w w' := by
  have hu30 := Try.underlying30
  have hu25 := Try.underlying25
  have hu27 := Try.underlying27
  have hu28 := Try.underlying28
  have hu32 := Try.underlying32
  have hu67 := Try.underlying67
  have hb0 : Below w.heap.size w (((w.alloc (.cells #[.slice A0_0 l0_0.length c0_0, .slice A0_1 l0_1.length c0_1, .int .i64 a0_2, .int .i64 a0_3, .int .i64 a0_4, .slice A0_5 l0_5.length c0_5] 30)).alloc (.cells #[.int .i64 a1_0, .int .i64 a1_1] 32)).alloc (.cells #[.slice none 0 0, .slice none 0 0, .int .i64 0, .int .i64 0, .int .i64 0, .slice none 0 0] 30)) := (((Below.refl _ w).alloc (Nat.le_refl _) _).alloc (by simp) _).alloc (by simp; omega) _
  have HB0 := Aside0.mk hb0
  have HR0 := Aside0.mk hr0_0
  have HC0 := Aside0.mk hc0_0
  have HR1 := Aside0.mk hr0_1
  have HC1 := Aside0.mk hc0_1
  have HR5 := Aside0.mk hr0_5
  have HC5 := Aside0.mk hc0_5
  clear hr0_0 hc0_0 hr0_1 hc0_1 hr0_5 hc0_5 hb0
  have HCK := Aside0.mk hck
  have HHB := Aside0.mk hhb
  have Ha2 := Aside0.mk hin
  have Ha3 := Ha2
  clear hck hhb hin
  go_enter Try.func9, Try.ntmps9
  go_wp2_with (first | (go_at_call 15; refine (wear_Check.calls k _ _ l0_0 _ _ l0_1 a0_2 a0_3 a0_4 _ _ l0_5 _ _ (Kd.C_below HR0.out HB0.out) HC0.out (Kd.C_below HR1.out HB0.out) HC1.out (Kd.C_below HR5.out HB0.out) HC5.out HCK.out).mono ?_; rintro e w1 ⟨rfl, hb⟩; have ha := pb.A.mk3 hb; obtain ⟨q0, q1, q2, q3, q4, q5⟩ := zc6 ⟨ha.k4⟩; obtain ⟨p0, p1⟩ := zc2 ⟨ha.k5⟩; obtain ⟨z0, z1, z2, z3, z4, z5⟩ := zc6 ⟨ha.k8⟩; obtain ⟨y0, y1, y2, y3, y4, y5⟩ := zg6 ⟨ha.k8⟩; have HA := Aside0.mk ha; clear hb ha) | (go_at_call 21; refine (wear_has.calls _ _ l0_0 _ _ l0_1 a1_0 a1_1 true _ (Kd.C_below HR0.out HA.out.kb) HC0.out (Kd.C_below HR1.out HA.out.kb) HC1.out HHB.out).mono ?_; rintro e w2 ⟨rfl, hb⟩; have ha := HA.out.below hb; clear HA q0 q1 q2 q3 q4 q5 p0 p1 z0 z1 z2 z3 z4 z5 y0 y1 y2 y3 y4 y5; obtain ⟨q0, q1, q2, q3, q4, q5⟩ := zc6 ⟨ha.k4⟩; obtain ⟨p0, p1⟩ := zc2 ⟨ha.k5⟩; obtain ⟨z0, z1, z2, z3, z4, z5⟩ := zc6 ⟨ha.k8⟩; obtain ⟨y0, y1, y2, y3, y4, y5⟩ := zg6 ⟨ha.k8⟩; have HA := Aside0.mk ha; clear hb ha) | (go_at_call 22; refine (in_calls _ 0 2000 _ _ (by first | exact Ha2.out | exact Ha3.out)).mono ?_; rintro e w3 ⟨rfl, hb⟩; have ha := HA.out.below hb; clear HA q0 q1 q2 q3 q4 q5 p0 p1 z0 z1 z2 z3 z4 z5 y0 y1 y2 y3 y4 y5; obtain ⟨q0, q1, q2, q3, q4, q5⟩ := zc6 ⟨ha.k4⟩; obtain ⟨p0, p1⟩ := zc2 ⟨ha.k5⟩; obtain ⟨z0, z1, z2, z3, z4, z5⟩ := zc6 ⟨ha.k8⟩; obtain ⟨y0, y1, y2, y3, y4, y5⟩ := zg6 ⟨ha.k8⟩; have HA := Aside0.mk ha; clear hb ha))
  have hz := HA.out.zero
  obtain ⟨hz1, hz2⟩ := hz
  have r0 := (blk_cell hz1 0).trans rfl
  have r1 := (blk_cell hz1 1).trans rfl
  have r2 := (blk_cell hz1 2).trans rfl
  have r3 := (blk_cell hz1 3).trans rfl
  have r4 := (blk_cell hz1 4).trans rfl
  have r5 := (blk_cell hz1 5).trans rfl
  refine bodyPost_ret (v := .tuple #[.agg #[.slice none 0 0, .slice none 0 0, .int .i64 0, .int .i64 0, .int .i64 0, .slice none 0 0], .int .i64 1]) (by simp [results, Try.results9, go_sem, r0, r1, r2, r3, r4, r5]) rfl ⟨_, _, _, rfl, Kd.R_nil _ _ _ _ _, Kd.R_nil _ _ _ _ _, Kd.R_nil _ _ _ _ _, hz2⟩
set_option maxHeartbeats 4000000 in
set_option maxRecDepth 100000 in
theorem wear_Probe.x_arg2 (k : Nat) (A0_0 : Option Addr) (c0_0 : Nat) (l0_0 : List S32) (A0_1 : Option Addr) (c0_1 : Nat) (l0_1 : List S55) (a0_2 : Int) (a0_3 : Int) (a0_4 : Int) (A0_5 : Option Addr) (c0_5 : Nat) (l0_5 : List S67) (a1_0 : Int) (a1_1 : Int) (a2 : Int) (a3 : Int) (w : World) (hr0_0 : Kd.C k32 w A0_0 l0_0.length l0_0) (hc0_0 : l0_0.length ≤ c0_0) (hr0_1 : Kd.C k55 w A0_1 l0_1.length l0_1) (hc0_1 : l0_1.length ≤ c0_1) (hr0_5 : Kd.C k67 w A0_5 l0_5.length l0_5) (hc0_5 : l0_5.length ≤ c0_5) (hck : wear_Check.f k l0_0 l0_1 a0_2 a0_3 a0_4 l0_5 = some 0) (hhb : wear_has.f l0_0 l0_1 a1_0 a1_1 = some true) (hin : wear_in.f a2 0 2000 = some true) (hin2 : wear_in.f a3 0 2000 = some false) :
    Calls Try.prog 9 #[.agg #[.slice A0_0 l0_0.length c0_0, .slice A0_1 l0_1.length c0_1, .int .i64 a0_2, .int .i64 a0_3, .int .i64 a0_4, .slice A0_5 l0_5.length c0_5], .agg #[.int .i64 a1_0, .int .i64 a1_1], .int .i64 a2, .int .i64 a3] w fun e w' => ∃ v0_ v1_ v5_ : Value, e = .returned (.tuple #[.agg #[v0_, v1_, .int .i64 0, .int .i64 0, .int .i64 0, v5_], .int .i64 1]) ∧ Kd.R k32 32 w' w.heap.size (fun _ => True) v0_ [] ∧ Kd.R k55 55 w' w.heap.size (fun _ => True) v1_ [] ∧ Kd.R k67 67 w' w.heap.size (fun _ => True) v5_ [] ∧ Below w.heap.size w w' := by
  have hu30 := Try.underlying30
  have hu25 := Try.underlying25
  have hu27 := Try.underlying27
  have hu28 := Try.underlying28
  have hu32 := Try.underlying32
  have hu67 := Try.underlying67
  have hb0 : Below w.heap.size w (((w.alloc (.cells #[.slice A0_0 l0_0.length c0_0, .slice A0_1 l0_1.length c0_1, .int .i64 a0_2, .int .i64 a0_3, .int .i64 a0_4, .slice A0_5 l0_5.length c0_5] 30)).alloc (.cells #[.int .i64 a1_0, .int .i64 a1_1] 32)).alloc (.cells #[.slice none 0 0, .slice none 0 0, .int .i64 0, .int .i64 0, .int .i64 0, .slice none 0 0] 30)) := (((Below.refl _ w).alloc (Nat.le_refl _) _).alloc (by simp) _).alloc (by simp; omega) _
  have HB0 := Aside0.mk hb0
  have HR0 := Aside0.mk hr0_0
  have HC0 := Aside0.mk hc0_0
  have HR1 := Aside0.mk hr0_1
  have HC1 := Aside0.mk hc0_1
  have HR5 := Aside0.mk hr0_5
  have HC5 := Aside0.mk hc0_5
  clear hr0_0 hc0_0 hr0_1 hc0_1 hr0_5 hc0_5 hb0
  have HCK := Aside0.mk hck
  have HHB := Aside0.mk hhb
  have Ha2 := Aside0.mk hin
  have Ha3 := Aside0.mk hin2
  clear hck hhb hin hin2
  go_enter Try.func9, Try.ntmps9
  go_wp2_with (first | (go_at_call 15; refine (wear_Check.calls k _ _ l0_0 _ _ l0_1 a0_2 a0_3 a0_4 _ _ l0_5 _ _ (Kd.C_below HR0.out HB0.out) HC0.out (Kd.C_below HR1.out HB0.out) HC1.out (Kd.C_below HR5.out HB0.out) HC5.out HCK.out).mono ?_; rintro e w1 ⟨rfl, hb⟩; have ha := pb.A.mk3 hb; obtain ⟨q0, q1, q2, q3, q4, q5⟩ := zc6 ⟨ha.k4⟩; obtain ⟨p0, p1⟩ := zc2 ⟨ha.k5⟩; obtain ⟨z0, z1, z2, z3, z4, z5⟩ := zc6 ⟨ha.k8⟩; obtain ⟨y0, y1, y2, y3, y4, y5⟩ := zg6 ⟨ha.k8⟩; have HA := Aside0.mk ha; clear hb ha) | (go_at_call 21; refine (wear_has.calls _ _ l0_0 _ _ l0_1 a1_0 a1_1 true _ (Kd.C_below HR0.out HA.out.kb) HC0.out (Kd.C_below HR1.out HA.out.kb) HC1.out HHB.out).mono ?_; rintro e w2 ⟨rfl, hb⟩; have ha := HA.out.below hb; clear HA q0 q1 q2 q3 q4 q5 p0 p1 z0 z1 z2 z3 z4 z5 y0 y1 y2 y3 y4 y5; obtain ⟨q0, q1, q2, q3, q4, q5⟩ := zc6 ⟨ha.k4⟩; obtain ⟨p0, p1⟩ := zc2 ⟨ha.k5⟩; obtain ⟨z0, z1, z2, z3, z4, z5⟩ := zc6 ⟨ha.k8⟩; obtain ⟨y0, y1, y2, y3, y4, y5⟩ := zg6 ⟨ha.k8⟩; have HA := Aside0.mk ha; clear hb ha) | (go_at_call 22; refine (in_calls _ 0 2000 _ _ (by first | exact Ha2.out | exact Ha3.out)).mono ?_; rintro e w3 ⟨rfl, hb⟩; have ha := HA.out.below hb; clear HA q0 q1 q2 q3 q4 q5 p0 p1 z0 z1 z2 z3 z4 z5 y0 y1 y2 y3 y4 y5; obtain ⟨q0, q1, q2, q3, q4, q5⟩ := zc6 ⟨ha.k4⟩; obtain ⟨p0, p1⟩ := zc2 ⟨ha.k5⟩; obtain ⟨z0, z1, z2, z3, z4, z5⟩ := zc6 ⟨ha.k8⟩; obtain ⟨y0, y1, y2, y3, y4, y5⟩ := zg6 ⟨ha.k8⟩; have HA := Aside0.mk ha; clear hb ha))
  have hz := HA.out.zero
  obtain ⟨hz1, hz2⟩ := hz
  have r0 := (blk_cell hz1 0).trans rfl
  have r1 := (blk_cell hz1 1).trans rfl
  have r2 := (blk_cell hz1 2).trans rfl
  have r3 := (blk_cell hz1 3).trans rfl
  have r4 := (blk_cell hz1 4).trans rfl
  have r5 := (blk_cell hz1 5).trans rfl
  refine bodyPost_ret (v := .tuple #[.agg #[.slice none 0 0, .slice none 0 0, .int .i64 0, .int .i64 0, .int .i64 0, .slice none 0 0], .int .i64 1]) (by simp [results, Try.results9, go_sem, r0, r1, r2, r3, r4, r5]) rfl ⟨_, _, _, rfl, Kd.R_nil _ _ _ _ _, Kd.R_nil _ _ _ _ _, Kd.R_nil _ _ _ _ _, hz2⟩
theorem max2_mx (k k' : IntKind) (x y : Int) : Builtin.max2 (.int k x) (.int k' y) = pure (.int k (mx x y)) := max2_int k k' x y
theorem min2_mn (k k' : IntKind) (x y : Int) : Builtin.min2 (.int k x) (.int k' y) = pure (.int k (mn x y)) := min2_int k k' x y
section
attribute [-go_sem] max2_int min2_int
attribute [local go_sem] max2_mx min2_mn
theorem pb.bound {α : Type} {d : Kd α} {t : Nat} {w : World} {base : Nat} {ok : Nat → Prop} {v : Value} {xs : List α} (hE : d.E = []) (h : d.R t w base ok v xs) : d.R t w base (fun k => base ≤ k ∧ k < w.heap.size ∧ ∃ cs, w.heap[k]? = some (.cells cs t (0, 0))) v xs :=
  Kd.R_mono (Kd.R_bound h) (fun k hk => ⟨hk.2.1, hk.2.2.1, by
    obtain ⟨q, hq, cs, hc⟩ := hk.2.2.2
    rw [hE] at hq
    obtain rfl := List.mem_singleton.1 hq
    exact ⟨cs, hc⟩⟩)
structure pb.B (w : World) (sk : Array Value) (p0 p1 lo hi : Int) (b11 : Nat) (w5 : World) (row : Option Nat) (W : World) : Prop where
  a : pb.A w sk p0 p1 W
  k11 : W.heap[b11]? = some (.cells #[.int .i64 lo, .int .i64 hi] 27 (0, 0))
  kk : ∀ k, b11 < k → k < w5.heap.size → some k ≠ row → W.heap[k]? = w5.heap[k]?
  k5s : w5.heap.size ≤ W.heap.size
theorem pb.B.below {w : World} {sk : Array Value} {p0 p1 lo hi : Int} {b11 : Nat} {w5 : World} {row : Option Nat} {W W' : World} (h : pb.B w sk p0 p1 lo hi b11 w5 row W) (hb : Below W.heap.size W W') : pb.B w sk p0 p1 lo hi b11 w5 row W' :=
  ⟨h.a.below hb, (hb.block _ (Array.getElem?_eq_some_iff.1 h.k11).1).trans h.k11, fun k h1 h2 h3 => (hb.block _ (Nat.lt_of_lt_of_le h2 h.k5s)).trans (h.kk k h1 h2 h3), Nat.le_trans h.k5s hb.size⟩
theorem pb.first {w : World} {c0 c1 c2 c3 c4 c5 : Value} {s0 s1 lo hi : Int} {b11 : Nat} {w5 : World} {p0 p1 p2 p3 p4 p5 : Value} (ha : pb.A w #[c0, c1, c2, c3, c4, c5] s0 s1 w5) (h11 : w5.heap[b11]? = some (.cells #[.int .i64 lo, .int .i64 hi] 27 (0, 0))) (hlt : w.heap.size + 3 ≤ b11) :
    pb.B w #[p0, p1, p2, p3, p4, p5] s0 s1 lo hi b11 w5 none ((((((w5.setCell ⟨w.heap.size, 0, none⟩ p0).setCell ⟨w.heap.size, 1, none⟩ p1).setCell ⟨w.heap.size, 2, none⟩ p2).setCell ⟨w.heap.size, 3, none⟩ p3).setCell ⟨w.heap.size, 4, none⟩ p4).setCell ⟨w.heap.size, 5, none⟩ p5) :=
  ⟨⟨six_set ha.k4, (six_other (by omega)).trans ha.k5, (six_other (by omega)).trans ha.k8, by rw [six_size]; exact ha.ks, six_below ha.kb (Nat.le_refl _)⟩, (six_other (by omega)).trans h11, fun k h1 h2 _ => six_other (by omega), by rw [six_size]; exact Nat.le_refl _⟩
theorem pb.B.keeps {α : Type} {d : Kd α} {t : Nat} {xs : List α} {v v5 : Value} {w : World} {sk : Array Value} {p0 p1 lo hi : Int} {b11 base : Nat} {w5 : World} {W : World} (h : pb.B w sk p0 p1 lo hi b11 w5 v5.ownBlock W)
    (hR : d.R t w5 base (fun k => base ≤ k ∧ k < w5.heap.size ∧ ∃ cs, w5.heap[k]? = some (.cells cs t (0, 0))) v xs) (hne : ∀ k, v5.ownBlock = some k → ∃ cs, w5.heap[k]? = some (.cells cs 67 (0, 0))) (ht : t ≠ 67) (hb : b11 < base) (hw : w.heap.size ≤ base) : d.R t W w.heap.size (fun _ => True) v xs :=
  Kd.R_mono (Kd.R_lower (Kd.R_step hR (fun k ho hk => h.kk k (by omega) ho.2.1 (fun he => by
    obtain ⟨cs, hc⟩ := hne k he.symm
    obtain ⟨cs', hc'⟩ := ho.2.2
    rw [hc] at hc'
    simp at hc'
    exact ht hc'.2.symm))) hw) (fun _ _ => trivial)
theorem reps_set2 {xs : List S67} {L : List Value} (h : Reps Em 4 xs L) (K : Nat) (hK : K < xs.length) (a b : Int) :
    Reps Em 4 (xs.set K ⟨(xs.getD K z67).f0, ⟨a, b⟩⟩) ((L.set (K * 4 + 2) (.int .i64 a)).set (K * 4 + 3) (.int .i64 b)) := by
  have hl := h.1
  refine ⟨by simp [hl], fun j p hj => ?_⟩
  have hjl : j < xs.length := by
    have := (List.getElem?_eq_some_iff.1 hj).1
    simpa using this
  have key : ∀ (M : List Value) (t : Nat), ((M.drop (j * 4)).take 4)[t]? = if t < 4 then M[j * 4 + t]? else none := fun M t => by
    rw [List.getElem?_take, List.getElem?_drop]
  have h2 := h.2 j xs[j] (List.getElem?_eq_getElem hjl)
  have h2' : (L.drop (j * 4)).take 4 = encM xs[j] := h2
  show ((((L.set (K * 4 + 2) (.int .i64 a)).set (K * 4 + 3) (.int .i64 b)).drop (j * 4)).take 4) = encM p
  apply List.ext_getElem?
  intro t
  rw [key]
  have h3 : (if t < 4 then L[j * 4 + t]? else none) = (encM xs[j])[t]? := by rw [← key, h2']
  by_cases ht : t < 4
  · rw [if_pos ht] at h3 ⊢
    rw [List.getElem?_set, List.getElem?_set]
    by_cases hjk : j = K
    · subst hjk
      have hp : p = ⟨(xs.getD j z67).f0, ⟨a, b⟩⟩ := by
        rw [List.getElem?_set_self hjl] at hj
        exact (Option.some.inj hj).symm
      have hg : xs.getD j z67 = xs[j] := by simp [List.getD_eq_getElem?_getD, List.getElem?_eq_getElem hjl]
      rw [hp, hg]
      match t, ht with
      | 0, _ => rw [if_neg (by omega), if_neg (by omega), h3]; rfl
      | 1, _ => rw [if_neg (by omega), if_neg (by omega), h3]; rfl
      | 2, _ => rw [if_neg (by omega), if_pos (by omega), if_pos (by omega)]; rfl
      | 3, _ => rw [if_pos (by omega), if_pos (by simp; omega)]; rfl
    have hp : p = xs[j] := by
      rw [List.getElem?_set_ne (Ne.symm hjk), List.getElem?_eq_getElem hjl] at hj
      exact (Option.some.inj hj).symm
    rw [hp, if_neg (by omega), if_neg (by omega), h3]
  rw [if_neg ht]
  exact (List.getElem?_eq_none (by simp [encM]; omega)).symm
theorem pb.B.mark {w : World} {sk : Array Value} {p0 p1 lo hi : Int} {b11 : Nat} {w5 W : World} {g i j : Nat} {u v : Value} {cur : Array Value} {row : Option Nat} (h : pb.B w sk p0 p1 lo hi b11 w5 none W) (hg : W.heap[g]? = some (.cells cur 67 (0, 0))) (h1 : w.heap.size + 3 ≤ b11) (h2 : b11 < g) (hrow : row = some g) :
    pb.B w sk p0 p1 lo hi b11 w5 row ((W.setCell ⟨g, i, none⟩ u).setCell ⟨g, j, none⟩ v).drew ∧ ((W.setCell ⟨g, i, none⟩ u).setCell ⟨g, j, none⟩ v).drew.heap[g]? = some (.cells ((cur.setIfInBounds i u).setIfInBounds j v) 67 (0, 0)) := by
  subst hrow
  have ho : ∀ k, k ≠ g → ((W.setCell ⟨g, i, none⟩ u).setCell ⟨g, j, none⟩ v).drew.heap[k]? = W.heap[k]? := fun k hk =>
    (Below.heap_setCell _ _ _ k hk).trans (Below.heap_setCell _ _ _ k hk)
  have hs : ((W.setCell ⟨g, i, none⟩ u).setCell ⟨g, j, none⟩ v).drew.heap.size = W.heap.size := by simp [World.drew, World.setCell]
  refine ⟨⟨⟨(ho _ (by omega)).trans h.a.k4, (ho _ (by omega)).trans h.a.k5, (ho _ (by omega)).trans h.a.k8, by rw [hs]; exact h.a.ks, ((h.a.kb.setCell (by simp; omega) _).setCell (by simp; omega) _).drew⟩, (ho _ (by omega)).trans h.k11, fun k a1 a2 a3 => (ho k (fun he => a3 (by rw [he]))).trans (h.kk k a1 a2 (by simp)), by rw [hs]; exact h.k5s⟩, ?_⟩
  exact blk_put (blk_put hg i u rfl) j v rfl
theorem pb.last {α : Type} {d : Kd α} {t : Nat} {xs : List α} {v : Value} {w : World} {sk : Array Value} {s0 s1 : Int} {W : World} {p0 p1 p2 p3 p4 p5 : Value} (h : pb.A w sk s0 s1 W) (hR : d.R t W w.heap.size (fun _ => True) v xs) (hE : d.E = []) (ht : t ≠ 30) :
    d.R t ((((((W.setCell ⟨w.heap.size + 1 + 1, 0, none⟩ p0).setCell ⟨w.heap.size + 1 + 1, 1, none⟩ p1).setCell ⟨w.heap.size + 1 + 1, 2, none⟩ p2).setCell ⟨w.heap.size + 1 + 1, 3, none⟩ p3).setCell ⟨w.heap.size + 1 + 1, 4, none⟩ p4).setCell ⟨w.heap.size + 1 + 1, 5, none⟩ p5) w.heap.size (fun _ => True) v xs :=
  Kd.R_mono (Kd.R_step (pb.bound hE hR) (fun k ho hk => six_other (by
    rintro rfl
    obtain ⟨cs, hc⟩ := ho.2.2
    rw [h.k8] at hc
    simp at hc
    exact ht hc.2.symm))) (fun _ _ => trivial)
theorem bs.go_le (l : List S67) (p0 p1 : Int) : ∀ (k i j : Nat), i ≤ j → bs.go l p0 p1 k i j ≤ j
  | 0, i, j, h => h
  | k + 1, i, j, h => by
    simp only [bs.go]
    split
    · split
      · exact bs.go_le l p0 p1 k _ _ (by omega)
      exact Nat.le_trans (bs.go_le l p0 p1 k _ _ (by omega)) (by omega)
    exact h
theorem pb.B.grown {w : World} {sk : Array Value} {p0 p1 lo hi : Int} {b11 : Nat} {w5 W W' : World} {row : Option Nat} (h : pb.B w sk p0 p1 lo hi b11 w5 none W) (hg : W.grownBy W' row) (hrow : ∀ k, row = some k → b11 < k) (hlt : w.heap.size + 3 ≤ b11) (hkb : Below w.heap.size w W') : pb.B w sk p0 p1 lo hi b11 w5 row W' := by
  have ho : ∀ k, k ≤ b11 → some k ≠ row := fun k hk he => by have := hrow k he.symm; omega
  have hb : b11 < W.heap.size := (Array.getElem?_eq_some_iff.1 h.k11).1
  exact ⟨⟨(hg.block _ (by omega) (ho _ (by omega))).trans h.a.k4, (hg.block _ (by omega) (ho _ (by omega))).trans h.a.k5, (hg.block _ (by omega) (ho _ (by omega))).trans h.a.k8, Nat.le_trans h.a.ks hg.size, hkb⟩, (hg.block _ hb (ho _ (Nat.le_refl _))).trans h.k11,
    fun k h1 h2 h3 => (hg.block _ (Nat.lt_of_lt_of_le h2 h.k5s) h3).trans (h.kk k h1 h2 (by simp)), Nat.le_trans h.k5s hg.size⟩
theorem pb.B.set5 {w : World} {c0 c1 c2 c3 c4 c5 v : Value} {s0 s1 lo hi : Int} {b11 : Nat} {w5 W : World} {row : Option Nat} (h : pb.B w #[c0, c1, c2, c3, c4, c5] s0 s1 lo hi b11 w5 row W) (hlt : w.heap.size + 3 ≤ b11) : pb.B w #[c0, c1, c2, c3, c4, v] s0 s1 lo hi b11 w5 row (W.setCell ⟨w.heap.size, 5, none⟩ v) := by
  have ho : ∀ k, k ≠ w.heap.size → (W.setCell ⟨w.heap.size, 5, none⟩ v).heap[k]? = W.heap[k]? := fun k hk => Below.heap_setCell _ _ _ k hk
  have hs : (W.setCell ⟨w.heap.size, 5, none⟩ v).heap.size = W.heap.size := by simp [World.setCell]
  exact ⟨⟨blk_put h.a.k4 5 v rfl, (ho _ (by omega)).trans h.a.k5, (ho _ (by omega)).trans h.a.k8, by rw [hs]; exact h.a.ks, h.a.kb.setCell (by simp) _⟩, (ho _ (by omega)).trans h.k11, fun k a1 a2 a3 => (ho k (by omega)).trans (h.kk k a1 a2 a3), by rw [hs]; exact h.k5s⟩
theorem pb.set {α : Type} {d : Kd α} {t : Nat} {xs : List α} {v u : Value} {w : World} {sk : Array Value} {s0 s1 : Int} {W : World} (h : pb.A w sk s0 s1 W) (hR : d.R t W w.heap.size (fun _ => True) v xs) (hE : d.E = []) (ht : t ≠ 30) :
    d.R t (W.setCell ⟨w.heap.size, 5, none⟩ u) w.heap.size (fun _ => True) v xs :=
  Kd.R_mono (Kd.R_step (pb.bound hE hR) (fun k ho hk => Below.heap_setCell _ _ _ k (by
    rintro rfl
    obtain ⟨cs, hc⟩ := ho.2.2
    rw [h.k4] at hc
    simp at hc
    exact ht hc.2.symm))) (fun _ _ => trivial)
set_option maxHeartbeats 4000000 in
set_option maxRecDepth 100000 in
theorem wear_Probe.t_all (k : Nat) (A0_0 : Option Addr) (c0_0 : Nat) (l0_0 : List S32) (A0_1 : Option Addr) (c0_1 : Nat) (l0_1 : List S55) (a0_2 : Int) (a0_3 : Int) (a0_4 : Int) (A0_5 : Option Addr) (c0_5 : Nat) (l0_5 : List S67) (a1_0 : Int) (a1_1 : Int) (a2 : Int) (a3 : Int) (w : World) (hr0_0 : Kd.C k32 w A0_0 l0_0.length l0_0) (hc0_0 : l0_0.length ≤ c0_0) (hr0_1 : Kd.C k55 w A0_1 l0_1.length l0_1) (hc0_1 : l0_1.length ≤ c0_1) (hr0_5 : Kd.C k67 w A0_5 l0_5.length l0_5) (hc0_5 : l0_5.length ≤ c0_5) (hck : wear_Check.f k l0_0 l0_1 a0_2 a0_3 a0_4 l0_5 = some 0) (hhb : wear_has.f l0_0 l0_1 a1_0 a1_1 = some true) (hin : wear_in.f a2 0 2000 = some true) (hin2 : wear_in.f a3 0 2000 = some true) (hn0 : l0_0.length < 1000) (hn1 : l0_1.length < 1000) (hn5 : l0_5.length < 900) (ms : List S67) (hth : bs.there l0_5 a1_0 a1_1 (bs.at l0_5 a1_0 a1_1 0 l0_5.length) = true) (hm : wear_Probe.marks l0_5 a1_0 a1_1 a2 a3 = ms) (r1 : List S32) (r2 : List S55) (r3 : Int) (r4 : Int) (r5 : Int) (r6 : List S67) (r7 : Int) (h : (if 40 < ms.length then some ([], [], 0, 0, 0, [], 3) else (wear_Check.f k l0_0 l0_1 a0_2 a0_3 a0_4 ms).bind fun e2 => if e2 = 0 then some (l0_0, l0_1, a0_2, a0_3, a0_4, ms, 0) else some ([], [], 0, 0, 0, [], 10)) = some (r1, r2, r3, r4, r5, r6, r7)) :
    Calls Try.prog 9 #[.agg #[.slice A0_0 l0_0.length c0_0, .slice A0_1 l0_1.length c0_1, .int .i64 a0_2, .int .i64 a0_3, .int .i64 a0_4, .slice A0_5 l0_5.length c0_5], .agg #[.int .i64 a1_0, .int .i64 a1_1], .int .i64 a2, .int .i64 a3] w fun e w' => ∃ v0_ v1_ v5_ : Value, e = .returned (.tuple #[.agg #[v0_, v1_, .int .i64 r3, .int .i64 r4, .int .i64 r5, v5_], .int .i64 r7]) ∧ Kd.R k32 32 w' w.heap.size (fun _ => True) v0_ r1 ∧ Kd.R k55 55 w' w.heap.size (fun _ => True) v1_ r2 ∧ Kd.R k67 67 w' w.heap.size (fun _ => True) v5_ r6 ∧ Below w.heap.size w w' := by
  have hu30 := Try.underlying30
  have hu25 := Try.underlying25
  have hu27 := Try.underlying27
  have hu28 := Try.underlying28
  have hu32 := Try.underlying32
  have hu67 := Try.underlying67
  have hb0 : Below w.heap.size w (((w.alloc (.cells #[.slice A0_0 l0_0.length c0_0, .slice A0_1 l0_1.length c0_1, .int .i64 a0_2, .int .i64 a0_3, .int .i64 a0_4, .slice A0_5 l0_5.length c0_5] 30)).alloc (.cells #[.int .i64 a1_0, .int .i64 a1_1] 32)).alloc (.cells #[.slice none 0 0, .slice none 0 0, .int .i64 0, .int .i64 0, .int .i64 0, .slice none 0 0] 30)) := (((Below.refl _ w).alloc (Nat.le_refl _) _).alloc (by simp) _).alloc (by simp; omega) _
  have HB0 := Aside0.mk hb0
  have HR0 := Aside0.mk hr0_0
  have HC0 := Aside0.mk hc0_0
  have HR1 := Aside0.mk hr0_1
  have HC1 := Aside0.mk hc0_1
  have HR5 := Aside0.mk hr0_5
  have HC5 := Aside0.mk hc0_5
  clear hr0_0 hc0_0 hr0_1 hc0_1 hr0_5 hc0_5 hb0
  have HCK := Aside0.mk hck
  have HHB := Aside0.mk hhb
  have Ha2 := Aside0.mk hin
  have Ha3 := Aside0.mk hin2
  have HN := Aside0.mk (And.intro hn0 (And.intro hn1 hn5))
  have HTW := Aside0.mk (show wear_twin.f l0_0 l0_1 a0_2 a0_3 a0_4 l0_5 = some (l0_0, l0_1, a0_2, a0_3, a0_4, l0_5) by
    simp only [wear_twin.f, api_Pt_44.f, api_Box_45.f, api_Mark_46.f]
    rw [if_pos (by omega), if_pos (by omega), if_pos (by omega)]
    rfl)
  have HBS := Aside0.mk (show api_Pt_wear_Probe_1.f l0_5 a1_0 a1_1 = some (((bs.at l0_5 a1_0 a1_1 0 l0_5.length : Nat) : Int), bs.there l0_5 a1_0 a1_1 (bs.at l0_5 a1_0 a1_1 0 l0_5.length)) by unfold api_Pt_wear_Probe_1.f; rw [if_neg (by omega)])
  unfold wear_Probe.marks at *
  rw [hth] at HBS
  rw [hth] at hm
  obtain ⟨K, hK⟩ : ∃ K, bs.at l0_5 a1_0 a1_1 0 l0_5.length = K := ⟨_, rfl⟩
  rw [hK] at HBS
  rw [hK] at hm hth
  obtain ⟨lo, hlo⟩ : ∃ lo : Int, mx (wrap64 (a2 - a3)) 0 = lo := ⟨_, rfl⟩
  obtain ⟨hi, hhi⟩ : ∃ hi : Int, mn (wrap64 (a2 + a3)) 2000 = hi := ⟨_, rfl⟩
  rw [hlo, hhi] at hm
  clear hck hhb hin hin2 hn0 hn1 hn5
  have HKL := Aside0.mk (show K < l0_5.length by unfold bs.there at hth; simp at hth; exact hth.1)
  have HM := Aside0.mk hm
  have pK : (0 ≤ (K : Int)) = True := eq_true (by omega)
  have qK : ((K : Int) < (l0_5.length : Int)) = True := eq_true (by have := HKL.out; omega)
  clear hm hth hK
  have HQ := Aside0.mk h
  clear h
  go_enter Try.func9, Try.ntmps9
  go_wp2_with (first | (go_at_call 15; refine (wear_Check.calls k _ _ l0_0 _ _ l0_1 a0_2 a0_3 a0_4 _ _ l0_5 _ _ (Kd.C_below HR0.out HB0.out) HC0.out (Kd.C_below HR1.out HB0.out) HC1.out (Kd.C_below HR5.out HB0.out) HC5.out HCK.out).mono ?_; rintro e w1 ⟨rfl, hb⟩; have ha := pb.A.mk3 hb; obtain ⟨q0, q1, q2, q3, q4, q5⟩ := zc6 ⟨ha.k4⟩; obtain ⟨p0, p1⟩ := zc2 ⟨ha.k5⟩; obtain ⟨z0, z1, z2, z3, z4, z5⟩ := zc6 ⟨ha.k8⟩; obtain ⟨y0, y1, y2, y3, y4, y5⟩ := zg6 ⟨ha.k8⟩; have HA := Aside0.mk ha; clear hb ha) | (go_at_call 21; refine (wear_has.calls _ _ l0_0 _ _ l0_1 a1_0 a1_1 true _ (Kd.C_below HR0.out HA.out.kb) HC0.out (Kd.C_below HR1.out HA.out.kb) HC1.out HHB.out).mono ?_; rintro e w2 ⟨rfl, hb⟩; have ha := HA.out.below hb; clear HA q0 q1 q2 q3 q4 q5 p0 p1 z0 z1 z2 z3 z4 z5 y0 y1 y2 y3 y4 y5; obtain ⟨q0, q1, q2, q3, q4, q5⟩ := zc6 ⟨ha.k4⟩; obtain ⟨p0, p1⟩ := zc2 ⟨ha.k5⟩; obtain ⟨z0, z1, z2, z3, z4, z5⟩ := zc6 ⟨ha.k8⟩; obtain ⟨y0, y1, y2, y3, y4, y5⟩ := zg6 ⟨ha.k8⟩; have HA := Aside0.mk ha; clear hb ha) | (go_at_call 22; refine (in_calls _ 0 2000 _ _ Ha2.out).mono ?_; rintro e w3 ⟨rfl, hb⟩; have ha := HA.out.below hb; clear HA Ha2 q0 q1 q2 q3 q4 q5 p0 p1 z0 z1 z2 z3 z4 z5 y0 y1 y2 y3 y4 y5; obtain ⟨q0, q1, q2, q3, q4, q5⟩ := zc6 ⟨ha.k4⟩; obtain ⟨p0, p1⟩ := zc2 ⟨ha.k5⟩; obtain ⟨z0, z1, z2, z3, z4, z5⟩ := zc6 ⟨ha.k8⟩; obtain ⟨y0, y1, y2, y3, y4, y5⟩ := zg6 ⟨ha.k8⟩; have HA := Aside0.mk ha; clear hb ha) | (go_at_call 22; refine (in_calls _ 0 2000 _ _ Ha3.out).mono ?_; rintro e w4 ⟨rfl, hb⟩; have ha := HA.out.below hb; clear HA Ha3 q0 q1 q2 q3 q4 q5 p0 p1 z0 z1 z2 z3 z4 z5 y0 y1 y2 y3 y4 y5; have ha2 := ha.below ((Below.refl _ w4).alloc (Nat.le_refl _) (.cells #[.int .i64 lo, .int .i64 hi] 27)); obtain ⟨q0, q1, q2, q3, q4, q5⟩ := zc6 ⟨ha2.k4⟩; obtain ⟨p0, p1⟩ := zc2 ⟨ha2.k5⟩; have HA2 := Aside0.mk ha2; have HS4 := Aside0.mk ha.ks; clear hb ha ha2) | (go_at_call 23; refine (wear_twin.calls _ _ l0_0 _ _ l0_1 a0_2 a0_3 a0_4 _ _ l0_5 l0_0 l0_1 a0_2 a0_3 a0_4 l0_5 _ (Kd.C_below HR0.out HA2.out.kb) HC0.out (Kd.C_below HR1.out HA2.out.kb) HC1.out (Kd.C_below HR5.out HA2.out.kb) HC5.out HTW.out).mono ?_; rintro e w5 ⟨v0, v1, v5, rfl, ho0, ho1, ho5, hb5⟩; have ho0 := pb.bound rfl ho0; have ho1 := pb.bound rfl ho1; have ho5 := pb.bound rfl ho5; obtain ⟨B0, d0, e0⟩ := Kd.R_slice ho0; obtain ⟨B1, d1, e1⟩ := Kd.R_slice ho1; obtain ⟨B5, d5, e5⟩ := Kd.R_slice ho5; subst e0; subst e1; subst e5; have ha := HA2.out.below hb5; have h11 : w5.heap[w4.heap.size]? = some (.cells #[.int .i64 lo, .int .i64 hi] 27 (0, 0)) := (hb5.block _ (by simp)).trans (World.alloc_heap_new _ _); have hf := pb.first (p0 := .slice B0 l0_0.length d0) (p1 := .slice B1 l0_1.length d1) (p2 := .int .i64 a0_2) (p3 := .int .i64 a0_3) (p4 := .int .i64 a0_4) (p5 := .slice B5 l0_5.length d5) ha h11 HS4.out; clear q0 q1 q2 q3 q4 q5 p0 p1; obtain ⟨z0, z1, z2, z3, z4, z5⟩ := zc6 ⟨ha.k4⟩; obtain ⟨y0, y1, y2, y3, y4, y5⟩ := zg6 ⟨ha.k4⟩; obtain ⟨q0, q1, q2, q3, q4, q5⟩ := zc6 ⟨hf.a.k4⟩; obtain ⟨p0, p1⟩ := zc2 ⟨hf.a.k5⟩; have HO0 := Aside0.mk ho0; have HO1 := Aside0.mk ho1; have HO5 := Aside0.mk ho5; have HF := Aside0.mk hf; clear ho0 ho1 ho5 hb5 ha h11 hf) | (go_at_call 24; have hR6 := Kd.R_step HO5.out (fun k ho hk => HF.out.kk k (by have := ho.1; simp at this; omega) ho.2.1 (by simp)); refine (api_Pt_wear_Probe_1.calls _ _ l0_5 a1_0 a1_1 _ _ _ (Kd.R_reads' hR6).2.2 (Kd.R_reads' hR6).2.1 HBS.out).mono ?_; rintro e w6 ⟨rfl, hb6⟩; have hR6 := Kd.R_below hR6 hb6; have hf := HF.out.below hb6; clear HF q0 q1 q2 q3 q4 q5 p0 p1 z0 z1 z2 z3 z4 z5 y0 y1 y2 y3 y4 y5; obtain ⟨g, cap, cur, hv5, hg5, hok5, hh5, hn5, hc5, hs5, hr5⟩ := (own_open hR6).resolve_left (fun h => by have := HKL.out; rw [h.2] at this; simp at this); simp only [Value.slice.injEq] at hv5; obtain ⟨e1, -, e2⟩ := hv5; subst e1; subst e2; obtain ⟨q0, q1, q2, q3, q4, q5⟩ := zc6 ⟨hf.a.k4⟩; obtain ⟨p0, p1⟩ := zc2 ⟨hf.a.k5⟩; obtain ⟨l0, l1⟩ := zc2 ⟨hf.k11⟩; obtain ⟨ad, ea, g0, g1, g2, g3⟩ := at_T67 (Kd.R_reads' hR6).2.2 (K : Int) (by omega) (by have := HKL.out; omega); obtain rfl : ad = ⟨g, 0, none⟩ := (Option.some.inj ea).symm; have HF := Aside0.mk hf; have HH5 := Aside0.mk hh5; have HOK := Aside0.mk hok5; have HG5 := Aside0.mk (And.intro hn5 (And.intro hc5 hs5)); have HRP := Aside0.mk hr5; clear hf hb6 hR6 hg5 hok5 hh5 hn5 hc5 hs5 hr5 ea; simp only [Addr.add_lit, Int.toNat_natCast, Nat.zero_add] at g0 g1 g2 g3))
  have hh6 : w6.drew.heap[g]? = some (.cells cur 67 (0, 0)) := HH5.out
  have z2 : w6.drew.cell? ⟨g, K * 4 + 2, none⟩ = some (.int .i64 (rd_T67 l0_5 K).f1.f0) := g2
  have z3 : w6.drew.cell? ⟨g, K * 4 + 3, none⟩ = some (.int .i64 (rd_T67 l0_5 K).f1.f1) := g3
  have y2 := blk_frozen hh6 (K * 4 + 2)
  have y3 := blk_frozen hh6 (K * 4 + 3)
  have y4 : w6.frozen? ⟨g, K * 4 + 2 + 1, none⟩ = false := blk_frozen HH5.out _
  refine start_ (n := 18) (S := (fun w' => w'.cell? ⟨g, K * 4 + 2, none⟩ = some (.int .i64 (rd_T67 l0_5 K).f1.f0) ∧ w'.cell? ⟨g, K * 4 + 3, none⟩ = some (.int .i64 (rd_T67 l0_5 K).f1.f1) ∧ w'.cell? ⟨w4.heap.size, 0, none⟩ = some (.int .i64 lo) ∧ w'.cell? ⟨w4.heap.size, 1, none⟩ = some (.int .i64 hi))) (ds := [17]) #[Z0, Z0, Z0, Z0, Z0, Z0, Z0, Z0, Z0, Z0, Z0, Z0, Z0, Z0, Z0, Z0, Z0, Z0] (by kernel_rfl) rfl rfl ⟨g2, g3, l0, l1⟩ (fun hHeld => ?_)
  refine zp 0 (some 63) #[Z1, Z0, Z0, Z0, Z0, Z0, Z0, Z0, Z0, Z0, Z0, Z0, Z0, Z0, Z0, Z0, Z0, Z0] rfl rfl (by kernel_rfl) ?_
  refine zp 1 (some 64) #[Z1, Z1, Z0, Z0, Z0, Z0, Z0, Z0, Z0, Z0, Z0, Z0, Z0, Z0, Z0, Z0, Z0, Z0] rfl rfl (by kernel_rfl) ?_
  refine zp 2 (some 65) #[Z1, Z1, Z1, Z0, Z0, Z0, Z0, Z0, Z0, Z0, Z0, Z0, Z0, Z0, Z0, Z0, Z0, Z0] rfl rfl (by kernel_rfl) ?_
  refine zp 3 (some 66) #[Z1, Z1, Z1, Z1, Z0, Z0, Z0, Z0, Z0, Z0, Z0, Z0, Z0, Z0, Z0, Z0, Z0, Z0] rfl rfl (by kernel_rfl) ?_
  refine take_ (i := 4) (N := (some 67)) (v := ?_) (a' := ?_) #[Z1, Z1, Z1, Z1, Z1, Z0, Z0, Z0, Z0, Z0, Z0, Z0, Z0, Z0, Z0, Z0, Z0, Z0] rfl rfl (by kernel_rfl) (fun _ _ _ h => h) (Or.inl ⟨by rfl, ?_⟩) hHeld ?_ ?_
  rotate_left; · rintro w' ⟨s0, s1, s2, s3⟩; go_simp; with_reducible rfl
  rotate_left; · simp only [Act.put, List.setIfInBounds_toArray, List.set_cons_zero, List.set_cons_succ, i64_w, i32_w]; rfl
  refine zp 5 (some 68) #[Z1, Z1, Z1, Z1, Z1, Z1, Z0, Z0, Z0, Z0, Z0, Z0, Z0, Z0, Z0, Z0, Z0, Z0] rfl rfl (by kernel_rfl) ?_
  refine take_ (i := 6) (N := (some 69)) (v := ?_) (a' := ?_) #[Z1, Z1, Z1, Z1, Z1, Z1, Z1, Z0, Z0, Z0, Z0, Z0, Z0, Z0, Z0, Z0, Z0, Z0] rfl rfl (by kernel_rfl) (fun _ _ _ h => h) (Or.inl ⟨by rfl, ?_⟩) hHeld ?_ ?_
  rotate_left; · rintro w' ⟨s0, s1, s2, s3⟩; go_simp; with_reducible rfl
  rotate_left; · simp only [Act.put, List.setIfInBounds_toArray, List.set_cons_zero, List.set_cons_succ, i64_w, i32_w]; rfl
  refine zp 7 (some 70) #[Z1, Z1, Z1, Z1, Z1, Z1, Z1, Z1, Z0, Z0, Z0, Z0, Z0, Z0, Z0, Z0, Z0, Z0] rfl rfl (by kernel_rfl) ?_
  refine zp 8 (some 71) #[Z1, Z1, Z1, Z1, Z1, Z1, Z1, Z1, Z1, Z0, Z0, Z0, Z0, Z0, Z0, Z0, Z0, Z0] rfl rfl (by kernel_rfl) ?_
  refine zp 9 (some 72) #[Z1, Z1, Z1, Z1, Z1, Z1, Z1, Z1, Z1, Z1, Z0, Z0, Z0, Z0, Z0, Z0, Z0, Z0] rfl rfl (by kernel_rfl) ?_
  refine zp 10 (some 73) #[Z1, Z1, Z1, Z1, Z1, Z1, Z1, Z1, Z1, Z1, Z1, Z0, Z0, Z0, Z0, Z0, Z0, Z0] rfl rfl (by kernel_rfl) ?_
  refine take_ (i := 11) (N := (some 74)) (v := ?_) (a' := ?_) #[Z1, Z1, Z1, Z1, Z1, Z1, Z1, Z1, Z1, Z1, Z1, Z1, Z0, Z0, Z0, Z0, Z0, Z0] rfl rfl (by kernel_rfl) (fun _ _ _ h => h) (Or.inl ⟨by rfl, ?_⟩) hHeld ?_ ?_
  rotate_left; · rintro w' ⟨s0, s1, s2, s3⟩; go_simp; with_reducible rfl
  rotate_left; · simp only [Act.put, List.setIfInBounds_toArray, List.set_cons_zero, List.set_cons_succ, i64_w, i32_w]; rfl
  refine zp 12 (some 75) #[Z1, Z1, Z1, Z1, Z1, Z1, Z1, Z1, Z1, Z1, Z1, Z1, Z1, Z0, Z0, Z0, Z0, Z0] rfl rfl (by kernel_rfl) ?_
  refine take_ (i := 13) (N := (some 76)) (v := ?_) (a' := ?_) #[Z1, Z1, Z1, Z1, Z1, Z1, Z1, Z1, Z1, Z1, Z1, Z1, Z1, Z1, Z0, Z0, Z0, Z0] rfl rfl (by kernel_rfl) (fun _ _ _ h => h) (Or.inl ⟨by rfl, ?_⟩) hHeld ?_ ?_
  rotate_left; · rintro w' ⟨s0, s1, s2, s3⟩; go_simp; with_reducible rfl
  rotate_left; · simp only [Act.put, List.setIfInBounds_toArray, List.set_cons_zero, List.set_cons_succ, i64_w, i32_w]; rfl
  refine zp 14 (some 77) #[Z1, Z1, Z1, Z1, Z1, Z1, Z1, Z1, Z1, Z1, Z1, Z1, Z1, Z1, Z1, Z0, Z0, Z0] rfl rfl (by kernel_rfl) ?_
  refine zp 15 (some 78) #[Z1, Z1, Z1, Z1, Z1, Z1, Z1, Z1, Z1, Z1, Z1, Z1, Z1, Z1, Z1, Z1, Z0, Z0] rfl rfl (by kernel_rfl) ?_
  refine zp 16 (some 79) #[Z1, Z1, Z1, Z1, Z1, Z1, Z1, Z1, Z1, Z1, Z1, Z1, Z1, Z1, Z1, Z1, Z1, Z0] rfl rfl (by kernel_rfl) ?_
  refine last_ (i := 17) (N := none) #[Z1, Z1, Z1, Z1, Z1, Z1, Z1, Z1, Z1, Z1, Z1, Z1, Z1, Z1, Z1, Z1, Z1, Z1] rfl rfl (by kernel_rfl) (by decide) (fun K' hK' => ?_)
  go_simp
  refine hK'.out _ _ (done_ (by kernel_rfl) ?_)
  have hm7 := HF.out.mark (row := (Value.slice (some ⟨g, 0, none⟩) l0_5.length d5).ownBlock) (i := K * 4 + 2) (j := K * 4 + 2 + 1) (u := .int .i64 (mx (rd_T67 l0_5 K).f1.f0 lo)) (v := .int .i64 (mn (rd_T67 l0_5 K).f1.f1 hi)) HH5.out HS4.out (by have := HOK.out.1; first | omega | (simp at this; omega)) rfl
  generalize ((w6.setCell ⟨g, K * 4 + 2, none⟩ (.int .i64 (mx (rd_T67 l0_5 K).f1.f0 lo))).setCell ⟨g, K * 4 + 2 + 1, none⟩ (.int .i64 (mn (rd_T67 l0_5 K).f1.f1 hi))).drew = w7 at hm7 ⊢
  obtain ⟨hf7, hh7⟩ := hm7
  have hown : Kd.R k67 67 w7 w.heap.size (fun _ => True) (.slice (some ⟨g, 0, none⟩) ms.length d5) ms := by
    have hlen : ms.length = l0_5.length := by rw [← HM.out]; simp [wear_Probe.put]
    refine own_close (by have := HOK.out.1; have := HS4.out; first | omega | (simp at *; omega)) trivial hh7 (by rw [hlen]; exact HG5.out.1) HG5.out.2.1 (by simpa using HG5.out.2.2) ?_
    rw [hlen, ← HM.out]
    have hr := reps_set2 HRP.out K HKL.out (mx (rd_T67 l0_5 K).f1.f0 lo) (mn (rd_T67 l0_5 K).f1.f1 hi)
    simp only [Array.toList_setIfInBounds]
    rw [show K * 4 + 2 + 1 = K * 4 + 3 by omega, List.take_set, List.take_set]
    exact hr
  have hml : l0_5.length = ms.length := by rw [← HM.out]; simp [wear_Probe.put]
  rw [hml] at hf7
  obtain ⟨n0, n1, n2, n3, n4, n5⟩ := zc6 ⟨hf7.a.k4⟩
  have HF7 := Aside0.mk hf7
  have HOWN := Aside0.mk hown
  clear hf7 hh7 hown hh6 z2 z3 y2 y3 y4 g0 g1 g2 g3 q0 q1 q2 q3 q4 q5 p0 p1 l0 l1 hHeld hK' K'
  rw [hml]
  have h := HQ.out
  clear HQ
  by_cases hout : 40 < ms.length
  · rw [if_pos hout] at h
    simp only [Option.some.injEq, Prod.mk.injEq] at h
    obtain ⟨rfl, rfl, rfl, rfl, rfl, rfl, rfl⟩ := h
    have HOUT := Aside0.mk hout
    clear hout
    have hgt : (40 < (ms.length : Int)) = True := eq_true (by have := HOUT.out; omega)
    have hgt2 : (40 < ms.length) = True := eq_true (by have := HOUT.out; omega)
    obtain ⟨z0, z1, z2, z3, z4, z5⟩ := zc6 ⟨HF7.out.a.k8⟩
    obtain ⟨y0, y1, y2, y3, y4, y5⟩ := zg6 ⟨HF7.out.a.k8⟩
    go_wp2
    have hz := HF7.out.a.zero
    obtain ⟨hz1, hz2⟩ := hz
    have r0 := (blk_cell hz1 0).trans rfl
    have r1 := (blk_cell hz1 1).trans rfl
    have r2 := (blk_cell hz1 2).trans rfl
    have r3 := (blk_cell hz1 3).trans rfl
    have r4 := (blk_cell hz1 4).trans rfl
    have r5 := (blk_cell hz1 5).trans rfl
    refine bodyPost_ret (v := .tuple #[.agg #[.slice none 0 0, .slice none 0 0, .int .i64 0, .int .i64 0, .int .i64 0, .slice none 0 0], .int .i64 3]) (by simp [results, Try.results9, go_sem, r0, r1, r2, r3, r4, r5]) rfl ⟨_, _, _, rfl, Kd.R_nil _ _ _ _ _, Kd.R_nil _ _ _ _ _, Kd.R_nil _ _ _ _ _, hz2⟩
  rw [if_neg hout] at h
  obtain ⟨c2, hck2, h⟩ := Option.bind_eq_some_iff.1 h
  have HOUT := Aside0.mk hout
  clear hout
  by_cases hne : c2 = 0
  · subst hne
    rw [if_pos rfl] at h
    simp only [Option.some.injEq, Prod.mk.injEq] at h
    obtain ⟨rfl, rfl, rfl, rfl, rfl, rfl, rfl⟩ := h
    have HCK2 := Aside0.mk hck2
    clear hck2
    have hgt : (40 < (ms.length : Int)) = False := eq_false (by have := HOUT.out; omega)
    have hgt2 : (40 < ms.length) = False := eq_false (by have := HOUT.out; omega)
    have HR07 := Aside0.mk (HF7.out.keeps HO0.out (fun k hk => (HO5.out.1 k hk).2.2) (by decide) (by first | omega | simp) (by have := HS4.out; first | omega | (simp; omega)))
    have HR17 := Aside0.mk (HF7.out.keeps HO1.out (fun k hk => (HO5.out.1 k hk).2.2) (by decide) (by first | omega | simp) (by have := HS4.out; first | omega | (simp; omega)))
    go_wp2_with (go_at_call 15; refine (wear_Check.calls k _ _ l0_0 _ _ l0_1 a0_2 a0_3 a0_4 _ _ ms _ _ (Kd.R_reads' HR07.out).2.2 (Kd.R_reads' HR07.out).2.1 (Kd.R_reads' HR17.out).2.2 (Kd.R_reads' HR17.out).2.1 (Kd.R_reads' HOWN.out).2.2 (Kd.R_reads' HOWN.out).2.1 HCK2.out).mono ?_; rintro e w8 ⟨rfl, hb8⟩; have hf8 := HF7.out.below hb8; clear n0 n1 n2 n3 n4 n5; obtain ⟨n0, n1, n2, n3, n4, n5⟩ := zc6 ⟨hf8.a.k4⟩; obtain ⟨z0, z1, z2, z3, z4, z5⟩ := zc6 ⟨hf8.a.k8⟩; obtain ⟨y0, y1, y2, y3, y4, y5⟩ := zg6 ⟨hf8.a.k8⟩; have HF8 := Aside0.mk hf8; have HB8 := Aside0.mk hb8; clear hf8 hb8)
    have hz1 := six_set (p0 := .slice B0 l0_0.length d0) (p1 := .slice B1 l0_1.length d1) (p2 := .int .i64 a0_2) (p3 := .int .i64 a0_3) (p4 := .int .i64 a0_4) (p5 := .slice (some ⟨g, 0, none⟩) ms.length d5) HF8.out.a.k8
    have r0 := (blk_cell hz1 0).trans rfl
    have r1 := (blk_cell hz1 1).trans rfl
    have r2 := (blk_cell hz1 2).trans rfl
    have r3 := (blk_cell hz1 3).trans rfl
    have r4 := (blk_cell hz1 4).trans rfl
    have r5 := (blk_cell hz1 5).trans rfl
    refine bodyPost_ret (v := .tuple #[.agg #[.slice B0 l0_0.length d0, .slice B1 l0_1.length d1, .int .i64 a0_2, .int .i64 a0_3, .int .i64 a0_4, .slice (some ⟨g, 0, none⟩) ms.length d5], .int .i64 0]) (by simp [results, Try.results9, go_sem, r0, r1, r2, r3, r4, r5]) rfl ⟨_, _, _, rfl, pb.last HF8.out.a (Kd.R_below HR07.out HB8.out) rfl (by decide), pb.last HF8.out.a (Kd.R_below HR17.out HB8.out) rfl (by decide), pb.last HF8.out.a (Kd.R_below HOWN.out HB8.out) rfl (by decide), six_below HF8.out.a.kb (by omega)⟩
  rw [if_neg hne] at h
  simp only [Option.some.injEq, Prod.mk.injEq] at h
  obtain ⟨rfl, rfl, rfl, rfl, rfl, rfl, rfl⟩ := h
  have HCK2 := Aside0.mk hck2
  have HNE := Aside0.mk hne
  clear hck2 hne
  have hgt : (40 < (ms.length : Int)) = False := eq_false (by have := HOUT.out; omega)
  have hgt2 : (40 < ms.length) = False := eq_false (by have := HOUT.out; omega)
  have HR07 := Aside0.mk (HF7.out.keeps HO0.out (fun k hk => (HO5.out.1 k hk).2.2) (by decide) (by first | omega | simp) (by have := HS4.out; first | omega | (simp; omega)))
  have HR17 := Aside0.mk (HF7.out.keeps HO1.out (fun k hk => (HO5.out.1 k hk).2.2) (by decide) (by first | omega | simp) (by have := HS4.out; first | omega | (simp; omega)))
  have hn1 : (c2 == 0) = false := beq_eq_false_iff_ne.2 HNE.out
  have hn2 : (c2 != 0) = true := bne_iff_ne.2 HNE.out
  go_wp2_with (go_at_call 15; refine (wear_Check.calls k _ _ l0_0 _ _ l0_1 a0_2 a0_3 a0_4 _ _ ms _ _ (Kd.R_reads' HR07.out).2.2 (Kd.R_reads' HR07.out).2.1 (Kd.R_reads' HR17.out).2.2 (Kd.R_reads' HR17.out).2.1 (Kd.R_reads' HOWN.out).2.2 (Kd.R_reads' HOWN.out).2.1 HCK2.out).mono ?_; rintro e w8 ⟨rfl, hb8⟩; have hf8 := HF7.out.below hb8; clear n0 n1 n2 n3 n4 n5; obtain ⟨n0, n1, n2, n3, n4, n5⟩ := zc6 ⟨hf8.a.k4⟩; obtain ⟨z0, z1, z2, z3, z4, z5⟩ := zc6 ⟨hf8.a.k8⟩; obtain ⟨y0, y1, y2, y3, y4, y5⟩ := zg6 ⟨hf8.a.k8⟩; have HF8 := Aside0.mk hf8; have HB8 := Aside0.mk hb8; clear hf8 hb8)
  have hz := HF8.out.a.zero
  obtain ⟨hz1, hz2⟩ := hz
  have r0 := (blk_cell hz1 0).trans rfl
  have r1 := (blk_cell hz1 1).trans rfl
  have r2 := (blk_cell hz1 2).trans rfl
  have r3 := (blk_cell hz1 3).trans rfl
  have r4 := (blk_cell hz1 4).trans rfl
  have r5 := (blk_cell hz1 5).trans rfl
  refine bodyPost_ret (v := .tuple #[.agg #[.slice none 0 0, .slice none 0 0, .int .i64 0, .int .i64 0, .int .i64 0, .slice none 0 0], .int .i64 10]) (by simp [results, Try.results9, go_sem, r0, r1, r2, r3, r4, r5]) rfl ⟨_, _, _, rfl, Kd.R_nil _ _ _ _ _, Kd.R_nil _ _ _ _ _, Kd.R_nil _ _ _ _ _, hz2⟩
set_option maxHeartbeats 4000000 in
set_option maxRecDepth 100000 in
set_option maxHeartbeats 4000000 in
set_option maxRecDepth 100000 in
set_option maxHeartbeats 4000000 in
set_option maxRecDepth 100000 in
theorem wear_Probe.f_limit (k : Nat) (A0_0 : Option Addr) (c0_0 : Nat) (l0_0 : List S32) (A0_1 : Option Addr) (c0_1 : Nat) (l0_1 : List S55) (a0_2 : Int) (a0_3 : Int) (a0_4 : Int) (A0_5 : Option Addr) (c0_5 : Nat) (l0_5 : List S67) (a1_0 : Int) (a1_1 : Int) (a2 : Int) (a3 : Int) (w : World) (hr0_0 : Kd.C k32 w A0_0 l0_0.length l0_0) (hc0_0 : l0_0.length ≤ c0_0) (hr0_1 : Kd.C k55 w A0_1 l0_1.length l0_1) (hc0_1 : l0_1.length ≤ c0_1) (hr0_5 : Kd.C k67 w A0_5 l0_5.length l0_5) (hc0_5 : l0_5.length ≤ c0_5) (hck : wear_Check.f k l0_0 l0_1 a0_2 a0_3 a0_4 l0_5 = some 0) (hhb : wear_has.f l0_0 l0_1 a1_0 a1_1 = some true) (hin : wear_in.f a2 0 2000 = some true) (hin2 : wear_in.f a3 0 2000 = some true) (hn0 : l0_0.length < 1000) (hn1 : l0_1.length < 1000) (hn5 : l0_5.length < 900) (ms : List S67) (hth : bs.there l0_5 a1_0 a1_1 (bs.at l0_5 a1_0 a1_1 0 l0_5.length) = false) (hm : wear_Probe.marks l0_5 a1_0 a1_1 a2 a3 = ms) (hout : 40 < ms.length) :
    Calls Try.prog 9 #[.agg #[.slice A0_0 l0_0.length c0_0, .slice A0_1 l0_1.length c0_1, .int .i64 a0_2, .int .i64 a0_3, .int .i64 a0_4, .slice A0_5 l0_5.length c0_5], .agg #[.int .i64 a1_0, .int .i64 a1_1], .int .i64 a2, .int .i64 a3] w fun e w' => ∃ v0_ v1_ v5_ : Value, e = .returned (.tuple #[.agg #[v0_, v1_, .int .i64 0, .int .i64 0, .int .i64 0, v5_], .int .i64 3]) ∧ Kd.R k32 32 w' w.heap.size (fun _ => True) v0_ [] ∧ Kd.R k55 55 w' w.heap.size (fun _ => True) v1_ [] ∧ Kd.R k67 67 w' w.heap.size (fun _ => True) v5_ [] ∧ Below w.heap.size w w' := by
  have hu30 := Try.underlying30
  have hu25 := Try.underlying25
  have hu27 := Try.underlying27
  have hu28 := Try.underlying28
  have hu32 := Try.underlying32
  have hu67 := Try.underlying67
  have hb0 : Below w.heap.size w (((w.alloc (.cells #[.slice A0_0 l0_0.length c0_0, .slice A0_1 l0_1.length c0_1, .int .i64 a0_2, .int .i64 a0_3, .int .i64 a0_4, .slice A0_5 l0_5.length c0_5] 30)).alloc (.cells #[.int .i64 a1_0, .int .i64 a1_1] 32)).alloc (.cells #[.slice none 0 0, .slice none 0 0, .int .i64 0, .int .i64 0, .int .i64 0, .slice none 0 0] 30)) := (((Below.refl _ w).alloc (Nat.le_refl _) _).alloc (by simp) _).alloc (by simp; omega) _
  have HB0 := Aside0.mk hb0
  have HR0 := Aside0.mk hr0_0
  have HC0 := Aside0.mk hc0_0
  have HR1 := Aside0.mk hr0_1
  have HC1 := Aside0.mk hc0_1
  have HR5 := Aside0.mk hr0_5
  have HC5 := Aside0.mk hc0_5
  clear hr0_0 hc0_0 hr0_1 hc0_1 hr0_5 hc0_5 hb0
  have HCK := Aside0.mk hck
  have HHB := Aside0.mk hhb
  have Ha2 := Aside0.mk hin
  have Ha3 := Aside0.mk hin2
  have HN := Aside0.mk (And.intro hn0 (And.intro hn1 hn5))
  have HTW := Aside0.mk (show wear_twin.f l0_0 l0_1 a0_2 a0_3 a0_4 l0_5 = some (l0_0, l0_1, a0_2, a0_3, a0_4, l0_5) by
    simp only [wear_twin.f, api_Pt_44.f, api_Box_45.f, api_Mark_46.f]
    rw [if_pos (by omega), if_pos (by omega), if_pos (by omega)]
    rfl)
  have HBS := Aside0.mk (show api_Pt_wear_Probe_1.f l0_5 a1_0 a1_1 = some (((bs.at l0_5 a1_0 a1_1 0 l0_5.length : Nat) : Int), bs.there l0_5 a1_0 a1_1 (bs.at l0_5 a1_0 a1_1 0 l0_5.length)) by unfold api_Pt_wear_Probe_1.f; rw [if_neg (by omega)])
  unfold wear_Probe.marks at *
  rw [hth] at HBS
  rw [hth] at hm
  obtain ⟨K, hK⟩ : ∃ K, bs.at l0_5 a1_0 a1_1 0 l0_5.length = K := ⟨_, rfl⟩
  rw [hK] at HBS
  rw [hK] at hm hth
  obtain ⟨lo, hlo⟩ : ∃ lo : Int, mx (wrap64 (a2 - a3)) 0 = lo := ⟨_, rfl⟩
  obtain ⟨hi, hhi⟩ : ∃ hi : Int, mn (wrap64 (a2 + a3)) 2000 = hi := ⟨_, rfl⟩
  rw [hlo, hhi] at hm
  clear hck hhb hin hin2 hn0 hn1 hn5
  have HKL := Aside0.mk (show K ≤ l0_5.length by rw [← hK]; exact bs.go_le _ _ _ _ _ _ (Nat.zero_le _))
  have HM := Aside0.mk hm
  clear hm hth hK
  have HOUT := Aside0.mk hout
  clear hout
  have hgt : (40 < (ms.length : Int)) = True := eq_true (by have := HOUT.out; omega)
  have hgt2 : (40 < ms.length) = True := eq_true (by have := HOUT.out; omega)
  go_enter Try.func9, Try.ntmps9
  go_wp2_with (first | (go_at_call 15; refine (wear_Check.calls k _ _ l0_0 _ _ l0_1 a0_2 a0_3 a0_4 _ _ l0_5 _ _ (Kd.C_below HR0.out HB0.out) HC0.out (Kd.C_below HR1.out HB0.out) HC1.out (Kd.C_below HR5.out HB0.out) HC5.out HCK.out).mono ?_; rintro e w1 ⟨rfl, hb⟩; have ha := pb.A.mk3 hb; obtain ⟨q0, q1, q2, q3, q4, q5⟩ := zc6 ⟨ha.k4⟩; obtain ⟨p0, p1⟩ := zc2 ⟨ha.k5⟩; obtain ⟨z0, z1, z2, z3, z4, z5⟩ := zc6 ⟨ha.k8⟩; obtain ⟨y0, y1, y2, y3, y4, y5⟩ := zg6 ⟨ha.k8⟩; have HA := Aside0.mk ha; clear hb ha HB0) | (go_at_call 21; refine (wear_has.calls _ _ l0_0 _ _ l0_1 a1_0 a1_1 true _ (Kd.C_below HR0.out HA.out.kb) HC0.out (Kd.C_below HR1.out HA.out.kb) HC1.out HHB.out).mono ?_; rintro e w2 ⟨rfl, hb⟩; have ha := HA.out.below hb; clear HA q0 q1 q2 q3 q4 q5 p0 p1 z0 z1 z2 z3 z4 z5 y0 y1 y2 y3 y4 y5; obtain ⟨q0, q1, q2, q3, q4, q5⟩ := zc6 ⟨ha.k4⟩; obtain ⟨p0, p1⟩ := zc2 ⟨ha.k5⟩; obtain ⟨z0, z1, z2, z3, z4, z5⟩ := zc6 ⟨ha.k8⟩; obtain ⟨y0, y1, y2, y3, y4, y5⟩ := zg6 ⟨ha.k8⟩; have HA := Aside0.mk ha; clear hb ha) | (go_at_call 22; refine (in_calls _ 0 2000 _ _ Ha2.out).mono ?_; rintro e w3 ⟨rfl, hb⟩; have ha := HA.out.below hb; clear HA Ha2 q0 q1 q2 q3 q4 q5 p0 p1 z0 z1 z2 z3 z4 z5 y0 y1 y2 y3 y4 y5; obtain ⟨q0, q1, q2, q3, q4, q5⟩ := zc6 ⟨ha.k4⟩; obtain ⟨p0, p1⟩ := zc2 ⟨ha.k5⟩; obtain ⟨z0, z1, z2, z3, z4, z5⟩ := zc6 ⟨ha.k8⟩; obtain ⟨y0, y1, y2, y3, y4, y5⟩ := zg6 ⟨ha.k8⟩; have HA := Aside0.mk ha; clear hb ha) | (go_at_call 22; refine (in_calls _ 0 2000 _ _ Ha3.out).mono ?_; rintro e w4 ⟨rfl, hb⟩; have ha := HA.out.below hb; clear HA Ha3 q0 q1 q2 q3 q4 q5 p0 p1 z0 z1 z2 z3 z4 z5 y0 y1 y2 y3 y4 y5; have ha2 := ha.below ((Below.refl _ w4).alloc (Nat.le_refl _) (.cells #[.int .i64 lo, .int .i64 hi] 27)); obtain ⟨q0, q1, q2, q3, q4, q5⟩ := zc6 ⟨ha2.k4⟩; obtain ⟨p0, p1⟩ := zc2 ⟨ha2.k5⟩; have HA2 := Aside0.mk ha2; have HS4 := Aside0.mk ha.ks; clear hb ha ha2) | (go_at_call 23; refine (wear_twin.calls _ _ l0_0 _ _ l0_1 a0_2 a0_3 a0_4 _ _ l0_5 l0_0 l0_1 a0_2 a0_3 a0_4 l0_5 _ (Kd.C_below HR0.out HA2.out.kb) HC0.out (Kd.C_below HR1.out HA2.out.kb) HC1.out (Kd.C_below HR5.out HA2.out.kb) HC5.out HTW.out).mono ?_; rintro e w5 ⟨v0, v1, v5, rfl, ho0, ho1, ho5, hb5⟩; have ho0 := pb.bound rfl ho0; have ho1 := pb.bound rfl ho1; have ho5 := pb.bound rfl ho5; obtain ⟨B0, d0, e0⟩ := Kd.R_slice ho0; obtain ⟨B1, d1, e1⟩ := Kd.R_slice ho1; obtain ⟨B5, d5, e5⟩ := Kd.R_slice ho5; subst e0; subst e1; subst e5; have ha := HA2.out.below hb5; have h11 : w5.heap[w4.heap.size]? = some (.cells #[.int .i64 lo, .int .i64 hi] 27 (0, 0)) := (hb5.block _ (by simp)).trans (World.alloc_heap_new _ _); have hf := pb.first (p0 := .slice B0 l0_0.length d0) (p1 := .slice B1 l0_1.length d1) (p2 := .int .i64 a0_2) (p3 := .int .i64 a0_3) (p4 := .int .i64 a0_4) (p5 := .slice B5 l0_5.length d5) ha h11 HS4.out; clear q0 q1 q2 q3 q4 q5 p0 p1; obtain ⟨z0, z1, z2, z3, z4, z5⟩ := zc6 ⟨ha.k4⟩; obtain ⟨y0, y1, y2, y3, y4, y5⟩ := zg6 ⟨ha.k4⟩; obtain ⟨q0, q1, q2, q3, q4, q5⟩ := zc6 ⟨hf.a.k4⟩; obtain ⟨p0, p1⟩ := zc2 ⟨hf.a.k5⟩; have HO0 := Aside0.mk ho0; have HO1 := Aside0.mk ho1; have HO5 := Aside0.mk ho5; have HF := Aside0.mk hf; clear ho0 ho1 ho5 hb5 ha h11 hf) | (go_at_call 24; have hR6 := Kd.R_step HO5.out (fun k ho hk => HF.out.kk k (by have := ho.1; simp at this; omega) ho.2.1 (by simp)); refine (api_Pt_wear_Probe_1.calls _ _ l0_5 a1_0 a1_1 _ _ _ (Kd.R_reads' hR6).2.2 (Kd.R_reads' hR6).2.1 HBS.out).mono ?_; rintro e w6 ⟨rfl, hb6⟩; have hR6 := Kd.R_below hR6 hb6; have hf := HF.out.below hb6; clear HF q0 q1 q2 q3 q4 q5 p0 p1 z0 z1 z2 z3 z4 z5 y0 y1 y2 y3 y4 y5; obtain ⟨q0, q1, q2, q3, q4, q5⟩ := zc6 ⟨hf.a.k4⟩; obtain ⟨p0, p1⟩ := zc2 ⟨hf.a.k5⟩; obtain ⟨l0, l1⟩ := zc2 ⟨hf.k11⟩; have HF := Aside0.mk hf; have HO6 := Aside0.mk hR6; clear hf hb6 hR6) | (go_at_call 27; refine (insert.calls (.slice B5 l0_5.length d5) l0_5 K w6.heap.size ⟨⟨a1_0, a1_1⟩, ⟨lo, hi⟩⟩ w (w6.alloc (.cells #[.int .i64 a1_0, .int .i64 a1_1, .int .i64 lo, .int .i64 hi] 67)) (HF.out.a.kb.alloc HF.out.a.kb.size _) (Kd.R_mono (Kd.R_lower (Kd.R_alloc HO6.out _) (by have := HS4.out; first | omega | (simp; omega))) (fun _ _ => trivial)) HKL.out (by have := HN.out.2.2; omega) (World.alloc_heap_new _ _) (fun he => by have h1 := HO6.out.1 _ he; have h2 := HF.out.k5s; have h3 := h1.2.1; omega)).mono ?_; rintro e wm ⟨vm, rfl, ho7, hb7, hg7⟩; have ho7 : Kd.R k67 67 wm w.heap.size (fun _ => True) vm ms := (by have e := HM.out; rw [← e]; exact ho7); obtain ⟨Bm, dm, em⟩ := Kd.R_slice ho7; subst em; have hfa := HF.out.below ((Below.refl _ w6).alloc (Nat.le_refl _) (.cells #[.int .i64 a1_0, .int .i64 a1_1, .int .i64 lo, .int .i64 hi] 67)); have hfm := hfa.grown hg7 (fun k he => by have h1 := (HO6.out.1 k he).1; first | omega | (simp at h1; omega)) HS4.out hb7; have hf := hfm.set5 (v := .slice Bm ms.length dm) HS4.out; have hown := pb.set (u := .slice Bm ms.length dm) hfm.a ho7 rfl (by decide); clear HF q0 q1 q2 q3 q4 q5 p0 p1 l0 l1; have u5 : wm.cell? ⟨w.heap.size, 5, none⟩ = some (.slice B5 l0_5.length d5) := (blk_cell hfm.a.k4 5).trans rfl; have v5 := blk_frozen hfm.a.k4 5; obtain ⟨n0, n1, n2, n3, n4, n5⟩ := zc6 ⟨hf.a.k4⟩; obtain ⟨z0, z1, z2, z3, z4, z5⟩ := zc6 ⟨hf.a.k8⟩; obtain ⟨y0, y1, y2, y3, y4, y5⟩ := zg6 ⟨hf.a.k8⟩; have HF7 := Aside0.mk hf; have HOWN := Aside0.mk hown; have HR07 := Aside0.mk (hf.keeps HO0.out (fun k hk => (HO5.out.1 k hk).2.2) (by decide) (by first | omega | simp) (by have := HS4.out; first | omega | (simp; omega))); have HR17 := Aside0.mk (hf.keeps HO1.out (fun k hk => (HO5.out.1 k hk).2.2) (by decide) (by first | omega | simp) (by have := HS4.out; first | omega | (simp; omega))); clear ho7 hb7 hg7 hfa hfm hf hown))
  have hz := HF7.out.a.zero
  obtain ⟨hz1, hz2⟩ := hz
  have r0 := (blk_cell hz1 0).trans rfl
  have r1 := (blk_cell hz1 1).trans rfl
  have r2 := (blk_cell hz1 2).trans rfl
  have r3 := (blk_cell hz1 3).trans rfl
  have r4 := (blk_cell hz1 4).trans rfl
  have r5 := (blk_cell hz1 5).trans rfl
  refine bodyPost_ret (v := .tuple #[.agg #[.slice none 0 0, .slice none 0 0, .int .i64 0, .int .i64 0, .int .i64 0, .slice none 0 0], .int .i64 3]) (by simp [results, Try.results9, go_sem, r0, r1, r2, r3, r4, r5]) rfl ⟨_, _, _, rfl, Kd.R_nil _ _ _ _ _, Kd.R_nil _ _ _ _ _, Kd.R_nil _ _ _ _ _, hz2⟩
set_option maxHeartbeats 4000000 in
set_option maxRecDepth 100000 in
theorem wear_Probe.f_clash (k : Nat) (A0_0 : Option Addr) (c0_0 : Nat) (l0_0 : List S32) (A0_1 : Option Addr) (c0_1 : Nat) (l0_1 : List S55) (a0_2 : Int) (a0_3 : Int) (a0_4 : Int) (A0_5 : Option Addr) (c0_5 : Nat) (l0_5 : List S67) (a1_0 : Int) (a1_1 : Int) (a2 : Int) (a3 : Int) (w : World) (hr0_0 : Kd.C k32 w A0_0 l0_0.length l0_0) (hc0_0 : l0_0.length ≤ c0_0) (hr0_1 : Kd.C k55 w A0_1 l0_1.length l0_1) (hc0_1 : l0_1.length ≤ c0_1) (hr0_5 : Kd.C k67 w A0_5 l0_5.length l0_5) (hc0_5 : l0_5.length ≤ c0_5) (hck : wear_Check.f k l0_0 l0_1 a0_2 a0_3 a0_4 l0_5 = some 0) (hhb : wear_has.f l0_0 l0_1 a1_0 a1_1 = some true) (hin : wear_in.f a2 0 2000 = some true) (hin2 : wear_in.f a3 0 2000 = some true) (hn0 : l0_0.length < 1000) (hn1 : l0_1.length < 1000) (hn5 : l0_5.length < 900) (ms : List S67) (hth : bs.there l0_5 a1_0 a1_1 (bs.at l0_5 a1_0 a1_1 0 l0_5.length) = false) (hm : wear_Probe.marks l0_5 a1_0 a1_1 a2 a3 = ms) (hout : ¬ 40 < ms.length) (c2 : Int) (hck2 : wear_Check.f k l0_0 l0_1 a0_2 a0_3 a0_4 ms = some c2) (hne : ¬ c2 = 0) :
    Calls Try.prog 9 #[.agg #[.slice A0_0 l0_0.length c0_0, .slice A0_1 l0_1.length c0_1, .int .i64 a0_2, .int .i64 a0_3, .int .i64 a0_4, .slice A0_5 l0_5.length c0_5], .agg #[.int .i64 a1_0, .int .i64 a1_1], .int .i64 a2, .int .i64 a3] w fun e w' => ∃ v0_ v1_ v5_ : Value, e = .returned (.tuple #[.agg #[v0_, v1_, .int .i64 0, .int .i64 0, .int .i64 0, v5_], .int .i64 10]) ∧ Kd.R k32 32 w' w.heap.size (fun _ => True) v0_ [] ∧ Kd.R k55 55 w' w.heap.size (fun _ => True) v1_ [] ∧ Kd.R k67 67 w' w.heap.size (fun _ => True) v5_ [] ∧ Below w.heap.size w w' := by
  have hu30 := Try.underlying30
  have hu25 := Try.underlying25
  have hu27 := Try.underlying27
  have hu28 := Try.underlying28
  have hu32 := Try.underlying32
  have hu67 := Try.underlying67
  have hb0 : Below w.heap.size w (((w.alloc (.cells #[.slice A0_0 l0_0.length c0_0, .slice A0_1 l0_1.length c0_1, .int .i64 a0_2, .int .i64 a0_3, .int .i64 a0_4, .slice A0_5 l0_5.length c0_5] 30)).alloc (.cells #[.int .i64 a1_0, .int .i64 a1_1] 32)).alloc (.cells #[.slice none 0 0, .slice none 0 0, .int .i64 0, .int .i64 0, .int .i64 0, .slice none 0 0] 30)) := (((Below.refl _ w).alloc (Nat.le_refl _) _).alloc (by simp) _).alloc (by simp; omega) _
  have HB0 := Aside0.mk hb0
  have HR0 := Aside0.mk hr0_0
  have HC0 := Aside0.mk hc0_0
  have HR1 := Aside0.mk hr0_1
  have HC1 := Aside0.mk hc0_1
  have HR5 := Aside0.mk hr0_5
  have HC5 := Aside0.mk hc0_5
  clear hr0_0 hc0_0 hr0_1 hc0_1 hr0_5 hc0_5 hb0
  have HCK := Aside0.mk hck
  have HHB := Aside0.mk hhb
  have Ha2 := Aside0.mk hin
  have Ha3 := Aside0.mk hin2
  have HN := Aside0.mk (And.intro hn0 (And.intro hn1 hn5))
  have HTW := Aside0.mk (show wear_twin.f l0_0 l0_1 a0_2 a0_3 a0_4 l0_5 = some (l0_0, l0_1, a0_2, a0_3, a0_4, l0_5) by
    simp only [wear_twin.f, api_Pt_44.f, api_Box_45.f, api_Mark_46.f]
    rw [if_pos (by omega), if_pos (by omega), if_pos (by omega)]
    rfl)
  have HBS := Aside0.mk (show api_Pt_wear_Probe_1.f l0_5 a1_0 a1_1 = some (((bs.at l0_5 a1_0 a1_1 0 l0_5.length : Nat) : Int), bs.there l0_5 a1_0 a1_1 (bs.at l0_5 a1_0 a1_1 0 l0_5.length)) by unfold api_Pt_wear_Probe_1.f; rw [if_neg (by omega)])
  unfold wear_Probe.marks at *
  rw [hth] at HBS
  rw [hth] at hm
  obtain ⟨K, hK⟩ : ∃ K, bs.at l0_5 a1_0 a1_1 0 l0_5.length = K := ⟨_, rfl⟩
  rw [hK] at HBS
  rw [hK] at hm hth
  obtain ⟨lo, hlo⟩ : ∃ lo : Int, mx (wrap64 (a2 - a3)) 0 = lo := ⟨_, rfl⟩
  obtain ⟨hi, hhi⟩ : ∃ hi : Int, mn (wrap64 (a2 + a3)) 2000 = hi := ⟨_, rfl⟩
  rw [hlo, hhi] at hm
  clear hck hhb hin hin2 hn0 hn1 hn5
  have HKL := Aside0.mk (show K ≤ l0_5.length by rw [← hK]; exact bs.go_le _ _ _ _ _ _ (Nat.zero_le _))
  have HM := Aside0.mk hm
  clear hm hth hK
  have HOUT := Aside0.mk hout
  have HCK2 := Aside0.mk hck2
  have HNE := Aside0.mk hne
  clear hout hck2 hne
  have hgt : (40 < (ms.length : Int)) = False := eq_false (by have := HOUT.out; omega)
  have hgt2 : (40 < ms.length) = False := eq_false (by have := HOUT.out; omega)
  have hn1 : (c2 == 0) = false := beq_eq_false_iff_ne.2 HNE.out
  have hn2 : (c2 != 0) = true := bne_iff_ne.2 HNE.out
  go_enter Try.func9, Try.ntmps9
  go_wp2_with (first | (go_at_call 15; refine (wear_Check.calls k _ _ l0_0 _ _ l0_1 a0_2 a0_3 a0_4 _ _ l0_5 _ _ (Kd.C_below HR0.out HB0.out) HC0.out (Kd.C_below HR1.out HB0.out) HC1.out (Kd.C_below HR5.out HB0.out) HC5.out HCK.out).mono ?_; rintro e w1 ⟨rfl, hb⟩; have ha := pb.A.mk3 hb; obtain ⟨q0, q1, q2, q3, q4, q5⟩ := zc6 ⟨ha.k4⟩; obtain ⟨p0, p1⟩ := zc2 ⟨ha.k5⟩; obtain ⟨z0, z1, z2, z3, z4, z5⟩ := zc6 ⟨ha.k8⟩; obtain ⟨y0, y1, y2, y3, y4, y5⟩ := zg6 ⟨ha.k8⟩; have HA := Aside0.mk ha; clear hb ha HB0) | (go_at_call 21; refine (wear_has.calls _ _ l0_0 _ _ l0_1 a1_0 a1_1 true _ (Kd.C_below HR0.out HA.out.kb) HC0.out (Kd.C_below HR1.out HA.out.kb) HC1.out HHB.out).mono ?_; rintro e w2 ⟨rfl, hb⟩; have ha := HA.out.below hb; clear HA q0 q1 q2 q3 q4 q5 p0 p1 z0 z1 z2 z3 z4 z5 y0 y1 y2 y3 y4 y5; obtain ⟨q0, q1, q2, q3, q4, q5⟩ := zc6 ⟨ha.k4⟩; obtain ⟨p0, p1⟩ := zc2 ⟨ha.k5⟩; obtain ⟨z0, z1, z2, z3, z4, z5⟩ := zc6 ⟨ha.k8⟩; obtain ⟨y0, y1, y2, y3, y4, y5⟩ := zg6 ⟨ha.k8⟩; have HA := Aside0.mk ha; clear hb ha) | (go_at_call 22; refine (in_calls _ 0 2000 _ _ Ha2.out).mono ?_; rintro e w3 ⟨rfl, hb⟩; have ha := HA.out.below hb; clear HA Ha2 q0 q1 q2 q3 q4 q5 p0 p1 z0 z1 z2 z3 z4 z5 y0 y1 y2 y3 y4 y5; obtain ⟨q0, q1, q2, q3, q4, q5⟩ := zc6 ⟨ha.k4⟩; obtain ⟨p0, p1⟩ := zc2 ⟨ha.k5⟩; obtain ⟨z0, z1, z2, z3, z4, z5⟩ := zc6 ⟨ha.k8⟩; obtain ⟨y0, y1, y2, y3, y4, y5⟩ := zg6 ⟨ha.k8⟩; have HA := Aside0.mk ha; clear hb ha) | (go_at_call 22; refine (in_calls _ 0 2000 _ _ Ha3.out).mono ?_; rintro e w4 ⟨rfl, hb⟩; have ha := HA.out.below hb; clear HA Ha3 q0 q1 q2 q3 q4 q5 p0 p1 z0 z1 z2 z3 z4 z5 y0 y1 y2 y3 y4 y5; have ha2 := ha.below ((Below.refl _ w4).alloc (Nat.le_refl _) (.cells #[.int .i64 lo, .int .i64 hi] 27)); obtain ⟨q0, q1, q2, q3, q4, q5⟩ := zc6 ⟨ha2.k4⟩; obtain ⟨p0, p1⟩ := zc2 ⟨ha2.k5⟩; have HA2 := Aside0.mk ha2; have HS4 := Aside0.mk ha.ks; clear hb ha ha2) | (go_at_call 23; refine (wear_twin.calls _ _ l0_0 _ _ l0_1 a0_2 a0_3 a0_4 _ _ l0_5 l0_0 l0_1 a0_2 a0_3 a0_4 l0_5 _ (Kd.C_below HR0.out HA2.out.kb) HC0.out (Kd.C_below HR1.out HA2.out.kb) HC1.out (Kd.C_below HR5.out HA2.out.kb) HC5.out HTW.out).mono ?_; rintro e w5 ⟨v0, v1, v5, rfl, ho0, ho1, ho5, hb5⟩; have ho0 := pb.bound rfl ho0; have ho1 := pb.bound rfl ho1; have ho5 := pb.bound rfl ho5; obtain ⟨B0, d0, e0⟩ := Kd.R_slice ho0; obtain ⟨B1, d1, e1⟩ := Kd.R_slice ho1; obtain ⟨B5, d5, e5⟩ := Kd.R_slice ho5; subst e0; subst e1; subst e5; have ha := HA2.out.below hb5; have h11 : w5.heap[w4.heap.size]? = some (.cells #[.int .i64 lo, .int .i64 hi] 27 (0, 0)) := (hb5.block _ (by simp)).trans (World.alloc_heap_new _ _); have hf := pb.first (p0 := .slice B0 l0_0.length d0) (p1 := .slice B1 l0_1.length d1) (p2 := .int .i64 a0_2) (p3 := .int .i64 a0_3) (p4 := .int .i64 a0_4) (p5 := .slice B5 l0_5.length d5) ha h11 HS4.out; clear q0 q1 q2 q3 q4 q5 p0 p1; obtain ⟨z0, z1, z2, z3, z4, z5⟩ := zc6 ⟨ha.k4⟩; obtain ⟨y0, y1, y2, y3, y4, y5⟩ := zg6 ⟨ha.k4⟩; obtain ⟨q0, q1, q2, q3, q4, q5⟩ := zc6 ⟨hf.a.k4⟩; obtain ⟨p0, p1⟩ := zc2 ⟨hf.a.k5⟩; have HO0 := Aside0.mk ho0; have HO1 := Aside0.mk ho1; have HO5 := Aside0.mk ho5; have HF := Aside0.mk hf; clear ho0 ho1 ho5 hb5 ha h11 hf) | (go_at_call 24; have hR6 := Kd.R_step HO5.out (fun k ho hk => HF.out.kk k (by have := ho.1; simp at this; omega) ho.2.1 (by simp)); refine (api_Pt_wear_Probe_1.calls _ _ l0_5 a1_0 a1_1 _ _ _ (Kd.R_reads' hR6).2.2 (Kd.R_reads' hR6).2.1 HBS.out).mono ?_; rintro e w6 ⟨rfl, hb6⟩; have hR6 := Kd.R_below hR6 hb6; have hf := HF.out.below hb6; clear HF q0 q1 q2 q3 q4 q5 p0 p1 z0 z1 z2 z3 z4 z5 y0 y1 y2 y3 y4 y5; obtain ⟨q0, q1, q2, q3, q4, q5⟩ := zc6 ⟨hf.a.k4⟩; obtain ⟨p0, p1⟩ := zc2 ⟨hf.a.k5⟩; obtain ⟨l0, l1⟩ := zc2 ⟨hf.k11⟩; have HF := Aside0.mk hf; have HO6 := Aside0.mk hR6; clear hf hb6 hR6) | (go_at_call 27; refine (insert.calls (.slice B5 l0_5.length d5) l0_5 K w6.heap.size ⟨⟨a1_0, a1_1⟩, ⟨lo, hi⟩⟩ w (w6.alloc (.cells #[.int .i64 a1_0, .int .i64 a1_1, .int .i64 lo, .int .i64 hi] 67)) (HF.out.a.kb.alloc HF.out.a.kb.size _) (Kd.R_mono (Kd.R_lower (Kd.R_alloc HO6.out _) (by have := HS4.out; first | omega | (simp; omega))) (fun _ _ => trivial)) HKL.out (by have := HN.out.2.2; omega) (World.alloc_heap_new _ _) (fun he => by have h1 := HO6.out.1 _ he; have h2 := HF.out.k5s; have h3 := h1.2.1; omega)).mono ?_; rintro e wm ⟨vm, rfl, ho7, hb7, hg7⟩; have ho7 : Kd.R k67 67 wm w.heap.size (fun _ => True) vm ms := (by have e := HM.out; rw [← e]; exact ho7); obtain ⟨Bm, dm, em⟩ := Kd.R_slice ho7; subst em; have hfa := HF.out.below ((Below.refl _ w6).alloc (Nat.le_refl _) (.cells #[.int .i64 a1_0, .int .i64 a1_1, .int .i64 lo, .int .i64 hi] 67)); have hfm := hfa.grown hg7 (fun k he => by have h1 := (HO6.out.1 k he).1; first | omega | (simp at h1; omega)) HS4.out hb7; have hf := hfm.set5 (v := .slice Bm ms.length dm) HS4.out; have hown := pb.set (u := .slice Bm ms.length dm) hfm.a ho7 rfl (by decide); clear HF q0 q1 q2 q3 q4 q5 p0 p1 l0 l1; have u5 : wm.cell? ⟨w.heap.size, 5, none⟩ = some (.slice B5 l0_5.length d5) := (blk_cell hfm.a.k4 5).trans rfl; have v5 := blk_frozen hfm.a.k4 5; obtain ⟨n0, n1, n2, n3, n4, n5⟩ := zc6 ⟨hf.a.k4⟩; obtain ⟨z0, z1, z2, z3, z4, z5⟩ := zc6 ⟨hf.a.k8⟩; obtain ⟨y0, y1, y2, y3, y4, y5⟩ := zg6 ⟨hf.a.k8⟩; have HF7 := Aside0.mk hf; have HOWN := Aside0.mk hown; have HR07 := Aside0.mk (hf.keeps HO0.out (fun k hk => (HO5.out.1 k hk).2.2) (by decide) (by first | omega | simp) (by have := HS4.out; first | omega | (simp; omega))); have HR17 := Aside0.mk (hf.keeps HO1.out (fun k hk => (HO5.out.1 k hk).2.2) (by decide) (by first | omega | simp) (by have := HS4.out; first | omega | (simp; omega))); clear ho7 hb7 hg7 hfa hfm hf hown) | (go_at_call 15; refine (wear_Check.calls k _ _ l0_0 _ _ l0_1 a0_2 a0_3 a0_4 _ _ ms _ _ (Kd.R_reads' HR07.out).2.2 (Kd.R_reads' HR07.out).2.1 (Kd.R_reads' HR17.out).2.2 (Kd.R_reads' HR17.out).2.1 (Kd.R_reads' HOWN.out).2.2 (Kd.R_reads' HOWN.out).2.1 HCK2.out).mono ?_; rintro e w8 ⟨rfl, hb8⟩; have hf8 := HF7.out.below hb8; clear n0 n1 n2 n3 n4 n5 z0 z1 z2 z3 z4 z5 y0 y1 y2 y3 y4 y5; obtain ⟨n0, n1, n2, n3, n4, n5⟩ := zc6 ⟨hf8.a.k4⟩; obtain ⟨z0, z1, z2, z3, z4, z5⟩ := zc6 ⟨hf8.a.k8⟩; obtain ⟨y0, y1, y2, y3, y4, y5⟩ := zg6 ⟨hf8.a.k8⟩; have HF8 := Aside0.mk hf8; have HB8 := Aside0.mk hb8; clear hf8 hb8))
  have hz := HF8.out.a.zero
  obtain ⟨hz1, hz2⟩ := hz
  have r0 := (blk_cell hz1 0).trans rfl
  have r1 := (blk_cell hz1 1).trans rfl
  have r2 := (blk_cell hz1 2).trans rfl
  have r3 := (blk_cell hz1 3).trans rfl
  have r4 := (blk_cell hz1 4).trans rfl
  have r5 := (blk_cell hz1 5).trans rfl
  refine bodyPost_ret (v := .tuple #[.agg #[.slice none 0 0, .slice none 0 0, .int .i64 0, .int .i64 0, .int .i64 0, .slice none 0 0], .int .i64 10]) (by simp [results, Try.results9, go_sem, r0, r1, r2, r3, r4, r5]) rfl ⟨_, _, _, rfl, Kd.R_nil _ _ _ _ _, Kd.R_nil _ _ _ _ _, Kd.R_nil _ _ _ _ _, hz2⟩
set_option maxHeartbeats 4000000 in
set_option maxRecDepth 100000 in
theorem wear_Probe.f_ok (k : Nat) (A0_0 : Option Addr) (c0_0 : Nat) (l0_0 : List S32) (A0_1 : Option Addr) (c0_1 : Nat) (l0_1 : List S55) (a0_2 : Int) (a0_3 : Int) (a0_4 : Int) (A0_5 : Option Addr) (c0_5 : Nat) (l0_5 : List S67) (a1_0 : Int) (a1_1 : Int) (a2 : Int) (a3 : Int) (w : World) (hr0_0 : Kd.C k32 w A0_0 l0_0.length l0_0) (hc0_0 : l0_0.length ≤ c0_0) (hr0_1 : Kd.C k55 w A0_1 l0_1.length l0_1) (hc0_1 : l0_1.length ≤ c0_1) (hr0_5 : Kd.C k67 w A0_5 l0_5.length l0_5) (hc0_5 : l0_5.length ≤ c0_5) (hck : wear_Check.f k l0_0 l0_1 a0_2 a0_3 a0_4 l0_5 = some 0) (hhb : wear_has.f l0_0 l0_1 a1_0 a1_1 = some true) (hin : wear_in.f a2 0 2000 = some true) (hin2 : wear_in.f a3 0 2000 = some true) (hn0 : l0_0.length < 1000) (hn1 : l0_1.length < 1000) (hn5 : l0_5.length < 900) (ms : List S67) (hth : bs.there l0_5 a1_0 a1_1 (bs.at l0_5 a1_0 a1_1 0 l0_5.length) = false) (hm : wear_Probe.marks l0_5 a1_0 a1_1 a2 a3 = ms) (hout : ¬ 40 < ms.length) (hck2 : wear_Check.f k l0_0 l0_1 a0_2 a0_3 a0_4 ms = some 0) :
    Calls Try.prog 9 #[.agg #[.slice A0_0 l0_0.length c0_0, .slice A0_1 l0_1.length c0_1, .int .i64 a0_2, .int .i64 a0_3, .int .i64 a0_4, .slice A0_5 l0_5.length c0_5], .agg #[.int .i64 a1_0, .int .i64 a1_1], .int .i64 a2, .int .i64 a3] w fun e w' => ∃ v0_ v1_ v5_ : Value, e = .returned (.tuple #[.agg #[v0_, v1_, .int .i64 a0_2, .int .i64 a0_3, .int .i64 a0_4, v5_], .int .i64 0]) ∧ Kd.R k32 32 w' w.heap.size (fun _ => True) v0_ l0_0 ∧ Kd.R k55 55 w' w.heap.size (fun _ => True) v1_ l0_1 ∧ Kd.R k67 67 w' w.heap.size (fun _ => True) v5_ ms ∧ Below w.heap.size w w' := by
  have hu30 := Try.underlying30
  have hu25 := Try.underlying25
  have hu27 := Try.underlying27
  have hu28 := Try.underlying28
  have hu32 := Try.underlying32
  have hu67 := Try.underlying67
  have hb0 : Below w.heap.size w (((w.alloc (.cells #[.slice A0_0 l0_0.length c0_0, .slice A0_1 l0_1.length c0_1, .int .i64 a0_2, .int .i64 a0_3, .int .i64 a0_4, .slice A0_5 l0_5.length c0_5] 30)).alloc (.cells #[.int .i64 a1_0, .int .i64 a1_1] 32)).alloc (.cells #[.slice none 0 0, .slice none 0 0, .int .i64 0, .int .i64 0, .int .i64 0, .slice none 0 0] 30)) := (((Below.refl _ w).alloc (Nat.le_refl _) _).alloc (by simp) _).alloc (by simp; omega) _
  have HB0 := Aside0.mk hb0
  have HR0 := Aside0.mk hr0_0
  have HC0 := Aside0.mk hc0_0
  have HR1 := Aside0.mk hr0_1
  have HC1 := Aside0.mk hc0_1
  have HR5 := Aside0.mk hr0_5
  have HC5 := Aside0.mk hc0_5
  clear hr0_0 hc0_0 hr0_1 hc0_1 hr0_5 hc0_5 hb0
  have HCK := Aside0.mk hck
  have HHB := Aside0.mk hhb
  have Ha2 := Aside0.mk hin
  have Ha3 := Aside0.mk hin2
  have HN := Aside0.mk (And.intro hn0 (And.intro hn1 hn5))
  have HTW := Aside0.mk (show wear_twin.f l0_0 l0_1 a0_2 a0_3 a0_4 l0_5 = some (l0_0, l0_1, a0_2, a0_3, a0_4, l0_5) by
    simp only [wear_twin.f, api_Pt_44.f, api_Box_45.f, api_Mark_46.f]
    rw [if_pos (by omega), if_pos (by omega), if_pos (by omega)]
    rfl)
  have HBS := Aside0.mk (show api_Pt_wear_Probe_1.f l0_5 a1_0 a1_1 = some (((bs.at l0_5 a1_0 a1_1 0 l0_5.length : Nat) : Int), bs.there l0_5 a1_0 a1_1 (bs.at l0_5 a1_0 a1_1 0 l0_5.length)) by unfold api_Pt_wear_Probe_1.f; rw [if_neg (by omega)])
  unfold wear_Probe.marks at *
  rw [hth] at HBS
  rw [hth] at hm
  obtain ⟨K, hK⟩ : ∃ K, bs.at l0_5 a1_0 a1_1 0 l0_5.length = K := ⟨_, rfl⟩
  rw [hK] at HBS
  rw [hK] at hm hth
  obtain ⟨lo, hlo⟩ : ∃ lo : Int, mx (wrap64 (a2 - a3)) 0 = lo := ⟨_, rfl⟩
  obtain ⟨hi, hhi⟩ : ∃ hi : Int, mn (wrap64 (a2 + a3)) 2000 = hi := ⟨_, rfl⟩
  rw [hlo, hhi] at hm
  clear hck hhb hin hin2 hn0 hn1 hn5
  have HKL := Aside0.mk (show K ≤ l0_5.length by rw [← hK]; exact bs.go_le _ _ _ _ _ _ (Nat.zero_le _))
  have HM := Aside0.mk hm
  clear hm hth hK
  have HOUT := Aside0.mk hout
  have HCK2 := Aside0.mk hck2
  clear hout hck2
  have hgt : (40 < (ms.length : Int)) = False := eq_false (by have := HOUT.out; omega)
  have hgt2 : (40 < ms.length) = False := eq_false (by have := HOUT.out; omega)
  go_enter Try.func9, Try.ntmps9
  go_wp2_with (first | (go_at_call 15; refine (wear_Check.calls k _ _ l0_0 _ _ l0_1 a0_2 a0_3 a0_4 _ _ l0_5 _ _ (Kd.C_below HR0.out HB0.out) HC0.out (Kd.C_below HR1.out HB0.out) HC1.out (Kd.C_below HR5.out HB0.out) HC5.out HCK.out).mono ?_; rintro e w1 ⟨rfl, hb⟩; have ha := pb.A.mk3 hb; obtain ⟨q0, q1, q2, q3, q4, q5⟩ := zc6 ⟨ha.k4⟩; obtain ⟨p0, p1⟩ := zc2 ⟨ha.k5⟩; obtain ⟨z0, z1, z2, z3, z4, z5⟩ := zc6 ⟨ha.k8⟩; obtain ⟨y0, y1, y2, y3, y4, y5⟩ := zg6 ⟨ha.k8⟩; have HA := Aside0.mk ha; clear hb ha HB0) | (go_at_call 21; refine (wear_has.calls _ _ l0_0 _ _ l0_1 a1_0 a1_1 true _ (Kd.C_below HR0.out HA.out.kb) HC0.out (Kd.C_below HR1.out HA.out.kb) HC1.out HHB.out).mono ?_; rintro e w2 ⟨rfl, hb⟩; have ha := HA.out.below hb; clear HA q0 q1 q2 q3 q4 q5 p0 p1 z0 z1 z2 z3 z4 z5 y0 y1 y2 y3 y4 y5; obtain ⟨q0, q1, q2, q3, q4, q5⟩ := zc6 ⟨ha.k4⟩; obtain ⟨p0, p1⟩ := zc2 ⟨ha.k5⟩; obtain ⟨z0, z1, z2, z3, z4, z5⟩ := zc6 ⟨ha.k8⟩; obtain ⟨y0, y1, y2, y3, y4, y5⟩ := zg6 ⟨ha.k8⟩; have HA := Aside0.mk ha; clear hb ha) | (go_at_call 22; refine (in_calls _ 0 2000 _ _ Ha2.out).mono ?_; rintro e w3 ⟨rfl, hb⟩; have ha := HA.out.below hb; clear HA Ha2 q0 q1 q2 q3 q4 q5 p0 p1 z0 z1 z2 z3 z4 z5 y0 y1 y2 y3 y4 y5; obtain ⟨q0, q1, q2, q3, q4, q5⟩ := zc6 ⟨ha.k4⟩; obtain ⟨p0, p1⟩ := zc2 ⟨ha.k5⟩; obtain ⟨z0, z1, z2, z3, z4, z5⟩ := zc6 ⟨ha.k8⟩; obtain ⟨y0, y1, y2, y3, y4, y5⟩ := zg6 ⟨ha.k8⟩; have HA := Aside0.mk ha; clear hb ha) | (go_at_call 22; refine (in_calls _ 0 2000 _ _ Ha3.out).mono ?_; rintro e w4 ⟨rfl, hb⟩; have ha := HA.out.below hb; clear HA Ha3 q0 q1 q2 q3 q4 q5 p0 p1 z0 z1 z2 z3 z4 z5 y0 y1 y2 y3 y4 y5; have ha2 := ha.below ((Below.refl _ w4).alloc (Nat.le_refl _) (.cells #[.int .i64 lo, .int .i64 hi] 27)); obtain ⟨q0, q1, q2, q3, q4, q5⟩ := zc6 ⟨ha2.k4⟩; obtain ⟨p0, p1⟩ := zc2 ⟨ha2.k5⟩; have HA2 := Aside0.mk ha2; have HS4 := Aside0.mk ha.ks; clear hb ha ha2) | (go_at_call 23; refine (wear_twin.calls _ _ l0_0 _ _ l0_1 a0_2 a0_3 a0_4 _ _ l0_5 l0_0 l0_1 a0_2 a0_3 a0_4 l0_5 _ (Kd.C_below HR0.out HA2.out.kb) HC0.out (Kd.C_below HR1.out HA2.out.kb) HC1.out (Kd.C_below HR5.out HA2.out.kb) HC5.out HTW.out).mono ?_; rintro e w5 ⟨v0, v1, v5, rfl, ho0, ho1, ho5, hb5⟩; have ho0 := pb.bound rfl ho0; have ho1 := pb.bound rfl ho1; have ho5 := pb.bound rfl ho5; obtain ⟨B0, d0, e0⟩ := Kd.R_slice ho0; obtain ⟨B1, d1, e1⟩ := Kd.R_slice ho1; obtain ⟨B5, d5, e5⟩ := Kd.R_slice ho5; subst e0; subst e1; subst e5; have ha := HA2.out.below hb5; have h11 : w5.heap[w4.heap.size]? = some (.cells #[.int .i64 lo, .int .i64 hi] 27 (0, 0)) := (hb5.block _ (by simp)).trans (World.alloc_heap_new _ _); have hf := pb.first (p0 := .slice B0 l0_0.length d0) (p1 := .slice B1 l0_1.length d1) (p2 := .int .i64 a0_2) (p3 := .int .i64 a0_3) (p4 := .int .i64 a0_4) (p5 := .slice B5 l0_5.length d5) ha h11 HS4.out; clear q0 q1 q2 q3 q4 q5 p0 p1; obtain ⟨z0, z1, z2, z3, z4, z5⟩ := zc6 ⟨ha.k4⟩; obtain ⟨y0, y1, y2, y3, y4, y5⟩ := zg6 ⟨ha.k4⟩; obtain ⟨q0, q1, q2, q3, q4, q5⟩ := zc6 ⟨hf.a.k4⟩; obtain ⟨p0, p1⟩ := zc2 ⟨hf.a.k5⟩; have HO0 := Aside0.mk ho0; have HO1 := Aside0.mk ho1; have HO5 := Aside0.mk ho5; have HF := Aside0.mk hf; clear ho0 ho1 ho5 hb5 ha h11 hf) | (go_at_call 24; have hR6 := Kd.R_step HO5.out (fun k ho hk => HF.out.kk k (by have := ho.1; simp at this; omega) ho.2.1 (by simp)); refine (api_Pt_wear_Probe_1.calls _ _ l0_5 a1_0 a1_1 _ _ _ (Kd.R_reads' hR6).2.2 (Kd.R_reads' hR6).2.1 HBS.out).mono ?_; rintro e w6 ⟨rfl, hb6⟩; have hR6 := Kd.R_below hR6 hb6; have hf := HF.out.below hb6; clear HF q0 q1 q2 q3 q4 q5 p0 p1 z0 z1 z2 z3 z4 z5 y0 y1 y2 y3 y4 y5; obtain ⟨q0, q1, q2, q3, q4, q5⟩ := zc6 ⟨hf.a.k4⟩; obtain ⟨p0, p1⟩ := zc2 ⟨hf.a.k5⟩; obtain ⟨l0, l1⟩ := zc2 ⟨hf.k11⟩; have HF := Aside0.mk hf; have HO6 := Aside0.mk hR6; clear hf hb6 hR6) | (go_at_call 27; refine (insert.calls (.slice B5 l0_5.length d5) l0_5 K w6.heap.size ⟨⟨a1_0, a1_1⟩, ⟨lo, hi⟩⟩ w (w6.alloc (.cells #[.int .i64 a1_0, .int .i64 a1_1, .int .i64 lo, .int .i64 hi] 67)) (HF.out.a.kb.alloc HF.out.a.kb.size _) (Kd.R_mono (Kd.R_lower (Kd.R_alloc HO6.out _) (by have := HS4.out; first | omega | (simp; omega))) (fun _ _ => trivial)) HKL.out (by have := HN.out.2.2; omega) (World.alloc_heap_new _ _) (fun he => by have h1 := HO6.out.1 _ he; have h2 := HF.out.k5s; have h3 := h1.2.1; omega)).mono ?_; rintro e wm ⟨vm, rfl, ho7, hb7, hg7⟩; have ho7 : Kd.R k67 67 wm w.heap.size (fun _ => True) vm ms := (by have e := HM.out; rw [← e]; exact ho7); obtain ⟨Bm, dm, em⟩ := Kd.R_slice ho7; subst em; have hfa := HF.out.below ((Below.refl _ w6).alloc (Nat.le_refl _) (.cells #[.int .i64 a1_0, .int .i64 a1_1, .int .i64 lo, .int .i64 hi] 67)); have hfm := hfa.grown hg7 (fun k he => by have h1 := (HO6.out.1 k he).1; first | omega | (simp at h1; omega)) HS4.out hb7; have hf := hfm.set5 (v := .slice Bm ms.length dm) HS4.out; have hown := pb.set (u := .slice Bm ms.length dm) hfm.a ho7 rfl (by decide); clear HF q0 q1 q2 q3 q4 q5 p0 p1 l0 l1; have u5 : wm.cell? ⟨w.heap.size, 5, none⟩ = some (.slice B5 l0_5.length d5) := (blk_cell hfm.a.k4 5).trans rfl; have v5 := blk_frozen hfm.a.k4 5; obtain ⟨n0, n1, n2, n3, n4, n5⟩ := zc6 ⟨hf.a.k4⟩; obtain ⟨z0, z1, z2, z3, z4, z5⟩ := zc6 ⟨hf.a.k8⟩; obtain ⟨y0, y1, y2, y3, y4, y5⟩ := zg6 ⟨hf.a.k8⟩; have HF7 := Aside0.mk hf; have HOWN := Aside0.mk hown; have HR07 := Aside0.mk (hf.keeps HO0.out (fun k hk => (HO5.out.1 k hk).2.2) (by decide) (by first | omega | simp) (by have := HS4.out; first | omega | (simp; omega))); have HR17 := Aside0.mk (hf.keeps HO1.out (fun k hk => (HO5.out.1 k hk).2.2) (by decide) (by first | omega | simp) (by have := HS4.out; first | omega | (simp; omega))); clear ho7 hb7 hg7 hfa hfm hf hown) | (go_at_call 15; refine (wear_Check.calls k _ _ l0_0 _ _ l0_1 a0_2 a0_3 a0_4 _ _ ms _ _ (Kd.R_reads' HR07.out).2.2 (Kd.R_reads' HR07.out).2.1 (Kd.R_reads' HR17.out).2.2 (Kd.R_reads' HR17.out).2.1 (Kd.R_reads' HOWN.out).2.2 (Kd.R_reads' HOWN.out).2.1 HCK2.out).mono ?_; rintro e w8 ⟨rfl, hb8⟩; have hf8 := HF7.out.below hb8; clear n0 n1 n2 n3 n4 n5 z0 z1 z2 z3 z4 z5 y0 y1 y2 y3 y4 y5; obtain ⟨n0, n1, n2, n3, n4, n5⟩ := zc6 ⟨hf8.a.k4⟩; obtain ⟨z0, z1, z2, z3, z4, z5⟩ := zc6 ⟨hf8.a.k8⟩; obtain ⟨y0, y1, y2, y3, y4, y5⟩ := zg6 ⟨hf8.a.k8⟩; have HF8 := Aside0.mk hf8; have HB8 := Aside0.mk hb8; clear hf8 hb8))
  have hz1 := six_set (p0 := .slice B0 l0_0.length d0) (p1 := .slice B1 l0_1.length d1) (p2 := .int .i64 a0_2) (p3 := .int .i64 a0_3) (p4 := .int .i64 a0_4) (p5 := .slice Bm ms.length dm) HF8.out.a.k8
  have r0 := (blk_cell hz1 0).trans rfl
  have r1 := (blk_cell hz1 1).trans rfl
  have r2 := (blk_cell hz1 2).trans rfl
  have r3 := (blk_cell hz1 3).trans rfl
  have r4 := (blk_cell hz1 4).trans rfl
  have r5 := (blk_cell hz1 5).trans rfl
  refine bodyPost_ret (v := .tuple #[.agg #[.slice B0 l0_0.length d0, .slice B1 l0_1.length d1, .int .i64 a0_2, .int .i64 a0_3, .int .i64 a0_4, .slice Bm ms.length dm], .int .i64 0]) (by simp [results, Try.results9, go_sem, r0, r1, r2, r3, r4, r5]) rfl ⟨_, _, _, rfl, pb.last HF8.out.a (Kd.R_below HR07.out HB8.out) rfl (by decide), pb.last HF8.out.a (Kd.R_below HR17.out HB8.out) rfl (by decide), pb.last HF8.out.a (Kd.R_below HOWN.out HB8.out) rfl (by decide), six_below HF8.out.a.kb (by omega)⟩
end
theorem in_tells (a lo hi : Int) : wear_in.f a lo hi = some (decide (lo ≤ a ∧ a ≤ hi)) := by
  unfold wear_in.f
  by_cases h : lo ≤ a
  · rw [if_pos h]; simp [h]
  rw [if_neg h]; simp [h]
theorem wear_Probe.calls (k : Nat) (A0_0 : Option Addr) (c0_0 : Nat) (l0_0 : List S32) (A0_1 : Option Addr) (c0_1 : Nat) (l0_1 : List S55) (a0_2 : Int) (a0_3 : Int) (a0_4 : Int) (A0_5 : Option Addr) (c0_5 : Nat) (l0_5 : List S67) (a1_0 : Int) (a1_1 : Int) (a2 : Int) (a3 : Int) (r1 : List S32) (r2 : List S55) (r3 : Int) (r4 : Int) (r5 : Int) (r6 : List S67) (r7 : Int) (w : World) (hr0_0 : Kd.C k32 w A0_0 l0_0.length l0_0) (hc0_0 : l0_0.length ≤ c0_0) (hr0_1 : Kd.C k55 w A0_1 l0_1.length l0_1) (hc0_1 : l0_1.length ≤ c0_1) (hr0_5 : Kd.C k67 w A0_5 l0_5.length l0_5) (hc0_5 : l0_5.length ≤ c0_5) (h : wear_Probe.f k l0_0 l0_1 a0_2 a0_3 a0_4 l0_5 a1_0 a1_1 a2 a3 = some (r1, r2, r3, r4, r5, r6, r7)) :
    Calls Try.prog 9 #[.agg #[.slice A0_0 l0_0.length c0_0, .slice A0_1 l0_1.length c0_1, .int .i64 a0_2, .int .i64 a0_3, .int .i64 a0_4, .slice A0_5 l0_5.length c0_5], .agg #[.int .i64 a1_0, .int .i64 a1_1], .int .i64 a2, .int .i64 a3] w fun e w' => ∃ v0_ v1_ v5_ : Value, e = .returned (.tuple #[.agg #[v0_, v1_, .int .i64 r3, .int .i64 r4, .int .i64 r5, v5_], .int .i64 r7]) ∧ Kd.R k32 32 w' w.heap.size (fun _ => True) v0_ r1 ∧ Kd.R k55 55 w' w.heap.size (fun _ => True) v1_ r2 ∧ Kd.R k67 67 w' w.heap.size (fun _ => True) v5_ r6 ∧ Below w.heap.size w w' := by
  unfold wear_Probe.f at h
  obtain ⟨e, hck, h⟩ := Option.bind_eq_some_iff.1 h
  by_cases he : e = 0
  · subst he
    rw [if_pos rfl] at h
    cases hb : wear_has.b l0_0 l0_1 a1_0 a1_1 with
    | false =>
      rw [hb, if_neg (by decide)] at h
      simp only [Option.some.injEq, Prod.mk.injEq] at h
      obtain ⟨rfl, rfl, rfl, rfl, rfl, rfl, rfl⟩ := h
      exact wear_Probe.x_none k A0_0 c0_0 l0_0 A0_1 c0_1 l0_1 a0_2 a0_3 a0_4 A0_5 c0_5 l0_5 a1_0 a1_1 a2 a3 w hr0_0 hc0_0 hr0_1 hc0_1 hr0_5 hc0_5 hck (by unfold wear_has.f; rw [hb])
    | true =>
      have hhb : wear_has.f l0_0 l0_1 a1_0 a1_1 = some true := by unfold wear_has.f; rw [hb]
      rw [hb, if_pos rfl] at h
      by_cases h1 : 0 ≤ a2 ∧ a2 ≤ 2000
      · have hi1 : wear_in.f a2 0 2000 = some true := by rw [in_tells, decide_eq_true h1]
        rw [if_pos h1] at h
        by_cases h2 : 0 ≤ a3 ∧ a3 ≤ 2000
        · have hi2 : wear_in.f a3 0 2000 = some true := by rw [in_tells, decide_eq_true h2]
          rw [if_pos h2] at h
          by_cases h3 : l0_0.length < 1000 ∧ l0_1.length < 1000 ∧ l0_5.length < 900
          · rw [if_pos h3] at h
            obtain ⟨g1, g2, g3⟩ := h3
            by_cases h4 : 40 < (wear_Probe.marks l0_5 a1_0 a1_1 a2 a3).length
            · rw [if_pos h4] at h
              simp only [Option.some.injEq, Prod.mk.injEq] at h
              obtain ⟨rfl, rfl, rfl, rfl, rfl, rfl, rfl⟩ := h
              cases hth : bs.there l0_5 a1_0 a1_1 (bs.at l0_5 a1_0 a1_1 0 l0_5.length) with
              | true => exact wear_Probe.t_all k A0_0 c0_0 l0_0 A0_1 c0_1 l0_1 a0_2 a0_3 a0_4 A0_5 c0_5 l0_5 a1_0 a1_1 a2 a3 w hr0_0 hc0_0 hr0_1 hc0_1 hr0_5 hc0_5 hck hhb hi1 hi2 g1 g2 g3 _ hth rfl [] [] 0 0 0 [] 3 (if_pos h4)
              | false => exact wear_Probe.f_limit k A0_0 c0_0 l0_0 A0_1 c0_1 l0_1 a0_2 a0_3 a0_4 A0_5 c0_5 l0_5 a1_0 a1_1 a2 a3 w hr0_0 hc0_0 hr0_1 hc0_1 hr0_5 hc0_5 hck hhb hi1 hi2 g1 g2 g3 _ hth rfl h4
            rw [if_neg h4] at h
            obtain ⟨e2, hck2, h⟩ := Option.bind_eq_some_iff.1 h
            by_cases he2 : e2 = 0
            · subst he2
              rw [if_pos rfl] at h
              simp only [Option.some.injEq, Prod.mk.injEq] at h
              obtain ⟨rfl, rfl, rfl, rfl, rfl, rfl, rfl⟩ := h
              cases hth : bs.there l0_5 a1_0 a1_1 (bs.at l0_5 a1_0 a1_1 0 l0_5.length) with
              | true => exact wear_Probe.t_all k A0_0 c0_0 l0_0 A0_1 c0_1 l0_1 a0_2 a0_3 a0_4 A0_5 c0_5 l0_5 a1_0 a1_1 a2 a3 w hr0_0 hc0_0 hr0_1 hc0_1 hr0_5 hc0_5 hck hhb hi1 hi2 g1 g2 g3 _ hth rfl _ _ _ _ _ _ 0 (by rw [if_neg h4, hck2]; rfl)
              | false => exact wear_Probe.f_ok k A0_0 c0_0 l0_0 A0_1 c0_1 l0_1 a0_2 a0_3 a0_4 A0_5 c0_5 l0_5 a1_0 a1_1 a2 a3 w hr0_0 hc0_0 hr0_1 hc0_1 hr0_5 hc0_5 hck hhb hi1 hi2 g1 g2 g3 _ hth rfl h4 hck2
            rw [if_neg he2] at h
            simp only [Option.some.injEq, Prod.mk.injEq] at h
            obtain ⟨rfl, rfl, rfl, rfl, rfl, rfl, rfl⟩ := h
            cases hth : bs.there l0_5 a1_0 a1_1 (bs.at l0_5 a1_0 a1_1 0 l0_5.length) with
            | true => exact wear_Probe.t_all k A0_0 c0_0 l0_0 A0_1 c0_1 l0_1 a0_2 a0_3 a0_4 A0_5 c0_5 l0_5 a1_0 a1_1 a2 a3 w hr0_0 hc0_0 hr0_1 hc0_1 hr0_5 hc0_5 hck hhb hi1 hi2 g1 g2 g3 _ hth rfl [] [] 0 0 0 [] 10 (by rw [if_neg h4, hck2]; exact if_neg he2)
            | false => exact wear_Probe.f_clash k A0_0 c0_0 l0_0 A0_1 c0_1 l0_1 a0_2 a0_3 a0_4 A0_5 c0_5 l0_5 a1_0 a1_1 a2 a3 w hr0_0 hc0_0 hr0_1 hc0_1 hr0_5 hc0_5 hck hhb hi1 hi2 g1 g2 g3 _ hth rfl h4 _ hck2 he2
          rw [if_neg h3] at h
          cases h
        rw [if_neg h2] at h
        simp only [Option.some.injEq, Prod.mk.injEq] at h
        obtain ⟨rfl, rfl, rfl, rfl, rfl, rfl, rfl⟩ := h
        exact wear_Probe.x_arg2 k A0_0 c0_0 l0_0 A0_1 c0_1 l0_1 a0_2 a0_3 a0_4 A0_5 c0_5 l0_5 a1_0 a1_1 a2 a3 w hr0_0 hc0_0 hr0_1 hc0_1 hr0_5 hc0_5 hck hhb hi1 (by rw [in_tells, decide_eq_false h2])
      rw [if_neg h1] at h
      simp only [Option.some.injEq, Prod.mk.injEq] at h
      obtain ⟨rfl, rfl, rfl, rfl, rfl, rfl, rfl⟩ := h
      exact wear_Probe.x_arg1 k A0_0 c0_0 l0_0 A0_1 c0_1 l0_1 a0_2 a0_3 a0_4 A0_5 c0_5 l0_5 a1_0 a1_1 a2 a3 w hr0_0 hc0_0 hr0_1 hc0_1 hr0_5 hc0_5 hck hhb (by rw [in_tells, decide_eq_false h1])
  rw [if_neg he] at h
  simp only [Option.some.injEq, Prod.mk.injEq] at h
  obtain ⟨rfl, rfl, rfl, rfl, rfl, rfl, rfl⟩ := h
  exact wear_Probe.x_bad k A0_0 c0_0 l0_0 A0_1 c0_1 l0_1 a0_2 a0_3 a0_4 A0_5 c0_5 l0_5 a1_0 a1_1 a2 a3 w hr0_0 hc0_0 hr0_1 hc0_1 hr0_5 hc0_5 _ hck he
end Go.Proofs.Ytcfpclehogdmbaa.Q
end
section
namespace Go.Proofs.Ytcfpclehogdmbaa.Q
open Go.RowKit Go.Proofs.YtcfpclehogdmbaaW.PrintWords Go.Proofs.YtcfpclehogdmbaaW.PrintLast Go.Proofs.YtcfpclehogdmbaaW.PrintMore
set_option linter.unusedVariables false
set_option linter.unusedSimpArgs false
def okMark (l0 : List S32) (l1 : List S55) (m : S67) : Prop := wear_has.b l0 l1 m.f0.f0 m.f0.f1 = true ∧ spanB m.f1.f0 m.f1.f1 2000 = true
theorem okMark.ok {l0 : List S32} {l1 : List S55} {m : S67} (h : okMark l0 l1 m) : okM m := by
  have e0 : 0 ≤ m.f0.f0 ∧ m.f0.f0 ≤ 400 ∧ 0 ≤ m.f0.f1 ∧ m.f0.f1 ≤ 400 := by
    have := h.1
    unfold wear_has.b at this
    simp only [Bool.and_eq_true, decide_eq_true_eq] at this
    exact this.1.1
  have e1 : 0 ≤ m.f1.f0 ∧ m.f1.f0 ≤ m.f1.f1 ∧ m.f1.f1 ≤ 2000 := by
    have := h.2
    unfold spanB at this
    exact of_decide_eq_true this
  exact ⟨e0, e1⟩
theorem markE_zero (l0 : List S32) (l1 : List S55) (V : Int) : ∀ l : List S67, markE l0 l1 V l = 0 ↔ (∀ m ∈ l, okMark l0 l1 m) ∧ V = 0 := by
  intro l
  induction l with
  | nil => simp [markE]
  | cons m t ih =>
    unfold markE
    rw [List.forall_mem_cons]
    unfold okMark at *
    by_cases c0 : wear_has.b l0 l1 m.f0.f0 m.f0.f1 = true
    · rw [if_pos c0]
      by_cases c1 : spanB m.f1.f0 m.f1.f1 2000 = true
      · rw [if_pos c1, ih]
        constructor
        · rintro ⟨h1, h2⟩; exact ⟨⟨⟨c0, c1⟩, h1⟩, h2⟩
        · rintro ⟨⟨_, h1⟩, h2⟩; exact ⟨h1, h2⟩
      · rw [if_neg c1]
        constructor
        · intro h; omega
        · rintro ⟨⟨h1, _⟩, _⟩; exact absurd h1.2 c1
    · rw [if_neg c0]
      constructor
      · intro h; omega
      · rintro ⟨⟨h1, _⟩, _⟩; exact absurd h1.1 c0
structure OkSkin (l0 : List S32) (l1 : List S55) (st lo hi : Int) (l : List S67) : Prop where
  out : wear_checkOutline.err l0 = 0
  holes : l1.length ≤ 6
  nobad : l1.any api_Box_wear_Check_1.bad = false
  steep : 0 ≤ st ∧ st ≤ 1000
  span : spanB lo hi 2000 = true
  few : l.length ≤ 40
  marks : ∀ m ∈ l, okMark l0 l1 m
  asc : ascB l = true
  agr : Agrees st lo hi l
theorem checkV_zero (l0 : List S32) (l1 : List S55) (st lo hi : Int) (l : List S67) : checkV l0 l1 st lo hi l = 0 ↔ OkSkin l0 l1 st lo hi l := by
  unfold checkV
  constructor
  · intro h
    by_cases e0 : wear_checkOutline.err l0 = 0
    · rw [if_pos e0] at h
      by_cases e6 : l1.length > 6
      · rw [if_pos e6] at h; omega
      · rw [if_neg e6] at h
        by_cases eb : l1.any api_Box_wear_Check_1.bad = true
        · rw [if_pos eb] at h; omega
        · rw [if_neg eb] at h
          by_cases es : 0 ≤ st ∧ st ≤ 1000 ∧ spanB lo hi 2000 = true
          · rw [if_pos es] at h
            by_cases e40 : l.length > 40
            · rw [if_pos e40] at h; omega
            · rw [if_neg e40, markE_zero] at h
              obtain ⟨hm, hv⟩ := h
              by_cases ea : ascB l = true
              · rw [if_pos ea] at hv
                by_cases eg : l.all (agreeOne st lo hi l) = true
                · exact ⟨e0, by omega, Bool.eq_false_iff.2 eb, ⟨es.1, es.2.1⟩, es.2.2, by omega, hm, ea, (agrees_iff st lo hi l ⟨es.1, es.2.1⟩ (fun m hmm => (hm m hmm).ok)).1 eg⟩
                · rw [if_neg eg] at hv; omega
              · rw [if_neg ea] at hv; omega
          · rw [if_neg es] at h; omega
    · rw [if_neg e0] at h; exact absurd h e0
  · intro h
    rw [if_pos h.out, if_neg (show ¬ l1.length > 6 by have := h.holes; omega), if_neg (by rw [h.nobad]; decide), if_pos (show 0 ≤ st ∧ st ≤ 1000 ∧ spanB lo hi 2000 = true from ⟨h.steep.1, h.steep.2, h.span⟩), if_neg (show ¬ l.length > 40 by have := h.few; omega), markE_zero, if_pos h.asc]
    exact ⟨h.marks, if_pos ((agrees_iff st lo hi l h.steep (fun m hmm => (h.marks m hmm).ok)).2 h.agr)⟩
theorem behind_trans {a0 a1 b0 b1 c0 c1 : Int} (h : behindB b0 b1 a0 a1 = true) (h2 : behindB c0 c1 b0 b1 = true) : behindB c0 c1 a0 a1 = true := by
  unfold behindB at *
  rw [decide_eq_true_iff] at *
  omega
theorem ascB_all : ∀ (a : S67) (t : List S67), ascB (a :: t) = true → ascB t = true ∧ ∀ b ∈ t, behindB b.f0.f0 b.f0.f1 a.f0.f0 a.f0.f1 = true := by
  intro a t
  induction t generalizing a with
  | nil => intro h; simp [ascB]
  | cons b t ih =>
    intro h
    have h' : (behindB b.f0.f0 b.f0.f1 a.f0.f0 a.f0.f1 && ascB (b :: t)) = true := h
    rw [Bool.and_eq_true] at h'
    refine ⟨h'.2, ?_⟩
    rw [List.forall_mem_cons]
    exact ⟨h'.1, fun c hc => behind_trans h'.1 ((ih b h'.2).2 c hc)⟩
theorem ascB_get (l : List S67) : ascB l = true → ∀ (i j : Nat) (hi : i < j) (hj : j < l.length), behindB l[j].f0.f0 l[j].f0.f1 (l[i]'(by omega)).f0.f0 (l[i]'(by omega)).f0.f1 = true := by
  induction l with
  | nil => intro _ i j _ hj; simp at hj
  | cons a t ih =>
    intro h i j hi hj
    obtain ⟨h1, h2⟩ := ascB_all a t h
    cases j with
    | zero => omega
    | succ j =>
      have hj' : j < t.length := by simpa using hj
      cases i with
      | zero => exact h2 _ (List.getElem_mem hj')
      | succ i => exact ih h1 i j (by omega) hj'
theorem ordv_lt (a0 a1 b0 b1 : Int) : (ordv a0 a1 b0 b1 < 0) ↔ behindB b0 b1 a0 a1 = true := by
  have := ordv_ge a0 a1 b0 b1
  by_cases h : behindB b0 b1 a0 a1 = true
  · have : ¬ (0 ≤ ordv a0 a1 b0 b1) := fun h2 => this.1 h2 h
    exact ⟨fun _ => h, fun _ => by omega⟩
  · have h2 := this.2 h
    exact ⟨fun h3 => by omega, fun h3 => absurd h3 h⟩
theorem ordv_zero (a0 a1 b0 b1 : Int) : ordv a0 a1 b0 b1 = 0 ↔ a0 = b0 ∧ a1 = b1 := by
  unfold ordv cmpv
  split <;> rename_i h <;> (repeat' split at h) <;> (repeat' split) <;> omega
theorem at_spec (l : List S67) (hs : ascB l = true) (p0 p1 : Int) : ∀ (d i j : Nat), j - i ≤ d → i ≤ j → j ≤ l.length →
    (∀ t (ht : t < l.length), t < i → behindB p0 p1 l[t].f0.f0 l[t].f0.f1 = true) → (∀ t (ht : t < l.length), j ≤ t → ¬ behindB p0 p1 l[t].f0.f0 l[t].f0.f1 = true) →
    bs.at l p0 p1 i j ≤ l.length ∧ (∀ t (ht : t < l.length), t < bs.at l p0 p1 i j → behindB p0 p1 l[t].f0.f0 l[t].f0.f1 = true) ∧ (∀ t (ht : t < l.length), bs.at l p0 p1 i j ≤ t → ¬ behindB p0 p1 l[t].f0.f0 l[t].f0.f1 = true) := by
  intro d
  induction d with
  | zero =>
    intro i j hd hij hj h1 h2
    obtain rfl : i = j := by omega
    rw [bs.at_done l p0 p1 i i (by omega)]
    exact ⟨hj, h1, h2⟩
  | succ d ih =>
    intro i j hd hij hj h1 h2
    by_cases hlt : i < j
    · have hm : (i + j) / 2 < l.length := by omega
      have hrd := rd_get67 l hm
      by_cases ho : ordv (rd_T67 l ((i + j) / 2 : Nat)).f0.f0 (rd_T67 l ((i + j) / 2 : Nat)).f0.f1 p0 p1 < 0
      · rw [bs.at_up l p0 p1 i j hlt ho]
        rw [hrd, ordv_lt] at ho
        refine ih _ _ (by omega) (by omega) hj (fun t ht hti => ?_) h2
        by_cases he : t = (i + j) / 2
        · subst he; exact ho
        · exact behind_trans (ascB_get l hs t ((i + j) / 2) (by omega) hm) ho
      · rw [bs.at_down l p0 p1 i j hlt ho]
        rw [hrd, ordv_lt] at ho
        refine ih _ _ (by omega) (by omega) (by omega) h1 (fun t ht hti hb => ho ?_)
        by_cases he : t = (i + j) / 2
        · subst he; exact hb
        · exact behind_trans (ascB_get l hs ((i + j) / 2) t (by omega) ht) hb
    · obtain rfl : i = j := by omega
      rw [bs.at_done l p0 p1 i i (by omega)]
      exact ⟨hj, h1, h2⟩
def mergeM (lo hi : Int) (m : S67) : S67 := ⟨⟨m.f0.f0, m.f0.f1⟩, ⟨mx m.f1.f0 lo, mn m.f1.f1 hi⟩⟩
def newM (p0 p1 lo hi : Int) : S67 := ⟨⟨p0, p1⟩, ⟨lo, hi⟩⟩
def atB (p0 p1 : Int) (m : S67) : Bool := m.f0.f0 == p0 && m.f0.f1 == p1
def insR (p0 p1 lo hi : Int) : Bool → List S67 → List S67
  | d, [] => if d = true then [] else [newM p0 p1 lo hi]
  | d, m :: t => if atB p0 p1 m = true then mergeM lo hi m :: insR p0 p1 lo hi true t else if d = true then m :: insR p0 p1 lo hi d t else if behindB m.f0.f0 m.f0.f1 p0 p1 = true then newM p0 p1 lo hi :: m :: insR p0 p1 lo hi true t else m :: insR p0 p1 lo hi d t
theorem atB_iff (p0 p1 : Int) (m : S67) : atB p0 p1 m = true ↔ m.f0.f0 = p0 ∧ m.f0.f1 = p1 := by unfold atB; rw [Bool.and_eq_true]; simp
theorem behind_irr {a0 a1 : Int} : ¬ behindB a0 a1 a0 a1 = true := by unfold behindB; rw [decide_eq_true_iff]; omega
theorem behind_asymm {a0 a1 b0 b1 : Int} (h : behindB b0 b1 a0 a1 = true) : ¬ behindB a0 a1 b0 b1 = true := fun h2 => behind_irr (behind_trans h h2)
theorem insR_done (p0 p1 lo hi : Int) : ∀ t : List S67, (∀ m ∈ t, behindB m.f0.f0 m.f0.f1 p0 p1 = true) → insR p0 p1 lo hi true t = t := by
  intro t
  induction t with
  | nil => intro _; rfl
  | cons m t ih =>
    intro h
    rw [List.forall_mem_cons] at h
    unfold insR
    rw [if_neg (fun e => by
      obtain ⟨e1, e2⟩ := (atB_iff p0 p1 m).1 e
      have := h.1
      rw [e1, e2] at this
      exact behind_irr this), if_pos rfl, ih h.2]
theorem insR_skip (p0 p1 lo hi : Int) : ∀ (A B : List S67), (∀ m ∈ A, behindB p0 p1 m.f0.f0 m.f0.f1 = true) → insR p0 p1 lo hi false (A ++ B) = A ++ insR p0 p1 lo hi false B := by
  intro A B
  induction A with
  | nil => intro _; rfl
  | cons m t ih =>
    intro h
    rw [List.forall_mem_cons] at h
    rw [List.cons_append, List.cons_append]
    conv => lhs; unfold insR
    rw [if_neg (fun e => by
      obtain ⟨e1, e2⟩ := (atB_iff p0 p1 m).1 e
      have := h.1
      rw [e1, e2] at this
      exact behind_irr this), if_neg (show ¬ (false = true) by decide), if_neg (behind_asymm h.1), ih h.2]
theorem marks_insR (l : List S67) (hs : ascB l = true) (p0 p1 rd wr : Int) : wear_Probe.marks l p0 p1 rd wr = insR p0 p1 (mx (wrap64 (rd - wr)) 0) (mn (wrap64 (rd + wr)) 2000) false l := by
  unfold wear_Probe.marks
  generalize mx (wrap64 (rd - wr)) 0 = lo
  generalize mn (wrap64 (rd + wr)) 2000 = hi
  obtain ⟨hr, h1, h2⟩ := at_spec l hs p0 p1 l.length 0 l.length (by omega) (by omega) (Nat.le_refl _) (fun t ht h => by omega) (fun t ht h => by omega)
  generalize bs.at l p0 p1 0 l.length = r at *
  have hA : ∀ m ∈ l.take r, behindB p0 p1 m.f0.f0 m.f0.f1 = true := fun m hm => by
    obtain ⟨t, ht, rfl⟩ := List.mem_iff_getElem.1 hm
    rw [List.getElem_take]
    rw [List.length_take] at ht
    exact h1 t (by omega) (by omega)
  conv => rhs; rw [← List.take_append_drop r l]
  rw [insR_skip p0 p1 lo hi _ _ hA]
  unfold wear_Probe.put bs.there
  by_cases hlt : r < l.length
  · rw [List.drop_eq_getElem_cons hlt, decide_eq_true hlt, Bool.true_and, rd_get67 l hlt]
    have hB : ∀ m ∈ l.drop (r + 1), behindB m.f0.f0 m.f0.f1 l[r].f0.f0 l[r].f0.f1 = true := fun m hm => by
      obtain ⟨t, ht, rfl⟩ := List.mem_iff_getElem.1 hm
      rw [List.getElem_drop]
      rw [List.length_drop] at ht
      exact ascB_get l hs r (r + 1 + t) (by omega) (by omega)
    by_cases he : ordv l[r].f0.f0 l[r].f0.f1 p0 p1 = 0
    · rw [if_pos (by rw [he]; rfl)]
      have hp := (ordv_zero _ _ _ _).1 he
      rw [hp.1, hp.2] at hB
      conv => rhs; unfold insR
      rw [if_pos ((atB_iff p0 p1 l[r]).2 hp), insR_done _ _ _ _ _ hB, List.set_eq_take_append_cons_drop, if_pos hlt]
      rw [show l.getD r z67 = l[r] by simp [List.getD_eq_getElem?_getD, List.getElem?_eq_getElem hlt]]
      rfl
    · rw [if_neg (by simpa using he)]
      have hne : ¬ atB p0 p1 l[r] = true := fun e => he ((ordv_zero _ _ _ _).2 ((atB_iff _ _ _).1 e))
      have hbh : behindB l[r].f0.f0 l[r].f0.f1 p0 p1 = true := by
        have h3 := h2 r hlt (Nat.le_refl _)
        rw [atB_iff] at hne
        unfold behindB at *
        rw [decide_eq_true_iff] at *
        omega
      conv => rhs; unfold insR
      rw [if_neg hne, if_neg (show ¬ (false = true) by decide), if_pos hbh, insR_done _ _ _ _ _ (fun m hm => behind_trans hbh (hB m hm))]
      rfl
  · rw [decide_eq_false hlt, Bool.false_and, if_neg (by decide), List.drop_of_length_le (by omega)]
    rfl
end Go.Proofs.Ytcfpclehogdmbaa.Q
end
section
namespace Go.Proofs.Ytcfpclehogdmbaa.Q
open Go.RowKit Go.Proofs.YtcfpclehogdmbaaW.PrintWords Go.Proofs.YtcfpclehogdmbaaW.PrintLast Go.Proofs.YtcfpclehogdmbaaW.PrintMore
set_option linter.unusedVariables false
set_option linter.unusedSimpArgs false
def saidLow (rd wr : Int) : Int := mx (wrap64 (rd - wr)) 0
def saidHigh (rd wr : Int) : Int := mn (wrap64 (rd + wr)) 2000
def ins (l : List S67) (p0 p1 rd wr : Int) : List S67 := insR p0 p1 (saidLow rd wr) (saidHigh rd wr) false l
abbrev SkinE := List S32 × List S55 × Int × Int × Int × List S67 × Int
def errSkin (e : Int) : SkinE := ([], [], 0, 0, 0, [], e)
def probeV (l0 : List S32) (l1 : List S55) (st lo hi : Int) (l : List S67) (p0 p1 rd wr : Int) : SkinE :=
  if checkV l0 l1 st lo hi l = 0 then
    (if wear_has.b l0 l1 p0 p1 = true then (if 0 ≤ rd ∧ rd ≤ 2000 then (if 0 ≤ wr ∧ wr ≤ 2000 then
      (if 40 < (ins l p0 p1 rd wr).length then errSkin 3 else if checkV l0 l1 st lo hi (ins l p0 p1 rd wr) = 0 then (l0, l1, st, lo, hi, ins l p0 p1 rd wr, 0) else errSkin 10)
      else errSkin 1) else errSkin 1) else errSkin 7)
  else errSkin (checkV l0 l1 st lo hi l)
theorem ins_marks (l : List S67) (hs : ascB l = true) (p0 p1 rd wr : Int) : wear_Probe.marks l p0 p1 rd wr = ins l p0 p1 rd wr := marks_insR l hs p0 p1 rd wr
theorem probe_wear (l0 : List S32) (l1 : List S55) (st lo hi : Int) (l : List S67) (p0 p1 rd wr : Int) (h0 : l0.length < 1000) (h1 : l1.length < 1000) (hl : l.length < 900) :
    Tells (fun k => wear_Probe.f k l0 l1 st lo hi l p0 p1 rd wr) (probeV l0 l1 st lo hi l p0 p1 rd wr) := by
  unfold wear_Probe.f probeV
  refine Tells.bind (check_wear l0 l1 st lo hi l (by omega) (by omega) (by omega)) ?_
  by_cases e0 : checkV l0 l1 st lo hi l = 0
  · simp only [if_pos e0]
    have hs := ((checkV_zero l0 l1 st lo hi l).1 e0).asc
    by_cases eh : wear_has.b l0 l1 p0 p1 = true
    · simp only [if_pos eh]
      by_cases e1 : 0 ≤ rd ∧ rd ≤ 2000
      · simp only [if_pos e1]
        by_cases e2 : 0 ≤ wr ∧ wr ≤ 2000
        · simp only [if_pos e2, if_pos (show l0.length < 1000 ∧ l1.length < 1000 ∧ l.length < 900 from ⟨h0, h1, hl⟩), ins_marks l hs]
          by_cases e3 : 40 < (ins l p0 p1 rd wr).length
          · simp only [if_pos e3]; exact Tells.const fun _ => rfl
          · simp only [if_neg e3]
            refine Tells.bind (check_wear l0 l1 st lo hi _ (by omega) (by omega) (by omega)) ?_
            by_cases e4 : checkV l0 l1 st lo hi (ins l p0 p1 rd wr) = 0
            · simp only [if_pos e4]; exact Tells.const fun _ => rfl
            · simp only [if_neg e4]; exact Tells.const fun _ => rfl
        · simp only [if_neg e2]; exact Tells.const fun _ => rfl
      · simp only [if_neg e1]; exact Tells.const fun _ => rfl
    · simp only [if_neg eh]; exact Tells.const fun _ => rfl
  · simp only [if_neg e0]; exact Tells.const fun _ => rfl
structure ProbeOk (l0 : List S32) (l1 : List S55) (st lo hi : Int) (l : List S67) (p0 p1 rd wr : Int) : Prop where
  ok : OkSkin l0 l1 st lo hi l
  has : wear_has.b l0 l1 p0 p1 = true
  hrd : 0 ≤ rd ∧ rd ≤ 2000
  hwr : 0 ≤ wr ∧ wr ≤ 2000
  next : OkSkin l0 l1 st lo hi (ins l p0 p1 rd wr)
theorem probeV_ok {l0 : List S32} {l1 : List S55} {st lo hi : Int} {l : List S67} {p0 p1 rd wr : Int} (h : ProbeOk l0 l1 st lo hi l p0 p1 rd wr) : probeV l0 l1 st lo hi l p0 p1 rd wr = (l0, l1, st, lo, hi, ins l p0 p1 rd wr, 0) := by
  unfold probeV
  rw [if_pos ((checkV_zero ..).2 h.ok), if_pos h.has, if_pos h.hrd, if_pos h.hwr, if_neg (show ¬ 40 < (ins l p0 p1 rd wr).length by have := h.next.few; omega), if_pos ((checkV_zero ..).2 h.next)]
def look (l : List S67) (q : Int × Int) : Option (Int × Int) := (l.find? (atB q.1 q.2)).map fun m => (m.f1.f0, m.f1.f1)
def mergeS (a : Option (Int × Int)) (lo hi : Int) : Int × Int := match a with | none => (lo, hi) | some s => (max s.1 lo, min s.2 hi)
theorem look_nil (q : Int × Int) : look [] q = none := rfl
theorem look_cons (m : S67) (t : List S67) (q : Int × Int) : look (m :: t) q = if atB q.1 q.2 m = true then some (m.f1.f0, m.f1.f1) else look t q := by
  unfold look
  rw [List.find?_cons]
  by_cases h : atB q.1 q.2 m = true
  · rw [if_pos h, h]; rfl
  · rw [if_neg h, Bool.eq_false_iff.2 h]
theorem atB_new (p0 p1 lo hi : Int) (q : Int × Int) : atB q.1 q.2 (newM p0 p1 lo hi) = true ↔ q = (p0, p1) := by
  rw [atB_iff]
  obtain ⟨a, b⟩ := q
  simp only [newM, Prod.mk.injEq]
  constructor <;> rintro ⟨rfl, rfl⟩ <;> exact ⟨rfl, rfl⟩
theorem atB_merge (lo hi : Int) (m : S67) (q : Int × Int) : atB q.1 q.2 (mergeM lo hi m) = atB q.1 q.2 m := rfl
theorem look_after (a : S67) (t : List S67) (h : ∀ b ∈ t, behindB b.f0.f0 b.f0.f1 a.f0.f0 a.f0.f1 = true) {p0 p1 : Int} (hp : behindB a.f0.f0 a.f0.f1 p0 p1 = true ∨ (a.f0.f0 = p0 ∧ a.f0.f1 = p1)) : look t (p0, p1) = none := by
  unfold look
  rw [Option.map_eq_none_iff, List.find?_eq_none]
  intro b hb e
  obtain ⟨e1, e2⟩ := (atB_iff _ _ _).1 e
  have h2 := h b hb
  rw [e1, e2] at h2
  rcases hp with hp | hp
  · exact behind_asymm hp h2
  · rw [hp.1, hp.2] at h2; exact behind_irr h2
theorem look_insR (p0 p1 lo hi : Int) (q : Int × Int) : ∀ l : List S67, ascB l = true → look (insR p0 p1 lo hi false l) q = if q = (p0, p1) then some (mergeS (look l q) lo hi) else look l q := by
  intro l
  induction l with
  | nil =>
    intro _
    show look [newM p0 p1 lo hi] q = _
    rw [look_cons, look_nil]
    by_cases h : q = (p0, p1)
    · rw [if_pos ((atB_new ..).2 h), if_pos h]; rfl
    · rw [if_neg (fun e => h ((atB_new ..).1 e)), if_neg h]
  | cons m t ih =>
    intro hs
    obtain ⟨hs1, hs2⟩ := ascB_all m t hs
    unfold insR
    by_cases c0 : atB p0 p1 m = true
    · have hm := (atB_iff _ _ _).1 c0
      rw [if_pos c0, insR_done _ _ _ _ t (fun b hb => by have := hs2 b hb; rwa [hm.1, hm.2] at this), look_cons, look_cons, atB_merge]
      by_cases h : q = (p0, p1)
      · subst h
        rw [if_pos c0, if_pos rfl, if_pos c0]
        simp only [mergeM, mergeS, mx_max, mn_min]
      · rw [if_neg h]
        have hq : ¬ atB q.1 q.2 m = true := fun e => h (by
          obtain ⟨e1, e2⟩ := (atB_iff _ _ _).1 e
          obtain ⟨a, b⟩ := q
          simp only at e1 e2
          rw [← e1, ← e2, hm.1, hm.2])
        rw [if_neg hq, if_neg hq]
    · rw [if_neg c0, if_neg (show ¬ (false = true) by decide)]
      by_cases c1 : behindB m.f0.f0 m.f0.f1 p0 p1 = true
      · rw [if_pos c1, insR_done _ _ _ _ t (fun b hb => behind_trans c1 (hs2 b hb)), look_cons]
        by_cases h : q = (p0, p1)
        · subst h
          rw [if_pos ((atB_new ..).2 rfl), if_pos rfl, look_cons, if_neg c0, look_after m t hs2 (Or.inl c1)]
          rfl
        · rw [if_neg (fun e => h ((atB_new ..).1 e)), if_neg h]
      · rw [if_neg c1, look_cons, look_cons, ih hs1]
        by_cases h : q = (p0, p1)
        · subst h
          rw [if_neg c0, if_pos rfl, if_pos rfl, if_neg c0]
        · rw [if_neg h, if_neg h]
theorem insR_mem (p0 p1 lo hi : Int) : ∀ (l : List S67) (d : Bool) (b : S67), b ∈ insR p0 p1 lo hi d l → (b.f0.f0 = p0 ∧ b.f0.f1 = p1) ∨ b ∈ l := by
  intro l
  induction l with
  | nil =>
    intro d b h
    unfold insR at h
    cases d with
    | true => simp at h
    | false =>
      rw [if_neg (show ¬ (false = true) by decide), List.mem_singleton] at h
      subst h
      exact Or.inl ⟨rfl, rfl⟩
  | cons m t ih =>
    intro d b h
    unfold insR at h
    split at h
    · rename_i c0
      rcases List.mem_cons.1 h with rfl | h
      · exact Or.inl ((atB_iff _ _ _).1 c0)
      · exact (ih _ _ h).imp_right (List.mem_cons_of_mem _)
    · split at h
      · rcases List.mem_cons.1 h with rfl | h
        · exact Or.inr List.mem_cons_self
        · exact (ih _ _ h).imp_right (List.mem_cons_of_mem _)
      · split at h
        · rcases List.mem_cons.1 h with rfl | h
          · exact Or.inl ⟨rfl, rfl⟩
          · rcases List.mem_cons.1 h with rfl | h
            · exact Or.inr List.mem_cons_self
            · exact (ih _ _ h).imp_right (List.mem_cons_of_mem _)
        · rcases List.mem_cons.1 h with rfl | h
          · exact Or.inr List.mem_cons_self
          · exact (ih _ _ h).imp_right (List.mem_cons_of_mem _)
theorem ascB_cons (a : S67) (t : List S67) (h : ascB t = true) (h2 : ∀ b ∈ t, behindB b.f0.f0 b.f0.f1 a.f0.f0 a.f0.f1 = true) : ascB (a :: t) = true := by
  cases t with
  | nil => rfl
  | cons b t =>
    show (behindB b.f0.f0 b.f0.f1 a.f0.f0 a.f0.f1 && ascB (b :: t)) = true
    rw [h, h2 b List.mem_cons_self]
    rfl
theorem behind_total {a0 a1 b0 b1 : Int} (h : ¬ behindB a0 a1 b0 b1 = true) (h2 : ¬ (a0 = b0 ∧ a1 = b1)) : behindB b0 b1 a0 a1 = true := by
  unfold behindB at *
  rw [decide_eq_true_iff] at *
  omega
theorem asc_insR (p0 p1 lo hi : Int) : ∀ l : List S67, ascB l = true → ascB (insR p0 p1 lo hi false l) = true := by
  intro l
  induction l with
  | nil => intro _; rfl
  | cons m t ih =>
    intro hs
    obtain ⟨hs1, hs2⟩ := ascB_all m t hs
    unfold insR
    by_cases c0 : atB p0 p1 m = true
    · have hm := (atB_iff _ _ _).1 c0
      rw [if_pos c0, insR_done _ _ _ _ t (fun b hb => by have := hs2 b hb; rwa [hm.1, hm.2] at this)]
      exact ascB_cons _ _ hs1 hs2
    · rw [if_neg c0, if_neg (show ¬ (false = true) by decide)]
      by_cases c1 : behindB m.f0.f0 m.f0.f1 p0 p1 = true
      · rw [if_pos c1, insR_done _ _ _ _ t (fun b hb => behind_trans c1 (hs2 b hb))]
        refine ascB_cons _ _ hs ?_
        rw [List.forall_mem_cons]
        exact ⟨c1, fun b hb => behind_trans c1 (hs2 b hb)⟩
      · rw [if_neg c1]
        refine ascB_cons _ _ (ih hs1) fun b hb => ?_
        rcases insR_mem _ _ _ _ _ _ _ hb with h | h
        · rw [h.1, h.2]
          exact behind_total c1 (fun e => c0 ((atB_iff _ _ _).2 e))
        · exact hs2 b h
theorem ins_asc {l : List S67} (h : ascB l = true) (p0 p1 rd wr : Int) : ascB (ins l p0 p1 rd wr) = true := asc_insR _ _ _ _ l h
theorem look_mem {l : List S67} (hs : ascB l = true) {m : S67} (hm : m ∈ l) : look l (m.f0.f0, m.f0.f1) = some (m.f1.f0, m.f1.f1) := by
  induction l with
  | nil => simp at hm
  | cons a t ih =>
    obtain ⟨hs1, hs2⟩ := ascB_all a t hs
    rw [look_cons]
    rcases List.mem_cons.1 hm with rfl | h
    · rw [if_pos ((atB_iff _ _ _).2 ⟨rfl, rfl⟩)]
    · rw [if_neg (fun e => by
        obtain ⟨e1, e2⟩ := (atB_iff _ _ _).1 e
        have := hs2 m h
        rw [show m.f0.f0 = a.f0.f0 from e1.symm, show m.f0.f1 = a.f0.f1 from e2.symm] at this
        exact behind_irr this), ih hs1 h]
theorem mem_look {l : List S67} {q s : Int × Int} (h : look l q = some s) : (⟨⟨q.1, q.2⟩, ⟨s.1, s.2⟩⟩ : S67) ∈ l := by
  unfold look at h
  obtain ⟨m, hm, he⟩ := Option.map_eq_some_iff.1 h
  have h1 := List.find?_some hm
  have h2 := List.mem_of_find?_eq_some hm
  obtain ⟨e1, e2⟩ := (atB_iff _ _ _).1 h1
  subst he
  rw [← e1, ← e2]
  exact h2
end Go.Proofs.Ytcfpclehogdmbaa.Q
end
section
namespace Go.Proofs.Ytcfpclehogdmbaa.Q
open Go.RowKit Go.Proofs.YtcfpclehogdmbaaW.PrintWords Go.Proofs.YtcfpclehogdmbaaW.PrintLast Go.Proofs.YtcfpclehogdmbaaW.PrintMore
set_option linter.unusedVariables false
set_option linter.unusedSimpArgs false
def insX (l : List S67) (x : S43) : List S67 := ins l x.f0.f0 x.f0.f1 x.f1 x.f2
abbrev Looks := Int × Int → Option (Int × Int)
def stepX (g : Looks) (x : S43) : Looks := fun q => if q = (x.f0.f0, x.f0.f1) then some (mergeS (g q) (saidLow x.f1 x.f2) (saidHigh x.f1 x.f2)) else g q
theorem look_ins (l : List S67) (hs : ascB l = true) (x : S43) : look (insX l x) = stepX (look l) x := by
  funext q
  exact look_insR _ _ _ _ q l hs
theorem said_in (rd wr : Int) (h : 0 ≤ rd ∧ rd ≤ 2000) (h2 : 0 ≤ wr ∧ wr ≤ 2000) : saidLow rd wr = max (rd - wr) 0 ∧ saidHigh rd wr = min (rd + wr) 2000 := by
  unfold saidLow saidHigh
  rw [mx_max, mn_min, wrap_in (by omega) (by omega), wrap_in (by omega) (by omega)]
  exact ⟨rfl, rfl⟩
structure Inv (l0 : List S32) (l1 : List S55) (l : List S67) : Prop where
  asc : ascB l = true
  all : ∀ m ∈ l, wear_has.b l0 l1 m.f0.f0 m.f0.f1 = true ∧ 0 ≤ m.f1.f0 ∧ m.f1.f1 ≤ 2000
theorem OkSkin.inv {l0 : List S32} {l1 : List S55} {st lo hi : Int} {l : List S67} (h : OkSkin l0 l1 st lo hi l) : Inv l0 l1 l :=
  ⟨h.asc, fun m hm => ⟨(h.marks m hm).1, (h.marks m hm).ok.2.1, (h.marks m hm).ok.2.2.2⟩⟩
def goodX (l0 : List S32) (l1 : List S55) (x : S43) : Prop := wear_has.b l0 l1 x.f0.f0 x.f0.f1 = true ∧ (0 ≤ x.f1 ∧ x.f1 ≤ 2000) ∧ (0 ≤ x.f2 ∧ x.f2 ≤ 2000)
theorem Inv.ins {l0 : List S32} {l1 : List S55} {l : List S67} (h : Inv l0 l1 l) {x : S43} (hx : goodX l0 l1 x) : Inv l0 l1 (insX l x) := by
  have hs := ins_asc h.asc x.f0.f0 x.f0.f1 x.f1 x.f2
  refine ⟨hs, fun m hm => ?_⟩
  have e := look_mem hs hm
  have e2 : look (insX l x) (m.f0.f0, m.f0.f1) = some (m.f1.f0, m.f1.f1) := e
  rw [look_ins l h.asc] at e2
  unfold stepX at e2
  obtain ⟨s1, s2⟩ := said_in x.f1 x.f2 hx.2.1 hx.2.2
  by_cases c : (m.f0.f0, m.f0.f1) = (x.f0.f0, x.f0.f1)
  · rw [if_pos c] at e2
    obtain ⟨c1, c2⟩ := Prod.mk.inj c
    refine ⟨by rw [c1, c2]; exact hx.1, ?_⟩
    rw [s1, s2] at e2
    have e3 := Option.some.inj e2
    obtain ⟨a1, a2⟩ := Prod.mk.inj e3
    cases hg : look l (m.f0.f0, m.f0.f1) with
    | none =>
      rw [hg] at a1 a2
      simp only [mergeS] at a1 a2
      omega
    | some s =>
      rw [hg] at a1 a2
      simp only [mergeS] at a1 a2
      have := h.all _ (mem_look hg)
      simp only at this
      omega
  · rw [if_neg c] at e2
    exact h.all m (mem_look e2)
structure AllOk (l0 : List S32) (l1 : List S55) (st lo hi : Int) (l : List S67) (xs : List S43) : Prop where
  ok : OkSkin l0 l1 st lo hi l
  good : ∀ x ∈ xs, goodX l0 l1 x
  last : OkSkin l0 l1 st lo hi (xs.foldl insX l)
end Go.Proofs.Ytcfpclehogdmbaa.Q
end
section
namespace Go.Proofs.Ytcfpclehogdmbaa.Q
open Go.RowKit Go.Proofs.YtcfpclehogdmbaaW.PrintWords Go.Proofs.YtcfpclehogdmbaaW.PrintLast Go.Proofs.YtcfpclehogdmbaaW.PrintMore
attribute [local go_sem] max2_int min2_int max_two min_two max_three min_three max_four min_four   -- for this text's walks alone
set_option linter.unusedVariables false
set_option linter.unusedSimpArgs false
def thatchlaw07_long.f (a0 : Int) : Option (Bool) := if a0 < (-9999999999) then (some true) else (some (decide (a0 > 9999999999)))
set_option maxHeartbeats 8000000 in
set_option maxRecDepth 100000 in
theorem thatchlaw07_long.calls (a0 : Int) (r : Bool) (w : World) (h : thatchlaw07_long.f a0 = some r) :
  Calls Try.prog 18 #[.int .i64 a0] w fun e w' => e = .returned (.bool r) ∧ Drawn0 w w' := by
 have H : (if a0 < (-9999999999) then (some true) else (some (decide (a0 > 9999999999)))) = some r := h
 clear h
 by_cases c2 : a0 < (-9999999999)
 ·rw [if_pos c2] at H
  have c2b0 : decide (a0 < (-9999999999)) = true := decide_eq_true c2
  clear c2
  obtain rfl := Option.some.inj H
  go_enter Try.func18, Try.ntmps18
  go_wp2
  go_ret
  exact ⟨by first | rfl | (simp; done) | (simp [*]; done), by repeat (first | exact Drawn0.refl _ | apply Drawn0.step)⟩
 rw [if_neg c2] at H
 have c2b0 : decide (a0 < (-9999999999)) = false := decide_eq_false c2
 clear c2
 obtain rfl := Option.some.inj H
 go_enter Try.func18, Try.ntmps18
 go_wp2
 go_ret
 exact ⟨by first | rfl | (simp; done) | (simp [*]; done), by repeat (first | exact Drawn0.refl _ | apply Drawn0.step)⟩
mutual
def thatchlaw07_Great.j0 : Nat → Bool → List (S32) → List (S55) → Int → Int → Int → List (S67) → Option (Bool)
 | 0, _, _, _, _, _, _, _ => none
 | k + 1, x22, x102000, x102001, x102002, x102003, x102004, x102005 => if x22 = true then (some true) else (thatchlaw07_Great.l0 k 0 x102000 x102001 x102002 x102003 x102004 x102005)
def thatchlaw07_Great.l0 : Nat → Int → List (S32) → List (S55) → Int → Int → Int → List (S67) → Option (Bool)
 | 0, _, _, _, _, _, _, _ => none
 | k + 1, x3, x102000, x102001, x102002, x102003, x102004, x102005 => if x3 < (x102001.length : Int) then (if 0 ≤ x3 then ((thatchlaw07_long.f ((rd_T55 x102001 x3).f0.f0)).bind fun t104 => (if t104 = true then (some true) else ((thatchlaw07_long.f ((rd_T55 x102001 x3).f0.f1)).bind fun t105 => (if t105 = true then (some true) else ((thatchlaw07_long.f ((rd_T55 x102001 x3).f1.f0)).bind fun t106 => (if t106 = true then (some true) else ((thatchlaw07_long.f ((rd_T55 x102001 x3).f1.f1)).bind fun t107 => (if t107 = true then (some true) else (thatchlaw07_Great.l0 k (wrap64 (x3 + 1)) x102000 x102001 x102002 x102003 x102004 x102005))))))))) else (none)) else (some false)
end
def thatchlaw07_Great.f (k : Nat) (l0_0 : List (S32)) (l0_1 : List (S55)) (a0_2 : Int) (a0_3 : Int) (a0_4 : Int) (l0_5 : List (S67)) : Option (Bool) := if (l0_0.length : Int) > 30 then (thatchlaw07_Great.j0 k true l0_0 l0_1 a0_2 a0_3 a0_4 l0_5) else (if (l0_1.length : Int) > 30 then (thatchlaw07_Great.j0 k true l0_0 l0_1 a0_2 a0_3 a0_4 l0_5) else (thatchlaw07_Great.j0 k (decide ((l0_5.length : Int) > 60)) l0_0 l0_1 a0_2 a0_3 a0_4 l0_5))
set_option maxHeartbeats 8000000 in
set_option maxRecDepth 100000 in
theorem thatchlaw07_Great.calls (k : Nat) (A0_0 : Option Addr) (c0_0 : Nat) (l0_0 : List (S32)) (A0_1 : Option Addr) (c0_1 : Nat) (l0_1 : List (S55)) (a0_2 : Int) (a0_3 : Int) (a0_4 : Int) (A0_5 : Option Addr) (c0_5 : Nat) (l0_5 : List (S67)) (r : Bool) (w : World) (hr0_0 : Kd.C k32 w A0_0 l0_0.length l0_0) (hc0_0 : l0_0.length ≤ c0_0) (hr0_1 : Kd.C k55 w A0_1 l0_1.length l0_1) (hc0_1 : l0_1.length ≤ c0_1) (hr0_5 : Kd.C k67 w A0_5 l0_5.length l0_5) (hc0_5 : l0_5.length ≤ c0_5) (h : thatchlaw07_Great.f k l0_0 l0_1 a0_2 a0_3 a0_4 l0_5 = some r) :
  Calls Try.prog 7 #[.agg #[.slice A0_0 l0_0.length c0_0, .slice A0_1 l0_1.length c0_1, .int .i64 a0_2, .int .i64 a0_3, .int .i64 a0_4, .slice A0_5 l0_5.length c0_5]] w fun e w' => e = .returned (.bool r) ∧ Below w.heap.size w w' := by
 have hu30 := Try.underlying30
 have hu55 := Try.underlying55
 have HR0_0 := Aside0.mk hr0_0
 have HC0_0 := Aside0.mk hc0_0
 clear hr0_0 hc0_0
 have HR0_1 := Aside0.mk hr0_1
 have HC0_1 := Aside0.mk hc0_1
 clear hr0_1 hc0_1
 have HR0_5 := Aside0.mk hr0_5
 have HC0_5 := Aside0.mk hc0_5
 clear hr0_5 hc0_5
 have HB := Aside0.mk (Below.refl w.heap.size w)
 have H : (if (l0_0.length : Int) > 30 then (thatchlaw07_Great.j0 k true l0_0 l0_1 a0_2 a0_3 a0_4 l0_5) else (if (l0_1.length : Int) > 30 then (thatchlaw07_Great.j0 k true l0_0 l0_1 a0_2 a0_3 a0_4 l0_5) else (thatchlaw07_Great.j0 k (decide ((l0_5.length : Int) > 60)) l0_0 l0_1 a0_2 a0_3 a0_4 l0_5))) = some r := h
 clear h
 have HC2 := Aside0.mk H
 clear H
 go_enter Try.func7, Try.ntmps7
 go_upto_region 1 with (first | ((with_reducible refine gate_dst (N := 1) rfl ?_); (try (refine gate_guard (by rfl) ?_; dsimp only)); refine zx 1 #[.slice A0_0 l0_0.length c0_0, .slice A0_1 l0_1.length c0_1, .int .i64 a0_2, .int .i64 a0_3, .int .i64 a0_4, .slice A0_5 l0_5.length c0_5] 30 ?_; intro gb101 hg w3 hbox hb; have n0_ := zY HB hb; have n1_ := Aside0.mk (hbox); have n2_ := zS hg HB; have n3_ := zS hg HB; clear HB; have HB := n0_; have BK101 := n1_; have GW101 := n2_; have GE101 := n3_; clear n0_ n1_ n2_ n3_; clear hb hbox hg))
 (try simp only [Act.put, List.setIfInBounds_toArray, List.set_cons_zero, List.set_cons_succ])
 go_cut [22] (fun v22 wc => ∃ (kq : Nat) (x22_1 : Bool), v22 = .bool x22_1 ∧ Aside0 (thatchlaw07_Great.j0 kq x22_1 l0_0 l0_1 a0_2 a0_3 a0_4 l0_5 = some r) ∧ Aside0 (kq ≤ k) ∧ Aside0 (wc.heap[gb101]? = some (.cells #[(.slice A0_0 l0_0.length c0_0), (.slice A0_1 l0_1.length c0_1), .int .i64 a0_2, .int .i64 a0_3, .int .i64 a0_4, (.slice A0_5 l0_5.length c0_5)] 30 (0, 0))) ∧ Aside0 (Below w.heap.size w wc))
 case first =>
  have H := HC2.out
  clear HC2
  by_cases c4 : (l0_0.length : Int) > 30
  ·rw [if_pos c4] at H
   have c4b0 : decide (30 < (l0_0.length : Int)) = true := decide_eq_true c4
   have c4b1 : decide (30 < l0_0.length) = true := decide_eq_true (by omega)
   clear c4
   (first | rw [c4b0] | (simp only [i64_w, i32_w]; rw [c4b0]) | skip)
   have H' := Aside0.mk H
   clear H
   obtain ⟨hcz5_0, hcz5_1, hcz5_2, hcz5_3, hcz5_4, hcz5_5, hfz5_0, hfz5_1, hfz5_2, hfz5_3, hfz5_4, hfz5_5⟩ := zk6 BK101
   go_wp2
   go_meet
   case rel => exact ⟨_, (true), zq, H', ⟨by first | omega | exact Nat.le_refl _⟩, ⟨zb BK101⟩, ⟨zw HB⟩⟩
  rw [if_neg c4] at H
  have c4b0 : decide (30 < (l0_0.length : Int)) = false := decide_eq_false c4
  have c4b1 : decide (30 < l0_0.length) = false := decide_eq_false (by omega)
  clear c4
  (first | rw [c4b0] | (simp only [i64_w, i32_w]; rw [c4b0]) | skip)
  by_cases c6 : (l0_1.length : Int) > 30
  ·rw [if_pos c6] at H
   have c6b0 : decide (30 < (l0_1.length : Int)) = true := decide_eq_true c6
   have c6b1 : decide (30 < l0_1.length) = true := decide_eq_true (by omega)
   clear c6
   have H' := Aside0.mk H
   clear H
   obtain ⟨hcz7_0, hcz7_1, hcz7_2, hcz7_3, hcz7_4, hcz7_5, hfz7_0, hfz7_1, hfz7_2, hfz7_3, hfz7_4, hfz7_5⟩ := zk6 BK101
   go_wp2
   go_meet
   case rel => exact ⟨_, (true), zq, H', ⟨by first | omega | exact Nat.le_refl _⟩, ⟨zb BK101⟩, ⟨zw HB⟩⟩
  rw [if_neg c6] at H
  have c6b0 : decide (30 < (l0_1.length : Int)) = false := decide_eq_false c6
  have c6b1 : decide (30 < l0_1.length) = false := decide_eq_false (by omega)
  clear c6
  have H' := Aside0.mk H
  clear H
  obtain ⟨hcz8_0, hcz8_1, hcz8_2, hcz8_3, hcz8_4, hcz8_5, hfz8_0, hfz8_1, hfz8_2, hfz8_3, hfz8_4, hfz8_5⟩ := zk6 BK101
  go_wp2
  go_meet
  case rel => exact ⟨_, (decide ((l0_5.length : Int) > 60)), zq, H', ⟨by first | omega | exact Nat.le_refl _⟩, ⟨zb BK101⟩, ⟨zw HB⟩⟩
 case rest =>
  clear HC2; try clear p2; try clear c4; try clear c4b0; try clear c4b1; try clear c6; try clear c6b0; try clear c6b1; try clear c7; try clear hcz5_0 hcz5_1 hcz5_2 hcz5_3 hcz5_4 hcz5_5; try clear hcz7_0 hcz7_1 hcz7_2 hcz7_3 hcz7_4 hcz7_5; try clear hcz8_0 hcz8_1 hcz8_2 hcz8_3 hcz8_4 hcz8_5; try clear hfz5_0 hfz5_1 hfz5_2 hfz5_3 hfz5_4 hfz5_5; try clear hfz7_0 hfz7_1 hfz7_2 hfz7_3 hfz7_4 hfz7_5; try clear hfz8_0 hfz8_1 hfz8_2 hfz8_3 hfz8_4 hfz8_5
  obtain ⟨kq, x22_1, rfl, HA, HJ1, BK101, HB⟩ := hcut
  cases kq with
  | zero => exact absurd HA.out (by simp [thatchlaw07_Great.j0])
  | succ kj1 =>
   have H := HA.out
   clear HA
   simp only [thatchlaw07_Great.j0] at H
   by_cases c9 : x22_1 = true
   ·subst c9
    have H1 : (some true) = some r := by rw [if_pos rfl] at H; exact H
    clear H
    have H := H1
    clear H1
    obtain rfl := Option.some.inj H
    go_wp2
    go_ret
    exact ⟨ze, zw HB⟩
   replace c9 := Bool.eq_false_iff.mpr c9
   subst c9
   have H1 : (thatchlaw07_Great.l0 kj1 0 l0_0 l0_1 a0_2 a0_3 a0_4 l0_5) = some r := by rw [if_neg (show ¬ (false = true) by decide)] at H; exact H
   clear H
   have H := H1
   clear H1
   have H' := Aside0.mk H
   clear H
   go_wp2
   go_loopg [3] kj1 (fun kq v3 w' => ∃ (x3_2 : Int), v3 = .int .i64 x3_2 ∧ Aside0 (thatchlaw07_Great.l0 kq x3_2 l0_0 l0_1 a0_2 a0_3 a0_4 l0_5 = some r) ∧ Aside0 (kq ≤ kj1) ∧ Aside0 (w'.heap[gb101]? = some (.cells #[(.slice A0_0 l0_0.length c0_0), (.slice A0_1 l0_1.length c0_1), .int .i64 a0_2, .int .i64 a0_3, .int .i64 a0_4, (.slice A0_5 l0_5.length c0_5)] 30 (0, 0))) ∧ Aside0 (Below w.heap.size w w'))
   case atStart => exact ⟨(0), zq, H', ⟨Nat.le_refl _⟩, ⟨zb BK101⟩, ⟨zw HB⟩⟩
   case round =>
    clear H'; try clear p2; try clear c4; try clear c4b0; try clear c4b1; try clear c6; try clear c6b0; try clear c6b1; try clear c7; try clear c9; try clear hcz5_0 hcz5_1 hcz5_2 hcz5_3 hcz5_4 hcz5_5; try clear hcz7_0 hcz7_1 hcz7_2 hcz7_3 hcz7_4 hcz7_5; try clear hcz8_0 hcz8_1 hcz8_2 hcz8_3 hcz8_4 hcz8_5; try clear hfz5_0 hfz5_1 hfz5_2 hfz5_3 hfz5_4 hfz5_5; try clear hfz7_0 hfz7_1 hfz7_2 hfz7_3 hfz7_4 hfz7_5; try clear hfz8_0 hfz8_1 hfz8_2 hfz8_3 hfz8_4 hfz8_5; try clear p2
    obtain ⟨x3_2, rfl, HA, HK2, BK101, HB⟩ := hrel
    cases gk with
    | zero => exact absurd HA.out (by simp [thatchlaw07_Great.l0])
    | succ k2 =>
     have H := HA.out
     clear HA
     simp only [thatchlaw07_Great.l0] at H
     by_cases c10 : x3_2 < (l0_1.length : Int)
     ·rw [if_pos c10] at H
      have c10b0 : decide (x3_2 < (l0_1.length : Int)) = true := decide_eq_true c10
      clear c10
      by_cases c11 : 0 ≤ x3_2
      ·rw [if_pos c11] at H
       have c11b0 : decide (0 ≤ x3_2) = true := decide_eq_true c11
       clear c11
       replace H := Option.bind_eq_some_iff.mp H
       obtain ⟨t104, A120, H⟩ := H
       replace H : (if t104 = true then (some true) else ((thatchlaw07_long.f ((rd_T55 l0_1 x3_2).f0.f1)).bind fun t105 => (if t105 = true then (some true) else ((thatchlaw07_long.f ((rd_T55 l0_1 x3_2).f1.f0)).bind fun t106 => (if t106 = true then (some true) else ((thatchlaw07_long.f ((rd_T55 l0_1 x3_2).f1.f1)).bind fun t107 => (if t107 = true then (some true) else (thatchlaw07_Great.l0 k2 (wrap64 (x3_2 + 1)) l0_0 l0_1 a0_2 a0_3 a0_4 l0_5)))))))) = some r := H
       have A12 := Aside0.mk A120
       clear A120
       by_cases c13 : t104 = true
       ·subst c13
        have H1 : (some true) = some r := by rw [if_pos rfl] at H; exact H
        clear H
        have H := H1
        clear H1
        obtain rfl := Option.some.inj H
        obtain ⟨hcz14_0, hcz14_1, hcz14_2, hcz14_3, hcz14_4, hcz14_5, hfz14_0, hfz14_1, hfz14_2, hfz14_3, hfz14_4, hfz14_5⟩ := zk6 BK101
        have p102 : 0 ≤ (x3_2 : Int) := of_decide_eq_true zj
        have q102 : x3_2 < (l0_1.length : Int) := of_decide_eq_true zj
        obtain ⟨ad102, e102, hx102_0, hx102_1, hx102_2, hx102_3⟩ := at_T55 HR0_1.out x3_2 p102 q102
        cases e102
        replace hx102_0 := zu hx102_0 HB
        replace hx102_1 := zu hx102_1 HB
        replace hx102_2 := zu hx102_2 HB
        replace hx102_3 := zu hx102_3 HB
        replace p102 := eq_true p102
        replace q102 := eq_true q102
        go_wp2_with (first | ((with_reducible refine gate_dst (N := 4) rfl ?_); (try (refine gate_guard (by rfl) ?_; dsimp only)); refine zx 4 #[.int .i64 0, .int .i64 0, .int .i64 0, .int .i64 0] 55 ?_; intro gb103 hg w15 hbox hb; have n0_ := zD BK101 hb; have n1_ := zY HB hb; have n2_ := Aside0.mk (hbox); have n3_ := zS hg HB; have n4_ := zS hg HB; have n5_ := zN hg BK101; have n6_ := zM hg BK101; clear BK101; clear HB; have BK101 := n0_; have HB := n1_; have BK103 := n2_; have GW103 := n3_; have GE103 := n4_; have NB101_103 := n5_; have NB103_101 := n6_; clear n0_ n1_ n2_ n3_ n4_ n5_ n6_; clear hb hbox hg; have hnb16 := NB103_101.out; have hnc16 := NB101_103.out; obtain ⟨hcz17_0, hcz17_1, hcz17_2, hcz17_3, hfz17_0, hfz17_1, hfz17_2, hfz17_3⟩ := zk4 BK103) | ((with_reducible refine gate_callee (f := 18) rfl ?_); refine goesL_ (some 40) rfl rfl Try.func18 (by kernel_rfl) rfl #[.int .i64 ((rd_T55 l0_1 x3_2).f0.f0)] rfl za ?_; (with_reducible refine (thatchlaw07_long.calls ((rd_T55 l0_1 x3_2).f0.f0) true _ A12.out).mono ?_); rintro e w' ⟨rfl, ⟨nd, rfl⟩⟩; refine ⟨_, rfl, ?_⟩))
        go_ret
        exact ⟨ze, zw HB⟩
       replace c13 := Bool.eq_false_iff.mpr c13
       subst c13
       have H1 : ((thatchlaw07_long.f ((rd_T55 l0_1 x3_2).f0.f1)).bind fun t105 => (if t105 = true then (some true) else ((thatchlaw07_long.f ((rd_T55 l0_1 x3_2).f1.f0)).bind fun t106 => (if t106 = true then (some true) else ((thatchlaw07_long.f ((rd_T55 l0_1 x3_2).f1.f1)).bind fun t107 => (if t107 = true then (some true) else (thatchlaw07_Great.l0 k2 (wrap64 (x3_2 + 1)) l0_0 l0_1 a0_2 a0_3 a0_4 l0_5))))))) = some r := by rw [if_neg (show ¬ (false = true) by decide)] at H; exact H
       clear H
       have H := H1
       clear H1
       replace H := Option.bind_eq_some_iff.mp H
       obtain ⟨t105, A180, H⟩ := H
       replace H : (if t105 = true then (some true) else ((thatchlaw07_long.f ((rd_T55 l0_1 x3_2).f1.f0)).bind fun t106 => (if t106 = true then (some true) else ((thatchlaw07_long.f ((rd_T55 l0_1 x3_2).f1.f1)).bind fun t107 => (if t107 = true then (some true) else (thatchlaw07_Great.l0 k2 (wrap64 (x3_2 + 1)) l0_0 l0_1 a0_2 a0_3 a0_4 l0_5)))))) = some r := H
       have A18 := Aside0.mk A180
       clear A180
       by_cases c19 : t105 = true
       ·subst c19
        have H1 : (some true) = some r := by rw [if_pos rfl] at H; exact H
        clear H
        have H := H1
        clear H1
        obtain rfl := Option.some.inj H
        obtain ⟨hcz20_0, hcz20_1, hcz20_2, hcz20_3, hcz20_4, hcz20_5, hfz20_0, hfz20_1, hfz20_2, hfz20_3, hfz20_4, hfz20_5⟩ := zk6 BK101
        have p102 : 0 ≤ (x3_2 : Int) := of_decide_eq_true zj
        have q102 : x3_2 < (l0_1.length : Int) := of_decide_eq_true zj
        obtain ⟨ad102, e102, hx102_0, hx102_1, hx102_2, hx102_3⟩ := at_T55 HR0_1.out x3_2 p102 q102
        cases e102
        replace hx102_0 := zu hx102_0 HB
        replace hx102_1 := zu hx102_1 HB
        replace hx102_2 := zu hx102_2 HB
        replace hx102_3 := zu hx102_3 HB
        replace p102 := eq_true p102
        replace q102 := eq_true q102
        go_wp2_with (first | ((with_reducible refine gate_dst (N := 4) rfl ?_); (try (refine gate_guard (by rfl) ?_; dsimp only)); refine zx 4 #[.int .i64 0, .int .i64 0, .int .i64 0, .int .i64 0] 55 ?_; intro gb103 hg w21 hbox hb; have n0_ := zD BK101 hb; have n1_ := zY HB hb; have n2_ := Aside0.mk (hbox); have n3_ := zS hg HB; have n4_ := zS hg HB; have n5_ := zN hg BK101; have n6_ := zM hg BK101; clear BK101; clear HB; have BK101 := n0_; have HB := n1_; have BK103 := n2_; have GW103 := n3_; have GE103 := n4_; have NB101_103 := n5_; have NB103_101 := n6_; clear n0_ n1_ n2_ n3_ n4_ n5_ n6_; clear hb hbox hg; have hnb22 := NB103_101.out; have hnc22 := NB101_103.out; obtain ⟨hcz23_0, hcz23_1, hcz23_2, hcz23_3, hfz23_0, hfz23_1, hfz23_2, hfz23_3⟩ := zk4 BK103) | ((with_reducible refine gate_callee (f := 18) rfl ?_); refine goesL_ (some 40) rfl rfl Try.func18 (by kernel_rfl) rfl #[.int .i64 ((rd_T55 l0_1 x3_2).f0.f0)] rfl za ?_; (with_reducible refine (thatchlaw07_long.calls ((rd_T55 l0_1 x3_2).f0.f0) false _ A12.out).mono ?_); rintro e w' ⟨rfl, ⟨nd, rfl⟩⟩; refine ⟨_, rfl, ?_⟩) | (go_at_call 18; (with_reducible refine (thatchlaw07_long.calls ((rd_T55 l0_1 x3_2).f0.f1) true _ A18.out).mono ?_); rintro e w' ⟨rfl, ⟨nd, rfl⟩⟩))
        go_ret
        exact ⟨ze, zw HB⟩
       replace c19 := Bool.eq_false_iff.mpr c19
       subst c19
       have H1 : ((thatchlaw07_long.f ((rd_T55 l0_1 x3_2).f1.f0)).bind fun t106 => (if t106 = true then (some true) else ((thatchlaw07_long.f ((rd_T55 l0_1 x3_2).f1.f1)).bind fun t107 => (if t107 = true then (some true) else (thatchlaw07_Great.l0 k2 (wrap64 (x3_2 + 1)) l0_0 l0_1 a0_2 a0_3 a0_4 l0_5))))) = some r := by rw [if_neg (show ¬ (false = true) by decide)] at H; exact H
       clear H
       have H := H1
       clear H1
       replace H := Option.bind_eq_some_iff.mp H
       obtain ⟨t106, A240, H⟩ := H
       replace H : (if t106 = true then (some true) else ((thatchlaw07_long.f ((rd_T55 l0_1 x3_2).f1.f1)).bind fun t107 => (if t107 = true then (some true) else (thatchlaw07_Great.l0 k2 (wrap64 (x3_2 + 1)) l0_0 l0_1 a0_2 a0_3 a0_4 l0_5)))) = some r := H
       have A24 := Aside0.mk A240
       clear A240
       by_cases c25 : t106 = true
       ·subst c25
        have H1 : (some true) = some r := by rw [if_pos rfl] at H; exact H
        clear H
        have H := H1
        clear H1
        obtain rfl := Option.some.inj H
        obtain ⟨hcz26_0, hcz26_1, hcz26_2, hcz26_3, hcz26_4, hcz26_5, hfz26_0, hfz26_1, hfz26_2, hfz26_3, hfz26_4, hfz26_5⟩ := zk6 BK101
        have p102 : 0 ≤ (x3_2 : Int) := of_decide_eq_true zj
        have q102 : x3_2 < (l0_1.length : Int) := of_decide_eq_true zj
        obtain ⟨ad102, e102, hx102_0, hx102_1, hx102_2, hx102_3⟩ := at_T55 HR0_1.out x3_2 p102 q102
        cases e102
        replace hx102_0 := zu hx102_0 HB
        replace hx102_1 := zu hx102_1 HB
        replace hx102_2 := zu hx102_2 HB
        replace hx102_3 := zu hx102_3 HB
        replace p102 := eq_true p102
        replace q102 := eq_true q102
        go_wp2_with (first | ((with_reducible refine gate_dst (N := 4) rfl ?_); (try (refine gate_guard (by rfl) ?_; dsimp only)); refine zx 4 #[.int .i64 0, .int .i64 0, .int .i64 0, .int .i64 0] 55 ?_; intro gb103 hg w27 hbox hb; have n0_ := zD BK101 hb; have n1_ := zY HB hb; have n2_ := Aside0.mk (hbox); have n3_ := zS hg HB; have n4_ := zS hg HB; have n5_ := zN hg BK101; have n6_ := zM hg BK101; clear BK101; clear HB; have BK101 := n0_; have HB := n1_; have BK103 := n2_; have GW103 := n3_; have GE103 := n4_; have NB101_103 := n5_; have NB103_101 := n6_; clear n0_ n1_ n2_ n3_ n4_ n5_ n6_; clear hb hbox hg; have hnb28 := NB103_101.out; have hnc28 := NB101_103.out; obtain ⟨hcz29_0, hcz29_1, hcz29_2, hcz29_3, hfz29_0, hfz29_1, hfz29_2, hfz29_3⟩ := zk4 BK103) | ((with_reducible refine gate_callee (f := 18) rfl ?_); refine goesL_ (some 40) rfl rfl Try.func18 (by kernel_rfl) rfl #[.int .i64 ((rd_T55 l0_1 x3_2).f0.f0)] rfl za ?_; (with_reducible refine (thatchlaw07_long.calls ((rd_T55 l0_1 x3_2).f0.f0) false _ A12.out).mono ?_); rintro e w' ⟨rfl, ⟨nd, rfl⟩⟩; refine ⟨_, rfl, ?_⟩) | (go_at_call 18; (with_reducible refine (thatchlaw07_long.calls ((rd_T55 l0_1 x3_2).f0.f1) false _ A18.out).mono ?_); rintro e w' ⟨rfl, ⟨nd, rfl⟩⟩) | (go_at_call 18; (with_reducible refine (thatchlaw07_long.calls ((rd_T55 l0_1 x3_2).f1.f0) true _ A24.out).mono ?_); rintro e w' ⟨rfl, ⟨nd, rfl⟩⟩))
        go_ret
        exact ⟨ze, zw HB⟩
       replace c25 := Bool.eq_false_iff.mpr c25
       subst c25
       have H1 : ((thatchlaw07_long.f ((rd_T55 l0_1 x3_2).f1.f1)).bind fun t107 => (if t107 = true then (some true) else (thatchlaw07_Great.l0 k2 (wrap64 (x3_2 + 1)) l0_0 l0_1 a0_2 a0_3 a0_4 l0_5))) = some r := by rw [if_neg (show ¬ (false = true) by decide)] at H; exact H
       clear H
       have H := H1
       clear H1
       replace H := Option.bind_eq_some_iff.mp H
       obtain ⟨t107, A300, H⟩ := H
       replace H : (if t107 = true then (some true) else (thatchlaw07_Great.l0 k2 (wrap64 (x3_2 + 1)) l0_0 l0_1 a0_2 a0_3 a0_4 l0_5)) = some r := H
       have A30 := Aside0.mk A300
       clear A300
       by_cases c31 : t107 = true
       ·subst c31
        have H1 : (some true) = some r := by rw [if_pos rfl] at H; exact H
        clear H
        have H := H1
        clear H1
        obtain rfl := Option.some.inj H
        obtain ⟨hcz32_0, hcz32_1, hcz32_2, hcz32_3, hcz32_4, hcz32_5, hfz32_0, hfz32_1, hfz32_2, hfz32_3, hfz32_4, hfz32_5⟩ := zk6 BK101
        have p102 : 0 ≤ (x3_2 : Int) := of_decide_eq_true zj
        have q102 : x3_2 < (l0_1.length : Int) := of_decide_eq_true zj
        obtain ⟨ad102, e102, hx102_0, hx102_1, hx102_2, hx102_3⟩ := at_T55 HR0_1.out x3_2 p102 q102
        cases e102
        replace hx102_0 := zu hx102_0 HB
        replace hx102_1 := zu hx102_1 HB
        replace hx102_2 := zu hx102_2 HB
        replace hx102_3 := zu hx102_3 HB
        replace p102 := eq_true p102
        replace q102 := eq_true q102
        go_wp2_with (first | ((with_reducible refine gate_dst (N := 4) rfl ?_); (try (refine gate_guard (by rfl) ?_; dsimp only)); refine zx 4 #[.int .i64 0, .int .i64 0, .int .i64 0, .int .i64 0] 55 ?_; intro gb103 hg w33 hbox hb; have n0_ := zD BK101 hb; have n1_ := zY HB hb; have n2_ := Aside0.mk (hbox); have n3_ := zS hg HB; have n4_ := zS hg HB; have n5_ := zN hg BK101; have n6_ := zM hg BK101; clear BK101; clear HB; have BK101 := n0_; have HB := n1_; have BK103 := n2_; have GW103 := n3_; have GE103 := n4_; have NB101_103 := n5_; have NB103_101 := n6_; clear n0_ n1_ n2_ n3_ n4_ n5_ n6_; clear hb hbox hg; have hnb34 := NB103_101.out; have hnc34 := NB101_103.out; obtain ⟨hcz35_0, hcz35_1, hcz35_2, hcz35_3, hfz35_0, hfz35_1, hfz35_2, hfz35_3⟩ := zk4 BK103) | ((with_reducible refine gate_callee (f := 18) rfl ?_); refine goesL_ (some 40) rfl rfl Try.func18 (by kernel_rfl) rfl #[.int .i64 ((rd_T55 l0_1 x3_2).f0.f0)] rfl za ?_; (with_reducible refine (thatchlaw07_long.calls ((rd_T55 l0_1 x3_2).f0.f0) false _ A12.out).mono ?_); rintro e w' ⟨rfl, ⟨nd, rfl⟩⟩; refine ⟨_, rfl, ?_⟩) | (go_at_call 18; (with_reducible refine (thatchlaw07_long.calls ((rd_T55 l0_1 x3_2).f0.f1) false _ A18.out).mono ?_); rintro e w' ⟨rfl, ⟨nd, rfl⟩⟩) | (go_at_call 18; (with_reducible refine (thatchlaw07_long.calls ((rd_T55 l0_1 x3_2).f1.f0) false _ A24.out).mono ?_); rintro e w' ⟨rfl, ⟨nd, rfl⟩⟩) | (go_at_call 18; (with_reducible refine (thatchlaw07_long.calls ((rd_T55 l0_1 x3_2).f1.f1) true _ A30.out).mono ?_); rintro e w' ⟨rfl, ⟨nd, rfl⟩⟩))
        go_ret
        exact ⟨ze, zw HB⟩
       replace c31 := Bool.eq_false_iff.mpr c31
       subst c31
       have H1 : (thatchlaw07_Great.l0 k2 (wrap64 (x3_2 + 1)) l0_0 l0_1 a0_2 a0_3 a0_4 l0_5) = some r := by rw [if_neg (show ¬ (false = true) by decide)] at H; exact H
       clear H
       have H := H1
       clear H1
       have H' := Aside0.mk H
       clear H
       obtain ⟨hcz36_0, hcz36_1, hcz36_2, hcz36_3, hcz36_4, hcz36_5, hfz36_0, hfz36_1, hfz36_2, hfz36_3, hfz36_4, hfz36_5⟩ := zk6 BK101
       have p102 : 0 ≤ (x3_2 : Int) := of_decide_eq_true zj
       have q102 : x3_2 < (l0_1.length : Int) := of_decide_eq_true zj
       obtain ⟨ad102, e102, hx102_0, hx102_1, hx102_2, hx102_3⟩ := at_T55 HR0_1.out x3_2 p102 q102
       cases e102
       replace hx102_0 := zu hx102_0 HB
       replace hx102_1 := zu hx102_1 HB
       replace hx102_2 := zu hx102_2 HB
       replace hx102_3 := zu hx102_3 HB
       replace p102 := eq_true p102
       replace q102 := eq_true q102
       go_wp2_with (first | ((with_reducible refine gate_dst (N := 4) rfl ?_); (try (refine gate_guard (by rfl) ?_; dsimp only)); refine zx 4 #[.int .i64 0, .int .i64 0, .int .i64 0, .int .i64 0] 55 ?_; intro gb103 hg w37 hbox hb; have n0_ := zD BK101 hb; have n1_ := zY HB hb; have n2_ := Aside0.mk (hbox); have n3_ := zS hg HB; have n4_ := zS hg HB; have n5_ := zN hg BK101; have n6_ := zM hg BK101; clear BK101; clear HB; have BK101 := n0_; have HB := n1_; have BK103 := n2_; have GW103 := n3_; have GE103 := n4_; have NB101_103 := n5_; have NB103_101 := n6_; clear n0_ n1_ n2_ n3_ n4_ n5_ n6_; clear hb hbox hg; have hnb38 := NB103_101.out; have hnc38 := NB101_103.out; obtain ⟨hcz39_0, hcz39_1, hcz39_2, hcz39_3, hfz39_0, hfz39_1, hfz39_2, hfz39_3⟩ := zk4 BK103) | ((with_reducible refine gate_callee (f := 18) rfl ?_); refine goesL_ (some 40) rfl rfl Try.func18 (by kernel_rfl) rfl #[.int .i64 ((rd_T55 l0_1 x3_2).f0.f0)] rfl za ?_; (with_reducible refine (thatchlaw07_long.calls ((rd_T55 l0_1 x3_2).f0.f0) false _ A12.out).mono ?_); rintro e w' ⟨rfl, ⟨nd, rfl⟩⟩; refine ⟨_, rfl, ?_⟩) | (go_at_call 18; (with_reducible refine (thatchlaw07_long.calls ((rd_T55 l0_1 x3_2).f0.f1) false _ A18.out).mono ?_); rintro e w' ⟨rfl, ⟨nd, rfl⟩⟩) | (go_at_call 18; (with_reducible refine (thatchlaw07_long.calls ((rd_T55 l0_1 x3_2).f1.f0) false _ A24.out).mono ?_); rintro e w' ⟨rfl, ⟨nd, rfl⟩⟩) | (go_at_call 18; (with_reducible refine (thatchlaw07_long.calls ((rd_T55 l0_1 x3_2).f1.f1) false _ A30.out).mono ?_); rintro e w' ⟨rfl, ⟨nd, rfl⟩⟩))
       go_roundg k2
       case measure => have := HJ1.out; have := HK2.out; omega
       case rel => exact ⟨(wrap64 (x3_2 + 1)), zq, H', ⟨by have := HJ1.out; have := HK2.out; omega⟩, ⟨zv BK101⟩, ⟨zw HB⟩⟩
      rw [if_neg c11] at H
      exact absurd H (by simp)
     rw [if_neg c10] at H
     have c10b0 : decide (x3_2 < (l0_1.length : Int)) = false := decide_eq_false c10
     clear c10
     obtain rfl := Option.some.inj H
     obtain ⟨hcz40_0, hcz40_1, hcz40_2, hcz40_3, hcz40_4, hcz40_5, hfz40_0, hfz40_1, hfz40_2, hfz40_3, hfz40_4, hfz40_5⟩ := zk6 BK101
     go_wp2
     go_ret
     exact ⟨ze, zw HB⟩
end Go.Proofs.Ytcfpclehogdmbaa.Q
end
section
namespace Go.Proofs.Ytcfpclehogdmbaa.Q
open Go.RowKit Go.Proofs.YtcfpclehogdmbaaW.PrintWords Go.Proofs.YtcfpclehogdmbaaW.PrintLast Go.Proofs.YtcfpclehogdmbaaW.PrintMore
attribute [local go_sem] max2_int min2_int max_two min_two max_three min_three max_four min_four   -- for this text's walks alone
set_option linter.unusedVariables false
set_option linter.unusedSimpArgs false
theorem eqA27 (d : Nat) (w : World) (x0 y0 : Int) (x1 y1 : Int) :
  (Op.equalIn (d + 2) 27 (.agg #[.int .i64 x0, .int .i64 x1]) (.agg #[.int .i64 y0, .int .i64 y1])).run Try.prog w = .ok (x0 == y0 && (x1 == y1)) w := by
 refine eqA_of Try.underlying27 (by kernel_rfl) ?_
 refine eqf_cons (by rfl) (by go_simp; rfl) (by go_simp; rfl) (by go_simp) ?_
 exact eqf_last (by rfl) (by go_simp; rfl) (by go_simp; rfl) (by go_simp)
end Go.Proofs.Ytcfpclehogdmbaa.Q
end
