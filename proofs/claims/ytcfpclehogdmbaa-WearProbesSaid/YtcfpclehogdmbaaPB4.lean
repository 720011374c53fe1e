/- part 4 of a proof over the translation: walks that a program of ours has printed and shortened, and plain laws; each says what stands in it -/
import Derived.Test.YtcfpclehogdmbaaPB0
import Derived.Test.YtcfpclehogdmbaaPB1
import Derived.Test.YtcfpclehogdmbaaPB2
import Derived.Test.YtcfpclehogdmbaaPB3
section
namespace Go.Proofs.Ytcfpclehogdmbaa.Q
open Go.RowKit Go.Proofs.YtcfpclehogdmbaaW.PrintWords Go.Proofs.YtcfpclehogdmbaaW.PrintLast Go.Proofs.YtcfpclehogdmbaaW.PrintMore
attribute [local go_sem] max2_int min2_int max_two min_two max_three min_three max_four min_four   -- for this text's walks alone
set_option linter.unusedVariables false
set_option linter.unusedSimpArgs false
theorem six_set {W : World} {g : Nat} {c0 c1 c2 c3 c4 c5 p0 p1 p2 p3 p4 p5 : Value} {t : TypeId} (h : W.heap[g]? = some (.cells #[c0, c1, c2, c3, c4, c5] t (0, 0))) :
    ((((((W.setCell ⟨g, 0, none⟩ p0).setCell ⟨g, 1, none⟩ p1).setCell ⟨g, 2, none⟩ p2).setCell ⟨g, 3, none⟩ p3).setCell ⟨g, 4, none⟩ p4).setCell ⟨g, 5, none⟩ p5).heap[g]? = some (.cells #[p0, p1, p2, p3, p4, p5] t (0, 0)) := by
  refine blk_put (cs := #[p0, p1, p2, p3, p4, c5]) ?_ 5 _ rfl
  refine blk_put (cs := #[p0, p1, p2, p3, c4, c5]) ?_ 4 _ rfl
  refine blk_put (cs := #[p0, p1, p2, c3, c4, c5]) ?_ 3 _ rfl
  refine blk_put (cs := #[p0, p1, c2, c3, c4, c5]) ?_ 2 _ rfl
  refine blk_put (cs := #[p0, c1, c2, c3, c4, c5]) ?_ 1 _ rfl
  exact blk_put (cs := #[c0, c1, c2, c3, c4, c5]) h 0 _ rfl
theorem six_other {W : World} {g k : Nat} {p0 p1 p2 p3 p4 p5 : Value} (hk : k ≠ g) : ((((((W.setCell ⟨g, 0, none⟩ p0).setCell ⟨g, 1, none⟩ p1).setCell ⟨g, 2, none⟩ p2).setCell ⟨g, 3, none⟩ p3).setCell ⟨g, 4, none⟩ p4).setCell ⟨g, 5, none⟩ p5).heap[k]? = W.heap[k]? := by
  rw [Below.heap_setCell _ _ _ k hk, Below.heap_setCell _ _ _ k hk, Below.heap_setCell _ _ _ k hk, Below.heap_setCell _ _ _ k hk, Below.heap_setCell _ _ _ k hk, Below.heap_setCell _ _ _ k hk]
theorem six_below {B : Nat} {V W : World} {g : Nat} {p0 p1 p2 p3 p4 p5 : Value} (h : Below B V W) (hg : B ≤ g) : Below B V ((((((W.setCell ⟨g, 0, none⟩ p0).setCell ⟨g, 1, none⟩ p1).setCell ⟨g, 2, none⟩ p2).setCell ⟨g, 3, none⟩ p3).setCell ⟨g, 4, none⟩ p4).setCell ⟨g, 5, none⟩ p5) :=
  (((((h.setCell hg _).setCell hg _).setCell hg _).setCell hg _).setCell hg _).setCell hg _
theorem six_size {W : World} {g : Nat} {p0 p1 p2 p3 p4 p5 : Value} : ((((((W.setCell ⟨g, 0, none⟩ p0).setCell ⟨g, 1, none⟩ p1).setCell ⟨g, 2, none⟩ p2).setCell ⟨g, 3, none⟩ p3).setCell ⟨g, 4, none⟩ p4).setCell ⟨g, 5, none⟩ p5).heap.size = W.heap.size := by simp [World.setCell]
structure pb.A (w : World) (sk : Array Value) (p0 p1 : Int) (W : World) : Prop where
  k4 : W.heap[w.heap.size]? = some (.cells sk 30 (0, 0))
  k5 : W.heap[w.heap.size + 1]? = some (.cells #[.int .i64 p0, .int .i64 p1] 32 (0, 0))
  k8 : W.heap[w.heap.size + 1 + 1]? = some (.cells #[.slice none 0 0, .slice none 0 0, .int .i64 0, .int .i64 0, .int .i64 0, .slice none 0 0] 30 (0, 0))
  ks : w.heap.size + 3 ≤ W.heap.size
  kb : Below w.heap.size w W
theorem pb.A.below {w : World} {sk : Array Value} {p0 p1 : Int} {W W' : World} (h : pb.A w sk p0 p1 W) (hb : Below W.heap.size W W') : pb.A w sk p0 p1 W' :=
  ⟨(hb.block _ (Array.getElem?_eq_some_iff.1 h.k4).1).trans h.k4, (hb.block _ (Array.getElem?_eq_some_iff.1 h.k5).1).trans h.k5, (hb.block _ (Array.getElem?_eq_some_iff.1 h.k8).1).trans h.k8, Nat.le_trans h.ks hb.size, h.kb.trans (hb.mono h.kb.size)⟩
theorem pb.A.mk3 {w w1 : World} {sk : Array Value} {p0 p1 : Int} (hb : Below (((w.alloc (.cells sk 30)).alloc (.cells #[.int .i64 p0, .int .i64 p1] 32)).alloc (.cells #[.slice none 0 0, .slice none 0 0, .int .i64 0, .int .i64 0, .int .i64 0, .slice none 0 0] 30)).heap.size (((w.alloc (.cells sk 30)).alloc (.cells #[.int .i64 p0, .int .i64 p1] 32)).alloc (.cells #[.slice none 0 0, .slice none 0 0, .int .i64 0, .int .i64 0, .int .i64 0, .slice none 0 0] 30)) w1) : pb.A w sk p0 p1 w1 := by
  obtain ⟨h1, h2, h3, h4, h5⟩ := three_boxes w _ _ _ w1 hb
  exact ⟨h1, h2, h3, h4, h5⟩
theorem pb.A.zero {w : World} {sk : Array Value} {p0 p1 : Int} {W : World} (h : pb.A w sk p0 p1 W) :
    ((((((W.setCell ⟨w.heap.size + 1 + 1, 0, none⟩ (.slice none 0 0)).setCell ⟨w.heap.size + 1 + 1, 1, none⟩ (.slice none 0 0)).setCell ⟨w.heap.size + 1 + 1, 2, none⟩ (.int .i64 0)).setCell ⟨w.heap.size + 1 + 1, 3, none⟩ (.int .i64 0)).setCell ⟨w.heap.size + 1 + 1, 4, none⟩ (.int .i64 0)).setCell ⟨w.heap.size + 1 + 1, 5, none⟩ (.slice none 0 0)).heap[w.heap.size + 1 + 1]? = some (.cells #[.slice none 0 0, .slice none 0 0, .int .i64 0, .int .i64 0, .int .i64 0, .slice none 0 0] 30 (0, 0)) ∧ Below w.heap.size w ((((((W.setCell ⟨w.heap.size + 1 + 1, 0, none⟩ (.slice none 0 0)).setCell ⟨w.heap.size + 1 + 1, 1, none⟩ (.slice none 0 0)).setCell ⟨w.heap.size + 1 + 1, 2, none⟩ (.int .i64 0)).setCell ⟨w.heap.size + 1 + 1, 3, none⟩ (.int .i64 0)).setCell ⟨w.heap.size + 1 + 1, 4, none⟩ (.int .i64 0)).setCell ⟨w.heap.size + 1 + 1, 5, none⟩ (.slice none 0 0)) :=
  ⟨six_set h.k8, six_below h.kb (by omega)⟩
def wear_Probe.put (l : List S67) (p0 p1 lo hi : Int) (i : Nat) (there : Bool) : List S67 :=
  if there then l.set i ⟨(l.getD i z67).f0, ⟨mx (l.getD i z67).f1.f0 lo, mn (l.getD i z67).f1.f1 hi⟩⟩ else l.take i ++ ([(⟨⟨p0, p1⟩, ⟨lo, hi⟩⟩ : S67)] ++ l.drop i)
def wear_Probe.marks (l : List S67) (p0 p1 rd wr : Int) : List S67 :=
  wear_Probe.put l p0 p1 (mx (wrap64 (rd - wr)) 0) (mn (wrap64 (rd + wr)) 2000) (bs.at l p0 p1 0 l.length) (bs.there l p0 p1 (bs.at l p0 p1 0 l.length))
def wear_Probe.f (k : Nat) (l0_0 : List S32) (l0_1 : List S55) (a0_2 a0_3 a0_4 : Int) (l0_5 : List S67) (a1_0 a1_1 a2 a3 : Int) : Option ((List S32) × (List S55) × Int × Int × Int × (List S67) × Int) :=
  (wear_Check.f k l0_0 l0_1 a0_2 a0_3 a0_4 l0_5).bind fun e => if e = 0 then
    (if wear_has.b l0_0 l0_1 a1_0 a1_1 = true then
      (if 0 ≤ a2 ∧ a2 ≤ 2000 then (if 0 ≤ a3 ∧ a3 ≤ 2000 then
        (if l0_0.length < 1000 ∧ l0_1.length < 1000 ∧ l0_5.length < 900 then
          (if 40 < (wear_Probe.marks l0_5 a1_0 a1_1 a2 a3).length then some ([], [], 0, 0, 0, [], 3) else
            (wear_Check.f k l0_0 l0_1 a0_2 a0_3 a0_4 (wear_Probe.marks l0_5 a1_0 a1_1 a2 a3)).bind fun e2 => if e2 = 0 then some (l0_0, l0_1, a0_2, a0_3, a0_4, wear_Probe.marks l0_5 a1_0 a1_1 a2 a3, 0) else some ([], [], 0, 0, 0, [], 10))
        else none)
      else some ([], [], 0, 0, 0, [], 1)) else some ([], [], 0, 0, 0, [], 1))
    else some ([], [], 0, 0, 0, [], 7))
  else some ([], [], 0, 0, 0, [], e)
set_option maxHeartbeats 4000000 in
set_option maxRecDepth 100000 in
theorem wear_Probe.x_bad (k : Nat) (A0_0 : Option Addr) (c0_0 : Nat) (l0_0 : List S32) (A0_1 : Option Addr) (c0_1 : Nat) (l0_1 : List S55) (a0_2 : Int) (a0_3 : Int) (a0_4 : Int) (A0_5 : Option Addr) (c0_5 : Nat) (l0_5 : List S67) (a1_0 : Int) (a1_1 : Int) (a2 : Int) (a3 : Int) (w : World) (hr0_0 : Kd.C k32 w A0_0 l0_0.length l0_0) (hc0_0 : l0_0.length ≤ c0_0) (hr0_1 : Kd.C k55 w A0_1 l0_1.length l0_1) (hc0_1 : l0_1.length ≤ c0_1) (hr0_5 : Kd.C k67 w A0_5 l0_5.length l0_5) (hc0_5 : l0_5.length ≤ c0_5) (cc : Int) (hck : wear_Check.f k l0_0 l0_1 a0_2 a0_3 a0_4 l0_5 = some cc) (he : ¬ cc = 0) :
    Calls Try.prog 9 #[.agg #[.slice A0_0 l0_0.length c0_0, .slice A0_1 l0_1.length c0_1, .int .i64 a0_2, .int .i64 a0_3, .int .i64 a0_4, .slice A0_5 l0_5.length c0_5], .agg #[.int .i64 a1_0, .int .i64 a1_1], .int .i64 a2, .int .i64 a3] w fun e w' => ∃ v0_ v1_ v5_ : Value, e = .returned (.tuple #[.agg #[v0_, v1_, .int .i64 0, .int .i64 0, .int .i64 0, v5_], .int .i64 cc]) ∧ Kd.R k32 32 w' w.heap.size (fun _ => True) v0_ [] ∧ Kd.R k55 55 w' w.heap.size (fun _ => True) v1_ [] ∧ Kd.R k67 67 w' w.heap.size (fun _ => True) v5_ [] ∧ Below w.heap.size w w' := by
  have hu30 := Try.underlying30
  have hu25 := Try.underlying25
  have hu27 := Try.underlying27
  have hu28 := Try.underlying28
  have hu32 := Try.underlying32
  have hu67 := Try.underlying67
  have hb0 : Below w.heap.size w (((w.alloc (.cells #[.slice A0_0 l0_0.length c0_0, .slice A0_1 l0_1.length c0_1, .int .i64 a0_2, .int .i64 a0_3, .int .i64 a0_4, .slice A0_5 l0_5.length c0_5] 30)).alloc (.cells #[.int .i64 a1_0, .int .i64 a1_1] 32)).alloc (.cells #[.slice none 0 0, .slice none 0 0, .int .i64 0, .int .i64 0, .int .i64 0, .slice none 0 0] 30)) := (((Below.refl _ w).alloc (Nat.le_refl _) _).alloc (by simp) _).alloc (by simp; omega) _
  have HB0 := Aside0.mk hb0
  have HR0 := Aside0.mk hr0_0
  have HC0 := Aside0.mk hc0_0
  have HR1 := Aside0.mk hr0_1
  have HC1 := Aside0.mk hc0_1
  have HR5 := Aside0.mk hr0_5
  have HC5 := Aside0.mk hc0_5
  clear hr0_0 hc0_0 hr0_1 hc0_1 hr0_5 hc0_5 hb0
  have HCK := Aside0.mk hck
  have he1 : (cc == 0) = false := beq_eq_false_iff_ne.2 he
  have he2 : (cc != 0) = true := bne_iff_ne.2 he
  clear hck he
  go_enter Try.func9, Try.ntmps9
  go_wp2_with (go_at_call 15; refine (wear_Check.calls k _ _ l0_0 _ _ l0_1 a0_2 a0_3 a0_4 _ _ l0_5 _ _ (Kd.C_below HR0.out HB0.out) HC0.out (Kd.C_below HR1.out HB0.out) HC1.out (Kd.C_below HR5.out HB0.out) HC5.out HCK.out).mono ?_; rintro e w1 ⟨rfl, hb⟩; have ha := pb.A.mk3 hb; obtain ⟨q0, q1, q2, q3, q4, q5⟩ := zc6 ⟨ha.k4⟩; obtain ⟨p0, p1⟩ := zc2 ⟨ha.k5⟩; obtain ⟨z0, z1, z2, z3, z4, z5⟩ := zc6 ⟨ha.k8⟩; obtain ⟨y0, y1, y2, y3, y4, y5⟩ := zg6 ⟨ha.k8⟩; have HA := Aside0.mk ha; clear hb ha)
  have hz := HA.out.zero
  obtain ⟨hz1, hz2⟩ := hz
  have r0 := (blk_cell hz1 0).trans rfl
  have r1 := (blk_cell hz1 1).trans rfl
  have r2 := (blk_cell hz1 2).trans rfl
  have r3 := (blk_cell hz1 3).trans rfl
  have r4 := (blk_cell hz1 4).trans rfl
  have r5 := (blk_cell hz1 5).trans rfl
  refine bodyPost_ret (v := .tuple #[.agg #[.slice none 0 0, .slice none 0 0, .int .i64 0, .int .i64 0, .int .i64 0, .slice none 0 0], .int .i64 cc]) (by simp [results, Try.results9, go_sem, r0, r1, r2, r3, r4, r5]) rfl ⟨_, _, _, rfl, Kd.R_nil _ _ _ _ _, Kd.R_nil _ _ _ _ _, Kd.R_nil _ _ _ _ _, hz2⟩
set_option maxHeartbeats 4000000 in
set_option maxRecDepth 100000 in
theorem wear_Probe.x_none (k : Nat) (A0_0 : Option Addr) (c0_0 : Nat) (l0_0 : List S32) (A0_1 : Option Addr) (c0_1 : Nat) (l0_1 : List S55) (a0_2 : Int) (a0_3 : Int) (a0_4 : Int) (A0_5 : Option Addr) (c0_5 : Nat) (l0_5 : List S67) (a1_0 : Int) (a1_1 : Int) (a2 : Int) (a3 : Int) (w : World) (hr0_0 : Kd.C k32 w A0_0 l0_0.length l0_0) (hc0_0 : l0_0.length ≤ c0_0) (hr0_1 : Kd.C k55 w A0_1 l0_1.length l0_1) (hc0_1 : l0_1.length ≤ c0_1) (hr0_5 : Kd.C k67 w A0_5 l0_5.length l0_5) (hc0_5 : l0_5.length ≤ c0_5) (hck : wear_Check.f k l0_0 l0_1 a0_2 a0_3 a0_4 l0_5 = some 0) (hhb : wear_has.f l0_0 l0_1 a1_0 a1_1 = some false) :
    Calls Try.prog 9 #[.agg #[.slice A0_0 l0_0.length c0_0, .slice A0_1 l0_1.length c0_1, .int .i64 a0_2, .int .i64 a0_3, .int .i64 a0_4, .slice A0_5 l0_5.length c0_5], .agg #[.int .i64 a1_0, .int .i64 a1_1], .int .i64 a2, .int .i64 a3] w fun e w' => ∃ v0_ v1_ v5_ : Value, e = .returned (.tuple #[.agg #[v0_, v1_, .int .i64 0, .int .i64 0, .int .i64 0, v5_], .int .i64 7]) ∧ Kd.R k32 32 w' w.heap.size (fun _ => True) v0_ [] ∧ Kd.R k55 55 w' w.heap.size (fun _ => True) v1_ [] ∧ Kd.R k67 67 w' w.heap.size (fun _ => True) v5_ [] ∧ Below w.heap.size w w' := by
  have hu30 := Try.underlying30
  have hu25 := Try.underlying25
  have hu27 := Try.underlying27
  have hu28 := Try.underlying28
  have hu32 := Try.underlying32
  have hu67 := Try.underlying67
  have hb0 : Below w.heap.size w (((w.alloc (.cells #[.slice A0_0 l0_0.length c0_0, .slice A0_1 l0_1.length c0_1, .int .i64 a0_2, .int .i64 a0_3, .int .i64 a0_4, .slice A0_5 l0_5.length c0_5] 30)).alloc (.cells #[.int .i64 a1_0, .int .i64 a1_1] 32)).alloc (.cells #[.slice none 0 0, .slice none 0 0, .int .i64 0, .int .i64 0, .int .i64 0, .slice none 0 0] 30)) := (((Below.refl _ w).alloc (Nat.le_refl _) _).alloc (by simp) _).alloc (by simp; omega) _
  have HB0 := Aside0.mk hb0
  have HR0 := Aside0.mk hr0_0
  have HC0 := Aside0.mk hc0_0
  have HR1 := Aside0.mk hr0_1
  have HC1 := Aside0.mk hc0_1
  have HR5 := Aside0.mk hr0_5
  have HC5 := Aside0.mk hc0_5
  clear hr0_0 hc0_0 hr0_1 hc0_1 hr0_5 hc0_5 hb0
  have HCK := Aside0.mk hck
  have HHB := Aside0.mk hhb
  clear hck hhb
  go_enter Try.func9, Try.ntmps9
  go_wp2_with (first | (go_at_call 15; refine (wear_Check.calls k _ _ l0_0 _ _ l0_1 a0_2 a0_3 a0_4 _ _ l0_5 _ _ (Kd.C_below HR0.out HB0.out) HC0.out (Kd.C_below HR1.out HB0.out) HC1.out (Kd.C_below HR5.out HB0.out) HC5.out HCK.out).mono ?_; rintro e w1 ⟨rfl, hb⟩; have ha := pb.A.mk3 hb; obtain ⟨q0, q1, q2, q3, q4, q5⟩ := zc6 ⟨ha.k4⟩; obtain ⟨p0, p1⟩ := zc2 ⟨ha.k5⟩; obtain ⟨z0, z1, z2, z3, z4, z5⟩ := zc6 ⟨ha.k8⟩; obtain ⟨y0, y1, y2, y3, y4, y5⟩ := zg6 ⟨ha.k8⟩; have HA := Aside0.mk ha; clear hb ha) | (go_at_call 21; refine (wear_has.calls _ _ l0_0 _ _ l0_1 a1_0 a1_1 false _ (Kd.C_below HR0.out HA.out.kb) HC0.out (Kd.C_below HR1.out HA.out.kb) HC1.out HHB.out).mono ?_; rintro e w2 ⟨rfl, hb⟩; have ha := HA.out.below hb; clear HA q0 q1 q2 q3 q4 q5 p0 p1 z0 z1 z2 z3 z4 z5 y0 y1 y2 y3 y4 y5; obtain ⟨q0, q1, q2, q3, q4, q5⟩ := zc6 ⟨ha.k4⟩; obtain ⟨p0, p1⟩ := zc2 ⟨ha.k5⟩; obtain ⟨z0, z1, z2, z3, z4, z5⟩ := zc6 ⟨ha.k8⟩; obtain ⟨y0, y1, y2, y3, y4, y5⟩ := zg6 ⟨ha.k8⟩; have HA := Aside0.mk ha; clear hb ha))
  have hz := HA.out.zero
  obtain ⟨hz1, hz2⟩ := hz
  have r0 := (blk_cell hz1 0).trans rfl
  have r1 := (blk_cell hz1 1).trans rfl
  have r2 := (blk_cell hz1 2).trans rfl
  have r3 := (blk_cell hz1 3).trans rfl
  have r4 := (blk_cell hz1 4).trans rfl
  have r5 := (blk_cell hz1 5).trans rfl
  refine bodyPost_ret (v := .tuple #[.agg #[.slice none 0 0, .slice none 0 0, .int .i64 0, .int .i64 0, .int .i64 0, .slice none 0 0], .int .i64 7]) (by simp [results, Try.results9, go_sem, r0, r1, r2, r3, r4, r5]) rfl ⟨_, _, _, rfl, Kd.R_nil _ _ _ _ _, Kd.R_nil _ _ _ _ _, Kd.R_nil _ _ _ _ _, hz2⟩
set_option maxHeartbeats 4000000 in
set_option maxRecDepth 100000 in
theorem wear_Probe.x_arg1 (k : Nat) (A0_0 : Option Addr) (c0_0 : Nat) (l0_0 : List S32) (A0_1 : Option Addr) (c0_1 : Nat) (l0_1 : List S55) (a0_2 : Int) (a0_3 : Int) (a0_4 : Int) (A0_5 : Option Addr) (c0_5 : Nat) (l0_5 : List S67) (a1_0 : Int) (a1_1 : Int) (a2 : Int) (a3 : Int) (w : World) (hr0_0 : Kd.C k32 w A0_0 l0_0.length l0_0) (hc0_0 : l0_0.length ≤ c0_0) (hr0_1 : Kd.C k55 w A0_1 l0_1.length l0_1) (hc0_1 : l0_1.length ≤ c0_1) (hr0_5 : Kd.C k67 w A0_5 l0_5.length l0_5) (hc0_5 : l0_5.length ≤ c0_5) (hck : wear_Check.f k l0_0 l0_1 a0_2 a0_3 a0_4 l0_5 = some 0) (hhb : wear_has.f l0_0 l0_1 a1_0 a1_1 = some true) (hin : wear_in.f a2 0 2000 = some false) :
    Calls Try.prog 9 #[.agg #[.slice A0_0 l0_0.length c0_0, .slice A0_1 l0_1.length c0_1, .int .i64 a0_2, .int .i64 a0_3, .int .i64 a0_4, .slice A0_5 l0_5.length c0_5], .agg #[.int .i64 a1_0, .int .i64 a1_1], .int .i64 a2, .int .i64 a3] w fun e w' => ∃ v0_ v1_ v5_ : Value, e = .returned (.tuple #[.agg #[v0_, v1_, .int .i64 0, .int .i64 0, .int .i64 0, v5_], .int .i64 1]) ∧ Kd.R k32 32 w' w.heap.size (fun _ => True) v0_ [] ∧ Kd.R k55 55 w' w.heap.size (fun _ => True) v1_ [] ∧ Kd.R k67 67 w' w.heap.size (fun _ => True) v5_ [] ∧ Below w.heap.size w w' := by
  have hu30 := Try.underlying30
  have hu25 := Try.underlying25
  have hu27 := Try.underlying27
  have hu28 := Try.underlying28
  have hu32 := Try.underlying32
  have hu67 := Try.underlying67
  have hb0 : Below w.heap.size w (((w.alloc (.cells #[.slice A0_0 l0_0.length c0_0, .slice A0_1 l0_1.length c0_1, .int .i64 a0_2, .int .i64 a0_3, .int .i64 a0_4, .slice A0_5 l0_5.length c0_5] 30)).alloc (.cells #[.int .i64 a1_0, .int .i64 a1_1] 32)).alloc (.cells #[.slice none 0 0, .slice none 0 0, .int .i64 0, .int .i64 0, .int .i64 0, .slice none 0 0] 30)) := (((Below.refl _ w).alloc (Nat.le_refl _) _).alloc (by simp) _).alloc (by simp; omega) _
  have HB0 := Aside0.mk hb0
  have HR0 := Aside0.mk hr0_0
  have HC0 := Aside0.mk hc0_0
  have HR1 := Aside0.mk hr0_1
  have HC1 := Aside0.mk hc0_1
  have HR5 := Aside0.mk hr0_5
  have HC5 := Aside0.mk hc0_5
  clear hr0_0 hc0_0 hr0_1 hc0_1 hr0_5 hc0_5 hb0
  have HCK := Aside0.mk hck
  have HHB := Aside0.mk hhb
  have Ha2 := Aside0.mk hin
  have Ha3 := Ha2
  clear hck hhb hin
  go_enter Try.func9, Try.ntmps9
  go_wp2_with (first | (go_at_call 15; refine (wear_Check.calls k _ _ l0_0 _ _ l0_1 a0_2 a0_3 a0_4 _ _ l0_5 _ _ (Kd.C_below HR0.out HB0.out) HC0.out (Kd.C_below HR1.out HB0.out) HC1.out (Kd.C_below HR5.out HB0.out) HC5.out HCK.out).mono ?_; rintro e w1 ⟨rfl, hb⟩; have ha := pb.A.mk3 hb; obtain ⟨q0, q1, q2, q3, q4, q5⟩ := zc6 ⟨ha.k4⟩; obtain ⟨p0, p1⟩ := zc2 ⟨ha.k5⟩; obtain ⟨z0, z1, z2, z3, z4, z5⟩ := zc6 ⟨ha.k8⟩; obtain ⟨y0, y1, y2, y3, y4, y5⟩ := zg6 ⟨ha.k8⟩; have HA := Aside0.mk ha; clear hb ha) | (go_at_call 21; refine (wear_has.calls _ _ l0_0 _ _ l0_1 a1_0 a1_1 true _ (Kd.C_below HR0.out HA.out.kb) HC0.out (Kd.C_below HR1.out HA.out.kb) HC1.out HHB.out).mono ?_; rintro e w2 ⟨rfl, hb⟩; have ha := HA.out.below hb; clear HA q0 q1 q2 q3 q4 q5 p0 p1 z0 z1 z2 z3 z4 z5 y0 y1 y2 y3 y4 y5; obtain ⟨q0, q1, q2, q3, q4, q5⟩ := zc6 ⟨ha.k4⟩; obtain ⟨p0, p1⟩ := zc2 ⟨ha.k5⟩; obtain ⟨z0, z1, z2, z3, z4, z5⟩ := zc6 ⟨ha.k8⟩; obtain ⟨y0, y1, y2, y3, y4, y5⟩ := zg6 ⟨ha.k8⟩; have HA := Aside0.mk ha; clear hb ha) | (go_at_call 22; refine (in_calls _ 0 2000 _ _ (by first | exact Ha2.out | exact Ha3.out)).mono ?_; rintro e w3 ⟨rfl, hb⟩; have ha := HA.out.below hb; clear HA q0 q1 q2 q3 q4 q5 p0 p1 z0 z1 z2 z3 z4 z5 y0 y1 y2 y3 y4 y5; obtain ⟨q0, q1, q2, q3, q4, q5⟩ := zc6 ⟨ha.k4⟩; obtain ⟨p0, p1⟩ := zc2 ⟨ha.k5⟩; obtain ⟨z0, z1, z2, z3, z4, z5⟩ := zc6 ⟨ha.k8⟩; obtain ⟨y0, y1, y2, y3, y4, y5⟩ := zg6 ⟨ha.k8⟩; have HA := Aside0.mk ha; clear hb ha))
  have hz := HA.out.zero
  obtain ⟨hz1, hz2⟩ := hz
  have r0 := (blk_cell hz1 0).trans rfl
  have r1 := (blk_cell hz1 1).trans rfl
  have r2 := (blk_cell hz1 2).trans rfl
  have r3 := (blk_cell hz1 3).trans rfl
  have r4 := (blk_cell hz1 4).trans rfl
  have r5 := (blk_cell hz1 5).trans rfl
  refine bodyPost_ret (v := .tuple #[.agg #[.slice none 0 0, .slice none 0 0, .int .i64 0, .int .i64 0, .int .i64 0, .slice none 0 0], .int .i64 1]) (by simp [results, Try.results9, go_sem, r0, r1, r2, r3, r4, r5]) rfl ⟨_, _, _, rfl, Kd.R_nil _ _ _ _ _, Kd.R_nil _ _ _ _ _, Kd.R_nil _ _ _ _ _, hz2⟩
set_option maxHeartbeats 4000000 in
set_option maxRecDepth 100000 in
theorem wear_Probe.x_arg2 (k : Nat) (A0_0 : Option Addr) (c0_0 : Nat) (l0_0 : List S32) (A0_1 : Option Addr) (c0_1 : Nat) (l0_1 : List S55) (a0_2 : Int) (a0_3 : Int) (a0_4 : Int) (A0_5 : Option Addr) (c0_5 : Nat) (l0_5 : List S67) (a1_0 : Int) (a1_1 : Int) (a2 : Int) (a3 : Int) (w : World) (hr0_0 : Kd.C k32 w A0_0 l0_0.length l0_0) (hc0_0 : l0_0.length ≤ c0_0) (hr0_1 : Kd.C k55 w A0_1 l0_1.length l0_1) (hc0_1 : l0_1.length ≤ c0_1) (hr0_5 : Kd.C k67 w A0_5 l0_5.length l0_5) (hc0_5 : l0_5.length ≤ c0_5) (hck : wear_Check.f k l0_0 l0_1 a0_2 a0_3 a0_4 l0_5 = some 0) (hhb : wear_has.f l0_0 l0_1 a1_0 a1_1 = some true) (hin : wear_in.f a2 0 2000 = some true) (hin2 : wear_in.f a3 0 2000 = some false) :
    Calls Try.prog 9 #[.agg #[.slice A0_0 l0_0.length c0_0, .slice A0_1 l0_1.length c0_1, .int .i64 a0_2, .int .i64 a0_3, .int .i64 a0_4, .slice A0_5 l0_5.length c0_5], .agg #[.int .i64 a1_0, .int .i64 a1_1], .int .i64 a2, .int .i64 a3] w fun e w' => ∃ v0_ v1_ v5_ : Value, e = .returned (.tuple #[.agg #[v0_, v1_, .int .i64 0, .int .i64 0, .int .i64 0, v5_], .int .i64 1]) ∧ Kd.R k32 32 w' w.heap.size (fun _ => True) v0_ [] ∧ Kd.R k55 55 w' w.heap.size (fun _ => True) v1_ [] ∧ Kd.R k67 67 w' w.heap.size (fun _ => True) v5_ [] ∧ Below w.heap.size w w' := by
  have hu30 := Try.underlying30
  have hu25 := Try.underlying25
  have hu27 := Try.underlying27
  have hu28 := Try.underlying28
  have hu32 := Try.underlying32
  have hu67 := Try.underlying67
  have hb0 : Below w.heap.size w (((w.alloc (.cells #[.slice A0_0 l0_0.length c0_0, .slice A0_1 l0_1.length c0_1, .int .i64 a0_2, .int .i64 a0_3, .int .i64 a0_4, .slice A0_5 l0_5.length c0_5] 30)).alloc (.cells #[.int .i64 a1_0, .int .i64 a1_1] 32)).alloc (.cells #[.slice none 0 0, .slice none 0 0, .int .i64 0, .int .i64 0, .int .i64 0, .slice none 0 0] 30)) := (((Below.refl _ w).alloc (Nat.le_refl _) _).alloc (by simp) _).alloc (by simp; omega) _
  have HB0 := Aside0.mk hb0
  have HR0 := Aside0.mk hr0_0
  have HC0 := Aside0.mk hc0_0
  have HR1 := Aside0.mk hr0_1
  have HC1 := Aside0.mk hc0_1
  have HR5 := Aside0.mk hr0_5
  have HC5 := Aside0.mk hc0_5
  clear hr0_0 hc0_0 hr0_1 hc0_1 hr0_5 hc0_5 hb0
  have HCK := Aside0.mk hck
  have HHB := Aside0.mk hhb
  have Ha2 := Aside0.mk hin
  have Ha3 := Aside0.mk hin2
  clear hck hhb hin hin2
  go_enter Try.func9, Try.ntmps9
  go_wp2_with (first | (go_at_call 15; refine (wear_Check.calls k _ _ l0_0 _ _ l0_1 a0_2 a0_3 a0_4 _ _ l0_5 _ _ (Kd.C_below HR0.out HB0.out) HC0.out (Kd.C_below HR1.out HB0.out) HC1.out (Kd.C_below HR5.out HB0.out) HC5.out HCK.out).mono ?_; rintro e w1 ⟨rfl, hb⟩; have ha := pb.A.mk3 hb; obtain ⟨q0, q1, q2, q3, q4, q5⟩ := zc6 ⟨ha.k4⟩; obtain ⟨p0, p1⟩ := zc2 ⟨ha.k5⟩; obtain ⟨z0, z1, z2, z3, z4, z5⟩ := zc6 ⟨ha.k8⟩; obtain ⟨y0, y1, y2, y3, y4, y5⟩ := zg6 ⟨ha.k8⟩; have HA := Aside0.mk ha; clear hb ha) | (go_at_call 21; refine (wear_has.calls _ _ l0_0 _ _ l0_1 a1_0 a1_1 true _ (Kd.C_below HR0.out HA.out.kb) HC0.out (Kd.C_below HR1.out HA.out.kb) HC1.out HHB.out).mono ?_; rintro e w2 ⟨rfl, hb⟩; have ha := HA.out.below hb; clear HA q0 q1 q2 q3 q4 q5 p0 p1 z0 z1 z2 z3 z4 z5 y0 y1 y2 y3 y4 y5; obtain ⟨q0, q1, q2, q3, q4, q5⟩ := zc6 ⟨ha.k4⟩; obtain ⟨p0, p1⟩ := zc2 ⟨ha.k5⟩; obtain ⟨z0, z1, z2, z3, z4, z5⟩ := zc6 ⟨ha.k8⟩; obtain ⟨y0, y1, y2, y3, y4, y5⟩ := zg6 ⟨ha.k8⟩; have HA := Aside0.mk ha; clear hb ha) | (go_at_call 22; refine (in_calls _ 0 2000 _ _ (by first | exact Ha2.out | exact Ha3.out)).mono ?_; rintro e w3 ⟨rfl, hb⟩; have ha := HA.out.below hb; clear HA q0 q1 q2 q3 q4 q5 p0 p1 z0 z1 z2 z3 z4 z5 y0 y1 y2 y3 y4 y5; obtain ⟨q0, q1, q2, q3, q4, q5⟩ := zc6 ⟨ha.k4⟩; obtain ⟨p0, p1⟩ := zc2 ⟨ha.k5⟩; obtain ⟨z0, z1, z2, z3, z4, z5⟩ := zc6 ⟨ha.k8⟩; obtain ⟨y0, y1, y2, y3, y4, y5⟩ := zg6 ⟨ha.k8⟩; have HA := Aside0.mk ha; clear hb ha))
  have hz := HA.out.zero
  obtain ⟨hz1, hz2⟩ := hz
  have r0 := (blk_cell hz1 0).trans rfl
  have r1 := (blk_cell hz1 1).trans rfl
  have r2 := (blk_cell hz1 2).trans rfl
  have r3 := (blk_cell hz1 3).trans rfl
  have r4 := (blk_cell hz1 4).trans rfl
  have r5 := (blk_cell hz1 5).trans rfl
  refine bodyPost_ret (v := .tuple #[.agg #[.slice none 0 0, .slice none 0 0, .int .i64 0, .int .i64 0, .int .i64 0, .slice none 0 0], .int .i64 1]) (by simp [results, Try.results9, go_sem, r0, r1, r2, r3, r4, r5]) rfl ⟨_, _, _, rfl, Kd.R_nil _ _ _ _ _, Kd.R_nil _ _ _ _ _, Kd.R_nil _ _ _ _ _, hz2⟩
theorem max2_mx (k k' : IntKind) (x y : Int) : Builtin.max2 (.int k x) (.int k' y) = pure (.int k (mx x y)) := max2_int k k' x y
theorem min2_mn (k k' : IntKind) (x y : Int) : Builtin.min2 (.int k x) (.int k' y) = pure (.int k (mn x y)) := min2_int k k' x y
section
attribute [-go_sem] max2_int min2_int
attribute [local go_sem] max2_mx min2_mn
theorem pb.bound {α : Type} {d : Kd α} {t : Nat} {w : World} {base : Nat} {ok : Nat → Prop} {v : Value} {xs : List α} (hE : d.E = []) (h : d.R t w base ok v xs) : d.R t w base (fun k => base ≤ k ∧ k < w.heap.size ∧ ∃ cs, w.heap[k]? = some (.cells cs t (0, 0))) v xs :=
  Kd.R_mono (Kd.R_bound h) (fun k hk => ⟨hk.2.1, hk.2.2.1, by
    obtain ⟨q, hq, cs, hc⟩ := hk.2.2.2
    rw [hE] at hq
    obtain rfl := List.mem_singleton.1 hq
    exact ⟨cs, hc⟩⟩)
structure pb.B (w : World) (sk : Array Value) (p0 p1 lo hi : Int) (b11 : Nat) (w5 : World) (row : Option Nat) (W : World) : Prop where
  a : pb.A w sk p0 p1 W
  k11 : W.heap[b11]? = some (.cells #[.int .i64 lo, .int .i64 hi] 27 (0, 0))
  kk : ∀ k, b11 < k → k < w5.heap.size → some k ≠ row → W.heap[k]? = w5.heap[k]?
  k5s : w5.heap.size ≤ W.heap.size
theorem pb.B.below {w : World} {sk : Array Value} {p0 p1 lo hi : Int} {b11 : Nat} {w5 : World} {row : Option Nat} {W W' : World} (h : pb.B w sk p0 p1 lo hi b11 w5 row W) (hb : Below W.heap.size W W') : pb.B w sk p0 p1 lo hi b11 w5 row W' :=
  ⟨h.a.below hb, (hb.block _ (Array.getElem?_eq_some_iff.1 h.k11).1).trans h.k11, fun k h1 h2 h3 => (hb.block _ (Nat.lt_of_lt_of_le h2 h.k5s)).trans (h.kk k h1 h2 h3), Nat.le_trans h.k5s hb.size⟩
theorem pb.first {w : World} {c0 c1 c2 c3 c4 c5 : Value} {s0 s1 lo hi : Int} {b11 : Nat} {w5 : World} {p0 p1 p2 p3 p4 p5 : Value} (ha : pb.A w #[c0, c1, c2, c3, c4, c5] s0 s1 w5) (h11 : w5.heap[b11]? = some (.cells #[.int .i64 lo, .int .i64 hi] 27 (0, 0))) (hlt : w.heap.size + 3 ≤ b11) :
    pb.B w #[p0, p1, p2, p3, p4, p5] s0 s1 lo hi b11 w5 none ((((((w5.setCell ⟨w.heap.size, 0, none⟩ p0).setCell ⟨w.heap.size, 1, none⟩ p1).setCell ⟨w.heap.size, 2, none⟩ p2).setCell ⟨w.heap.size, 3, none⟩ p3).setCell ⟨w.heap.size, 4, none⟩ p4).setCell ⟨w.heap.size, 5, none⟩ p5) :=
  ⟨⟨six_set ha.k4, (six_other (by omega)).trans ha.k5, (six_other (by omega)).trans ha.k8, by rw [six_size]; exact ha.ks, six_below ha.kb (Nat.le_refl _)⟩, (six_other (by omega)).trans h11, fun k h1 h2 _ => six_other (by omega), by rw [six_size]; exact Nat.le_refl _⟩
theorem pb.B.keeps {α : Type} {d : Kd α} {t : Nat} {xs : List α} {v v5 : Value} {w : World} {sk : Array Value} {p0 p1 lo hi : Int} {b11 base : Nat} {w5 : World} {W : World} (h : pb.B w sk p0 p1 lo hi b11 w5 v5.ownBlock W)
    (hR : d.R t w5 base (fun k => base ≤ k ∧ k < w5.heap.size ∧ ∃ cs, w5.heap[k]? = some (.cells cs t (0, 0))) v xs) (hne : ∀ k, v5.ownBlock = some k → ∃ cs, w5.heap[k]? = some (.cells cs 67 (0, 0))) (ht : t ≠ 67) (hb : b11 < base) (hw : w.heap.size ≤ base) : d.R t W w.heap.size (fun _ => True) v xs :=
  Kd.R_mono (Kd.R_lower (Kd.R_step hR (fun k ho hk => h.kk k (by omega) ho.2.1 (fun he => by
    obtain ⟨cs, hc⟩ := hne k he.symm
    obtain ⟨cs', hc'⟩ := ho.2.2
    rw [hc] at hc'
    simp at hc'
    exact ht hc'.2.symm))) hw) (fun _ _ => trivial)
theorem reps_set2 {xs : List S67} {L : List Value} (h : Reps Em 4 xs L) (K : Nat) (hK : K < xs.length) (a b : Int) :
    Reps Em 4 (xs.set K ⟨(xs.getD K z67).f0, ⟨a, b⟩⟩) ((L.set (K * 4 + 2) (.int .i64 a)).set (K * 4 + 3) (.int .i64 b)) := by
  have hl := h.1
  refine ⟨by simp [hl], fun j p hj => ?_⟩
  have hjl : j < xs.length := by
    have := (List.getElem?_eq_some_iff.1 hj).1
    simpa using this
  have key : ∀ (M : List Value) (t : Nat), ((M.drop (j * 4)).take 4)[t]? = if t < 4 then M[j * 4 + t]? else none := fun M t => by
    rw [List.getElem?_take, List.getElem?_drop]
  have h2 := h.2 j xs[j] (List.getElem?_eq_getElem hjl)
  have h2' : (L.drop (j * 4)).take 4 = encM xs[j] := h2
  show ((((L.set (K * 4 + 2) (.int .i64 a)).set (K * 4 + 3) (.int .i64 b)).drop (j * 4)).take 4) = encM p
  apply List.ext_getElem?
  intro t
  rw [key]
  have h3 : (if t < 4 then L[j * 4 + t]? else none) = (encM xs[j])[t]? := by rw [← key, h2']
  by_cases ht : t < 4
  · rw [if_pos ht] at h3 ⊢
    rw [List.getElem?_set, List.getElem?_set]
    by_cases hjk : j = K
    · subst hjk
      have hp : p = ⟨(xs.getD j z67).f0, ⟨a, b⟩⟩ := by
        rw [List.getElem?_set_self hjl] at hj
        exact (Option.some.inj hj).symm
      have hg : xs.getD j z67 = xs[j] := by simp [List.getD_eq_getElem?_getD, List.getElem?_eq_getElem hjl]
      rw [hp, hg]
      match t, ht with
      | 0, _ => rw [if_neg (by omega), if_neg (by omega), h3]; rfl
      | 1, _ => rw [if_neg (by omega), if_neg (by omega), h3]; rfl
      | 2, _ => rw [if_neg (by omega), if_pos (by omega), if_pos (by omega)]; rfl
      | 3, _ => rw [if_pos (by omega), if_pos (by simp; omega)]; rfl
    have hp : p = xs[j] := by
      rw [List.getElem?_set_ne (Ne.symm hjk), List.getElem?_eq_getElem hjl] at hj
      exact (Option.some.inj hj).symm
    rw [hp, if_neg (by omega), if_neg (by omega), h3]
  rw [if_neg ht]
  exact (List.getElem?_eq_none (by simp [encM]; omega)).symm
theorem pb.B.mark {w : World} {sk : Array Value} {p0 p1 lo hi : Int} {b11 : Nat} {w5 W : World} {g i j : Nat} {u v : Value} {cur : Array Value} {row : Option Nat} (h : pb.B w sk p0 p1 lo hi b11 w5 none W) (hg : W.heap[g]? = some (.cells cur 67 (0, 0))) (h1 : w.heap.size + 3 ≤ b11) (h2 : b11 < g) (hrow : row = some g) :
    pb.B w sk p0 p1 lo hi b11 w5 row ((W.setCell ⟨g, i, none⟩ u).setCell ⟨g, j, none⟩ v).drew ∧ ((W.setCell ⟨g, i, none⟩ u).setCell ⟨g, j, none⟩ v).drew.heap[g]? = some (.cells ((cur.setIfInBounds i u).setIfInBounds j v) 67 (0, 0)) := by
  subst hrow
  have ho : ∀ k, k ≠ g → ((W.setCell ⟨g, i, none⟩ u).setCell ⟨g, j, none⟩ v).drew.heap[k]? = W.heap[k]? := fun k hk =>
    (Below.heap_setCell _ _ _ k hk).trans (Below.heap_setCell _ _ _ k hk)
  have hs : ((W.setCell ⟨g, i, none⟩ u).setCell ⟨g, j, none⟩ v).drew.heap.size = W.heap.size := by simp [World.drew, World.setCell]
  refine ⟨⟨⟨(ho _ (by omega)).trans h.a.k4, (ho _ (by omega)).trans h.a.k5, (ho _ (by omega)).trans h.a.k8, by rw [hs]; exact h.a.ks, ((h.a.kb.setCell (by simp; omega) _).setCell (by simp; omega) _).drew⟩, (ho _ (by omega)).trans h.k11, fun k a1 a2 a3 => (ho k (fun he => a3 (by rw [he]))).trans (h.kk k a1 a2 (by simp)), by rw [hs]; exact h.k5s⟩, ?_⟩
  exact blk_put (blk_put hg i u rfl) j v rfl
theorem pb.last {α : Type} {d : Kd α} {t : Nat} {xs : List α} {v : Value} {w : World} {sk : Array Value} {s0 s1 : Int} {W : World} {p0 p1 p2 p3 p4 p5 : Value} (h : pb.A w sk s0 s1 W) (hR : d.R t W w.heap.size (fun _ => True) v xs) (hE : d.E = []) (ht : t ≠ 30) :
    d.R t ((((((W.setCell ⟨w.heap.size + 1 + 1, 0, none⟩ p0).setCell ⟨w.heap.size + 1 + 1, 1, none⟩ p1).setCell ⟨w.heap.size + 1 + 1, 2, none⟩ p2).setCell ⟨w.heap.size + 1 + 1, 3, none⟩ p3).setCell ⟨w.heap.size + 1 + 1, 4, none⟩ p4).setCell ⟨w.heap.size + 1 + 1, 5, none⟩ p5) w.heap.size (fun _ => True) v xs :=
  Kd.R_mono (Kd.R_step (pb.bound hE hR) (fun k ho hk => six_other (by
    rintro rfl
    obtain ⟨cs, hc⟩ := ho.2.2
    rw [h.k8] at hc
    simp at hc
    exact ht hc.2.symm))) (fun _ _ => trivial)
theorem bs.go_le (l : List S67) (p0 p1 : Int) : ∀ (k i j : Nat), i ≤ j → bs.go l p0 p1 k i j ≤ j
  | 0, i, j, h => h
  | k + 1, i, j, h => by
    simp only [bs.go]
    split
    · split
      · exact bs.go_le l p0 p1 k _ _ (by omega)
      exact Nat.le_trans (bs.go_le l p0 p1 k _ _ (by omega)) (by omega)
    exact h
theorem pb.B.grown {w : World} {sk : Array Value} {p0 p1 lo hi : Int} {b11 : Nat} {w5 W W' : World} {row : Option Nat} (h : pb.B w sk p0 p1 lo hi b11 w5 none W) (hg : W.grownBy W' row) (hrow : ∀ k, row = some k → b11 < k) (hlt : w.heap.size + 3 ≤ b11) (hkb : Below w.heap.size w W') : pb.B w sk p0 p1 lo hi b11 w5 row W' := by
  have ho : ∀ k, k ≤ b11 → some k ≠ row := fun k hk he => by have := hrow k he.symm; omega
  have hb : b11 < W.heap.size := (Array.getElem?_eq_some_iff.1 h.k11).1
  exact ⟨⟨(hg.block _ (by omega) (ho _ (by omega))).trans h.a.k4, (hg.block _ (by omega) (ho _ (by omega))).trans h.a.k5, (hg.block _ (by omega) (ho _ (by omega))).trans h.a.k8, Nat.le_trans h.a.ks hg.size, hkb⟩, (hg.block _ hb (ho _ (Nat.le_refl _))).trans h.k11,
    fun k h1 h2 h3 => (hg.block _ (Nat.lt_of_lt_of_le h2 h.k5s) h3).trans (h.kk k h1 h2 (by simp)), Nat.le_trans h.k5s hg.size⟩
theorem pb.B.set5 {w : World} {c0 c1 c2 c3 c4 c5 v : Value} {s0 s1 lo hi : Int} {b11 : Nat} {w5 W : World} {row : Option Nat} (h : pb.B w #[c0, c1, c2, c3, c4, c5] s0 s1 lo hi b11 w5 row W) (hlt : w.heap.size + 3 ≤ b11) : pb.B w #[c0, c1, c2, c3, c4, v] s0 s1 lo hi b11 w5 row (W.setCell ⟨w.heap.size, 5, none⟩ v) := by
  have ho : ∀ k, k ≠ w.heap.size → (W.setCell ⟨w.heap.size, 5, none⟩ v).heap[k]? = W.heap[k]? := fun k hk => Below.heap_setCell _ _ _ k hk
  have hs : (W.setCell ⟨w.heap.size, 5, none⟩ v).heap.size = W.heap.size := by simp [World.setCell]
  exact ⟨⟨blk_put h.a.k4 5 v rfl, (ho _ (by omega)).trans h.a.k5, (ho _ (by omega)).trans h.a.k8, by rw [hs]; exact h.a.ks, h.a.kb.setCell (by simp) _⟩, (ho _ (by omega)).trans h.k11, fun k a1 a2 a3 => (ho k (by omega)).trans (h.kk k a1 a2 a3), by rw [hs]; exact h.k5s⟩
theorem pb.set {α : Type} {d : Kd α} {t : Nat} {xs : List α} {v u : Value} {w : World} {sk : Array Value} {s0 s1 : Int} {W : World} (h : pb.A w sk s0 s1 W) (hR : d.R t W w.heap.size (fun _ => True) v xs) (hE : d.E = []) (ht : t ≠ 30) :
    d.R t (W.setCell ⟨w.heap.size, 5, none⟩ u) w.heap.size (fun _ => True) v xs :=
  Kd.R_mono (Kd.R_step (pb.bound hE hR) (fun k ho hk => Below.heap_setCell _ _ _ k (by
    rintro rfl
    obtain ⟨cs, hc⟩ := ho.2.2
    rw [h.k4] at hc
    simp at hc
    exact ht hc.2.symm))) (fun _ _ => trivial)
set_option maxHeartbeats 4000000 in
set_option maxRecDepth 100000 in
theorem wear_Probe.t_all (k : Nat) (A0_0 : Option Addr) (c0_0 : Nat) (l0_0 : List S32) (A0_1 : Option Addr) (c0_1 : Nat) (l0_1 : List S55) (a0_2 : Int) (a0_3 : Int) (a0_4 : Int) (A0_5 : Option Addr) (c0_5 : Nat) (l0_5 : List S67) (a1_0 : Int) (a1_1 : Int) (a2 : Int) (a3 : Int) (w : World) (hr0_0 : Kd.C k32 w A0_0 l0_0.length l0_0) (hc0_0 : l0_0.length ≤ c0_0) (hr0_1 : Kd.C k55 w A0_1 l0_1.length l0_1) (hc0_1 : l0_1.length ≤ c0_1) (hr0_5 : Kd.C k67 w A0_5 l0_5.length l0_5) (hc0_5 : l0_5.length ≤ c0_5) (hck : wear_Check.f k l0_0 l0_1 a0_2 a0_3 a0_4 l0_5 = some 0) (hhb : wear_has.f l0_0 l0_1 a1_0 a1_1 = some true) (hin : wear_in.f a2 0 2000 = some true) (hin2 : wear_in.f a3 0 2000 = some true) (hn0 : l0_0.length < 1000) (hn1 : l0_1.length < 1000) (hn5 : l0_5.length < 900) (ms : List S67) (hth : bs.there l0_5 a1_0 a1_1 (bs.at l0_5 a1_0 a1_1 0 l0_5.length) = true) (hm : wear_Probe.marks l0_5 a1_0 a1_1 a2 a3 = ms) (r1 : List S32) (r2 : List S55) (r3 : Int) (r4 : Int) (r5 : Int) (r6 : List S67) (r7 : Int) (h : (if 40 < ms.length then some ([], [], 0, 0, 0, [], 3) else (wear_Check.f k l0_0 l0_1 a0_2 a0_3 a0_4 ms).bind fun e2 => if e2 = 0 then some (l0_0, l0_1, a0_2, a0_3, a0_4, ms, 0) else some ([], [], 0, 0, 0, [], 10)) = some (r1, r2, r3, r4, r5, r6, r7)) :
    Calls Try.prog 9 #[.agg #[.slice A0_0 l0_0.length c0_0, .slice A0_1 l0_1.length c0_1, .int .i64 a0_2, .int .i64 a0_3, .int .i64 a0_4, .slice A0_5 l0_5.length c0_5], .agg #[.int .i64 a1_0, .int .i64 a1_1], .int .i64 a2, .int .i64 a3] w fun e w' => ∃ v0_ v1_ v5_ : Value, e = .returned (.tuple #[.agg #[v0_, v1_, .int .i64 r3, .int .i64 r4, .int .i64 r5, v5_], .int .i64 r7]) ∧ Kd.R k32 32 w' w.heap.size (fun _ => True) v0_ r1 ∧ Kd.R k55 55 w' w.heap.size (fun _ => True) v1_ r2 ∧ Kd.R k67 67 w' w.heap.size (fun _ => True) v5_ r6 ∧ Below w.heap.size w w' := by
  have hu30 := Try.underlying30
  have hu25 := Try.underlying25
  have hu27 := Try.underlying27
  have hu28 := Try.underlying28
  have hu32 := Try.underlying32
  have hu67 := Try.underlying67
  have hb0 : Below w.heap.size w (((w.alloc (.cells #[.slice A0_0 l0_0.length c0_0, .slice A0_1 l0_1.length c0_1, .int .i64 a0_2, .int .i64 a0_3, .int .i64 a0_4, .slice A0_5 l0_5.length c0_5] 30)).alloc (.cells #[.int .i64 a1_0, .int .i64 a1_1] 32)).alloc (.cells #[.slice none 0 0, .slice none 0 0, .int .i64 0, .int .i64 0, .int .i64 0, .slice none 0 0] 30)) := (((Below.refl _ w).alloc (Nat.le_refl _) _).alloc (by simp) _).alloc (by simp; omega) _
  have HB0 := Aside0.mk hb0
  have HR0 := Aside0.mk hr0_0
  have HC0 := Aside0.mk hc0_0
  have HR1 := Aside0.mk hr0_1
  have HC1 := Aside0.mk hc0_1
  have HR5 := Aside0.mk hr0_5
  have HC5 := Aside0.mk hc0_5
  clear hr0_0 hc0_0 hr0_1 hc0_1 hr0_5 hc0_5 hb0
  have HCK := Aside0.mk hck
  have HHB := Aside0.mk hhb
  have Ha2 := Aside0.mk hin
  have Ha3 := Aside0.mk hin2
  have HN := Aside0.mk (And.intro hn0 (And.intro hn1 hn5))
  have HTW := Aside0.mk (show wear_twin.f l0_0 l0_1 a0_2 a0_3 a0_4 l0_5 = some (l0_0, l0_1, a0_2, a0_3, a0_4, l0_5) by
    simp only [wear_twin.f, api_Pt_44.f, api_Box_45.f, api_Mark_46.f]
    rw [if_pos (by omega), if_pos (by omega), if_pos (by omega)]
    rfl)
  have HBS := Aside0.mk (show api_Pt_wear_Probe_1.f l0_5 a1_0 a1_1 = some (((bs.at l0_5 a1_0 a1_1 0 l0_5.length : Nat) : Int), bs.there l0_5 a1_0 a1_1 (bs.at l0_5 a1_0 a1_1 0 l0_5.length)) by unfold api_Pt_wear_Probe_1.f; rw [if_neg (by omega)])
  unfold wear_Probe.marks at *
  rw [hth] at HBS
  rw [hth] at hm
  obtain ⟨K, hK⟩ : ∃ K, bs.at l0_5 a1_0 a1_1 0 l0_5.length = K := ⟨_, rfl⟩
  rw [hK] at HBS
  rw [hK] at hm hth
  obtain ⟨lo, hlo⟩ : ∃ lo : Int, mx (wrap64 (a2 - a3)) 0 = lo := ⟨_, rfl⟩
  obtain ⟨hi, hhi⟩ : ∃ hi : Int, mn (wrap64 (a2 + a3)) 2000 = hi := ⟨_, rfl⟩
  rw [hlo, hhi] at hm
  clear hck hhb hin hin2 hn0 hn1 hn5
  have HKL := Aside0.mk (show K < l0_5.length by unfold bs.there at hth; simp at hth; exact hth.1)
  have HM := Aside0.mk hm
  have pK : (0 ≤ (K : Int)) = True := eq_true (by omega)
  have qK : ((K : Int) < (l0_5.length : Int)) = True := eq_true (by have := HKL.out; omega)
  clear hm hth hK
  have HQ := Aside0.mk h
  clear h
  go_enter Try.func9, Try.ntmps9
  go_wp2_with (first | (go_at_call 15; refine (wear_Check.calls k _ _ l0_0 _ _ l0_1 a0_2 a0_3 a0_4 _ _ l0_5 _ _ (Kd.C_below HR0.out HB0.out) HC0.out (Kd.C_below HR1.out HB0.out) HC1.out (Kd.C_below HR5.out HB0.out) HC5.out HCK.out).mono ?_; rintro e w1 ⟨rfl, hb⟩; have ha := pb.A.mk3 hb; obtain ⟨q0, q1, q2, q3, q4, q5⟩ := zc6 ⟨ha.k4⟩; obtain ⟨p0, p1⟩ := zc2 ⟨ha.k5⟩; obtain ⟨z0, z1, z2, z3, z4, z5⟩ := zc6 ⟨ha.k8⟩; obtain ⟨y0, y1, y2, y3, y4, y5⟩ := zg6 ⟨ha.k8⟩; have HA := Aside0.mk ha; clear hb ha) | (go_at_call 21; refine (wear_has.calls _ _ l0_0 _ _ l0_1 a1_0 a1_1 true _ (Kd.C_below HR0.out HA.out.kb) HC0.out (Kd.C_below HR1.out HA.out.kb) HC1.out HHB.out).mono ?_; rintro e w2 ⟨rfl, hb⟩; have ha := HA.out.below hb; clear HA q0 q1 q2 q3 q4 q5 p0 p1 z0 z1 z2 z3 z4 z5 y0 y1 y2 y3 y4 y5; obtain ⟨q0, q1, q2, q3, q4, q5⟩ := zc6 ⟨ha.k4⟩; obtain ⟨p0, p1⟩ := zc2 ⟨ha.k5⟩; obtain ⟨z0, z1, z2, z3, z4, z5⟩ := zc6 ⟨ha.k8⟩; obtain ⟨y0, y1, y2, y3, y4, y5⟩ := zg6 ⟨ha.k8⟩; have HA := Aside0.mk ha; clear hb ha) | (go_at_call 22; refine (in_calls _ 0 2000 _ _ Ha2.out).mono ?_; rintro e w3 ⟨rfl, hb⟩; have ha := HA.out.below hb; clear HA Ha2 q0 q1 q2 q3 q4 q5 p0 p1 z0 z1 z2 z3 z4 z5 y0 y1 y2 y3 y4 y5; obtain ⟨q0, q1, q2, q3, q4, q5⟩ := zc6 ⟨ha.k4⟩; obtain ⟨p0, p1⟩ := zc2 ⟨ha.k5⟩; obtain ⟨z0, z1, z2, z3, z4, z5⟩ := zc6 ⟨ha.k8⟩; obtain ⟨y0, y1, y2, y3, y4, y5⟩ := zg6 ⟨ha.k8⟩; have HA := Aside0.mk ha; clear hb ha) | (go_at_call 22; refine (in_calls _ 0 2000 _ _ Ha3.out).mono ?_; rintro e w4 ⟨rfl, hb⟩; have ha := HA.out.below hb; clear HA Ha3 q0 q1 q2 q3 q4 q5 p0 p1 z0 z1 z2 z3 z4 z5 y0 y1 y2 y3 y4 y5; have ha2 := ha.below ((Below.refl _ w4).alloc (Nat.le_refl _) (.cells #[.int .i64 lo, .int .i64 hi] 27)); obtain ⟨q0, q1, q2, q3, q4, q5⟩ := zc6 ⟨ha2.k4⟩; obtain ⟨p0, p1⟩ := zc2 ⟨ha2.k5⟩; have HA2 := Aside0.mk ha2; have HS4 := Aside0.mk ha.ks; clear hb ha ha2) | (go_at_call 23; refine (wear_twin.calls _ _ l0_0 _ _ l0_1 a0_2 a0_3 a0_4 _ _ l0_5 l0_0 l0_1 a0_2 a0_3 a0_4 l0_5 _ (Kd.C_below HR0.out HA2.out.kb) HC0.out (Kd.C_below HR1.out HA2.out.kb) HC1.out (Kd.C_below HR5.out HA2.out.kb) HC5.out HTW.out).mono ?_; rintro e w5 ⟨v0, v1, v5, rfl, ho0, ho1, ho5, hb5⟩; have ho0 := pb.bound rfl ho0; have ho1 := pb.bound rfl ho1; have ho5 := pb.bound rfl ho5; obtain ⟨B0, d0, e0⟩ := Kd.R_slice ho0; obtain ⟨B1, d1, e1⟩ := Kd.R_slice ho1; obtain ⟨B5, d5, e5⟩ := Kd.R_slice ho5; subst e0; subst e1; subst e5; have ha := HA2.out.below hb5; have h11 : w5.heap[w4.heap.size]? = some (.cells #[.int .i64 lo, .int .i64 hi] 27 (0, 0)) := (hb5.block _ (by simp)).trans (World.alloc_heap_new _ _); have hf := pb.first (p0 := .slice B0 l0_0.length d0) (p1 := .slice B1 l0_1.length d1) (p2 := .int .i64 a0_2) (p3 := .int .i64 a0_3) (p4 := .int .i64 a0_4) (p5 := .slice B5 l0_5.length d5) ha h11 HS4.out; clear q0 q1 q2 q3 q4 q5 p0 p1; obtain ⟨z0, z1, z2, z3, z4, z5⟩ := zc6 ⟨ha.k4⟩; obtain ⟨y0, y1, y2, y3, y4, y5⟩ := zg6 ⟨ha.k4⟩; obtain ⟨q0, q1, q2, q3, q4, q5⟩ := zc6 ⟨hf.a.k4⟩; obtain ⟨p0, p1⟩ := zc2 ⟨hf.a.k5⟩; have HO0 := Aside0.mk ho0; have HO1 := Aside0.mk ho1; have HO5 := Aside0.mk ho5; have HF := Aside0.mk hf; clear ho0 ho1 ho5 hb5 ha h11 hf) | (go_at_call 24; have hR6 := Kd.R_step HO5.out (fun k ho hk => HF.out.kk k (by have := ho.1; simp at this; omega) ho.2.1 (by simp)); refine (api_Pt_wear_Probe_1.calls _ _ l0_5 a1_0 a1_1 _ _ _ (Kd.R_reads' hR6).2.2 (Kd.R_reads' hR6).2.1 HBS.out).mono ?_; rintro e w6 ⟨rfl, hb6⟩; have hR6 := Kd.R_below hR6 hb6; have hf := HF.out.below hb6; clear HF q0 q1 q2 q3 q4 q5 p0 p1 z0 z1 z2 z3 z4 z5 y0 y1 y2 y3 y4 y5; obtain ⟨g, cap, cur, hv5, hg5, hok5, hh5, hn5, hc5, hs5, hr5⟩ := (own_open hR6).resolve_left (fun h => by have := HKL.out; rw [h.2] at this; simp at this); simp only [Value.slice.injEq] at hv5; obtain ⟨e1, -, e2⟩ := hv5; subst e1; subst e2; obtain ⟨q0, q1, q2, q3, q4, q5⟩ := zc6 ⟨hf.a.k4⟩; obtain ⟨p0, p1⟩ := zc2 ⟨hf.a.k5⟩; obtain ⟨l0, l1⟩ := zc2 ⟨hf.k11⟩; obtain ⟨ad, ea, g0, g1, g2, g3⟩ := at_T67 (Kd.R_reads' hR6).2.2 (K : Int) (by omega) (by have := HKL.out; omega); obtain rfl : ad = ⟨g, 0, none⟩ := (Option.some.inj ea).symm; have HF := Aside0.mk hf; have HH5 := Aside0.mk hh5; have HOK := Aside0.mk hok5; have HG5 := Aside0.mk (And.intro hn5 (And.intro hc5 hs5)); have HRP := Aside0.mk hr5; clear hf hb6 hR6 hg5 hok5 hh5 hn5 hc5 hs5 hr5 ea; simp only [Addr.add_lit, Int.toNat_natCast, Nat.zero_add] at g0 g1 g2 g3))
  have hh6 : w6.drew.heap[g]? = some (.cells cur 67 (0, 0)) := HH5.out
  have z2 : w6.drew.cell? ⟨g, K * 4 + 2, none⟩ = some (.int .i64 (rd_T67 l0_5 K).f1.f0) := g2
  have z3 : w6.drew.cell? ⟨g, K * 4 + 3, none⟩ = some (.int .i64 (rd_T67 l0_5 K).f1.f1) := g3
  have y2 := blk_frozen hh6 (K * 4 + 2)
  have y3 := blk_frozen hh6 (K * 4 + 3)
  have y4 : w6.frozen? ⟨g, K * 4 + 2 + 1, none⟩ = false := blk_frozen HH5.out _
  refine start_ (n := 18) (S := (fun w' => w'.cell? ⟨g, K * 4 + 2, none⟩ = some (.int .i64 (rd_T67 l0_5 K).f1.f0) ∧ w'.cell? ⟨g, K * 4 + 3, none⟩ = some (.int .i64 (rd_T67 l0_5 K).f1.f1) ∧ w'.cell? ⟨w4.heap.size, 0, none⟩ = some (.int .i64 lo) ∧ w'.cell? ⟨w4.heap.size, 1, none⟩ = some (.int .i64 hi))) (ds := [17]) #[Z0, Z0, Z0, Z0, Z0, Z0, Z0, Z0, Z0, Z0, Z0, Z0, Z0, Z0, Z0, Z0, Z0, Z0] (by kernel_rfl) rfl rfl ⟨g2, g3, l0, l1⟩ (fun hHeld => ?_)
  refine zp 0 (some 63) #[Z1, Z0, Z0, Z0, Z0, Z0, Z0, Z0, Z0, Z0, Z0, Z0, Z0, Z0, Z0, Z0, Z0, Z0] rfl rfl (by kernel_rfl) ?_
  refine zp 1 (some 64) #[Z1, Z1, Z0, Z0, Z0, Z0, Z0, Z0, Z0, Z0, Z0, Z0, Z0, Z0, Z0, Z0, Z0, Z0] rfl rfl (by kernel_rfl) ?_
  refine zp 2 (some 65) #[Z1, Z1, Z1, Z0, Z0, Z0, Z0, Z0, Z0, Z0, Z0, Z0, Z0, Z0, Z0, Z0, Z0, Z0] rfl rfl (by kernel_rfl) ?_
  refine zp 3 (some 66) #[Z1, Z1, Z1, Z1, Z0, Z0, Z0, Z0, Z0, Z0, Z0, Z0, Z0, Z0, Z0, Z0, Z0, Z0] rfl rfl (by kernel_rfl) ?_
  refine take_ (i := 4) (N := (some 67)) (v := ?_) (a' := ?_) #[Z1, Z1, Z1, Z1, Z1, Z0, Z0, Z0, Z0, Z0, Z0, Z0, Z0, Z0, Z0, Z0, Z0, Z0] rfl rfl (by kernel_rfl) (fun _ _ _ h => h) (Or.inl ⟨by rfl, ?_⟩) hHeld ?_ ?_
  rotate_left; · rintro w' ⟨s0, s1, s2, s3⟩; go_simp; with_reducible rfl
  rotate_left; · simp only [Act.put, List.setIfInBounds_toArray, List.set_cons_zero, List.set_cons_succ, i64_w, i32_w]; rfl
  refine zp 5 (some 68) #[Z1, Z1, Z1, Z1, Z1, Z1, Z0, Z0, Z0, Z0, Z0, Z0, Z0, Z0, Z0, Z0, Z0, Z0] rfl rfl (by kernel_rfl) ?_
  refine take_ (i := 6) (N := (some 69)) (v := ?_) (a' := ?_) #[Z1, Z1, Z1, Z1, Z1, Z1, Z1, Z0, Z0, Z0, Z0, Z0, Z0, Z0, Z0, Z0, Z0, Z0] rfl rfl (by kernel_rfl) (fun _ _ _ h => h) (Or.inl ⟨by rfl, ?_⟩) hHeld ?_ ?_
  rotate_left; · rintro w' ⟨s0, s1, s2, s3⟩; go_simp; with_reducible rfl
  rotate_left; · simp only [Act.put, List.setIfInBounds_toArray, List.set_cons_zero, List.set_cons_succ, i64_w, i32_w]; rfl
  refine zp 7 (some 70) #[Z1, Z1, Z1, Z1, Z1, Z1, Z1, Z1, Z0, Z0, Z0, Z0, Z0, Z0, Z0, Z0, Z0, Z0] rfl rfl (by kernel_rfl) ?_
  refine zp 8 (some 71) #[Z1, Z1, Z1, Z1, Z1, Z1, Z1, Z1, Z1, Z0, Z0, Z0, Z0, Z0, Z0, Z0, Z0, Z0] rfl rfl (by kernel_rfl) ?_
  refine zp 9 (some 72) #[Z1, Z1, Z1, Z1, Z1, Z1, Z1, Z1, Z1, Z1, Z0, Z0, Z0, Z0, Z0, Z0, Z0, Z0] rfl rfl (by kernel_rfl) ?_
  refine zp 10 (some 73) #[Z1, Z1, Z1, Z1, Z1, Z1, Z1, Z1, Z1, Z1, Z1, Z0, Z0, Z0, Z0, Z0, Z0, Z0] rfl rfl (by kernel_rfl) ?_
  refine take_ (i := 11) (N := (some 74)) (v := ?_) (a' := ?_) #[Z1, Z1, Z1, Z1, Z1, Z1, Z1, Z1, Z1, Z1, Z1, Z1, Z0, Z0, Z0, Z0, Z0, Z0] rfl rfl (by kernel_rfl) (fun _ _ _ h => h) (Or.inl ⟨by rfl, ?_⟩) hHeld ?_ ?_
  rotate_left; · rintro w' ⟨s0, s1, s2, s3⟩; go_simp; with_reducible rfl
  rotate_left; · simp only [Act.put, List.setIfInBounds_toArray, List.set_cons_zero, List.set_cons_succ, i64_w, i32_w]; rfl
  refine zp 12 (some 75) #[Z1, Z1, Z1, Z1, Z1, Z1, Z1, Z1, Z1, Z1, Z1, Z1, Z1, Z0, Z0, Z0, Z0, Z0] rfl rfl (by kernel_rfl) ?_
  refine take_ (i := 13) (N := (some 76)) (v := ?_) (a' := ?_) #[Z1, Z1, Z1, Z1, Z1, Z1, Z1, Z1, Z1, Z1, Z1, Z1, Z1, Z1, Z0, Z0, Z0, Z0] rfl rfl (by kernel_rfl) (fun _ _ _ h => h) (Or.inl ⟨by rfl, ?_⟩) hHeld ?_ ?_
  rotate_left; · rintro w' ⟨s0, s1, s2, s3⟩; go_simp; with_reducible rfl
  rotate_left; · simp only [Act.put, List.setIfInBounds_toArray, List.set_cons_zero, List.set_cons_succ, i64_w, i32_w]; rfl
  refine zp 14 (some 77) #[Z1, Z1, Z1, Z1, Z1, Z1, Z1, Z1, Z1, Z1, Z1, Z1, Z1, Z1, Z1, Z0, Z0, Z0] rfl rfl (by kernel_rfl) ?_
  refine zp 15 (some 78) #[Z1, Z1, Z1, Z1, Z1, Z1, Z1, Z1, Z1, Z1, Z1, Z1, Z1, Z1, Z1, Z1, Z0, Z0] rfl rfl (by kernel_rfl) ?_
  refine zp 16 (some 79) #[Z1, Z1, Z1, Z1, Z1, Z1, Z1, Z1, Z1, Z1, Z1, Z1, Z1, Z1, Z1, Z1, Z1, Z0] rfl rfl (by kernel_rfl) ?_
  refine last_ (i := 17) (N := none) #[Z1, Z1, Z1, Z1, Z1, Z1, Z1, Z1, Z1, Z1, Z1, Z1, Z1, Z1, Z1, Z1, Z1, Z1] rfl rfl (by kernel_rfl) (by decide) (fun K' hK' => ?_)
  go_simp
  refine hK'.out _ _ (done_ (by kernel_rfl) ?_)
  have hm7 := HF.out.mark (row := (Value.slice (some ⟨g, 0, none⟩) l0_5.length d5).ownBlock) (i := K * 4 + 2) (j := K * 4 + 2 + 1) (u := .int .i64 (mx (rd_T67 l0_5 K).f1.f0 lo)) (v := .int .i64 (mn (rd_T67 l0_5 K).f1.f1 hi)) HH5.out HS4.out (by have := HOK.out.1; first | omega | (simp at this; omega)) rfl
  generalize ((w6.setCell ⟨g, K * 4 + 2, none⟩ (.int .i64 (mx (rd_T67 l0_5 K).f1.f0 lo))).setCell ⟨g, K * 4 + 2 + 1, none⟩ (.int .i64 (mn (rd_T67 l0_5 K).f1.f1 hi))).drew = w7 at hm7 ⊢
  obtain ⟨hf7, hh7⟩ := hm7
  have hown : Kd.R k67 67 w7 w.heap.size (fun _ => True) (.slice (some ⟨g, 0, none⟩) ms.length d5) ms := by
    have hlen : ms.length = l0_5.length := by rw [← HM.out]; simp [wear_Probe.put]
    refine own_close (by have := HOK.out.1; have := HS4.out; first | omega | (simp at *; omega)) trivial hh7 (by rw [hlen]; exact HG5.out.1) HG5.out.2.1 (by simpa using HG5.out.2.2) ?_
    rw [hlen, ← HM.out]
    have hr := reps_set2 HRP.out K HKL.out (mx (rd_T67 l0_5 K).f1.f0 lo) (mn (rd_T67 l0_5 K).f1.f1 hi)
    simp only [Array.toList_setIfInBounds]
    rw [show K * 4 + 2 + 1 = K * 4 + 3 by omega, List.take_set, List.take_set]
    exact hr
  have hml : l0_5.length = ms.length := by rw [← HM.out]; simp [wear_Probe.put]
  rw [hml] at hf7
  obtain ⟨n0, n1, n2, n3, n4, n5⟩ := zc6 ⟨hf7.a.k4⟩
  have HF7 := Aside0.mk hf7
  have HOWN := Aside0.mk hown
  clear hf7 hh7 hown hh6 z2 z3 y2 y3 y4 g0 g1 g2 g3 q0 q1 q2 q3 q4 q5 p0 p1 l0 l1 hHeld hK' K'
  rw [hml]
  have h := HQ.out
  clear HQ
  by_cases hout : 40 < ms.length
  · rw [if_pos hout] at h
    simp only [Option.some.injEq, Prod.mk.injEq] at h
    obtain ⟨rfl, rfl, rfl, rfl, rfl, rfl, rfl⟩ := h
    have HOUT := Aside0.mk hout
    clear hout
    have hgt : (40 < (ms.length : Int)) = True := eq_true (by have := HOUT.out; omega)
    have hgt2 : (40 < ms.length) = True := eq_true (by have := HOUT.out; omega)
    obtain ⟨z0, z1, z2, z3, z4, z5⟩ := zc6 ⟨HF7.out.a.k8⟩
    obtain ⟨y0, y1, y2, y3, y4, y5⟩ := zg6 ⟨HF7.out.a.k8⟩
    go_wp2
    have hz := HF7.out.a.zero
    obtain ⟨hz1, hz2⟩ := hz
    have r0 := (blk_cell hz1 0).trans rfl
    have r1 := (blk_cell hz1 1).trans rfl
    have r2 := (blk_cell hz1 2).trans rfl
    have r3 := (blk_cell hz1 3).trans rfl
    have r4 := (blk_cell hz1 4).trans rfl
    have r5 := (blk_cell hz1 5).trans rfl
    refine bodyPost_ret (v := .tuple #[.agg #[.slice none 0 0, .slice none 0 0, .int .i64 0, .int .i64 0, .int .i64 0, .slice none 0 0], .int .i64 3]) (by simp [results, Try.results9, go_sem, r0, r1, r2, r3, r4, r5]) rfl ⟨_, _, _, rfl, Kd.R_nil _ _ _ _ _, Kd.R_nil _ _ _ _ _, Kd.R_nil _ _ _ _ _, hz2⟩
  rw [if_neg hout] at h
  obtain ⟨c2, hck2, h⟩ := Option.bind_eq_some_iff.1 h
  have HOUT := Aside0.mk hout
  clear hout
  by_cases hne : c2 = 0
  · subst hne
    rw [if_pos rfl] at h
    simp only [Option.some.injEq, Prod.mk.injEq] at h
    obtain ⟨rfl, rfl, rfl, rfl, rfl, rfl, rfl⟩ := h
    have HCK2 := Aside0.mk hck2
    clear hck2
    have hgt : (40 < (ms.length : Int)) = False := eq_false (by have := HOUT.out; omega)
    have hgt2 : (40 < ms.length) = False := eq_false (by have := HOUT.out; omega)
    have HR07 := Aside0.mk (HF7.out.keeps HO0.out (fun k hk => (HO5.out.1 k hk).2.2) (by decide) (by first | omega | simp) (by have := HS4.out; first | omega | (simp; omega)))
    have HR17 := Aside0.mk (HF7.out.keeps HO1.out (fun k hk => (HO5.out.1 k hk).2.2) (by decide) (by first | omega | simp) (by have := HS4.out; first | omega | (simp; omega)))
    go_wp2_with (go_at_call 15; refine (wear_Check.calls k _ _ l0_0 _ _ l0_1 a0_2 a0_3 a0_4 _ _ ms _ _ (Kd.R_reads' HR07.out).2.2 (Kd.R_reads' HR07.out).2.1 (Kd.R_reads' HR17.out).2.2 (Kd.R_reads' HR17.out).2.1 (Kd.R_reads' HOWN.out).2.2 (Kd.R_reads' HOWN.out).2.1 HCK2.out).mono ?_; rintro e w8 ⟨rfl, hb8⟩; have hf8 := HF7.out.below hb8; clear n0 n1 n2 n3 n4 n5; obtain ⟨n0, n1, n2, n3, n4, n5⟩ := zc6 ⟨hf8.a.k4⟩; obtain ⟨z0, z1, z2, z3, z4, z5⟩ := zc6 ⟨hf8.a.k8⟩; obtain ⟨y0, y1, y2, y3, y4, y5⟩ := zg6 ⟨hf8.a.k8⟩; have HF8 := Aside0.mk hf8; have HB8 := Aside0.mk hb8; clear hf8 hb8)
    have hz1 := six_set (p0 := .slice B0 l0_0.length d0) (p1 := .slice B1 l0_1.length d1) (p2 := .int .i64 a0_2) (p3 := .int .i64 a0_3) (p4 := .int .i64 a0_4) (p5 := .slice (some ⟨g, 0, none⟩) ms.length d5) HF8.out.a.k8
    have r0 := (blk_cell hz1 0).trans rfl
    have r1 := (blk_cell hz1 1).trans rfl
    have r2 := (blk_cell hz1 2).trans rfl
    have r3 := (blk_cell hz1 3).trans rfl
    have r4 := (blk_cell hz1 4).trans rfl
    have r5 := (blk_cell hz1 5).trans rfl
    refine bodyPost_ret (v := .tuple #[.agg #[.slice B0 l0_0.length d0, .slice B1 l0_1.length d1, .int .i64 a0_2, .int .i64 a0_3, .int .i64 a0_4, .slice (some ⟨g, 0, none⟩) ms.length d5], .int .i64 0]) (by simp [results, Try.results9, go_sem, r0, r1, r2, r3, r4, r5]) rfl ⟨_, _, _, rfl, pb.last HF8.out.a (Kd.R_below HR07.out HB8.out) rfl (by decide), pb.last HF8.out.a (Kd.R_below HR17.out HB8.out) rfl (by decide), pb.last HF8.out.a (Kd.R_below HOWN.out HB8.out) rfl (by decide), six_below HF8.out.a.kb (by omega)⟩
  rw [if_neg hne] at h
  simp only [Option.some.injEq, Prod.mk.injEq] at h
  obtain ⟨rfl, rfl, rfl, rfl, rfl, rfl, rfl⟩ := h
  have HCK2 := Aside0.mk hck2
  have HNE := Aside0.mk hne
  clear hck2 hne
  have hgt : (40 < (ms.length : Int)) = False := eq_false (by have := HOUT.out; omega)
  have hgt2 : (40 < ms.length) = False := eq_false (by have := HOUT.out; omega)
  have HR07 := Aside0.mk (HF7.out.keeps HO0.out (fun k hk => (HO5.out.1 k hk).2.2) (by decide) (by first | omega | simp) (by have := HS4.out; first | omega | (simp; omega)))
  have HR17 := Aside0.mk (HF7.out.keeps HO1.out (fun k hk => (HO5.out.1 k hk).2.2) (by decide) (by first | omega | simp) (by have := HS4.out; first | omega | (simp; omega)))
  have hn1 : (c2 == 0) = false := beq_eq_false_iff_ne.2 HNE.out
  have hn2 : (c2 != 0) = true := bne_iff_ne.2 HNE.out
  go_wp2_with (go_at_call 15; refine (wear_Check.calls k _ _ l0_0 _ _ l0_1 a0_2 a0_3 a0_4 _ _ ms _ _ (Kd.R_reads' HR07.out).2.2 (Kd.R_reads' HR07.out).2.1 (Kd.R_reads' HR17.out).2.2 (Kd.R_reads' HR17.out).2.1 (Kd.R_reads' HOWN.out).2.2 (Kd.R_reads' HOWN.out).2.1 HCK2.out).mono ?_; rintro e w8 ⟨rfl, hb8⟩; have hf8 := HF7.out.below hb8; clear n0 n1 n2 n3 n4 n5; obtain ⟨n0, n1, n2, n3, n4, n5⟩ := zc6 ⟨hf8.a.k4⟩; obtain ⟨z0, z1, z2, z3, z4, z5⟩ := zc6 ⟨hf8.a.k8⟩; obtain ⟨y0, y1, y2, y3, y4, y5⟩ := zg6 ⟨hf8.a.k8⟩; have HF8 := Aside0.mk hf8; have HB8 := Aside0.mk hb8; clear hf8 hb8)
  have hz := HF8.out.a.zero
  obtain ⟨hz1, hz2⟩ := hz
  have r0 := (blk_cell hz1 0).trans rfl
  have r1 := (blk_cell hz1 1).trans rfl
  have r2 := (blk_cell hz1 2).trans rfl
  have r3 := (blk_cell hz1 3).trans rfl
  have r4 := (blk_cell hz1 4).trans rfl
  have r5 := (blk_cell hz1 5).trans rfl
  refine bodyPost_ret (v := .tuple #[.agg #[.slice none 0 0, .slice none 0 0, .int .i64 0, .int .i64 0, .int .i64 0, .slice none 0 0], .int .i64 10]) (by simp [results, Try.results9, go_sem, r0, r1, r2, r3, r4, r5]) rfl ⟨_, _, _, rfl, Kd.R_nil _ _ _ _ _, Kd.R_nil _ _ _ _ _, Kd.R_nil _ _ _ _ _, hz2⟩
set_option maxHeartbeats 4000000 in
set_option maxRecDepth 100000 in
set_option maxHeartbeats 4000000 in
set_option maxRecDepth 100000 in
set_option maxHeartbeats 4000000 in
set_option maxRecDepth 100000 in
theorem wear_Probe.f_limit (k : Nat) (A0_0 : Option Addr) (c0_0 : Nat) (l0_0 : List S32) (A0_1 : Option Addr) (c0_1 : Nat) (l0_1 : List S55) (a0_2 : Int) (a0_3 : Int) (a0_4 : Int) (A0_5 : Option Addr) (c0_5 : Nat) (l0_5 : List S67) (a1_0 : Int) (a1_1 : Int) (a2 : Int) (a3 : Int) (w : World) (hr0_0 : Kd.C k32 w A0_0 l0_0.length l0_0) (hc0_0 : l0_0.length ≤ c0_0) (hr0_1 : Kd.C k55 w A0_1 l0_1.length l0_1) (hc0_1 : l0_1.length ≤ c0_1) (hr0_5 : Kd.C k67 w A0_5 l0_5.length l0_5) (hc0_5 : l0_5.length ≤ c0_5) (hck : wear_Check.f k l0_0 l0_1 a0_2 a0_3 a0_4 l0_5 = some 0) (hhb : wear_has.f l0_0 l0_1 a1_0 a1_1 = some true) (hin : wear_in.f a2 0 2000 = some true) (hin2 : wear_in.f a3 0 2000 = some true) (hn0 : l0_0.length < 1000) (hn1 : l0_1.length < 1000) (hn5 : l0_5.length < 900) (ms : List S67) (hth : bs.there l0_5 a1_0 a1_1 (bs.at l0_5 a1_0 a1_1 0 l0_5.length) = false) (hm : wear_Probe.marks l0_5 a1_0 a1_1 a2 a3 = ms) (hout : 40 < ms.length) :
    Calls Try.prog 9 #[.agg #[.slice A0_0 l0_0.length c0_0, .slice A0_1 l0_1.length c0_1, .int .i64 a0_2, .int .i64 a0_3, .int .i64 a0_4, .slice A0_5 l0_5.length c0_5], .agg #[.int .i64 a1_0, .int .i64 a1_1], .int .i64 a2, .int .i64 a3] w fun e w' => ∃ v0_ v1_ v5_ : Value, e = .returned (.tuple #[.agg #[v0_, v1_, .int .i64 0, .int .i64 0, .int .i64 0, v5_], .int .i64 3]) ∧ Kd.R k32 32 w' w.heap.size (fun _ => True) v0_ [] ∧ Kd.R k55 55 w' w.heap.size (fun _ => True) v1_ [] ∧ Kd.R k67 67 w' w.heap.size (fun _ => True) v5_ [] ∧ Below w.heap.size w w' := by
  have hu30 := Try.underlying30
  have hu25 := Try.underlying25
  have hu27 := Try.underlying27
  have hu28 := Try.underlying28
  have hu32 := Try.underlying32
  have hu67 := Try.underlying67
  have hb0 : Below w.heap.size w (((w.alloc (.cells #[.slice A0_0 l0_0.length c0_0, .slice A0_1 l0_1.length c0_1, .int .i64 a0_2, .int .i64 a0_3, .int .i64 a0_4, .slice A0_5 l0_5.length c0_5] 30)).alloc (.cells #[.int .i64 a1_0, .int .i64 a1_1] 32)).alloc (.cells #[.slice none 0 0, .slice none 0 0, .int .i64 0, .int .i64 0, .int .i64 0, .slice none 0 0] 30)) := (((Below.refl _ w).alloc (Nat.le_refl _) _).alloc (by simp) _).alloc (by simp; omega) _
  have HB0 := Aside0.mk hb0
  have HR0 := Aside0.mk hr0_0
  have HC0 := Aside0.mk hc0_0
  have HR1 := Aside0.mk hr0_1
  have HC1 := Aside0.mk hc0_1
  have HR5 := Aside0.mk hr0_5
  have HC5 := Aside0.mk hc0_5
  clear hr0_0 hc0_0 hr0_1 hc0_1 hr0_5 hc0_5 hb0
  have HCK := Aside0.mk hck
  have HHB := Aside0.mk hhb
  have Ha2 := Aside0.mk hin
  have Ha3 := Aside0.mk hin2
  have HN := Aside0.mk (And.intro hn0 (And.intro hn1 hn5))
  have HTW := Aside0.mk (show wear_twin.f l0_0 l0_1 a0_2 a0_3 a0_4 l0_5 = some (l0_0, l0_1, a0_2, a0_3, a0_4, l0_5) by
    simp only [wear_twin.f, api_Pt_44.f, api_Box_45.f, api_Mark_46.f]
    rw [if_pos (by omega), if_pos (by omega), if_pos (by omega)]
    rfl)
  have HBS := Aside0.mk (show api_Pt_wear_Probe_1.f l0_5 a1_0 a1_1 = some (((bs.at l0_5 a1_0 a1_1 0 l0_5.length : Nat) : Int), bs.there l0_5 a1_0 a1_1 (bs.at l0_5 a1_0 a1_1 0 l0_5.length)) by unfold api_Pt_wear_Probe_1.f; rw [if_neg (by omega)])
  unfold wear_Probe.marks at *
  rw [hth] at HBS
  rw [hth] at hm
  obtain ⟨K, hK⟩ : ∃ K, bs.at l0_5 a1_0 a1_1 0 l0_5.length = K := ⟨_, rfl⟩
  rw [hK] at HBS
  rw [hK] at hm hth
  obtain ⟨lo, hlo⟩ : ∃ lo : Int, mx (wrap64 (a2 - a3)) 0 = lo := ⟨_, rfl⟩
  obtain ⟨hi, hhi⟩ : ∃ hi : Int, mn (wrap64 (a2 + a3)) 2000 = hi := ⟨_, rfl⟩
  rw [hlo, hhi] at hm
  clear hck hhb hin hin2 hn0 hn1 hn5
  have HKL := Aside0.mk (show K ≤ l0_5.length by rw [← hK]; exact bs.go_le _ _ _ _ _ _ (Nat.zero_le _))
  have HM := Aside0.mk hm
  clear hm hth hK
  have HOUT := Aside0.mk hout
  clear hout
  have hgt : (40 < (ms.length : Int)) = True := eq_true (by have := HOUT.out; omega)
  have hgt2 : (40 < ms.length) = True := eq_true (by have := HOUT.out; omega)
  go_enter Try.func9, Try.ntmps9
  go_wp2_with (first | (go_at_call 15; refine (wear_Check.calls k _ _ l0_0 _ _ l0_1 a0_2 a0_3 a0_4 _ _ l0_5 _ _ (Kd.C_below HR0.out HB0.out) HC0.out (Kd.C_below HR1.out HB0.out) HC1.out (Kd.C_below HR5.out HB0.out) HC5.out HCK.out).mono ?_; rintro e w1 ⟨rfl, hb⟩; have ha := pb.A.mk3 hb; obtain ⟨q0, q1, q2, q3, q4, q5⟩ := zc6 ⟨ha.k4⟩; obtain ⟨p0, p1⟩ := zc2 ⟨ha.k5⟩; obtain ⟨z0, z1, z2, z3, z4, z5⟩ := zc6 ⟨ha.k8⟩; obtain ⟨y0, y1, y2, y3, y4, y5⟩ := zg6 ⟨ha.k8⟩; have HA := Aside0.mk ha; clear hb ha HB0) | (go_at_call 21; refine (wear_has.calls _ _ l0_0 _ _ l0_1 a1_0 a1_1 true _ (Kd.C_below HR0.out HA.out.kb) HC0.out (Kd.C_below HR1.out HA.out.kb) HC1.out HHB.out).mono ?_; rintro e w2 ⟨rfl, hb⟩; have ha := HA.out.below hb; clear HA q0 q1 q2 q3 q4 q5 p0 p1 z0 z1 z2 z3 z4 z5 y0 y1 y2 y3 y4 y5; obtain ⟨q0, q1, q2, q3, q4, q5⟩ := zc6 ⟨ha.k4⟩; obtain ⟨p0, p1⟩ := zc2 ⟨ha.k5⟩; obtain ⟨z0, z1, z2, z3, z4, z5⟩ := zc6 ⟨ha.k8⟩; obtain ⟨y0, y1, y2, y3, y4, y5⟩ := zg6 ⟨ha.k8⟩; have HA := Aside0.mk ha; clear hb ha) | (go_at_call 22; refine (in_calls _ 0 2000 _ _ Ha2.out).mono ?_; rintro e w3 ⟨rfl, hb⟩; have ha := HA.out.below hb; clear HA Ha2 q0 q1 q2 q3 q4 q5 p0 p1 z0 z1 z2 z3 z4 z5 y0 y1 y2 y3 y4 y5; obtain ⟨q0, q1, q2, q3, q4, q5⟩ := zc6 ⟨ha.k4⟩; obtain ⟨p0, p1⟩ := zc2 ⟨ha.k5⟩; obtain ⟨z0, z1, z2, z3, z4, z5⟩ := zc6 ⟨ha.k8⟩; obtain ⟨y0, y1, y2, y3, y4, y5⟩ := zg6 ⟨ha.k8⟩; have HA := Aside0.mk ha; clear hb ha) | (go_at_call 22; refine (in_calls _ 0 2000 _ _ Ha3.out).mono ?_; rintro e w4 ⟨rfl, hb⟩; have ha := HA.out.below hb; clear HA Ha3 q0 q1 q2 q3 q4 q5 p0 p1 z0 z1 z2 z3 z4 z5 y0 y1 y2 y3 y4 y5; have ha2 := ha.below ((Below.refl _ w4).alloc (Nat.le_refl _) (.cells #[.int .i64 lo, .int .i64 hi] 27)); obtain ⟨q0, q1, q2, q3, q4, q5⟩ := zc6 ⟨ha2.k4⟩; obtain ⟨p0, p1⟩ := zc2 ⟨ha2.k5⟩; have HA2 := Aside0.mk ha2; have HS4 := Aside0.mk ha.ks; clear hb ha ha2) | (go_at_call 23; refine (wear_twin.calls _ _ l0_0 _ _ l0_1 a0_2 a0_3 a0_4 _ _ l0_5 l0_0 l0_1 a0_2 a0_3 a0_4 l0_5 _ (Kd.C_below HR0.out HA2.out.kb) HC0.out (Kd.C_below HR1.out HA2.out.kb) HC1.out (Kd.C_below HR5.out HA2.out.kb) HC5.out HTW.out).mono ?_; rintro e w5 ⟨v0, v1, v5, rfl, ho0, ho1, ho5, hb5⟩; have ho0 := pb.bound rfl ho0; have ho1 := pb.bound rfl ho1; have ho5 := pb.bound rfl ho5; obtain ⟨B0, d0, e0⟩ := Kd.R_slice ho0; obtain ⟨B1, d1, e1⟩ := Kd.R_slice ho1; obtain ⟨B5, d5, e5⟩ := Kd.R_slice ho5; subst e0; subst e1; subst e5; have ha := HA2.out.below hb5; have h11 : w5.heap[w4.heap.size]? = some (.cells #[.int .i64 lo, .int .i64 hi] 27 (0, 0)) := (hb5.block _ (by simp)).trans (World.alloc_heap_new _ _); have hf := pb.first (p0 := .slice B0 l0_0.length d0) (p1 := .slice B1 l0_1.length d1) (p2 := .int .i64 a0_2) (p3 := .int .i64 a0_3) (p4 := .int .i64 a0_4) (p5 := .slice B5 l0_5.length d5) ha h11 HS4.out; clear q0 q1 q2 q3 q4 q5 p0 p1; obtain ⟨z0, z1, z2, z3, z4, z5⟩ := zc6 ⟨ha.k4⟩; obtain ⟨y0, y1, y2, y3, y4, y5⟩ := zg6 ⟨ha.k4⟩; obtain ⟨q0, q1, q2, q3, q4, q5⟩ := zc6 ⟨hf.a.k4⟩; obtain ⟨p0, p1⟩ := zc2 ⟨hf.a.k5⟩; have HO0 := Aside0.mk ho0; have HO1 := Aside0.mk ho1; have HO5 := Aside0.mk ho5; have HF := Aside0.mk hf; clear ho0 ho1 ho5 hb5 ha h11 hf) | (go_at_call 24; have hR6 := Kd.R_step HO5.out (fun k ho hk => HF.out.kk k (by have := ho.1; simp at this; omega) ho.2.1 (by simp)); refine (api_Pt_wear_Probe_1.calls _ _ l0_5 a1_0 a1_1 _ _ _ (Kd.R_reads' hR6).2.2 (Kd.R_reads' hR6).2.1 HBS.out).mono ?_; rintro e w6 ⟨rfl, hb6⟩; have hR6 := Kd.R_below hR6 hb6; have hf := HF.out.below hb6; clear HF q0 q1 q2 q3 q4 q5 p0 p1 z0 z1 z2 z3 z4 z5 y0 y1 y2 y3 y4 y5; obtain ⟨q0, q1, q2, q3, q4, q5⟩ := zc6 ⟨hf.a.k4⟩; obtain ⟨p0, p1⟩ := zc2 ⟨hf.a.k5⟩; obtain ⟨l0, l1⟩ := zc2 ⟨hf.k11⟩; have HF := Aside0.mk hf; have HO6 := Aside0.mk hR6; clear hf hb6 hR6) | (go_at_call 27; refine (insert.calls (.slice B5 l0_5.length d5) l0_5 K w6.heap.size ⟨⟨a1_0, a1_1⟩, ⟨lo, hi⟩⟩ w (w6.alloc (.cells #[.int .i64 a1_0, .int .i64 a1_1, .int .i64 lo, .int .i64 hi] 67)) (HF.out.a.kb.alloc HF.out.a.kb.size _) (Kd.R_mono (Kd.R_lower (Kd.R_alloc HO6.out _) (by have := HS4.out; first | omega | (simp; omega))) (fun _ _ => trivial)) HKL.out (by have := HN.out.2.2; omega) (World.alloc_heap_new _ _) (fun he => by have h1 := HO6.out.1 _ he; have h2 := HF.out.k5s; have h3 := h1.2.1; omega)).mono ?_; rintro e wm ⟨vm, rfl, ho7, hb7, hg7⟩; have ho7 : Kd.R k67 67 wm w.heap.size (fun _ => True) vm ms := (by have e := HM.out; rw [← e]; exact ho7); obtain ⟨Bm, dm, em⟩ := Kd.R_slice ho7; subst em; have hfa := HF.out.below ((Below.refl _ w6).alloc (Nat.le_refl _) (.cells #[.int .i64 a1_0, .int .i64 a1_1, .int .i64 lo, .int .i64 hi] 67)); have hfm := hfa.grown hg7 (fun k he => by have h1 := (HO6.out.1 k he).1; first | omega | (simp at h1; omega)) HS4.out hb7; have hf := hfm.set5 (v := .slice Bm ms.length dm) HS4.out; have hown := pb.set (u := .slice Bm ms.length dm) hfm.a ho7 rfl (by decide); clear HF q0 q1 q2 q3 q4 q5 p0 p1 l0 l1; have u5 : wm.cell? ⟨w.heap.size, 5, none⟩ = some (.slice B5 l0_5.length d5) := (blk_cell hfm.a.k4 5).trans rfl; have v5 := blk_frozen hfm.a.k4 5; obtain ⟨n0, n1, n2, n3, n4, n5⟩ := zc6 ⟨hf.a.k4⟩; obtain ⟨z0, z1, z2, z3, z4, z5⟩ := zc6 ⟨hf.a.k8⟩; obtain ⟨y0, y1, y2, y3, y4, y5⟩ := zg6 ⟨hf.a.k8⟩; have HF7 := Aside0.mk hf; have HOWN := Aside0.mk hown; have HR07 := Aside0.mk (hf.keeps HO0.out (fun k hk => (HO5.out.1 k hk).2.2) (by decide) (by first | omega | simp) (by have := HS4.out; first | omega | (simp; omega))); have HR17 := Aside0.mk (hf.keeps HO1.out (fun k hk => (HO5.out.1 k hk).2.2) (by decide) (by first | omega | simp) (by have := HS4.out; first | omega | (simp; omega))); clear ho7 hb7 hg7 hfa hfm hf hown))
  have hz := HF7.out.a.zero
  obtain ⟨hz1, hz2⟩ := hz
  have r0 := (blk_cell hz1 0).trans rfl
  have r1 := (blk_cell hz1 1).trans rfl
  have r2 := (blk_cell hz1 2).trans rfl
  have r3 := (blk_cell hz1 3).trans rfl
  have r4 := (blk_cell hz1 4).trans rfl
  have r5 := (blk_cell hz1 5).trans rfl
  refine bodyPost_ret (v := .tuple #[.agg #[.slice none 0 0, .slice none 0 0, .int .i64 0, .int .i64 0, .int .i64 0, .slice none 0 0], .int .i64 3]) (by simp [results, Try.results9, go_sem, r0, r1, r2, r3, r4, r5]) rfl ⟨_, _, _, rfl, Kd.R_nil _ _ _ _ _, Kd.R_nil _ _ _ _ _, Kd.R_nil _ _ _ _ _, hz2⟩
set_option maxHeartbeats 4000000 in
set_option maxRecDepth 100000 in
theorem wear_Probe.f_clash (k : Nat) (A0_0 : Option Addr) (c0_0 : Nat) (l0_0 : List S32) (A0_1 : Option Addr) (c0_1 : Nat) (l0_1 : List S55) (a0_2 : Int) (a0_3 : Int) (a0_4 : Int) (A0_5 : Option Addr) (c0_5 : Nat) (l0_5 : List S67) (a1_0 : Int) (a1_1 : Int) (a2 : Int) (a3 : Int) (w : World) (hr0_0 : Kd.C k32 w A0_0 l0_0.length l0_0) (hc0_0 : l0_0.length ≤ c0_0) (hr0_1 : Kd.C k55 w A0_1 l0_1.length l0_1) (hc0_1 : l0_1.length ≤ c0_1) (hr0_5 : Kd.C k67 w A0_5 l0_5.length l0_5) (hc0_5 : l0_5.length ≤ c0_5) (hck : wear_Check.f k l0_0 l0_1 a0_2 a0_3 a0_4 l0_5 = some 0) (hhb : wear_has.f l0_0 l0_1 a1_0 a1_1 = some true) (hin : wear_in.f a2 0 2000 = some true) (hin2 : wear_in.f a3 0 2000 = some true) (hn0 : l0_0.length < 1000) (hn1 : l0_1.length < 1000) (hn5 : l0_5.length < 900) (ms : List S67) (hth : bs.there l0_5 a1_0 a1_1 (bs.at l0_5 a1_0 a1_1 0 l0_5.length) = false) (hm : wear_Probe.marks l0_5 a1_0 a1_1 a2 a3 = ms) (hout : ¬ 40 < ms.length) (c2 : Int) (hck2 : wear_Check.f k l0_0 l0_1 a0_2 a0_3 a0_4 ms = some c2) (hne : ¬ c2 = 0) :
    Calls Try.prog 9 #[.agg #[.slice A0_0 l0_0.length c0_0, .slice A0_1 l0_1.length c0_1, .int .i64 a0_2, .int .i64 a0_3, .int .i64 a0_4, .slice A0_5 l0_5.length c0_5], .agg #[.int .i64 a1_0, .int .i64 a1_1], .int .i64 a2, .int .i64 a3] w fun e w' => ∃ v0_ v1_ v5_ : Value, e = .returned (.tuple #[.agg #[v0_, v1_, .int .i64 0, .int .i64 0, .int .i64 0, v5_], .int .i64 10]) ∧ Kd.R k32 32 w' w.heap.size (fun _ => True) v0_ [] ∧ Kd.R k55 55 w' w.heap.size (fun _ => True) v1_ [] ∧ Kd.R k67 67 w' w.heap.size (fun _ => True) v5_ [] ∧ Below w.heap.size w w' := by
  have hu30 := Try.underlying30
  have hu25 := Try.underlying25
  have hu27 := Try.underlying27
  have hu28 := Try.underlying28
  have hu32 := Try.underlying32
  have hu67 := Try.underlying67
  have hb0 : Below w.heap.size w (((w.alloc (.cells #[.slice A0_0 l0_0.length c0_0, .slice A0_1 l0_1.length c0_1, .int .i64 a0_2, .int .i64 a0_3, .int .i64 a0_4, .slice A0_5 l0_5.length c0_5] 30)).alloc (.cells #[.int .i64 a1_0, .int .i64 a1_1] 32)).alloc (.cells #[.slice none 0 0, .slice none 0 0, .int .i64 0, .int .i64 0, .int .i64 0, .slice none 0 0] 30)) := (((Below.refl _ w).alloc (Nat.le_refl _) _).alloc (by simp) _).alloc (by simp; omega) _
  have HB0 := Aside0.mk hb0
  have HR0 := Aside0.mk hr0_0
  have HC0 := Aside0.mk hc0_0
  have HR1 := Aside0.mk hr0_1
  have HC1 := Aside0.mk hc0_1
  have HR5 := Aside0.mk hr0_5
  have HC5 := Aside0.mk hc0_5
  clear hr0_0 hc0_0 hr0_1 hc0_1 hr0_5 hc0_5 hb0
  have HCK := Aside0.mk hck
  have HHB := Aside0.mk hhb
  have Ha2 := Aside0.mk hin
  have Ha3 := Aside0.mk hin2
  have HN := Aside0.mk (And.intro hn0 (And.intro hn1 hn5))
  have HTW := Aside0.mk (show wear_twin.f l0_0 l0_1 a0_2 a0_3 a0_4 l0_5 = some (l0_0, l0_1, a0_2, a0_3, a0_4, l0_5) by
    simp only [wear_twin.f, api_Pt_44.f, api_Box_45.f, api_Mark_46.f]
    rw [if_pos (by omega), if_pos (by omega), if_pos (by omega)]
    rfl)
  have HBS := Aside0.mk (show api_Pt_wear_Probe_1.f l0_5 a1_0 a1_1 = some (((bs.at l0_5 a1_0 a1_1 0 l0_5.length : Nat) : Int), bs.there l0_5 a1_0 a1_1 (bs.at l0_5 a1_0 a1_1 0 l0_5.length)) by unfold api_Pt_wear_Probe_1.f; rw [if_neg (by omega)])
  unfold wear_Probe.marks at *
  rw [hth] at HBS
  rw [hth] at hm
  obtain ⟨K, hK⟩ : ∃ K, bs.at l0_5 a1_0 a1_1 0 l0_5.length = K := ⟨_, rfl⟩
  rw [hK] at HBS
  rw [hK] at hm hth
  obtain ⟨lo, hlo⟩ : ∃ lo : Int, mx (wrap64 (a2 - a3)) 0 = lo := ⟨_, rfl⟩
  obtain ⟨hi, hhi⟩ : ∃ hi : Int, mn (wrap64 (a2 + a3)) 2000 = hi := ⟨_, rfl⟩
  rw [hlo, hhi] at hm
  clear hck hhb hin hin2 hn0 hn1 hn5
  have HKL := Aside0.mk (show K ≤ l0_5.length by rw [← hK]; exact bs.go_le _ _ _ _ _ _ (Nat.zero_le _))
  have HM := Aside0.mk hm
  clear hm hth hK
  have HOUT := Aside0.mk hout
  have HCK2 := Aside0.mk hck2
  have HNE := Aside0.mk hne
  clear hout hck2 hne
  have hgt : (40 < (ms.length : Int)) = False := eq_false (by have := HOUT.out; omega)
  have hgt2 : (40 < ms.length) = False := eq_false (by have := HOUT.out; omega)
  have hn1 : (c2 == 0) = false := beq_eq_false_iff_ne.2 HNE.out
  have hn2 : (c2 != 0) = true := bne_iff_ne.2 HNE.out
  go_enter Try.func9, Try.ntmps9
  go_wp2_with (first | (go_at_call 15; refine (wear_Check.calls k _ _ l0_0 _ _ l0_1 a0_2 a0_3 a0_4 _ _ l0_5 _ _ (Kd.C_below HR0.out HB0.out) HC0.out (Kd.C_below HR1.out HB0.out) HC1.out (Kd.C_below HR5.out HB0.out) HC5.out HCK.out).mono ?_; rintro e w1 ⟨rfl, hb⟩; have ha := pb.A.mk3 hb; obtain ⟨q0, q1, q2, q3, q4, q5⟩ := zc6 ⟨ha.k4⟩; obtain ⟨p0, p1⟩ := zc2 ⟨ha.k5⟩; obtain ⟨z0, z1, z2, z3, z4, z5⟩ := zc6 ⟨ha.k8⟩; obtain ⟨y0, y1, y2, y3, y4, y5⟩ := zg6 ⟨ha.k8⟩; have HA := Aside0.mk ha; clear hb ha HB0) | (go_at_call 21; refine (wear_has.calls _ _ l0_0 _ _ l0_1 a1_0 a1_1 true _ (Kd.C_below HR0.out HA.out.kb) HC0.out (Kd.C_below HR1.out HA.out.kb) HC1.out HHB.out).mono ?_; rintro e w2 ⟨rfl, hb⟩; have ha := HA.out.below hb; clear HA q0 q1 q2 q3 q4 q5 p0 p1 z0 z1 z2 z3 z4 z5 y0 y1 y2 y3 y4 y5; obtain ⟨q0, q1, q2, q3, q4, q5⟩ := zc6 ⟨ha.k4⟩; obtain ⟨p0, p1⟩ := zc2 ⟨ha.k5⟩; obtain ⟨z0, z1, z2, z3, z4, z5⟩ := zc6 ⟨ha.k8⟩; obtain ⟨y0, y1, y2, y3, y4, y5⟩ := zg6 ⟨ha.k8⟩; have HA := Aside0.mk ha; clear hb ha) | (go_at_call 22; refine (in_calls _ 0 2000 _ _ Ha2.out).mono ?_; rintro e w3 ⟨rfl, hb⟩; have ha := HA.out.below hb; clear HA Ha2 q0 q1 q2 q3 q4 q5 p0 p1 z0 z1 z2 z3 z4 z5 y0 y1 y2 y3 y4 y5; obtain ⟨q0, q1, q2, q3, q4, q5⟩ := zc6 ⟨ha.k4⟩; obtain ⟨p0, p1⟩ := zc2 ⟨ha.k5⟩; obtain ⟨z0, z1, z2, z3, z4, z5⟩ := zc6 ⟨ha.k8⟩; obtain ⟨y0, y1, y2, y3, y4, y5⟩ := zg6 ⟨ha.k8⟩; have HA := Aside0.mk ha; clear hb ha) | (go_at_call 22; refine (in_calls _ 0 2000 _ _ Ha3.out).mono ?_; rintro e w4 ⟨rfl, hb⟩; have ha := HA.out.below hb; clear HA Ha3 q0 q1 q2 q3 q4 q5 p0 p1 z0 z1 z2 z3 z4 z5 y0 y1 y2 y3 y4 y5; have ha2 := ha.below ((Below.refl _ w4).alloc (Nat.le_refl _) (.cells #[.int .i64 lo, .int .i64 hi] 27)); obtain ⟨q0, q1, q2, q3, q4, q5⟩ := zc6 ⟨ha2.k4⟩; obtain ⟨p0, p1⟩ := zc2 ⟨ha2.k5⟩; have HA2 := Aside0.mk ha2; have HS4 := Aside0.mk ha.ks; clear hb ha ha2) | (go_at_call 23; refine (wear_twin.calls _ _ l0_0 _ _ l0_1 a0_2 a0_3 a0_4 _ _ l0_5 l0_0 l0_1 a0_2 a0_3 a0_4 l0_5 _ (Kd.C_below HR0.out HA2.out.kb) HC0.out (Kd.C_below HR1.out HA2.out.kb) HC1.out (Kd.C_below HR5.out HA2.out.kb) HC5.out HTW.out).mono ?_; rintro e w5 ⟨v0, v1, v5, rfl, ho0, ho1, ho5, hb5⟩; have ho0 := pb.bound rfl ho0; have ho1 := pb.bound rfl ho1; have ho5 := pb.bound rfl ho5; obtain ⟨B0, d0, e0⟩ := Kd.R_slice ho0; obtain ⟨B1, d1, e1⟩ := Kd.R_slice ho1; obtain ⟨B5, d5, e5⟩ := Kd.R_slice ho5; subst e0; subst e1; subst e5; have ha := HA2.out.below hb5; have h11 : w5.heap[w4.heap.size]? = some (.cells #[.int .i64 lo, .int .i64 hi] 27 (0, 0)) := (hb5.block _ (by simp)).trans (World.alloc_heap_new _ _); have hf := pb.first (p0 := .slice B0 l0_0.length d0) (p1 := .slice B1 l0_1.length d1) (p2 := .int .i64 a0_2) (p3 := .int .i64 a0_3) (p4 := .int .i64 a0_4) (p5 := .slice B5 l0_5.length d5) ha h11 HS4.out; clear q0 q1 q2 q3 q4 q5 p0 p1; obtain ⟨z0, z1, z2, z3, z4, z5⟩ := zc6 ⟨ha.k4⟩; obtain ⟨y0, y1, y2, y3, y4, y5⟩ := zg6 ⟨ha.k4⟩; obtain ⟨q0, q1, q2, q3, q4, q5⟩ := zc6 ⟨hf.a.k4⟩; obtain ⟨p0, p1⟩ := zc2 ⟨hf.a.k5⟩; have HO0 := Aside0.mk ho0; have HO1 := Aside0.mk ho1; have HO5 := Aside0.mk ho5; have HF := Aside0.mk hf; clear ho0 ho1 ho5 hb5 ha h11 hf) | (go_at_call 24; have hR6 := Kd.R_step HO5.out (fun k ho hk => HF.out.kk k (by have := ho.1; simp at this; omega) ho.2.1 (by simp)); refine (api_Pt_wear_Probe_1.calls _ _ l0_5 a1_0 a1_1 _ _ _ (Kd.R_reads' hR6).2.2 (Kd.R_reads' hR6).2.1 HBS.out).mono ?_; rintro e w6 ⟨rfl, hb6⟩; have hR6 := Kd.R_below hR6 hb6; have hf := HF.out.below hb6; clear HF q0 q1 q2 q3 q4 q5 p0 p1 z0 z1 z2 z3 z4 z5 y0 y1 y2 y3 y4 y5; obtain ⟨q0, q1, q2, q3, q4, q5⟩ := zc6 ⟨hf.a.k4⟩; obtain ⟨p0, p1⟩ := zc2 ⟨hf.a.k5⟩; obtain ⟨l0, l1⟩ := zc2 ⟨hf.k11⟩; have HF := Aside0.mk hf; have HO6 := Aside0.mk hR6; clear hf hb6 hR6) | (go_at_call 27; refine (insert.calls (.slice B5 l0_5.length d5) l0_5 K w6.heap.size ⟨⟨a1_0, a1_1⟩, ⟨lo, hi⟩⟩ w (w6.alloc (.cells #[.int .i64 a1_0, .int .i64 a1_1, .int .i64 lo, .int .i64 hi] 67)) (HF.out.a.kb.alloc HF.out.a.kb.size _) (Kd.R_mono (Kd.R_lower (Kd.R_alloc HO6.out _) (by have := HS4.out; first | omega | (simp; omega))) (fun _ _ => trivial)) HKL.out (by have := HN.out.2.2; omega) (World.alloc_heap_new _ _) (fun he => by have h1 := HO6.out.1 _ he; have h2 := HF.out.k5s; have h3 := h1.2.1; omega)).mono ?_; rintro e wm ⟨vm, rfl, ho7, hb7, hg7⟩; have ho7 : Kd.R k67 67 wm w.heap.size (fun _ => True) vm ms := (by have e := HM.out; rw [← e]; exact ho7); obtain ⟨Bm, dm, em⟩ := Kd.R_slice ho7; subst em; have hfa := HF.out.below ((Below.refl _ w6).alloc (Nat.le_refl _) (.cells #[.int .i64 a1_0, .int .i64 a1_1, .int .i64 lo, .int .i64 hi] 67)); have hfm := hfa.grown hg7 (fun k he => by have h1 := (HO6.out.1 k he).1; first | omega | (simp at h1; omega)) HS4.out hb7; have hf := hfm.set5 (v := .slice Bm ms.length dm) HS4.out; have hown := pb.set (u := .slice Bm ms.length dm) hfm.a ho7 rfl (by decide); clear HF q0 q1 q2 q3 q4 q5 p0 p1 l0 l1; have u5 : wm.cell? ⟨w.heap.size, 5, none⟩ = some (.slice B5 l0_5.length d5) := (blk_cell hfm.a.k4 5).trans rfl; have v5 := blk_frozen hfm.a.k4 5; obtain ⟨n0, n1, n2, n3, n4, n5⟩ := zc6 ⟨hf.a.k4⟩; obtain ⟨z0, z1, z2, z3, z4, z5⟩ := zc6 ⟨hf.a.k8⟩; obtain ⟨y0, y1, y2, y3, y4, y5⟩ := zg6 ⟨hf.a.k8⟩; have HF7 := Aside0.mk hf; have HOWN := Aside0.mk hown; have HR07 := Aside0.mk (hf.keeps HO0.out (fun k hk => (HO5.out.1 k hk).2.2) (by decide) (by first | omega | simp) (by have := HS4.out; first | omega | (simp; omega))); have HR17 := Aside0.mk (hf.keeps HO1.out (fun k hk => (HO5.out.1 k hk).2.2) (by decide) (by first | omega | simp) (by have := HS4.out; first | omega | (simp; omega))); clear ho7 hb7 hg7 hfa hfm hf hown) | (go_at_call 15; refine (wear_Check.calls k _ _ l0_0 _ _ l0_1 a0_2 a0_3 a0_4 _ _ ms _ _ (Kd.R_reads' HR07.out).2.2 (Kd.R_reads' HR07.out).2.1 (Kd.R_reads' HR17.out).2.2 (Kd.R_reads' HR17.out).2.1 (Kd.R_reads' HOWN.out).2.2 (Kd.R_reads' HOWN.out).2.1 HCK2.out).mono ?_; rintro e w8 ⟨rfl, hb8⟩; have hf8 := HF7.out.below hb8; clear n0 n1 n2 n3 n4 n5 z0 z1 z2 z3 z4 z5 y0 y1 y2 y3 y4 y5; obtain ⟨n0, n1, n2, n3, n4, n5⟩ := zc6 ⟨hf8.a.k4⟩; obtain ⟨z0, z1, z2, z3, z4, z5⟩ := zc6 ⟨hf8.a.k8⟩; obtain ⟨y0, y1, y2, y3, y4, y5⟩ := zg6 ⟨hf8.a.k8⟩; have HF8 := Aside0.mk hf8; have HB8 := Aside0.mk hb8; clear hf8 hb8))
  have hz := HF8.out.a.zero
  obtain ⟨hz1, hz2⟩ := hz
  have r0 := (blk_cell hz1 0).trans rfl
  have r1 := (blk_cell hz1 1).trans rfl
  have r2 := (blk_cell hz1 2).trans rfl
  have r3 := (blk_cell hz1 3).trans rfl
  have r4 := (blk_cell hz1 4).trans rfl
  have r5 := (blk_cell hz1 5).trans rfl
  refine bodyPost_ret (v := .tuple #[.agg #[.slice none 0 0, .slice none 0 0, .int .i64 0, .int .i64 0, .int .i64 0, .slice none 0 0], .int .i64 10]) (by simp [results, Try.results9, go_sem, r0, r1, r2, r3, r4, r5]) rfl ⟨_, _, _, rfl, Kd.R_nil _ _ _ _ _, Kd.R_nil _ _ _ _ _, Kd.R_nil _ _ _ _ _, hz2⟩
set_option maxHeartbeats 4000000 in
set_option maxRecDepth 100000 in
theorem wear_Probe.f_ok (k : Nat) (A0_0 : Option Addr) (c0_0 : Nat) (l0_0 : List S32) (A0_1 : Option Addr) (c0_1 : Nat) (l0_1 : List S55) (a0_2 : Int) (a0_3 : Int) (a0_4 : Int) (A0_5 : Option Addr) (c0_5 : Nat) (l0_5 : List S67) (a1_0 : Int) (a1_1 : Int) (a2 : Int) (a3 : Int) (w : World) (hr0_0 : Kd.C k32 w A0_0 l0_0.length l0_0) (hc0_0 : l0_0.length ≤ c0_0) (hr0_1 : Kd.C k55 w A0_1 l0_1.length l0_1) (hc0_1 : l0_1.length ≤ c0_1) (hr0_5 : Kd.C k67 w A0_5 l0_5.length l0_5) (hc0_5 : l0_5.length ≤ c0_5) (hck : wear_Check.f k l0_0 l0_1 a0_2 a0_3 a0_4 l0_5 = some 0) (hhb : wear_has.f l0_0 l0_1 a1_0 a1_1 = some true) (hin : wear_in.f a2 0 2000 = some true) (hin2 : wear_in.f a3 0 2000 = some true) (hn0 : l0_0.length < 1000) (hn1 : l0_1.length < 1000) (hn5 : l0_5.length < 900) (ms : List S67) (hth : bs.there l0_5 a1_0 a1_1 (bs.at l0_5 a1_0 a1_1 0 l0_5.length) = false) (hm : wear_Probe.marks l0_5 a1_0 a1_1 a2 a3 = ms) (hout : ¬ 40 < ms.length) (hck2 : wear_Check.f k l0_0 l0_1 a0_2 a0_3 a0_4 ms = some 0) :
    Calls Try.prog 9 #[.agg #[.slice A0_0 l0_0.length c0_0, .slice A0_1 l0_1.length c0_1, .int .i64 a0_2, .int .i64 a0_3, .int .i64 a0_4, .slice A0_5 l0_5.length c0_5], .agg #[.int .i64 a1_0, .int .i64 a1_1], .int .i64 a2, .int .i64 a3] w fun e w' => ∃ v0_ v1_ v5_ : Value, e = .returned (.tuple #[.agg #[v0_, v1_, .int .i64 a0_2, .int .i64 a0_3, .int .i64 a0_4, v5_], .int .i64 0]) ∧ Kd.R k32 32 w' w.heap.size (fun _ => True) v0_ l0_0 ∧ Kd.R k55 55 w' w.heap.size (fun _ => True) v1_ l0_1 ∧ Kd.R k67 67 w' w.heap.size (fun _ => True) v5_ ms ∧ Below w.heap.size w w' := by
  have hu30 := Try.underlying30
  have hu25 := Try.underlying25
  have hu27 := Try.underlying27
  have hu28 := Try.underlying28
  have hu32 := Try.underlying32
  have hu67 := Try.underlying67
  have hb0 : Below w.heap.size w (((w.alloc (.cells #[.slice A0_0 l0_0.length c0_0, .slice A0_1 l0_1.length c0_1, .int .i64 a0_2, .int .i64 a0_3, .int .i64 a0_4, .slice A0_5 l0_5.length c0_5] 30)).alloc (.cells #[.int .i64 a1_0, .int .i64 a1_1] 32)).alloc (.cells #[.slice none 0 0, .slice none 0 0, .int .i64 0, .int .i64 0, .int .i64 0, .slice none 0 0] 30)) := (((Below.refl _ w).alloc (Nat.le_refl _) _).alloc (by simp) _).alloc (by simp; omega) _
  have HB0 := Aside0.mk hb0
  have HR0 := Aside0.mk hr0_0
  have HC0 := Aside0.mk hc0_0
  have HR1 := Aside0.mk hr0_1
  have HC1 := Aside0.mk hc0_1
  have HR5 := Aside0.mk hr0_5
  have HC5 := Aside0.mk hc0_5
  clear hr0_0 hc0_0 hr0_1 hc0_1 hr0_5 hc0_5 hb0
  have HCK := Aside0.mk hck
  have HHB := Aside0.mk hhb
  have Ha2 := Aside0.mk hin
  have Ha3 := Aside0.mk hin2
  have HN := Aside0.mk (And.intro hn0 (And.intro hn1 hn5))
  have HTW := Aside0.mk (show wear_twin.f l0_0 l0_1 a0_2 a0_3 a0_4 l0_5 = some (l0_0, l0_1, a0_2, a0_3, a0_4, l0_5) by
    simp only [wear_twin.f, api_Pt_44.f, api_Box_45.f, api_Mark_46.f]
    rw [if_pos (by omega), if_pos (by omega), if_pos (by omega)]
    rfl)
  have HBS := Aside0.mk (show api_Pt_wear_Probe_1.f l0_5 a1_0 a1_1 = some (((bs.at l0_5 a1_0 a1_1 0 l0_5.length : Nat) : Int), bs.there l0_5 a1_0 a1_1 (bs.at l0_5 a1_0 a1_1 0 l0_5.length)) by unfold api_Pt_wear_Probe_1.f; rw [if_neg (by omega)])
  unfold wear_Probe.marks at *
  rw [hth] at HBS
  rw [hth] at hm
  obtain ⟨K, hK⟩ : ∃ K, bs.at l0_5 a1_0 a1_1 0 l0_5.length = K := ⟨_, rfl⟩
  rw [hK] at HBS
  rw [hK] at hm hth
  obtain ⟨lo, hlo⟩ : ∃ lo : Int, mx (wrap64 (a2 - a3)) 0 = lo := ⟨_, rfl⟩
  obtain ⟨hi, hhi⟩ : ∃ hi : Int, mn (wrap64 (a2 + a3)) 2000 = hi := ⟨_, rfl⟩
  rw [hlo, hhi] at hm
  clear hck hhb hin hin2 hn0 hn1 hn5
  have HKL := Aside0.mk (show K ≤ l0_5.length by rw [← hK]; exact bs.go_le _ _ _ _ _ _ (Nat.zero_le _))
  have HM := Aside0.mk hm
  clear hm hth hK
  have HOUT := Aside0.mk hout
  have HCK2 := Aside0.mk hck2
  clear hout hck2
  have hgt : (40 < (ms.length : Int)) = False := eq_false (by have := HOUT.out; omega)
  have hgt2 : (40 < ms.length) = False := eq_false (by have := HOUT.out; omega)
  go_enter Try.func9, Try.ntmps9
  go_wp2_with (first | (go_at_call 15; refine (wear_Check.calls k _ _ l0_0 _ _ l0_1 a0_2 a0_3 a0_4 _ _ l0_5 _ _ (Kd.C_below HR0.out HB0.out) HC0.out (Kd.C_below HR1.out HB0.out) HC1.out (Kd.C_below HR5.out HB0.out) HC5.out HCK.out).mono ?_; rintro e w1 ⟨rfl, hb⟩; have ha := pb.A.mk3 hb; obtain ⟨q0, q1, q2, q3, q4, q5⟩ := zc6 ⟨ha.k4⟩; obtain ⟨p0, p1⟩ := zc2 ⟨ha.k5⟩; obtain ⟨z0, z1, z2, z3, z4, z5⟩ := zc6 ⟨ha.k8⟩; obtain ⟨y0, y1, y2, y3, y4, y5⟩ := zg6 ⟨ha.k8⟩; have HA := Aside0.mk ha; clear hb ha HB0) | (go_at_call 21; refine (wear_has.calls _ _ l0_0 _ _ l0_1 a1_0 a1_1 true _ (Kd.C_below HR0.out HA.out.kb) HC0.out (Kd.C_below HR1.out HA.out.kb) HC1.out HHB.out).mono ?_; rintro e w2 ⟨rfl, hb⟩; have ha := HA.out.below hb; clear HA q0 q1 q2 q3 q4 q5 p0 p1 z0 z1 z2 z3 z4 z5 y0 y1 y2 y3 y4 y5; obtain ⟨q0, q1, q2, q3, q4, q5⟩ := zc6 ⟨ha.k4⟩; obtain ⟨p0, p1⟩ := zc2 ⟨ha.k5⟩; obtain ⟨z0, z1, z2, z3, z4, z5⟩ := zc6 ⟨ha.k8⟩; obtain ⟨y0, y1, y2, y3, y4, y5⟩ := zg6 ⟨ha.k8⟩; have HA := Aside0.mk ha; clear hb ha) | (go_at_call 22; refine (in_calls _ 0 2000 _ _ Ha2.out).mono ?_; rintro e w3 ⟨rfl, hb⟩; have ha := HA.out.below hb; clear HA Ha2 q0 q1 q2 q3 q4 q5 p0 p1 z0 z1 z2 z3 z4 z5 y0 y1 y2 y3 y4 y5; obtain ⟨q0, q1, q2, q3, q4, q5⟩ := zc6 ⟨ha.k4⟩; obtain ⟨p0, p1⟩ := zc2 ⟨ha.k5⟩; obtain ⟨z0, z1, z2, z3, z4, z5⟩ := zc6 ⟨ha.k8⟩; obtain ⟨y0, y1, y2, y3, y4, y5⟩ := zg6 ⟨ha.k8⟩; have HA := Aside0.mk ha; clear hb ha) | (go_at_call 22; refine (in_calls _ 0 2000 _ _ Ha3.out).mono ?_; rintro e w4 ⟨rfl, hb⟩; have ha := HA.out.below hb; clear HA Ha3 q0 q1 q2 q3 q4 q5 p0 p1 z0 z1 z2 z3 z4 z5 y0 y1 y2 y3 y4 y5; have ha2 := ha.below ((Below.refl _ w4).alloc (Nat.le_refl _) (.cells #[.int .i64 lo, .int .i64 hi] 27)); obtain ⟨q0, q1, q2, q3, q4, q5⟩ := zc6 ⟨ha2.k4⟩; obtain ⟨p0, p1⟩ := zc2 ⟨ha2.k5⟩; have HA2 := Aside0.mk ha2; have HS4 := Aside0.mk ha.ks; clear hb ha ha2) | (go_at_call 23; refine (wear_twin.calls _ _ l0_0 _ _ l0_1 a0_2 a0_3 a0_4 _ _ l0_5 l0_0 l0_1 a0_2 a0_3 a0_4 l0_5 _ (Kd.C_below HR0.out HA2.out.kb) HC0.out (Kd.C_below HR1.out HA2.out.kb) HC1.out (Kd.C_below HR5.out HA2.out.kb) HC5.out HTW.out).mono ?_; rintro e w5 ⟨v0, v1, v5, rfl, ho0, ho1, ho5, hb5⟩; have ho0 := pb.bound rfl ho0; have ho1 := pb.bound rfl ho1; have ho5 := pb.bound rfl ho5; obtain ⟨B0, d0, e0⟩ := Kd.R_slice ho0; obtain ⟨B1, d1, e1⟩ := Kd.R_slice ho1; obtain ⟨B5, d5, e5⟩ := Kd.R_slice ho5; subst e0; subst e1; subst e5; have ha := HA2.out.below hb5; have h11 : w5.heap[w4.heap.size]? = some (.cells #[.int .i64 lo, .int .i64 hi] 27 (0, 0)) := (hb5.block _ (by simp)).trans (World.alloc_heap_new _ _); have hf := pb.first (p0 := .slice B0 l0_0.length d0) (p1 := .slice B1 l0_1.length d1) (p2 := .int .i64 a0_2) (p3 := .int .i64 a0_3) (p4 := .int .i64 a0_4) (p5 := .slice B5 l0_5.length d5) ha h11 HS4.out; clear q0 q1 q2 q3 q4 q5 p0 p1; obtain ⟨z0, z1, z2, z3, z4, z5⟩ := zc6 ⟨ha.k4⟩; obtain ⟨y0, y1, y2, y3, y4, y5⟩ := zg6 ⟨ha.k4⟩; obtain ⟨q0, q1, q2, q3, q4, q5⟩ := zc6 ⟨hf.a.k4⟩; obtain ⟨p0, p1⟩ := zc2 ⟨hf.a.k5⟩; have HO0 := Aside0.mk ho0; have HO1 := Aside0.mk ho1; have HO5 := Aside0.mk ho5; have HF := Aside0.mk hf; clear ho0 ho1 ho5 hb5 ha h11 hf) | (go_at_call 24; have hR6 := Kd.R_step HO5.out (fun k ho hk => HF.out.kk k (by have := ho.1; simp at this; omega) ho.2.1 (by simp)); refine (api_Pt_wear_Probe_1.calls _ _ l0_5 a1_0 a1_1 _ _ _ (Kd.R_reads' hR6).2.2 (Kd.R_reads' hR6).2.1 HBS.out).mono ?_; rintro e w6 ⟨rfl, hb6⟩; have hR6 := Kd.R_below hR6 hb6; have hf := HF.out.below hb6; clear HF q0 q1 q2 q3 q4 q5 p0 p1 z0 z1 z2 z3 z4 z5 y0 y1 y2 y3 y4 y5; obtain ⟨q0, q1, q2, q3, q4, q5⟩ := zc6 ⟨hf.a.k4⟩; obtain ⟨p0, p1⟩ := zc2 ⟨hf.a.k5⟩; obtain ⟨l0, l1⟩ := zc2 ⟨hf.k11⟩; have HF := Aside0.mk hf; have HO6 := Aside0.mk hR6; clear hf hb6 hR6) | (go_at_call 27; refine (insert.calls (.slice B5 l0_5.length d5) l0_5 K w6.heap.size ⟨⟨a1_0, a1_1⟩, ⟨lo, hi⟩⟩ w (w6.alloc (.cells #[.int .i64 a1_0, .int .i64 a1_1, .int .i64 lo, .int .i64 hi] 67)) (HF.out.a.kb.alloc HF.out.a.kb.size _) (Kd.R_mono (Kd.R_lower (Kd.R_alloc HO6.out _) (by have := HS4.out; first | omega | (simp; omega))) (fun _ _ => trivial)) HKL.out (by have := HN.out.2.2; omega) (World.alloc_heap_new _ _) (fun he => by have h1 := HO6.out.1 _ he; have h2 := HF.out.k5s; have h3 := h1.2.1; omega)).mono ?_; rintro e wm ⟨vm, rfl, ho7, hb7, hg7⟩; have ho7 : Kd.R k67 67 wm w.heap.size (fun _ => True) vm ms := (by have e := HM.out; rw [← e]; exact ho7); obtain ⟨Bm, dm, em⟩ := Kd.R_slice ho7; subst em; have hfa := HF.out.below ((Below.refl _ w6).alloc (Nat.le_refl _) (.cells #[.int .i64 a1_0, .int .i64 a1_1, .int .i64 lo, .int .i64 hi] 67)); have hfm := hfa.grown hg7 (fun k he => by have h1 := (HO6.out.1 k he).1; first | omega | (simp at h1; omega)) HS4.out hb7; have hf := hfm.set5 (v := .slice Bm ms.length dm) HS4.out; have hown := pb.set (u := .slice Bm ms.length dm) hfm.a ho7 rfl (by decide); clear HF q0 q1 q2 q3 q4 q5 p0 p1 l0 l1; have u5 : wm.cell? ⟨w.heap.size, 5, none⟩ = some (.slice B5 l0_5.length d5) := (blk_cell hfm.a.k4 5).trans rfl; have v5 := blk_frozen hfm.a.k4 5; obtain ⟨n0, n1, n2, n3, n4, n5⟩ := zc6 ⟨hf.a.k4⟩; obtain ⟨z0, z1, z2, z3, z4, z5⟩ := zc6 ⟨hf.a.k8⟩; obtain ⟨y0, y1, y2, y3, y4, y5⟩ := zg6 ⟨hf.a.k8⟩; have HF7 := Aside0.mk hf; have HOWN := Aside0.mk hown; have HR07 := Aside0.mk (hf.keeps HO0.out (fun k hk => (HO5.out.1 k hk).2.2) (by decide) (by first | omega | simp) (by have := HS4.out; first | omega | (simp; omega))); have HR17 := Aside0.mk (hf.keeps HO1.out (fun k hk => (HO5.out.1 k hk).2.2) (by decide) (by first | omega | simp) (by have := HS4.out; first | omega | (simp; omega))); clear ho7 hb7 hg7 hfa hfm hf hown) | (go_at_call 15; refine (wear_Check.calls k _ _ l0_0 _ _ l0_1 a0_2 a0_3 a0_4 _ _ ms _ _ (Kd.R_reads' HR07.out).2.2 (Kd.R_reads' HR07.out).2.1 (Kd.R_reads' HR17.out).2.2 (Kd.R_reads' HR17.out).2.1 (Kd.R_reads' HOWN.out).2.2 (Kd.R_reads' HOWN.out).2.1 HCK2.out).mono ?_; rintro e w8 ⟨rfl, hb8⟩; have hf8 := HF7.out.below hb8; clear n0 n1 n2 n3 n4 n5 z0 z1 z2 z3 z4 z5 y0 y1 y2 y3 y4 y5; obtain ⟨n0, n1, n2, n3, n4, n5⟩ := zc6 ⟨hf8.a.k4⟩; obtain ⟨z0, z1, z2, z3, z4, z5⟩ := zc6 ⟨hf8.a.k8⟩; obtain ⟨y0, y1, y2, y3, y4, y5⟩ := zg6 ⟨hf8.a.k8⟩; have HF8 := Aside0.mk hf8; have HB8 := Aside0.mk hb8; clear hf8 hb8))
  have hz1 := six_set (p0 := .slice B0 l0_0.length d0) (p1 := .slice B1 l0_1.length d1) (p2 := .int .i64 a0_2) (p3 := .int .i64 a0_3) (p4 := .int .i64 a0_4) (p5 := .slice Bm ms.length dm) HF8.out.a.k8
  have r0 := (blk_cell hz1 0).trans rfl
  have r1 := (blk_cell hz1 1).trans rfl
  have r2 := (blk_cell hz1 2).trans rfl
  have r3 := (blk_cell hz1 3).trans rfl
  have r4 := (blk_cell hz1 4).trans rfl
  have r5 := (blk_cell hz1 5).trans rfl
  refine bodyPost_ret (v := .tuple #[.agg #[.slice B0 l0_0.length d0, .slice B1 l0_1.length d1, .int .i64 a0_2, .int .i64 a0_3, .int .i64 a0_4, .slice Bm ms.length dm], .int .i64 0]) (by simp [results, Try.results9, go_sem, r0, r1, r2, r3, r4, r5]) rfl ⟨_, _, _, rfl, pb.last HF8.out.a (Kd.R_below HR07.out HB8.out) rfl (by decide), pb.last HF8.out.a (Kd.R_below HR17.out HB8.out) rfl (by decide), pb.last HF8.out.a (Kd.R_below HOWN.out HB8.out) rfl (by decide), six_below HF8.out.a.kb (by omega)⟩
end
theorem in_tells (a lo hi : Int) : wear_in.f a lo hi = some (decide (lo ≤ a ∧ a ≤ hi)) := by
  unfold wear_in.f
  by_cases h : lo ≤ a
  · rw [if_pos h]; simp [h]
  rw [if_neg h]; simp [h]
theorem wear_Probe.calls (k : Nat) (A0_0 : Option Addr) (c0_0 : Nat) (l0_0 : List S32) (A0_1 : Option Addr) (c0_1 : Nat) (l0_1 : List S55) (a0_2 : Int) (a0_3 : Int) (a0_4 : Int) (A0_5 : Option Addr) (c0_5 : Nat) (l0_5 : List S67) (a1_0 : Int) (a1_1 : Int) (a2 : Int) (a3 : Int) (r1 : List S32) (r2 : List S55) (r3 : Int) (r4 : Int) (r5 : Int) (r6 : List S67) (r7 : Int) (w : World) (hr0_0 : Kd.C k32 w A0_0 l0_0.length l0_0) (hc0_0 : l0_0.length ≤ c0_0) (hr0_1 : Kd.C k55 w A0_1 l0_1.length l0_1) (hc0_1 : l0_1.length ≤ c0_1) (hr0_5 : Kd.C k67 w A0_5 l0_5.length l0_5) (hc0_5 : l0_5.length ≤ c0_5) (h : wear_Probe.f k l0_0 l0_1 a0_2 a0_3 a0_4 l0_5 a1_0 a1_1 a2 a3 = some (r1, r2, r3, r4, r5, r6, r7)) :
    Calls Try.prog 9 #[.agg #[.slice A0_0 l0_0.length c0_0, .slice A0_1 l0_1.length c0_1, .int .i64 a0_2, .int .i64 a0_3, .int .i64 a0_4, .slice A0_5 l0_5.length c0_5], .agg #[.int .i64 a1_0, .int .i64 a1_1], .int .i64 a2, .int .i64 a3] w fun e w' => ∃ v0_ v1_ v5_ : Value, e = .returned (.tuple #[.agg #[v0_, v1_, .int .i64 r3, .int .i64 r4, .int .i64 r5, v5_], .int .i64 r7]) ∧ Kd.R k32 32 w' w.heap.size (fun _ => True) v0_ r1 ∧ Kd.R k55 55 w' w.heap.size (fun _ => True) v1_ r2 ∧ Kd.R k67 67 w' w.heap.size (fun _ => True) v5_ r6 ∧ Below w.heap.size w w' := by
  unfold wear_Probe.f at h
  obtain ⟨e, hck, h⟩ := Option.bind_eq_some_iff.1 h
  by_cases he : e = 0
  · subst he
    rw [if_pos rfl] at h
    cases hb : wear_has.b l0_0 l0_1 a1_0 a1_1 with
    | false =>
      rw [hb, if_neg (by decide)] at h
      simp only [Option.some.injEq, Prod.mk.injEq] at h
      obtain ⟨rfl, rfl, rfl, rfl, rfl, rfl, rfl⟩ := h
      exact wear_Probe.x_none k A0_0 c0_0 l0_0 A0_1 c0_1 l0_1 a0_2 a0_3 a0_4 A0_5 c0_5 l0_5 a1_0 a1_1 a2 a3 w hr0_0 hc0_0 hr0_1 hc0_1 hr0_5 hc0_5 hck (by unfold wear_has.f; rw [hb])
    | true =>
      have hhb : wear_has.f l0_0 l0_1 a1_0 a1_1 = some true := by unfold wear_has.f; rw [hb]
      rw [hb, if_pos rfl] at h
      by_cases h1 : 0 ≤ a2 ∧ a2 ≤ 2000
      · have hi1 : wear_in.f a2 0 2000 = some true := by rw [in_tells, decide_eq_true h1]
        rw [if_pos h1] at h
        by_cases h2 : 0 ≤ a3 ∧ a3 ≤ 2000
        · have hi2 : wear_in.f a3 0 2000 = some true := by rw [in_tells, decide_eq_true h2]
          rw [if_pos h2] at h
          by_cases h3 : l0_0.length < 1000 ∧ l0_1.length < 1000 ∧ l0_5.length < 900
          · rw [if_pos h3] at h
            obtain ⟨g1, g2, g3⟩ := h3
            by_cases h4 : 40 < (wear_Probe.marks l0_5 a1_0 a1_1 a2 a3).length
            · rw [if_pos h4] at h
              simp only [Option.some.injEq, Prod.mk.injEq] at h
              obtain ⟨rfl, rfl, rfl, rfl, rfl, rfl, rfl⟩ := h
              cases hth : bs.there l0_5 a1_0 a1_1 (bs.at l0_5 a1_0 a1_1 0 l0_5.length) with
              | true => exact wear_Probe.t_all k A0_0 c0_0 l0_0 A0_1 c0_1 l0_1 a0_2 a0_3 a0_4 A0_5 c0_5 l0_5 a1_0 a1_1 a2 a3 w hr0_0 hc0_0 hr0_1 hc0_1 hr0_5 hc0_5 hck hhb hi1 hi2 g1 g2 g3 _ hth rfl [] [] 0 0 0 [] 3 (if_pos h4)
              | false => exact wear_Probe.f_limit k A0_0 c0_0 l0_0 A0_1 c0_1 l0_1 a0_2 a0_3 a0_4 A0_5 c0_5 l0_5 a1_0 a1_1 a2 a3 w hr0_0 hc0_0 hr0_1 hc0_1 hr0_5 hc0_5 hck hhb hi1 hi2 g1 g2 g3 _ hth rfl h4
            rw [if_neg h4] at h
            obtain ⟨e2, hck2, h⟩ := Option.bind_eq_some_iff.1 h
            by_cases he2 : e2 = 0
            · subst he2
              rw [if_pos rfl] at h
              simp only [Option.some.injEq, Prod.mk.injEq] at h
              obtain ⟨rfl, rfl, rfl, rfl, rfl, rfl, rfl⟩ := h
              cases hth : bs.there l0_5 a1_0 a1_1 (bs.at l0_5 a1_0 a1_1 0 l0_5.length) with
              | true => exact wear_Probe.t_all k A0_0 c0_0 l0_0 A0_1 c0_1 l0_1 a0_2 a0_3 a0_4 A0_5 c0_5 l0_5 a1_0 a1_1 a2 a3 w hr0_0 hc0_0 hr0_1 hc0_1 hr0_5 hc0_5 hck hhb hi1 hi2 g1 g2 g3 _ hth rfl _ _ _ _ _ _ 0 (by rw [if_neg h4, hck2]; rfl)
              | false => exact wear_Probe.f_ok k A0_0 c0_0 l0_0 A0_1 c0_1 l0_1 a0_2 a0_3 a0_4 A0_5 c0_5 l0_5 a1_0 a1_1 a2 a3 w hr0_0 hc0_0 hr0_1 hc0_1 hr0_5 hc0_5 hck hhb hi1 hi2 g1 g2 g3 _ hth rfl h4 hck2
            rw [if_neg he2] at h
            simp only [Option.some.injEq, Prod.mk.injEq] at h
            obtain ⟨rfl, rfl, rfl, rfl, rfl, rfl, rfl⟩ := h
            cases hth : bs.there l0_5 a1_0 a1_1 (bs.at l0_5 a1_0 a1_1 0 l0_5.length) with
            | true => exact wear_Probe.t_all k A0_0 c0_0 l0_0 A0_1 c0_1 l0_1 a0_2 a0_3 a0_4 A0_5 c0_5 l0_5 a1_0 a1_1 a2 a3 w hr0_0 hc0_0 hr0_1 hc0_1 hr0_5 hc0_5 hck hhb hi1 hi2 g1 g2 g3 _ hth rfl [] [] 0 0 0 [] 10 (by rw [if_neg h4, hck2]; exact if_neg he2)
            | false => exact wear_Probe.f_clash k A0_0 c0_0 l0_0 A0_1 c0_1 l0_1 a0_2 a0_3 a0_4 A0_5 c0_5 l0_5 a1_0 a1_1 a2 a3 w hr0_0 hc0_0 hr0_1 hc0_1 hr0_5 hc0_5 hck hhb hi1 hi2 g1 g2 g3 _ hth rfl h4 _ hck2 he2
          rw [if_neg h3] at h
          cases h
        rw [if_neg h2] at h
        simp only [Option.some.injEq, Prod.mk.injEq] at h
        obtain ⟨rfl, rfl, rfl, rfl, rfl, rfl, rfl⟩ := h
        exact wear_Probe.x_arg2 k A0_0 c0_0 l0_0 A0_1 c0_1 l0_1 a0_2 a0_3 a0_4 A0_5 c0_5 l0_5 a1_0 a1_1 a2 a3 w hr0_0 hc0_0 hr0_1 hc0_1 hr0_5 hc0_5 hck hhb hi1 (by rw [in_tells, decide_eq_false h2])
      rw [if_neg h1] at h
      simp only [Option.some.injEq, Prod.mk.injEq] at h
      obtain ⟨rfl, rfl, rfl, rfl, rfl, rfl, rfl⟩ := h
      exact wear_Probe.x_arg1 k A0_0 c0_0 l0_0 A0_1 c0_1 l0_1 a0_2 a0_3 a0_4 A0_5 c0_5 l0_5 a1_0 a1_1 a2 a3 w hr0_0 hc0_0 hr0_1 hc0_1 hr0_5 hc0_5 hck hhb (by rw [in_tells, decide_eq_false h1])
  rw [if_neg he] at h
  simp only [Option.some.injEq, Prod.mk.injEq] at h
  obtain ⟨rfl, rfl, rfl, rfl, rfl, rfl, rfl⟩ := h
  exact wear_Probe.x_bad k A0_0 c0_0 l0_0 A0_1 c0_1 l0_1 a0_2 a0_3 a0_4 A0_5 c0_5 l0_5 a1_0 a1_1 a2 a3 w hr0_0 hc0_0 hr0_1 hc0_1 hr0_5 hc0_5 _ hck he
end Go.Proofs.Ytcfpclehogdmbaa.Q
end
section
namespace Go.Proofs.Ytcfpclehogdmbaa.Q
open Go.RowKit Go.Proofs.YtcfpclehogdmbaaW.PrintWords Go.Proofs.YtcfpclehogdmbaaW.PrintLast Go.Proofs.YtcfpclehogdmbaaW.PrintMore
set_option linter.unusedVariables false
set_option linter.unusedSimpArgs false
def okMark (l0 : List S32) (l1 : List S55) (m : S67) : Prop := wear_has.b l0 l1 m.f0.f0 m.f0.f1 = true ∧ spanB m.f1.f0 m.f1.f1 2000 = true
theorem okMark.ok {l0 : List S32} {l1 : List S55} {m : S67} (h : okMark l0 l1 m) : okM m := by
  have e0 : 0 ≤ m.f0.f0 ∧ m.f0.f0 ≤ 400 ∧ 0 ≤ m.f0.f1 ∧ m.f0.f1 ≤ 400 := by
    have := h.1
    unfold wear_has.b at this
    simp only [Bool.and_eq_true, decide_eq_true_eq] at this
    exact this.1.1
  have e1 : 0 ≤ m.f1.f0 ∧ m.f1.f0 ≤ m.f1.f1 ∧ m.f1.f1 ≤ 2000 := by
    have := h.2
    unfold spanB at this
    exact of_decide_eq_true this
  exact ⟨e0, e1⟩
theorem markE_zero (l0 : List S32) (l1 : List S55) (V : Int) : ∀ l : List S67, markE l0 l1 V l = 0 ↔ (∀ m ∈ l, okMark l0 l1 m) ∧ V = 0 := by
  intro l
  induction l with
  | nil => simp [markE]
  | cons m t ih =>
    unfold markE
    rw [List.forall_mem_cons]
    unfold okMark at *
    by_cases c0 : wear_has.b l0 l1 m.f0.f0 m.f0.f1 = true
    · rw [if_pos c0]
      by_cases c1 : spanB m.f1.f0 m.f1.f1 2000 = true
      · rw [if_pos c1, ih]
        constructor
        · rintro ⟨h1, h2⟩; exact ⟨⟨⟨c0, c1⟩, h1⟩, h2⟩
        · rintro ⟨⟨_, h1⟩, h2⟩; exact ⟨h1, h2⟩
      · rw [if_neg c1]
        constructor
        · intro h; omega
        · rintro ⟨⟨h1, _⟩, _⟩; exact absurd h1.2 c1
    · rw [if_neg c0]
      constructor
      · intro h; omega
      · rintro ⟨⟨h1, _⟩, _⟩; exact absurd h1.1 c0
structure OkSkin (l0 : List S32) (l1 : List S55) (st lo hi : Int) (l : List S67) : Prop where
  out : wear_checkOutline.err l0 = 0
  holes : l1.length ≤ 6
  nobad : l1.any api_Box_wear_Check_1.bad = false
  steep : 0 ≤ st ∧ st ≤ 1000
  span : spanB lo hi 2000 = true
  few : l.length ≤ 40
  marks : ∀ m ∈ l, okMark l0 l1 m
  asc : ascB l = true
  agr : Agrees st lo hi l
theorem checkV_zero (l0 : List S32) (l1 : List S55) (st lo hi : Int) (l : List S67) : checkV l0 l1 st lo hi l = 0 ↔ OkSkin l0 l1 st lo hi l := by
  unfold checkV
  constructor
  · intro h
    by_cases e0 : wear_checkOutline.err l0 = 0
    · rw [if_pos e0] at h
      by_cases e6 : l1.length > 6
      · rw [if_pos e6] at h; omega
      · rw [if_neg e6] at h
        by_cases eb : l1.any api_Box_wear_Check_1.bad = true
        · rw [if_pos eb] at h; omega
        · rw [if_neg eb] at h
          by_cases es : 0 ≤ st ∧ st ≤ 1000 ∧ spanB lo hi 2000 = true
          · rw [if_pos es] at h
            by_cases e40 : l.length > 40
            · rw [if_pos e40] at h; omega
            · rw [if_neg e40, markE_zero] at h
              obtain ⟨hm, hv⟩ := h
              by_cases ea : ascB l = true
              · rw [if_pos ea] at hv
                by_cases eg : l.all (agreeOne st lo hi l) = true
                · exact ⟨e0, by omega, Bool.eq_false_iff.2 eb, ⟨es.1, es.2.1⟩, es.2.2, by omega, hm, ea, (agrees_iff st lo hi l ⟨es.1, es.2.1⟩ (fun m hmm => (hm m hmm).ok)).1 eg⟩
                · rw [if_neg eg] at hv; omega
              · rw [if_neg ea] at hv; omega
          · rw [if_neg es] at h; omega
    · rw [if_neg e0] at h; exact absurd h e0
  · intro h
    rw [if_pos h.out, if_neg (show ¬ l1.length > 6 by have := h.holes; omega), if_neg (by rw [h.nobad]; decide), if_pos (show 0 ≤ st ∧ st ≤ 1000 ∧ spanB lo hi 2000 = true from ⟨h.steep.1, h.steep.2, h.span⟩), if_neg (show ¬ l.length > 40 by have := h.few; omega), markE_zero, if_pos h.asc]
    exact ⟨h.marks, if_pos ((agrees_iff st lo hi l h.steep (fun m hmm => (h.marks m hmm).ok)).2 h.agr)⟩
theorem behind_trans {a0 a1 b0 b1 c0 c1 : Int} (h : behindB b0 b1 a0 a1 = true) (h2 : behindB c0 c1 b0 b1 = true) : behindB c0 c1 a0 a1 = true := by
  unfold behindB at *
  rw [decide_eq_true_iff] at *
  omega
theorem ascB_all : ∀ (a : S67) (t : List S67), ascB (a :: t) = true → ascB t = true ∧ ∀ b ∈ t, behindB b.f0.f0 b.f0.f1 a.f0.f0 a.f0.f1 = true := by
  intro a t
  induction t generalizing a with
  | nil => intro h; simp [ascB]
  | cons b t ih =>
    intro h
    have h' : (behindB b.f0.f0 b.f0.f1 a.f0.f0 a.f0.f1 && ascB (b :: t)) = true := h
    rw [Bool.and_eq_true] at h'
    refine ⟨h'.2, ?_⟩
    rw [List.forall_mem_cons]
    exact ⟨h'.1, fun c hc => behind_trans h'.1 ((ih b h'.2).2 c hc)⟩
theorem ascB_get (l : List S67) : ascB l = true → ∀ (i j : Nat) (hi : i < j) (hj : j < l.length), behindB l[j].f0.f0 l[j].f0.f1 (l[i]'(by omega)).f0.f0 (l[i]'(by omega)).f0.f1 = true := by
  induction l with
  | nil => intro _ i j _ hj; simp at hj
  | cons a t ih =>
    intro h i j hi hj
    obtain ⟨h1, h2⟩ := ascB_all a t h
    cases j with
    | zero => omega
    | succ j =>
      have hj' : j < t.length := by simpa using hj
      cases i with
      | zero => exact h2 _ (List.getElem_mem hj')
      | succ i => exact ih h1 i j (by omega) hj'
theorem ordv_lt (a0 a1 b0 b1 : Int) : (ordv a0 a1 b0 b1 < 0) ↔ behindB b0 b1 a0 a1 = true := by
  have := ordv_ge a0 a1 b0 b1
  by_cases h : behindB b0 b1 a0 a1 = true
  · have : ¬ (0 ≤ ordv a0 a1 b0 b1) := fun h2 => this.1 h2 h
    exact ⟨fun _ => h, fun _ => by omega⟩
  · have h2 := this.2 h
    exact ⟨fun h3 => by omega, fun h3 => absurd h3 h⟩
theorem ordv_zero (a0 a1 b0 b1 : Int) : ordv a0 a1 b0 b1 = 0 ↔ a0 = b0 ∧ a1 = b1 := by
  unfold ordv cmpv
  split <;> rename_i h <;> (repeat' split at h) <;> (repeat' split) <;> omega
theorem at_spec (l : List S67) (hs : ascB l = true) (p0 p1 : Int) : ∀ (d i j : Nat), j - i ≤ d → i ≤ j → j ≤ l.length →
    (∀ t (ht : t < l.length), t < i → behindB p0 p1 l[t].f0.f0 l[t].f0.f1 = true) → (∀ t (ht : t < l.length), j ≤ t → ¬ behindB p0 p1 l[t].f0.f0 l[t].f0.f1 = true) →
    bs.at l p0 p1 i j ≤ l.length ∧ (∀ t (ht : t < l.length), t < bs.at l p0 p1 i j → behindB p0 p1 l[t].f0.f0 l[t].f0.f1 = true) ∧ (∀ t (ht : t < l.length), bs.at l p0 p1 i j ≤ t → ¬ behindB p0 p1 l[t].f0.f0 l[t].f0.f1 = true) := by
  intro d
  induction d with
  | zero =>
    intro i j hd hij hj h1 h2
    obtain rfl : i = j := by omega
    rw [bs.at_done l p0 p1 i i (by omega)]
    exact ⟨hj, h1, h2⟩
  | succ d ih =>
    intro i j hd hij hj h1 h2
    by_cases hlt : i < j
    · have hm : (i + j) / 2 < l.length := by omega
      have hrd := rd_get67 l hm
      by_cases ho : ordv (rd_T67 l ((i + j) / 2 : Nat)).f0.f0 (rd_T67 l ((i + j) / 2 : Nat)).f0.f1 p0 p1 < 0
      · rw [bs.at_up l p0 p1 i j hlt ho]
        rw [hrd, ordv_lt] at ho
        refine ih _ _ (by omega) (by omega) hj (fun t ht hti => ?_) h2
        by_cases he : t = (i + j) / 2
        · subst he; exact ho
        · exact behind_trans (ascB_get l hs t ((i + j) / 2) (by omega) hm) ho
      · rw [bs.at_down l p0 p1 i j hlt ho]
        rw [hrd, ordv_lt] at ho
        refine ih _ _ (by omega) (by omega) (by omega) h1 (fun t ht hti hb => ho ?_)
        by_cases he : t = (i + j) / 2
        · subst he; exact hb
        · exact behind_trans (ascB_get l hs ((i + j) / 2) t (by omega) ht) hb
    · obtain rfl : i = j := by omega
      rw [bs.at_done l p0 p1 i i (by omega)]
      exact ⟨hj, h1, h2⟩
def mergeM (lo hi : Int) (m : S67) : S67 := ⟨⟨m.f0.f0, m.f0.f1⟩, ⟨mx m.f1.f0 lo, mn m.f1.f1 hi⟩⟩
def newM (p0 p1 lo hi : Int) : S67 := ⟨⟨p0, p1⟩, ⟨lo, hi⟩⟩
def atB (p0 p1 : Int) (m : S67) : Bool := m.f0.f0 == p0 && m.f0.f1 == p1
def insR (p0 p1 lo hi : Int) : Bool → List S67 → List S67
  | d, [] => if d = true then [] else [newM p0 p1 lo hi]
  | d, m :: t => if atB p0 p1 m = true then mergeM lo hi m :: insR p0 p1 lo hi true t else if d = true then m :: insR p0 p1 lo hi d t else if behindB m.f0.f0 m.f0.f1 p0 p1 = true then newM p0 p1 lo hi :: m :: insR p0 p1 lo hi true t else m :: insR p0 p1 lo hi d t
theorem atB_iff (p0 p1 : Int) (m : S67) : atB p0 p1 m = true ↔ m.f0.f0 = p0 ∧ m.f0.f1 = p1 := by unfold atB; rw [Bool.and_eq_true]; simp
theorem behind_irr {a0 a1 : Int} : ¬ behindB a0 a1 a0 a1 = true := by unfold behindB; rw [decide_eq_true_iff]; omega
theorem behind_asymm {a0 a1 b0 b1 : Int} (h : behindB b0 b1 a0 a1 = true) : ¬ behindB a0 a1 b0 b1 = true := fun h2 => behind_irr (behind_trans h h2)
theorem insR_done (p0 p1 lo hi : Int) : ∀ t : List S67, (∀ m ∈ t, behindB m.f0.f0 m.f0.f1 p0 p1 = true) → insR p0 p1 lo hi true t = t := by
  intro t
  induction t with
  | nil => intro _; rfl
  | cons m t ih =>
    intro h
    rw [List.forall_mem_cons] at h
    unfold insR
    rw [if_neg (fun e => by
      obtain ⟨e1, e2⟩ := (atB_iff p0 p1 m).1 e
      have := h.1
      rw [e1, e2] at this
      exact behind_irr this), if_pos rfl, ih h.2]
theorem insR_skip (p0 p1 lo hi : Int) : ∀ (A B : List S67), (∀ m ∈ A, behindB p0 p1 m.f0.f0 m.f0.f1 = true) → insR p0 p1 lo hi false (A ++ B) = A ++ insR p0 p1 lo hi false B := by
  intro A B
  induction A with
  | nil => intro _; rfl
  | cons m t ih =>
    intro h
    rw [List.forall_mem_cons] at h
    rw [List.cons_append, List.cons_append]
    conv => lhs; unfold insR
    rw [if_neg (fun e => by
      obtain ⟨e1, e2⟩ := (atB_iff p0 p1 m).1 e
      have := h.1
      rw [e1, e2] at this
      exact behind_irr this), if_neg (show ¬ (false = true) by decide), if_neg (behind_asymm h.1), ih h.2]
theorem marks_insR (l : List S67) (hs : ascB l = true) (p0 p1 rd wr : Int) : wear_Probe.marks l p0 p1 rd wr = insR p0 p1 (mx (wrap64 (rd - wr)) 0) (mn (wrap64 (rd + wr)) 2000) false l := by
  unfold wear_Probe.marks
  generalize mx (wrap64 (rd - wr)) 0 = lo
  generalize mn (wrap64 (rd + wr)) 2000 = hi
  obtain ⟨hr, h1, h2⟩ := at_spec l hs p0 p1 l.length 0 l.length (by omega) (by omega) (Nat.le_refl _) (fun t ht h => by omega) (fun t ht h => by omega)
  generalize bs.at l p0 p1 0 l.length = r at *
  have hA : ∀ m ∈ l.take r, behindB p0 p1 m.f0.f0 m.f0.f1 = true := fun m hm => by
    obtain ⟨t, ht, rfl⟩ := List.mem_iff_getElem.1 hm
    rw [List.getElem_take]
    rw [List.length_take] at ht
    exact h1 t (by omega) (by omega)
  conv => rhs; rw [← List.take_append_drop r l]
  rw [insR_skip p0 p1 lo hi _ _ hA]
  unfold wear_Probe.put bs.there
  by_cases hlt : r < l.length
  · rw [List.drop_eq_getElem_cons hlt, decide_eq_true hlt, Bool.true_and, rd_get67 l hlt]
    have hB : ∀ m ∈ l.drop (r + 1), behindB m.f0.f0 m.f0.f1 l[r].f0.f0 l[r].f0.f1 = true := fun m hm => by
      obtain ⟨t, ht, rfl⟩ := List.mem_iff_getElem.1 hm
      rw [List.getElem_drop]
      rw [List.length_drop] at ht
      exact ascB_get l hs r (r + 1 + t) (by omega) (by omega)
    by_cases he : ordv l[r].f0.f0 l[r].f0.f1 p0 p1 = 0
    · rw [if_pos (by rw [he]; rfl)]
      have hp := (ordv_zero _ _ _ _).1 he
      rw [hp.1, hp.2] at hB
      conv => rhs; unfold insR
      rw [if_pos ((atB_iff p0 p1 l[r]).2 hp), insR_done _ _ _ _ _ hB, List.set_eq_take_append_cons_drop, if_pos hlt]
      rw [show l.getD r z67 = l[r] by simp [List.getD_eq_getElem?_getD, List.getElem?_eq_getElem hlt]]
      rfl
    · rw [if_neg (by simpa using he)]
      have hne : ¬ atB p0 p1 l[r] = true := fun e => he ((ordv_zero _ _ _ _).2 ((atB_iff _ _ _).1 e))
      have hbh : behindB l[r].f0.f0 l[r].f0.f1 p0 p1 = true := by
        have h3 := h2 r hlt (Nat.le_refl _)
        rw [atB_iff] at hne
        unfold behindB at *
        rw [decide_eq_true_iff] at *
        omega
      conv => rhs; unfold insR
      rw [if_neg hne, if_neg (show ¬ (false = true) by decide), if_pos hbh, insR_done _ _ _ _ _ (fun m hm => behind_trans hbh (hB m hm))]
      rfl
  · rw [decide_eq_false hlt, Bool.false_and, if_neg (by decide), List.drop_of_length_le (by omega)]
    rfl
end Go.Proofs.Ytcfpclehogdmbaa.Q
end
section
namespace Go.Proofs.Ytcfpclehogdmbaa.Q
open Go.RowKit Go.Proofs.YtcfpclehogdmbaaW.PrintWords Go.Proofs.YtcfpclehogdmbaaW.PrintLast Go.Proofs.YtcfpclehogdmbaaW.PrintMore
set_option linter.unusedVariables false
set_option linter.unusedSimpArgs false
def saidLow (rd wr : Int) : Int := mx (wrap64 (rd - wr)) 0
def saidHigh (rd wr : Int) : Int := mn (wrap64 (rd + wr)) 2000
def ins (l : List S67) (p0 p1 rd wr : Int) : List S67 := insR p0 p1 (saidLow rd wr) (saidHigh rd wr) false l
abbrev SkinE := List S32 × List S55 × Int × Int × Int × List S67 × Int
def errSkin (e : Int) : SkinE := ([], [], 0, 0, 0, [], e)
def probeV (l0 : List S32) (l1 : List S55) (st lo hi : Int) (l : List S67) (p0 p1 rd wr : Int) : SkinE :=
  if checkV l0 l1 st lo hi l = 0 then
    (if wear_has.b l0 l1 p0 p1 = true then (if 0 ≤ rd ∧ rd ≤ 2000 then (if 0 ≤ wr ∧ wr ≤ 2000 then
      (if 40 < (ins l p0 p1 rd wr).length then errSkin 3 else if checkV l0 l1 st lo hi (ins l p0 p1 rd wr) = 0 then (l0, l1, st, lo, hi, ins l p0 p1 rd wr, 0) else errSkin 10)
      else errSkin 1) else errSkin 1) else errSkin 7)
  else errSkin (checkV l0 l1 st lo hi l)
theorem ins_marks (l : List S67) (hs : ascB l = true) (p0 p1 rd wr : Int) : wear_Probe.marks l p0 p1 rd wr = ins l p0 p1 rd wr := marks_insR l hs p0 p1 rd wr
theorem probe_wear (l0 : List S32) (l1 : List S55) (st lo hi : Int) (l : List S67) (p0 p1 rd wr : Int) (h0 : l0.length < 1000) (h1 : l1.length < 1000) (hl : l.length < 900) :
    Tells (fun k => wear_Probe.f k l0 l1 st lo hi l p0 p1 rd wr) (probeV l0 l1 st lo hi l p0 p1 rd wr) := by
  unfold wear_Probe.f probeV
  refine Tells.bind (check_wear l0 l1 st lo hi l (by omega) (by omega) (by omega)) ?_
  by_cases e0 : checkV l0 l1 st lo hi l = 0
  · simp only [if_pos e0]
    have hs := ((checkV_zero l0 l1 st lo hi l).1 e0).asc
    by_cases eh : wear_has.b l0 l1 p0 p1 = true
    · simp only [if_pos eh]
      by_cases e1 : 0 ≤ rd ∧ rd ≤ 2000
      · simp only [if_pos e1]
        by_cases e2 : 0 ≤ wr ∧ wr ≤ 2000
        · simp only [if_pos e2, if_pos (show l0.length < 1000 ∧ l1.length < 1000 ∧ l.length < 900 from ⟨h0, h1, hl⟩), ins_marks l hs]
          by_cases e3 : 40 < (ins l p0 p1 rd wr).length
          · simp only [if_pos e3]; exact Tells.const fun _ => rfl
          · simp only [if_neg e3]
            refine Tells.bind (check_wear l0 l1 st lo hi _ (by omega) (by omega) (by omega)) ?_
            by_cases e4 : checkV l0 l1 st lo hi (ins l p0 p1 rd wr) = 0
            · simp only [if_pos e4]; exact Tells.const fun _ => rfl
            · simp only [if_neg e4]; exact Tells.const fun _ => rfl
        · simp only [if_neg e2]; exact Tells.const fun _ => rfl
      · simp only [if_neg e1]; exact Tells.const fun _ => rfl
    · simp only [if_neg eh]; exact Tells.const fun _ => rfl
  · simp only [if_neg e0]; exact Tells.const fun _ => rfl
structure ProbeOk (l0 : List S32) (l1 : List S55) (st lo hi : Int) (l : List S67) (p0 p1 rd wr : Int) : Prop where
  ok : OkSkin l0 l1 st lo hi l
  has : wear_has.b l0 l1 p0 p1 = true
  hrd : 0 ≤ rd ∧ rd ≤ 2000
  hwr : 0 ≤ wr ∧ wr ≤ 2000
  next : OkSkin l0 l1 st lo hi (ins l p0 p1 rd wr)
theorem probeV_ok {l0 : List S32} {l1 : List S55} {st lo hi : Int} {l : List S67} {p0 p1 rd wr : Int} (h : ProbeOk l0 l1 st lo hi l p0 p1 rd wr) : probeV l0 l1 st lo hi l p0 p1 rd wr = (l0, l1, st, lo, hi, ins l p0 p1 rd wr, 0) := by
  unfold probeV
  rw [if_pos ((checkV_zero ..).2 h.ok), if_pos h.has, if_pos h.hrd, if_pos h.hwr, if_neg (show ¬ 40 < (ins l p0 p1 rd wr).length by have := h.next.few; omega), if_pos ((checkV_zero ..).2 h.next)]
theorem probeV_bad {l0 : List S32} {l1 : List S55} {st lo hi : Int} {l : List S67} {p0 p1 rd wr : Int} (h : ¬ ProbeOk l0 l1 st lo hi l p0 p1 rd wr) : ∃ e, e ≠ 0 ∧ probeV l0 l1 st lo hi l p0 p1 rd wr = errSkin e := by
  unfold probeV
  by_cases e0 : checkV l0 l1 st lo hi l = 0
  · rw [if_pos e0]
    by_cases eh : wear_has.b l0 l1 p0 p1 = true
    · rw [if_pos eh]
      by_cases e1 : 0 ≤ rd ∧ rd ≤ 2000
      · rw [if_pos e1]
        by_cases e2 : 0 ≤ wr ∧ wr ≤ 2000
        · rw [if_pos e2]
          by_cases e3 : 40 < (ins l p0 p1 rd wr).length
          · exact ⟨3, by decide, by rw [if_pos e3]⟩
          · rw [if_neg e3]
            by_cases e4 : checkV l0 l1 st lo hi (ins l p0 p1 rd wr) = 0
            · exact absurd ⟨(checkV_zero ..).1 e0, eh, e1, e2, (checkV_zero ..).1 e4⟩ h
            · exact ⟨10, by decide, by rw [if_neg e4]⟩
        · exact ⟨1, by decide, by rw [if_neg e2]⟩
      · exact ⟨1, by decide, by rw [if_neg e1]⟩
    · exact ⟨7, by decide, by rw [if_neg eh]⟩
  · exact ⟨_, e0, by rw [if_neg e0]⟩
end Go.Proofs.Ytcfpclehogdmbaa.Q
end
section
namespace Go.Proofs.Ytcfpclehogdmbaa.Q
open Go.RowKit Go.Proofs.YtcfpclehogdmbaaW.PrintWords Go.Proofs.YtcfpclehogdmbaaW.PrintLast Go.Proofs.YtcfpclehogdmbaaW.PrintMore
set_option linter.unusedVariables false
set_option linter.unusedSimpArgs false
def insX (l : List S67) (x : S43) : List S67 := ins l x.f0.f0 x.f0.f1 x.f1 x.f2
structure Inv (l0 : List S32) (l1 : List S55) (l : List S67) : Prop where
  asc : ascB l = true
  all : ∀ m ∈ l, wear_has.b l0 l1 m.f0.f0 m.f0.f1 = true ∧ 0 ≤ m.f1.f0 ∧ m.f1.f1 ≤ 2000
def goodX (l0 : List S32) (l1 : List S55) (x : S43) : Prop := wear_has.b l0 l1 x.f0.f0 x.f0.f1 = true ∧ (0 ≤ x.f1 ∧ x.f1 ≤ 2000) ∧ (0 ≤ x.f2 ∧ x.f2 ≤ 2000)
structure AllOk (l0 : List S32) (l1 : List S55) (st lo hi : Int) (l : List S67) (xs : List S43) : Prop where
  ok : OkSkin l0 l1 st lo hi l
  good : ∀ x ∈ xs, goodX l0 l1 x
  last : OkSkin l0 l1 st lo hi (xs.foldl insX l)
end Go.Proofs.Ytcfpclehogdmbaa.Q
end
section
namespace Go.Proofs.Ytcfpclehogdmbaa.Q
open Go.RowKit Go.Proofs.YtcfpclehogdmbaaW.PrintWords Go.Proofs.YtcfpclehogdmbaaW.PrintLast Go.Proofs.YtcfpclehogdmbaaW.PrintMore
attribute [local go_sem] max2_int min2_int max_two min_two max_three min_three max_four min_four   -- for this text's walks alone
set_option linter.unusedVariables false
set_option linter.unusedSimpArgs false
def thatchlaw07_long.f (a0 : Int) : Option (Bool) := if a0 < (-9999999999) then (some true) else (some (decide (a0 > 9999999999)))
set_option maxHeartbeats 8000000 in
set_option maxRecDepth 100000 in
theorem thatchlaw07_long.calls (a0 : Int) (r : Bool) (w : World) (h : thatchlaw07_long.f a0 = some r) :
  Calls Try.prog 18 #[.int .i64 a0] w fun e w' => e = .returned (.bool r) ∧ Drawn0 w w' := by
 have H : (if a0 < (-9999999999) then (some true) else (some (decide (a0 > 9999999999)))) = some r := h
 clear h
 by_cases c2 : a0 < (-9999999999)
 ·rw [if_pos c2] at H
  have c2b0 : decide (a0 < (-9999999999)) = true := decide_eq_true c2
  clear c2
  obtain rfl := Option.some.inj H
  go_enter Try.func18, Try.ntmps18
  go_wp2
  go_ret
  exact ⟨by first | rfl | (simp; done) | (simp [*]; done), by repeat (first | exact Drawn0.refl _ | apply Drawn0.step)⟩
 rw [if_neg c2] at H
 have c2b0 : decide (a0 < (-9999999999)) = false := decide_eq_false c2
 clear c2
 obtain rfl := Option.some.inj H
 go_enter Try.func18, Try.ntmps18
 go_wp2
 go_ret
 exact ⟨by first | rfl | (simp; done) | (simp [*]; done), by repeat (first | exact Drawn0.refl _ | apply Drawn0.step)⟩
mutual
def thatchlaw07_Great.j0 : Nat → Bool → List (S32) → List (S55) → Int → Int → Int → List (S67) → Option (Bool)
 | 0, _, _, _, _, _, _, _ => none
 | k + 1, x22, x102000, x102001, x102002, x102003, x102004, x102005 => if x22 = true then (some true) else (thatchlaw07_Great.l0 k 0 x102000 x102001 x102002 x102003 x102004 x102005)
def thatchlaw07_Great.l0 : Nat → Int → List (S32) → List (S55) → Int → Int → Int → List (S67) → Option (Bool)
 | 0, _, _, _, _, _, _, _ => none
 | k + 1, x3, x102000, x102001, x102002, x102003, x102004, x102005 => if x3 < (x102001.length : Int) then (if 0 ≤ x3 then ((thatchlaw07_long.f ((rd_T55 x102001 x3).f0.f0)).bind fun t104 => (if t104 = true then (some true) else ((thatchlaw07_long.f ((rd_T55 x102001 x3).f0.f1)).bind fun t105 => (if t105 = true then (some true) else ((thatchlaw07_long.f ((rd_T55 x102001 x3).f1.f0)).bind fun t106 => (if t106 = true then (some true) else ((thatchlaw07_long.f ((rd_T55 x102001 x3).f1.f1)).bind fun t107 => (if t107 = true then (some true) else (thatchlaw07_Great.l0 k (wrap64 (x3 + 1)) x102000 x102001 x102002 x102003 x102004 x102005))))))))) else (none)) else (some false)
end
def thatchlaw07_Great.f (k : Nat) (l0_0 : List (S32)) (l0_1 : List (S55)) (a0_2 : Int) (a0_3 : Int) (a0_4 : Int) (l0_5 : List (S67)) : Option (Bool) := if (l0_0.length : Int) > 30 then (thatchlaw07_Great.j0 k true l0_0 l0_1 a0_2 a0_3 a0_4 l0_5) else (if (l0_1.length : Int) > 30 then (thatchlaw07_Great.j0 k true l0_0 l0_1 a0_2 a0_3 a0_4 l0_5) else (thatchlaw07_Great.j0 k (decide ((l0_5.length : Int) > 60)) l0_0 l0_1 a0_2 a0_3 a0_4 l0_5))
set_option maxHeartbeats 8000000 in
set_option maxRecDepth 100000 in
theorem thatchlaw07_Great.calls (k : Nat) (A0_0 : Option Addr) (c0_0 : Nat) (l0_0 : List (S32)) (A0_1 : Option Addr) (c0_1 : Nat) (l0_1 : List (S55)) (a0_2 : Int) (a0_3 : Int) (a0_4 : Int) (A0_5 : Option Addr) (c0_5 : Nat) (l0_5 : List (S67)) (r : Bool) (w : World) (hr0_0 : Kd.C k32 w A0_0 l0_0.length l0_0) (hc0_0 : l0_0.length ≤ c0_0) (hr0_1 : Kd.C k55 w A0_1 l0_1.length l0_1) (hc0_1 : l0_1.length ≤ c0_1) (hr0_5 : Kd.C k67 w A0_5 l0_5.length l0_5) (hc0_5 : l0_5.length ≤ c0_5) (h : thatchlaw07_Great.f k l0_0 l0_1 a0_2 a0_3 a0_4 l0_5 = some r) :
  Calls Try.prog 7 #[.agg #[.slice A0_0 l0_0.length c0_0, .slice A0_1 l0_1.length c0_1, .int .i64 a0_2, .int .i64 a0_3, .int .i64 a0_4, .slice A0_5 l0_5.length c0_5]] w fun e w' => e = .returned (.bool r) ∧ Below w.heap.size w w' := by
 have hu30 := Try.underlying30
 have hu55 := Try.underlying55
 have HR0_0 := Aside0.mk hr0_0
 have HC0_0 := Aside0.mk hc0_0
 clear hr0_0 hc0_0
 have HR0_1 := Aside0.mk hr0_1
 have HC0_1 := Aside0.mk hc0_1
 clear hr0_1 hc0_1
 have HR0_5 := Aside0.mk hr0_5
 have HC0_5 := Aside0.mk hc0_5
 clear hr0_5 hc0_5
 have HB := Aside0.mk (Below.refl w.heap.size w)
 have H : (if (l0_0.length : Int) > 30 then (thatchlaw07_Great.j0 k true l0_0 l0_1 a0_2 a0_3 a0_4 l0_5) else (if (l0_1.length : Int) > 30 then (thatchlaw07_Great.j0 k true l0_0 l0_1 a0_2 a0_3 a0_4 l0_5) else (thatchlaw07_Great.j0 k (decide ((l0_5.length : Int) > 60)) l0_0 l0_1 a0_2 a0_3 a0_4 l0_5))) = some r := h
 clear h
 have HC2 := Aside0.mk H
 clear H
 go_enter Try.func7, Try.ntmps7
 go_upto_region 1 with (first | ((with_reducible refine gate_dst (N := 1) rfl ?_); (try (refine gate_guard (by rfl) ?_; dsimp only)); refine zx 1 #[.slice A0_0 l0_0.length c0_0, .slice A0_1 l0_1.length c0_1, .int .i64 a0_2, .int .i64 a0_3, .int .i64 a0_4, .slice A0_5 l0_5.length c0_5] 30 ?_; intro gb101 hg w3 hbox hb; have n0_ := zY HB hb; have n1_ := Aside0.mk (hbox); have n2_ := zS hg HB; have n3_ := zS hg HB; clear HB; have HB := n0_; have BK101 := n1_; have GW101 := n2_; have GE101 := n3_; clear n0_ n1_ n2_ n3_; clear hb hbox hg))
 (try simp only [Act.put, List.setIfInBounds_toArray, List.set_cons_zero, List.set_cons_succ])
 go_cut [22] (fun v22 wc => ∃ (kq : Nat) (x22_1 : Bool), v22 = .bool x22_1 ∧ Aside0 (thatchlaw07_Great.j0 kq x22_1 l0_0 l0_1 a0_2 a0_3 a0_4 l0_5 = some r) ∧ Aside0 (kq ≤ k) ∧ Aside0 (wc.heap[gb101]? = some (.cells #[(.slice A0_0 l0_0.length c0_0), (.slice A0_1 l0_1.length c0_1), .int .i64 a0_2, .int .i64 a0_3, .int .i64 a0_4, (.slice A0_5 l0_5.length c0_5)] 30 (0, 0))) ∧ Aside0 (Below w.heap.size w wc))
 case first =>
  have H := HC2.out
  clear HC2
  by_cases c4 : (l0_0.length : Int) > 30
  ·rw [if_pos c4] at H
   have c4b0 : decide (30 < (l0_0.length : Int)) = true := decide_eq_true c4
   have c4b1 : decide (30 < l0_0.length) = true := decide_eq_true (by omega)
   clear c4
   (first | rw [c4b0] | (simp only [i64_w, i32_w]; rw [c4b0]) | skip)
   have H' := Aside0.mk H
   clear H
   obtain ⟨hcz5_0, hcz5_1, hcz5_2, hcz5_3, hcz5_4, hcz5_5, hfz5_0, hfz5_1, hfz5_2, hfz5_3, hfz5_4, hfz5_5⟩ := zk6 BK101
   go_wp2
   go_meet
   case rel => exact ⟨_, (true), zq, H', ⟨by first | omega | exact Nat.le_refl _⟩, ⟨zb BK101⟩, ⟨zw HB⟩⟩
  rw [if_neg c4] at H
  have c4b0 : decide (30 < (l0_0.length : Int)) = false := decide_eq_false c4
  have c4b1 : decide (30 < l0_0.length) = false := decide_eq_false (by omega)
  clear c4
  (first | rw [c4b0] | (simp only [i64_w, i32_w]; rw [c4b0]) | skip)
  by_cases c6 : (l0_1.length : Int) > 30
  ·rw [if_pos c6] at H
   have c6b0 : decide (30 < (l0_1.length : Int)) = true := decide_eq_true c6
   have c6b1 : decide (30 < l0_1.length) = true := decide_eq_true (by omega)
   clear c6
   have H' := Aside0.mk H
   clear H
   obtain ⟨hcz7_0, hcz7_1, hcz7_2, hcz7_3, hcz7_4, hcz7_5, hfz7_0, hfz7_1, hfz7_2, hfz7_3, hfz7_4, hfz7_5⟩ := zk6 BK101
   go_wp2
   go_meet
   case rel => exact ⟨_, (true), zq, H', ⟨by first | omega | exact Nat.le_refl _⟩, ⟨zb BK101⟩, ⟨zw HB⟩⟩
  rw [if_neg c6] at H
  have c6b0 : decide (30 < (l0_1.length : Int)) = false := decide_eq_false c6
  have c6b1 : decide (30 < l0_1.length) = false := decide_eq_false (by omega)
  clear c6
  have H' := Aside0.mk H
  clear H
  obtain ⟨hcz8_0, hcz8_1, hcz8_2, hcz8_3, hcz8_4, hcz8_5, hfz8_0, hfz8_1, hfz8_2, hfz8_3, hfz8_4, hfz8_5⟩ := zk6 BK101
  go_wp2
  go_meet
  case rel => exact ⟨_, (decide ((l0_5.length : Int) > 60)), zq, H', ⟨by first | omega | exact Nat.le_refl _⟩, ⟨zb BK101⟩, ⟨zw HB⟩⟩
 case rest =>
  clear HC2; try clear p2; try clear c4; try clear c4b0; try clear c4b1; try clear c6; try clear c6b0; try clear c6b1; try clear c7; try clear hcz5_0 hcz5_1 hcz5_2 hcz5_3 hcz5_4 hcz5_5; try clear hcz7_0 hcz7_1 hcz7_2 hcz7_3 hcz7_4 hcz7_5; try clear hcz8_0 hcz8_1 hcz8_2 hcz8_3 hcz8_4 hcz8_5; try clear hfz5_0 hfz5_1 hfz5_2 hfz5_3 hfz5_4 hfz5_5; try clear hfz7_0 hfz7_1 hfz7_2 hfz7_3 hfz7_4 hfz7_5; try clear hfz8_0 hfz8_1 hfz8_2 hfz8_3 hfz8_4 hfz8_5
  obtain ⟨kq, x22_1, rfl, HA, HJ1, BK101, HB⟩ := hcut
  cases kq with
  | zero => exact absurd HA.out (by simp [thatchlaw07_Great.j0])
  | succ kj1 =>
   have H := HA.out
   clear HA
   simp only [thatchlaw07_Great.j0] at H
   by_cases c9 : x22_1 = true
   ·subst c9
    have H1 : (some true) = some r := by rw [if_pos rfl] at H; exact H
    clear H
    have H := H1
    clear H1
    obtain rfl := Option.some.inj H
    go_wp2
    go_ret
    exact ⟨ze, zw HB⟩
   replace c9 := Bool.eq_false_iff.mpr c9
   subst c9
   have H1 : (thatchlaw07_Great.l0 kj1 0 l0_0 l0_1 a0_2 a0_3 a0_4 l0_5) = some r := by rw [if_neg (show ¬ (false = true) by decide)] at H; exact H
   clear H
   have H := H1
   clear H1
   have H' := Aside0.mk H
   clear H
   go_wp2
   go_loopg [3] kj1 (fun kq v3 w' => ∃ (x3_2 : Int), v3 = .int .i64 x3_2 ∧ Aside0 (thatchlaw07_Great.l0 kq x3_2 l0_0 l0_1 a0_2 a0_3 a0_4 l0_5 = some r) ∧ Aside0 (kq ≤ kj1) ∧ Aside0 (w'.heap[gb101]? = some (.cells #[(.slice A0_0 l0_0.length c0_0), (.slice A0_1 l0_1.length c0_1), .int .i64 a0_2, .int .i64 a0_3, .int .i64 a0_4, (.slice A0_5 l0_5.length c0_5)] 30 (0, 0))) ∧ Aside0 (Below w.heap.size w w'))
   case atStart => exact ⟨(0), zq, H', ⟨Nat.le_refl _⟩, ⟨zb BK101⟩, ⟨zw HB⟩⟩
   case round =>
    clear H'; try clear p2; try clear c4; try clear c4b0; try clear c4b1; try clear c6; try clear c6b0; try clear c6b1; try clear c7; try clear c9; try clear hcz5_0 hcz5_1 hcz5_2 hcz5_3 hcz5_4 hcz5_5; try clear hcz7_0 hcz7_1 hcz7_2 hcz7_3 hcz7_4 hcz7_5; try clear hcz8_0 hcz8_1 hcz8_2 hcz8_3 hcz8_4 hcz8_5; try clear hfz5_0 hfz5_1 hfz5_2 hfz5_3 hfz5_4 hfz5_5; try clear hfz7_0 hfz7_1 hfz7_2 hfz7_3 hfz7_4 hfz7_5; try clear hfz8_0 hfz8_1 hfz8_2 hfz8_3 hfz8_4 hfz8_5; try clear p2
    obtain ⟨x3_2, rfl, HA, HK2, BK101, HB⟩ := hrel
    cases gk with
    | zero => exact absurd HA.out (by simp [thatchlaw07_Great.l0])
    | succ k2 =>
     have H := HA.out
     clear HA
     simp only [thatchlaw07_Great.l0] at H
     by_cases c10 : x3_2 < (l0_1.length : Int)
     ·rw [if_pos c10] at H
      have c10b0 : decide (x3_2 < (l0_1.length : Int)) = true := decide_eq_true c10
      clear c10
      by_cases c11 : 0 ≤ x3_2
      ·rw [if_pos c11] at H
       have c11b0 : decide (0 ≤ x3_2) = true := decide_eq_true c11
       clear c11
       replace H := Option.bind_eq_some_iff.mp H
       obtain ⟨t104, A120, H⟩ := H
       replace H : (if t104 = true then (some true) else ((thatchlaw07_long.f ((rd_T55 l0_1 x3_2).f0.f1)).bind fun t105 => (if t105 = true then (some true) else ((thatchlaw07_long.f ((rd_T55 l0_1 x3_2).f1.f0)).bind fun t106 => (if t106 = true then (some true) else ((thatchlaw07_long.f ((rd_T55 l0_1 x3_2).f1.f1)).bind fun t107 => (if t107 = true then (some true) else (thatchlaw07_Great.l0 k2 (wrap64 (x3_2 + 1)) l0_0 l0_1 a0_2 a0_3 a0_4 l0_5)))))))) = some r := H
       have A12 := Aside0.mk A120
       clear A120
       by_cases c13 : t104 = true
       ·subst c13
        have H1 : (some true) = some r := by rw [if_pos rfl] at H; exact H
        clear H
        have H := H1
        clear H1
        obtain rfl := Option.some.inj H
        obtain ⟨hcz14_0, hcz14_1, hcz14_2, hcz14_3, hcz14_4, hcz14_5, hfz14_0, hfz14_1, hfz14_2, hfz14_3, hfz14_4, hfz14_5⟩ := zk6 BK101
        have p102 : 0 ≤ (x3_2 : Int) := of_decide_eq_true zj
        have q102 : x3_2 < (l0_1.length : Int) := of_decide_eq_true zj
        obtain ⟨ad102, e102, hx102_0, hx102_1, hx102_2, hx102_3⟩ := at_T55 HR0_1.out x3_2 p102 q102
        cases e102
        replace hx102_0 := zu hx102_0 HB
        replace hx102_1 := zu hx102_1 HB
        replace hx102_2 := zu hx102_2 HB
        replace hx102_3 := zu hx102_3 HB
        replace p102 := eq_true p102
        replace q102 := eq_true q102
        go_wp2_with (first | ((with_reducible refine gate_dst (N := 4) rfl ?_); (try (refine gate_guard (by rfl) ?_; dsimp only)); refine zx 4 #[.int .i64 0, .int .i64 0, .int .i64 0, .int .i64 0] 55 ?_; intro gb103 hg w15 hbox hb; have n0_ := zD BK101 hb; have n1_ := zY HB hb; have n2_ := Aside0.mk (hbox); have n3_ := zS hg HB; have n4_ := zS hg HB; have n5_ := zN hg BK101; have n6_ := zM hg BK101; clear BK101; clear HB; have BK101 := n0_; have HB := n1_; have BK103 := n2_; have GW103 := n3_; have GE103 := n4_; have NB101_103 := n5_; have NB103_101 := n6_; clear n0_ n1_ n2_ n3_ n4_ n5_ n6_; clear hb hbox hg; have hnb16 := NB103_101.out; have hnc16 := NB101_103.out; obtain ⟨hcz17_0, hcz17_1, hcz17_2, hcz17_3, hfz17_0, hfz17_1, hfz17_2, hfz17_3⟩ := zk4 BK103) | ((with_reducible refine gate_callee (f := 18) rfl ?_); refine goesL_ (some 40) rfl rfl Try.func18 (by kernel_rfl) rfl #[.int .i64 ((rd_T55 l0_1 x3_2).f0.f0)] rfl za ?_; (with_reducible refine (thatchlaw07_long.calls ((rd_T55 l0_1 x3_2).f0.f0) true _ A12.out).mono ?_); rintro e w' ⟨rfl, ⟨nd, rfl⟩⟩; refine ⟨_, rfl, ?_⟩))
        go_ret
        exact ⟨ze, zw HB⟩
       replace c13 := Bool.eq_false_iff.mpr c13
       subst c13
       have H1 : ((thatchlaw07_long.f ((rd_T55 l0_1 x3_2).f0.f1)).bind fun t105 => (if t105 = true then (some true) else ((thatchlaw07_long.f ((rd_T55 l0_1 x3_2).f1.f0)).bind fun t106 => (if t106 = true then (some true) else ((thatchlaw07_long.f ((rd_T55 l0_1 x3_2).f1.f1)).bind fun t107 => (if t107 = true then (some true) else (thatchlaw07_Great.l0 k2 (wrap64 (x3_2 + 1)) l0_0 l0_1 a0_2 a0_3 a0_4 l0_5))))))) = some r := by rw [if_neg (show ¬ (false = true) by decide)] at H; exact H
       clear H
       have H := H1
       clear H1
       replace H := Option.bind_eq_some_iff.mp H
       obtain ⟨t105, A180, H⟩ := H
       replace H : (if t105 = true then (some true) else ((thatchlaw07_long.f ((rd_T55 l0_1 x3_2).f1.f0)).bind fun t106 => (if t106 = true then (some true) else ((thatchlaw07_long.f ((rd_T55 l0_1 x3_2).f1.f1)).bind fun t107 => (if t107 = true then (some true) else (thatchlaw07_Great.l0 k2 (wrap64 (x3_2 + 1)) l0_0 l0_1 a0_2 a0_3 a0_4 l0_5)))))) = some r := H
       have A18 := Aside0.mk A180
       clear A180
       by_cases c19 : t105 = true
       ·subst c19
        have H1 : (some true) = some r := by rw [if_pos rfl] at H; exact H
        clear H
        have H := H1
        clear H1
        obtain rfl := Option.some.inj H
        obtain ⟨hcz20_0, hcz20_1, hcz20_2, hcz20_3, hcz20_4, hcz20_5, hfz20_0, hfz20_1, hfz20_2, hfz20_3, hfz20_4, hfz20_5⟩ := zk6 BK101
        have p102 : 0 ≤ (x3_2 : Int) := of_decide_eq_true zj
        have q102 : x3_2 < (l0_1.length : Int) := of_decide_eq_true zj
        obtain ⟨ad102, e102, hx102_0, hx102_1, hx102_2, hx102_3⟩ := at_T55 HR0_1.out x3_2 p102 q102
        cases e102
        replace hx102_0 := zu hx102_0 HB
        replace hx102_1 := zu hx102_1 HB
        replace hx102_2 := zu hx102_2 HB
        replace hx102_3 := zu hx102_3 HB
        replace p102 := eq_true p102
        replace q102 := eq_true q102
        go_wp2_with (first | ((with_reducible refine gate_dst (N := 4) rfl ?_); (try (refine gate_guard (by rfl) ?_; dsimp only)); refine zx 4 #[.int .i64 0, .int .i64 0, .int .i64 0, .int .i64 0] 55 ?_; intro gb103 hg w21 hbox hb; have n0_ := zD BK101 hb; have n1_ := zY HB hb; have n2_ := Aside0.mk (hbox); have n3_ := zS hg HB; have n4_ := zS hg HB; have n5_ := zN hg BK101; have n6_ := zM hg BK101; clear BK101; clear HB; have BK101 := n0_; have HB := n1_; have BK103 := n2_; have GW103 := n3_; have GE103 := n4_; have NB101_103 := n5_; have NB103_101 := n6_; clear n0_ n1_ n2_ n3_ n4_ n5_ n6_; clear hb hbox hg; have hnb22 := NB103_101.out; have hnc22 := NB101_103.out; obtain ⟨hcz23_0, hcz23_1, hcz23_2, hcz23_3, hfz23_0, hfz23_1, hfz23_2, hfz23_3⟩ := zk4 BK103) | ((with_reducible refine gate_callee (f := 18) rfl ?_); refine goesL_ (some 40) rfl rfl Try.func18 (by kernel_rfl) rfl #[.int .i64 ((rd_T55 l0_1 x3_2).f0.f0)] rfl za ?_; (with_reducible refine (thatchlaw07_long.calls ((rd_T55 l0_1 x3_2).f0.f0) false _ A12.out).mono ?_); rintro e w' ⟨rfl, ⟨nd, rfl⟩⟩; refine ⟨_, rfl, ?_⟩) | (go_at_call 18; (with_reducible refine (thatchlaw07_long.calls ((rd_T55 l0_1 x3_2).f0.f1) true _ A18.out).mono ?_); rintro e w' ⟨rfl, ⟨nd, rfl⟩⟩))
        go_ret
        exact ⟨ze, zw HB⟩
       replace c19 := Bool.eq_false_iff.mpr c19
       subst c19
       have H1 : ((thatchlaw07_long.f ((rd_T55 l0_1 x3_2).f1.f0)).bind fun t106 => (if t106 = true then (some true) else ((thatchlaw07_long.f ((rd_T55 l0_1 x3_2).f1.f1)).bind fun t107 => (if t107 = true then (some true) else (thatchlaw07_Great.l0 k2 (wrap64 (x3_2 + 1)) l0_0 l0_1 a0_2 a0_3 a0_4 l0_5))))) = some r := by rw [if_neg (show ¬ (false = true) by decide)] at H; exact H
       clear H
       have H := H1
       clear H1
       replace H := Option.bind_eq_some_iff.mp H
       obtain ⟨t106, A240, H⟩ := H
       replace H : (if t106 = true then (some true) else ((thatchlaw07_long.f ((rd_T55 l0_1 x3_2).f1.f1)).bind fun t107 => (if t107 = true then (some true) else (thatchlaw07_Great.l0 k2 (wrap64 (x3_2 + 1)) l0_0 l0_1 a0_2 a0_3 a0_4 l0_5)))) = some r := H
       have A24 := Aside0.mk A240
       clear A240
       by_cases c25 : t106 = true
       ·subst c25
        have H1 : (some true) = some r := by rw [if_pos rfl] at H; exact H
        clear H
        have H := H1
        clear H1
        obtain rfl := Option.some.inj H
        obtain ⟨hcz26_0, hcz26_1, hcz26_2, hcz26_3, hcz26_4, hcz26_5, hfz26_0, hfz26_1, hfz26_2, hfz26_3, hfz26_4, hfz26_5⟩ := zk6 BK101
        have p102 : 0 ≤ (x3_2 : Int) := of_decide_eq_true zj
        have q102 : x3_2 < (l0_1.length : Int) := of_decide_eq_true zj
        obtain ⟨ad102, e102, hx102_0, hx102_1, hx102_2, hx102_3⟩ := at_T55 HR0_1.out x3_2 p102 q102
        cases e102
        replace hx102_0 := zu hx102_0 HB
        replace hx102_1 := zu hx102_1 HB
        replace hx102_2 := zu hx102_2 HB
        replace hx102_3 := zu hx102_3 HB
        replace p102 := eq_true p102
        replace q102 := eq_true q102
        go_wp2_with (first | ((with_reducible refine gate_dst (N := 4) rfl ?_); (try (refine gate_guard (by rfl) ?_; dsimp only)); refine zx 4 #[.int .i64 0, .int .i64 0, .int .i64 0, .int .i64 0] 55 ?_; intro gb103 hg w27 hbox hb; have n0_ := zD BK101 hb; have n1_ := zY HB hb; have n2_ := Aside0.mk (hbox); have n3_ := zS hg HB; have n4_ := zS hg HB; have n5_ := zN hg BK101; have n6_ := zM hg BK101; clear BK101; clear HB; have BK101 := n0_; have HB := n1_; have BK103 := n2_; have GW103 := n3_; have GE103 := n4_; have NB101_103 := n5_; have NB103_101 := n6_; clear n0_ n1_ n2_ n3_ n4_ n5_ n6_; clear hb hbox hg; have hnb28 := NB103_101.out; have hnc28 := NB101_103.out; obtain ⟨hcz29_0, hcz29_1, hcz29_2, hcz29_3, hfz29_0, hfz29_1, hfz29_2, hfz29_3⟩ := zk4 BK103) | ((with_reducible refine gate_callee (f := 18) rfl ?_); refine goesL_ (some 40) rfl rfl Try.func18 (by kernel_rfl) rfl #[.int .i64 ((rd_T55 l0_1 x3_2).f0.f0)] rfl za ?_; (with_reducible refine (thatchlaw07_long.calls ((rd_T55 l0_1 x3_2).f0.f0) false _ A12.out).mono ?_); rintro e w' ⟨rfl, ⟨nd, rfl⟩⟩; refine ⟨_, rfl, ?_⟩) | (go_at_call 18; (with_reducible refine (thatchlaw07_long.calls ((rd_T55 l0_1 x3_2).f0.f1) false _ A18.out).mono ?_); rintro e w' ⟨rfl, ⟨nd, rfl⟩⟩) | (go_at_call 18; (with_reducible refine (thatchlaw07_long.calls ((rd_T55 l0_1 x3_2).f1.f0) true _ A24.out).mono ?_); rintro e w' ⟨rfl, ⟨nd, rfl⟩⟩))
        go_ret
        exact ⟨ze, zw HB⟩
       replace c25 := Bool.eq_false_iff.mpr c25
       subst c25
       have H1 : ((thatchlaw07_long.f ((rd_T55 l0_1 x3_2).f1.f1)).bind fun t107 => (if t107 = true then (some true) else (thatchlaw07_Great.l0 k2 (wrap64 (x3_2 + 1)) l0_0 l0_1 a0_2 a0_3 a0_4 l0_5))) = some r := by rw [if_neg (show ¬ (false = true) by decide)] at H; exact H
       clear H
       have H := H1
       clear H1
       replace H := Option.bind_eq_some_iff.mp H
       obtain ⟨t107, A300, H⟩ := H
       replace H : (if t107 = true then (some true) else (thatchlaw07_Great.l0 k2 (wrap64 (x3_2 + 1)) l0_0 l0_1 a0_2 a0_3 a0_4 l0_5)) = some r := H
       have A30 := Aside0.mk A300
       clear A300
       by_cases c31 : t107 = true
       ·subst c31
        have H1 : (some true) = some r := by rw [if_pos rfl] at H; exact H
        clear H
        have H := H1
        clear H1
        obtain rfl := Option.some.inj H
        obtain ⟨hcz32_0, hcz32_1, hcz32_2, hcz32_3, hcz32_4, hcz32_5, hfz32_0, hfz32_1, hfz32_2, hfz32_3, hfz32_4, hfz32_5⟩ := zk6 BK101
        have p102 : 0 ≤ (x3_2 : Int) := of_decide_eq_true zj
        have q102 : x3_2 < (l0_1.length : Int) := of_decide_eq_true zj
        obtain ⟨ad102, e102, hx102_0, hx102_1, hx102_2, hx102_3⟩ := at_T55 HR0_1.out x3_2 p102 q102
        cases e102
        replace hx102_0 := zu hx102_0 HB
        replace hx102_1 := zu hx102_1 HB
        replace hx102_2 := zu hx102_2 HB
        replace hx102_3 := zu hx102_3 HB
        replace p102 := eq_true p102
        replace q102 := eq_true q102
        go_wp2_with (first | ((with_reducible refine gate_dst (N := 4) rfl ?_); (try (refine gate_guard (by rfl) ?_; dsimp only)); refine zx 4 #[.int .i64 0, .int .i64 0, .int .i64 0, .int .i64 0] 55 ?_; intro gb103 hg w33 hbox hb; have n0_ := zD BK101 hb; have n1_ := zY HB hb; have n2_ := Aside0.mk (hbox); have n3_ := zS hg HB; have n4_ := zS hg HB; have n5_ := zN hg BK101; have n6_ := zM hg BK101; clear BK101; clear HB; have BK101 := n0_; have HB := n1_; have BK103 := n2_; have GW103 := n3_; have GE103 := n4_; have NB101_103 := n5_; have NB103_101 := n6_; clear n0_ n1_ n2_ n3_ n4_ n5_ n6_; clear hb hbox hg; have hnb34 := NB103_101.out; have hnc34 := NB101_103.out; obtain ⟨hcz35_0, hcz35_1, hcz35_2, hcz35_3, hfz35_0, hfz35_1, hfz35_2, hfz35_3⟩ := zk4 BK103) | ((with_reducible refine gate_callee (f := 18) rfl ?_); refine goesL_ (some 40) rfl rfl Try.func18 (by kernel_rfl) rfl #[.int .i64 ((rd_T55 l0_1 x3_2).f0.f0)] rfl za ?_; (with_reducible refine (thatchlaw07_long.calls ((rd_T55 l0_1 x3_2).f0.f0) false _ A12.out).mono ?_); rintro e w' ⟨rfl, ⟨nd, rfl⟩⟩; refine ⟨_, rfl, ?_⟩) | (go_at_call 18; (with_reducible refine (thatchlaw07_long.calls ((rd_T55 l0_1 x3_2).f0.f1) false _ A18.out).mono ?_); rintro e w' ⟨rfl, ⟨nd, rfl⟩⟩) | (go_at_call 18; (with_reducible refine (thatchlaw07_long.calls ((rd_T55 l0_1 x3_2).f1.f0) false _ A24.out).mono ?_); rintro e w' ⟨rfl, ⟨nd, rfl⟩⟩) | (go_at_call 18; (with_reducible refine (thatchlaw07_long.calls ((rd_T55 l0_1 x3_2).f1.f1) true _ A30.out).mono ?_); rintro e w' ⟨rfl, ⟨nd, rfl⟩⟩))
        go_ret
        exact ⟨ze, zw HB⟩
       replace c31 := Bool.eq_false_iff.mpr c31
       subst c31
       have H1 : (thatchlaw07_Great.l0 k2 (wrap64 (x3_2 + 1)) l0_0 l0_1 a0_2 a0_3 a0_4 l0_5) = some r := by rw [if_neg (show ¬ (false = true) by decide)] at H; exact H
       clear H
       have H := H1
       clear H1
       have H' := Aside0.mk H
       clear H
       obtain ⟨hcz36_0, hcz36_1, hcz36_2, hcz36_3, hcz36_4, hcz36_5, hfz36_0, hfz36_1, hfz36_2, hfz36_3, hfz36_4, hfz36_5⟩ := zk6 BK101
       have p102 : 0 ≤ (x3_2 : Int) := of_decide_eq_true zj
       have q102 : x3_2 < (l0_1.length : Int) := of_decide_eq_true zj
       obtain ⟨ad102, e102, hx102_0, hx102_1, hx102_2, hx102_3⟩ := at_T55 HR0_1.out x3_2 p102 q102
       cases e102
       replace hx102_0 := zu hx102_0 HB
       replace hx102_1 := zu hx102_1 HB
       replace hx102_2 := zu hx102_2 HB
       replace hx102_3 := zu hx102_3 HB
       replace p102 := eq_true p102
       replace q102 := eq_true q102
       go_wp2_with (first | ((with_reducible refine gate_dst (N := 4) rfl ?_); (try (refine gate_guard (by rfl) ?_; dsimp only)); refine zx 4 #[.int .i64 0, .int .i64 0, .int .i64 0, .int .i64 0] 55 ?_; intro gb103 hg w37 hbox hb; have n0_ := zD BK101 hb; have n1_ := zY HB hb; have n2_ := Aside0.mk (hbox); have n3_ := zS hg HB; have n4_ := zS hg HB; have n5_ := zN hg BK101; have n6_ := zM hg BK101; clear BK101; clear HB; have BK101 := n0_; have HB := n1_; have BK103 := n2_; have GW103 := n3_; have GE103 := n4_; have NB101_103 := n5_; have NB103_101 := n6_; clear n0_ n1_ n2_ n3_ n4_ n5_ n6_; clear hb hbox hg; have hnb38 := NB103_101.out; have hnc38 := NB101_103.out; obtain ⟨hcz39_0, hcz39_1, hcz39_2, hcz39_3, hfz39_0, hfz39_1, hfz39_2, hfz39_3⟩ := zk4 BK103) | ((with_reducible refine gate_callee (f := 18) rfl ?_); refine goesL_ (some 40) rfl rfl Try.func18 (by kernel_rfl) rfl #[.int .i64 ((rd_T55 l0_1 x3_2).f0.f0)] rfl za ?_; (with_reducible refine (thatchlaw07_long.calls ((rd_T55 l0_1 x3_2).f0.f0) false _ A12.out).mono ?_); rintro e w' ⟨rfl, ⟨nd, rfl⟩⟩; refine ⟨_, rfl, ?_⟩) | (go_at_call 18; (with_reducible refine (thatchlaw07_long.calls ((rd_T55 l0_1 x3_2).f0.f1) false _ A18.out).mono ?_); rintro e w' ⟨rfl, ⟨nd, rfl⟩⟩) | (go_at_call 18; (with_reducible refine (thatchlaw07_long.calls ((rd_T55 l0_1 x3_2).f1.f0) false _ A24.out).mono ?_); rintro e w' ⟨rfl, ⟨nd, rfl⟩⟩) | (go_at_call 18; (with_reducible refine (thatchlaw07_long.calls ((rd_T55 l0_1 x3_2).f1.f1) false _ A30.out).mono ?_); rintro e w' ⟨rfl, ⟨nd, rfl⟩⟩))
       go_roundg k2
       case measure => have := HJ1.out; have := HK2.out; omega
       case rel => exact ⟨(wrap64 (x3_2 + 1)), zq, H', ⟨by have := HJ1.out; have := HK2.out; omega⟩, ⟨zv BK101⟩, ⟨zw HB⟩⟩
      rw [if_neg c11] at H
      exact absurd H (by simp)
     rw [if_neg c10] at H
     have c10b0 : decide (x3_2 < (l0_1.length : Int)) = false := decide_eq_false c10
     clear c10
     obtain rfl := Option.some.inj H
     obtain ⟨hcz40_0, hcz40_1, hcz40_2, hcz40_3, hcz40_4, hcz40_5, hfz40_0, hfz40_1, hfz40_2, hfz40_3, hfz40_4, hfz40_5⟩ := zk6 BK101
     go_wp2
     go_ret
     exact ⟨ze, zw HB⟩
end Go.Proofs.Ytcfpclehogdmbaa.Q
end
section
namespace Go.Proofs.Ytcfpclehogdmbaa.Q
open Go.RowKit Go.Proofs.YtcfpclehogdmbaaW.PrintWords Go.Proofs.YtcfpclehogdmbaaW.PrintLast Go.Proofs.YtcfpclehogdmbaaW.PrintMore
attribute [local go_sem] max2_int min2_int max_two min_two max_three min_three max_four min_four   -- for this text's walks alone
set_option linter.unusedVariables false
set_option linter.unusedSimpArgs false
theorem eqA27 (d : Nat) (w : World) (x0 y0 : Int) (x1 y1 : Int) :
  (Op.equalIn (d + 2) 27 (.agg #[.int .i64 x0, .int .i64 x1]) (.agg #[.int .i64 y0, .int .i64 y1])).run Try.prog w = .ok (x0 == y0 && (x1 == y1)) w := by
 refine eqA_of Try.underlying27 (by kernel_rfl) ?_
 refine eqf_cons (by rfl) (by go_simp; rfl) (by go_simp; rfl) (by go_simp) ?_
 exact eqf_last (by rfl) (by go_simp; rfl) (by go_simp; rfl) (by go_simp)
end Go.Proofs.Ytcfpclehogdmbaa.Q
end
section
namespace Go.Proofs.Ytcfpclehogdmbaa.Q
open Go.RowKit Go.Proofs.YtcfpclehogdmbaaW.PrintWords Go.Proofs.YtcfpclehogdmbaaW.PrintLast Go.Proofs.YtcfpclehogdmbaaW.PrintMore
attribute [local go_sem] max2_int min2_int max_two min_two max_three min_three max_four min_four   -- for this text's walks alone
set_option linter.unusedVariables false
set_option linter.unusedSimpArgs false
attribute [local go_sem high] eqA27
def wear_Bounds.f (k : Nat) (l0_0 : List (S32)) (l0_1 : List (S55)) (a0_2 : Int) (a0_3 : Int) (a0_4 : Int) (l0_5 : List (S67)) (a1_0 : Int) (a1_1 : Int) : Option (Int × Int × Int) := (wear_Check.f k l0_0 l0_1 a0_2 a0_3 a0_4 l0_5).bind fun t159 => (if t159 = 0 then ((wear_has.f l0_0 l0_1 a1_0 a1_1).bind fun t160 => (if t160 = true then ((wear_bounds.f k l0_0 l0_1 a0_2 a0_3 a0_4 l0_5 a1_0 a1_1).bind fun bt161 => (some (bt161.1, bt161.2, 0))) else (some (0, 0, 7)))) else (some (0, 0, t159)))
theorem wear_Bounds.mono : ∀ a0 a1 a2 a3 a4 a5 a6 a7 k, LeO (wear_Bounds.f k a0 a1 a2 a3 a4 a5 a6 a7) (wear_Bounds.f (k + 1) a0 a1 a2 a3 a4 a5 a6 a7) := by
 intro a0 a1 a2 a3 a4 a5 a6 a7 k
 unfold wear_Bounds.f
 repeat' first
   | (with_reducible exact wear_Check.mono _ _ _ _ _ _ _)
   | (with_reducible exact wear_bounds.mono _ _ _ _ _ _ _ _ _)
   | (with_reducible exact LeO.refl _)
   | (with_reducible exact LeO.none _)
   | (with_reducible refine LeO.ite ?_ ?_)
   | (with_reducible refine LeO.bind ?_ (fun _ => ?_))
   | exact wear_Check.mono _ _ _ _ _ _ _
   | exact wear_bounds.mono _ _ _ _ _ _ _ _ _
   | exact LeO.none _
   | refine LeO.ite ?_ ?_
   | refine LeO.bind ?_ (fun _ => ?_)
set_option maxHeartbeats 8000000 in
set_option maxRecDepth 100000 in
theorem wear_Bounds.calls (k : Nat) (A0_0 : Option Addr) (c0_0 : Nat) (l0_0 : List (S32)) (A0_1 : Option Addr) (c0_1 : Nat) (l0_1 : List (S55)) (a0_2 : Int) (a0_3 : Int) (a0_4 : Int) (A0_5 : Option Addr) (c0_5 : Nat) (l0_5 : List (S67)) (a1_0 : Int) (a1_1 : Int) (r1 : Int) (r2 : Int) (r3 : Int) (w : World) (hr0_0 : Kd.C k32 w A0_0 l0_0.length l0_0) (hc0_0 : l0_0.length ≤ c0_0) (hr0_1 : Kd.C k55 w A0_1 l0_1.length l0_1) (hc0_1 : l0_1.length ≤ c0_1) (hr0_5 : Kd.C k67 w A0_5 l0_5.length l0_5) (hc0_5 : l0_5.length ≤ c0_5) (h : wear_Bounds.f k l0_0 l0_1 a0_2 a0_3 a0_4 l0_5 a1_0 a1_1 = some (r1, r2, r3)) :
  Calls Try.prog 13 #[.agg #[.slice A0_0 l0_0.length c0_0, .slice A0_1 l0_1.length c0_1, .int .i64 a0_2, .int .i64 a0_3, .int .i64 a0_4, .slice A0_5 l0_5.length c0_5], .agg #[.int .i64 a1_0, .int .i64 a1_1]] w fun e w' => e = .returned (.tuple #[.agg #[.int .i64 r1, .int .i64 r2], .int .i64 r3]) ∧ Below w.heap.size w w' := by
 have hu30 := Try.underlying30
 have hu32 := Try.underlying32
 have hu27 := Try.underlying27
 have hu25 := Try.underlying25
 have HR0_0 := Aside0.mk hr0_0
 have HC0_0 := Aside0.mk hc0_0
 clear hr0_0 hc0_0
 have HR0_1 := Aside0.mk hr0_1
 have HC0_1 := Aside0.mk hc0_1
 clear hr0_1 hc0_1
 have HR0_5 := Aside0.mk hr0_5
 have HC0_5 := Aside0.mk hc0_5
 clear hr0_5 hc0_5
 have HB := Aside0.mk (Below.refl w.heap.size w)
 have H : ((wear_Check.f k l0_0 l0_1 a0_2 a0_3 a0_4 l0_5).bind fun t159 => (if t159 = 0 then ((wear_has.f l0_0 l0_1 a1_0 a1_1).bind fun t160 => (if t160 = true then ((wear_bounds.f k l0_0 l0_1 a0_2 a0_3 a0_4 l0_5 a1_0 a1_1).bind fun bt161 => (some (bt161.1, bt161.2, 0))) else (some (0, 0, 7)))) else (some (0, 0, t159)))) = some (r1, r2, r3) := h
 clear h
 replace H := Option.bind_eq_some_iff.mp H
 obtain ⟨t159, A30, H⟩ := H
 replace H : (if t159 = 0 then ((wear_has.f l0_0 l0_1 a1_0 a1_1).bind fun t160 => (if t160 = true then ((wear_bounds.f k l0_0 l0_1 a0_2 a0_3 a0_4 l0_5 a1_0 a1_1).bind fun bt161 => (some (bt161.1, bt161.2, 0))) else (some (0, 0, 7)))) else (some (0, 0, t159))) = some (r1, r2, r3) := H
 have A3 := Aside0.mk A30
 clear A30
 by_cases c4 : t159 = 0
 ·rw [if_pos c4] at H
  have c4b0 : (t159 == 0) = true := beq_iff_eq.mpr c4
  have c4b1 : (t159 != 0) = false := bne_eq_false_iff_eq.mpr c4
  clear c4
  replace H := Option.bind_eq_some_iff.mp H
  obtain ⟨t160, A50, H⟩ := H
  replace H : (if t160 = true then ((wear_bounds.f k l0_0 l0_1 a0_2 a0_3 a0_4 l0_5 a1_0 a1_1).bind fun bt161 => (some (bt161.1, bt161.2, 0))) else (some (0, 0, 7))) = some (r1, r2, r3) := H
  have A5 := Aside0.mk A50
  clear A50
  by_cases c6 : t160 = true
  ·subst c6
   have H1 : ((wear_bounds.f k l0_0 l0_1 a0_2 a0_3 a0_4 l0_5 a1_0 a1_1).bind fun bt161 => (some (bt161.1, bt161.2, 0))) = some (r1, r2, r3) := by rw [if_pos rfl] at H; exact H
   clear H
   have H := H1
   clear H1
   replace H := Option.bind_eq_some_iff.mp H
   obtain ⟨⟨t161, t162⟩, A70, H⟩ := H
   replace H : (some (t161, t162, 0)) = some (r1, r2, r3) := H
   have A7 := Aside0.mk A70
   clear A70
   simp only [Option.some.injEq, Prod.mk.injEq] at H
   obtain ⟨rfl, rfl, rfl⟩ := H
   go_enter Try.func13, Try.ntmps13
   go_wp2_with (first | ((with_reducible refine gate_dst (N := 2) rfl ?_); refine zx 2 #[.slice A0_0 l0_0.length c0_0, .slice A0_1 l0_1.length c0_1, .int .i64 a0_2, .int .i64 a0_3, .int .i64 a0_4, .slice A0_5 l0_5.length c0_5] 30 ?_; intro gb156 hg w8 hbox hb; have n0_ := zY HB hb; have n1_ := Aside0.mk (hbox); have n2_ := zS hg HB; have n3_ := zS hg HB; clear HB; have HB := n0_; have BK156 := n1_; have GW156 := n2_; have GE156 := n3_; clear n0_ n1_ n2_ n3_; clear hb hbox hg) | ((with_reducible refine gate_dst (N := 3) rfl ?_); refine zx 3 #[.int .i64 a1_0, .int .i64 a1_1] 32 ?_; intro gb157 hg w9 hbox hb; have n0_ := zD BK156 hb; have n1_ := zY HB hb; have n2_ := Aside0.mk (hbox); have n3_ := zS hg HB; have n4_ := zS hg HB; have n5_ := zN hg BK156; have n6_ := zM hg BK156; clear BK156; clear HB; have BK156 := n0_; have HB := n1_; have BK157 := n2_; have GW157 := n3_; have GE157 := n4_; have NB156_157 := n5_; have NB157_156 := n6_; clear n0_ n1_ n2_ n3_ n4_ n5_ n6_; clear hb hbox hg) | ((with_reducible refine gate_dst (N := 4) rfl ?_); refine zx 4 #[.int .i64 0, .int .i64 0] 27 ?_; intro gb158 hg w10 hbox hb; have n0_ := zD BK156 hb; have n1_ := zD BK157 hb; have n2_ := zY HB hb; have n3_ := Aside0.mk (hbox); have n4_ := zS hg HB; have n5_ := zS hg HB; have n6_ := zN hg BK156; have n7_ := zM hg BK156; have n8_ := zN hg BK157; have n9_ := zM hg BK157; clear BK156; clear BK157; clear HB; have BK156 := n0_; have BK157 := n1_; have HB := n2_; have BK158 := n3_; have GW158 := n4_; have GE158 := n5_; have NB156_158 := n6_; have NB158_156 := n7_; have NB157_158 := n8_; have NB158_157 := n9_; clear n0_ n1_ n2_ n3_ n4_ n5_ n6_ n7_ n8_ n9_; clear hb hbox hg; have hnb11 := NB156_157.out; have hnc11 := NB157_156.out; have hnb12 := NB156_158.out; have hnc12 := NB158_156.out; obtain ⟨hcz13_0, hcz13_1, hcz13_2, hcz13_3, hcz13_4, hcz13_5, hfz13_0, hfz13_1, hfz13_2, hfz13_3, hfz13_4, hfz13_5⟩ := zk6 BK156) | ((with_reducible refine gate_callee (f := 15) rfl ?_); refine goesL_ (some 8) rfl rfl Try.func15 (by kernel_rfl) rfl #[.agg #[.slice A0_0 l0_0.length c0_0, .slice A0_1 l0_1.length c0_1, .int .i64 a0_2, .int .i64 a0_3, .int .i64 a0_4, .slice A0_5 l0_5.length c0_5]] rfl za ?_; (with_reducible refine (wear_Check.calls k _ _ l0_0 _ _ l0_1 a0_2 a0_3 a0_4 _ _ l0_5 t159 _ ?side1 ?side2 ?side3 ?side4 ?side5 ?side6 A3.out).mono ?_); (case side1 => exact zl HR0_0 HB); (case side2 => exact HC0_0.out); (case side3 => exact zl HR0_1 HB); (case side4 => exact HC0_1.out); (case side5 => exact zl HR0_5 HB); (case side6 => exact HC0_5.out); rintro e w14 ⟨rfl, hb⟩; refine ⟨_, rfl, ?_⟩; have n0_ := zD BK156 hb; have n1_ := zD BK157 hb; have n2_ := zD BK158 hb; have n3_ := zY HB hb; clear BK156; clear BK157; clear BK158; clear HB; have BK156 := n0_; have BK157 := n1_; have BK158 := n2_; have HB := n3_; clear n0_ n1_ n2_ n3_; (try clear hb); (try clear hb2); (try clear hk); (try clear hi); obtain ⟨hcz15_0, hcz15_1, hcz15_2, hcz15_3, hcz15_4, hcz15_5, hfz15_0, hfz15_1, hfz15_2, hfz15_3, hfz15_4, hfz15_5⟩ := zk6 BK156; have hnb16 := NB157_158.out; have hnc16 := NB158_157.out; obtain ⟨hcz17_0, hcz17_1, hfz17_0, hfz17_1⟩ := zk2 BK157) | ((with_reducible refine gate_callee (f := 21) rfl ?_); refine goesL_ (some 16) rfl rfl Try.func21 (by kernel_rfl) rfl #[.agg #[.slice A0_0 l0_0.length c0_0, .slice A0_1 l0_1.length c0_1], .agg #[.int .i64 a1_0, .int .i64 a1_1]] rfl za ?_; (with_reducible refine (wear_has.calls _ _ l0_0 _ _ l0_1 a1_0 a1_1 true _ ?side1 ?side2 ?side3 ?side4 A5.out).mono ?_); (case side1 => exact zl HR0_0 HB); (case side2 => exact HC0_0.out); (case side3 => exact zl HR0_1 HB); (case side4 => exact HC0_1.out); rintro e w18 ⟨rfl, hb⟩; refine ⟨_, rfl, ?_⟩; have n0_ := zD BK156 hb; have n1_ := zD BK157 hb; have n2_ := zD BK158 hb; have n3_ := zY HB hb; clear BK156; clear BK157; clear BK158; clear HB; have BK156 := n0_; have BK157 := n1_; have BK158 := n2_; have HB := n3_; clear n0_ n1_ n2_ n3_; (try clear hb); (try clear hb2); (try clear hk); (try clear hi); obtain ⟨hcz19_0, hcz19_1, hcz19_2, hcz19_3, hcz19_4, hcz19_5, hfz19_0, hfz19_1, hfz19_2, hfz19_3, hfz19_4, hfz19_5⟩ := zk6 BK156; obtain ⟨hcz20_0, hcz20_1, hfz20_0, hfz20_1⟩ := zk2 BK157) | ((with_reducible refine gate_callee (f := 33) rfl ?_); refine goesL_ (some 21) rfl rfl Try.func33 (by kernel_rfl) rfl #[.agg #[.slice A0_0 l0_0.length c0_0, .slice A0_1 l0_1.length c0_1, .int .i64 a0_2, .int .i64 a0_3, .int .i64 a0_4, .slice A0_5 l0_5.length c0_5], .agg #[.int .i64 a1_0, .int .i64 a1_1]] rfl za ?_; (with_reducible refine (wear_bounds.calls k _ _ l0_0 _ _ l0_1 a0_2 a0_3 a0_4 _ _ l0_5 a1_0 a1_1 t161 t162 _ ?side1 ?side2 ?side3 ?side4 ?side5 ?side6 A7.out).mono ?_); (case side1 => exact zl HR0_0 HB); (case side2 => exact HC0_0.out); (case side3 => exact zl HR0_1 HB); (case side4 => exact HC0_1.out); (case side5 => exact zl HR0_5 HB); (case side6 => exact HC0_5.out); rintro e w21 ⟨rfl, hb⟩; refine ⟨_, rfl, ?_⟩; have n0_ := zD BK156 hb; have n1_ := zD BK157 hb; have n2_ := zD BK158 hb; have n3_ := zY HB hb; clear BK156; clear BK157; clear BK158; clear HB; have BK156 := n0_; have BK157 := n1_; have BK158 := n2_; have HB := n3_; clear n0_ n1_ n2_ n3_; (try clear hb); (try clear hb2); (try clear hk); (try clear hi); obtain ⟨hcz22_0, hcz22_1, hfz22_0, hfz22_1⟩ := zk2 BK158))
   refine bodyPost_ret (results_ct rfl _ _ gb158 27 #[.int .i64 t161, .int .i64 t162] (0, 0) _ rfl (by refine zQ ?_; refine blk_put (cs := #[.int .i64 t161, .int .i64 0]) ?_ 1 _ rfl; refine zQ ?_; refine blk_put (cs := #[.int .i64 0, .int .i64 0]) ?_ 0 _ rfl; (with_reducible repeat (first | refine blk_drewN ?_ _ | refine blk_drew ?_ | refine blk_alloc ?_ _)); exact BK158.out) Try.underlying27 rfl (by kernel_rfl)) rfl ?_
   exact ⟨ze, zw HB⟩
  replace c6 := Bool.eq_false_iff.mpr c6
  subst c6
  have H1 : (some (0, 0, 7)) = some (r1, r2, r3) := by rw [if_neg (show ¬ (false = true) by decide)] at H; exact H
  clear H
  have H := H1
  clear H1
  simp only [Option.some.injEq, Prod.mk.injEq] at H
  obtain ⟨rfl, rfl, rfl⟩ := H
  go_enter Try.func13, Try.ntmps13
  go_wp2_with (first | ((with_reducible refine gate_dst (N := 2) rfl ?_); refine zx 2 #[.slice A0_0 l0_0.length c0_0, .slice A0_1 l0_1.length c0_1, .int .i64 a0_2, .int .i64 a0_3, .int .i64 a0_4, .slice A0_5 l0_5.length c0_5] 30 ?_; intro gb156 hg w23 hbox hb; have n0_ := zY HB hb; have n1_ := Aside0.mk (hbox); have n2_ := zS hg HB; have n3_ := zS hg HB; clear HB; have HB := n0_; have BK156 := n1_; have GW156 := n2_; have GE156 := n3_; clear n0_ n1_ n2_ n3_; clear hb hbox hg) | ((with_reducible refine gate_dst (N := 3) rfl ?_); refine zx 3 #[.int .i64 a1_0, .int .i64 a1_1] 32 ?_; intro gb157 hg w24 hbox hb; have n0_ := zD BK156 hb; have n1_ := zY HB hb; have n2_ := Aside0.mk (hbox); have n3_ := zS hg HB; have n4_ := zS hg HB; have n5_ := zN hg BK156; have n6_ := zM hg BK156; clear BK156; clear HB; have BK156 := n0_; have HB := n1_; have BK157 := n2_; have GW157 := n3_; have GE157 := n4_; have NB156_157 := n5_; have NB157_156 := n6_; clear n0_ n1_ n2_ n3_ n4_ n5_ n6_; clear hb hbox hg) | ((with_reducible refine gate_dst (N := 4) rfl ?_); refine zx 4 #[.int .i64 0, .int .i64 0] 27 ?_; intro gb158 hg w25 hbox hb; have n0_ := zD BK156 hb; have n1_ := zD BK157 hb; have n2_ := zY HB hb; have n3_ := Aside0.mk (hbox); have n4_ := zS hg HB; have n5_ := zS hg HB; have n6_ := zN hg BK156; have n7_ := zM hg BK156; have n8_ := zN hg BK157; have n9_ := zM hg BK157; clear BK156; clear BK157; clear HB; have BK156 := n0_; have BK157 := n1_; have HB := n2_; have BK158 := n3_; have GW158 := n4_; have GE158 := n5_; have NB156_158 := n6_; have NB158_156 := n7_; have NB157_158 := n8_; have NB158_157 := n9_; clear n0_ n1_ n2_ n3_ n4_ n5_ n6_ n7_ n8_ n9_; clear hb hbox hg; have hnb26 := NB156_157.out; have hnc26 := NB157_156.out; have hnb27 := NB156_158.out; have hnc27 := NB158_156.out; obtain ⟨hcz28_0, hcz28_1, hcz28_2, hcz28_3, hcz28_4, hcz28_5, hfz28_0, hfz28_1, hfz28_2, hfz28_3, hfz28_4, hfz28_5⟩ := zk6 BK156) | ((with_reducible refine gate_callee (f := 15) rfl ?_); refine goesL_ (some 8) rfl rfl Try.func15 (by kernel_rfl) rfl #[.agg #[.slice A0_0 l0_0.length c0_0, .slice A0_1 l0_1.length c0_1, .int .i64 a0_2, .int .i64 a0_3, .int .i64 a0_4, .slice A0_5 l0_5.length c0_5]] rfl za ?_; (with_reducible refine (wear_Check.calls k _ _ l0_0 _ _ l0_1 a0_2 a0_3 a0_4 _ _ l0_5 t159 _ ?side1 ?side2 ?side3 ?side4 ?side5 ?side6 A3.out).mono ?_); (case side1 => exact zl HR0_0 HB); (case side2 => exact HC0_0.out); (case side3 => exact zl HR0_1 HB); (case side4 => exact HC0_1.out); (case side5 => exact zl HR0_5 HB); (case side6 => exact HC0_5.out); rintro e w29 ⟨rfl, hb⟩; refine ⟨_, rfl, ?_⟩; have n0_ := zD BK156 hb; have n1_ := zD BK157 hb; have n2_ := zD BK158 hb; have n3_ := zY HB hb; clear BK156; clear BK157; clear BK158; clear HB; have BK156 := n0_; have BK157 := n1_; have BK158 := n2_; have HB := n3_; clear n0_ n1_ n2_ n3_; (try clear hb); (try clear hb2); (try clear hk); (try clear hi); obtain ⟨hcz30_0, hcz30_1, hcz30_2, hcz30_3, hcz30_4, hcz30_5, hfz30_0, hfz30_1, hfz30_2, hfz30_3, hfz30_4, hfz30_5⟩ := zk6 BK156; have hnb31 := NB157_158.out; have hnc31 := NB158_157.out; obtain ⟨hcz32_0, hcz32_1, hfz32_0, hfz32_1⟩ := zk2 BK157) | ((with_reducible refine gate_callee (f := 21) rfl ?_); refine goesL_ (some 16) rfl rfl Try.func21 (by kernel_rfl) rfl #[.agg #[.slice A0_0 l0_0.length c0_0, .slice A0_1 l0_1.length c0_1], .agg #[.int .i64 a1_0, .int .i64 a1_1]] rfl za ?_; (with_reducible refine (wear_has.calls _ _ l0_0 _ _ l0_1 a1_0 a1_1 false _ ?side1 ?side2 ?side3 ?side4 A5.out).mono ?_); (case side1 => exact zl HR0_0 HB); (case side2 => exact HC0_0.out); (case side3 => exact zl HR0_1 HB); (case side4 => exact HC0_1.out); rintro e w33 ⟨rfl, hb⟩; refine ⟨_, rfl, ?_⟩; have n0_ := zD BK156 hb; have n1_ := zD BK157 hb; have n2_ := zD BK158 hb; have n3_ := zY HB hb; clear BK156; clear BK157; clear BK158; clear HB; have BK156 := n0_; have BK157 := n1_; have BK158 := n2_; have HB := n3_; clear n0_ n1_ n2_ n3_; (try clear hb); (try clear hb2); (try clear hk); (try clear hi); obtain ⟨hcz34_0, hcz34_1, hfz34_0, hfz34_1⟩ := zk2 BK158))
  refine bodyPost_ret (results_ct rfl _ _ gb158 27 #[.int .i64 0, .int .i64 0] (0, 0) _ rfl (by refine zQ ?_; refine blk_put (cs := #[.int .i64 0, .int .i64 0]) ?_ 1 _ rfl; refine zQ ?_; refine blk_put (cs := #[.int .i64 0, .int .i64 0]) ?_ 0 _ rfl; (with_reducible repeat (first | refine blk_drewN ?_ _ | refine blk_drew ?_ | refine blk_alloc ?_ _)); exact BK158.out) Try.underlying27 rfl (by kernel_rfl)) rfl ?_
  exact ⟨ze, zw HB⟩
 rw [if_neg c4] at H
 have c4b0 : (t159 == 0) = false := beq_eq_false_iff_ne.mpr c4
 have c4b1 : (t159 != 0) = true := bne_iff_ne.mpr c4
 simp only [Option.some.injEq, Prod.mk.injEq] at H
 obtain ⟨rfl, rfl, rfl⟩ := H
 go_enter Try.func13, Try.ntmps13
 go_wp2_with (first | ((with_reducible refine gate_dst (N := 2) rfl ?_); refine zx 2 #[.slice A0_0 l0_0.length c0_0, .slice A0_1 l0_1.length c0_1, .int .i64 a0_2, .int .i64 a0_3, .int .i64 a0_4, .slice A0_5 l0_5.length c0_5] 30 ?_; intro gb156 hg w35 hbox hb; have n0_ := zY HB hb; have n1_ := Aside0.mk (hbox); have n2_ := zS hg HB; have n3_ := zS hg HB; clear HB; have HB := n0_; have BK156 := n1_; have GW156 := n2_; have GE156 := n3_; clear n0_ n1_ n2_ n3_; clear hb hbox hg) | ((with_reducible refine gate_dst (N := 3) rfl ?_); refine zx 3 #[.int .i64 a1_0, .int .i64 a1_1] 32 ?_; intro gb157 hg w36 hbox hb; have n0_ := zD BK156 hb; have n1_ := zY HB hb; have n2_ := Aside0.mk (hbox); have n3_ := zS hg HB; have n4_ := zS hg HB; have n5_ := zN hg BK156; have n6_ := zM hg BK156; clear BK156; clear HB; have BK156 := n0_; have HB := n1_; have BK157 := n2_; have GW157 := n3_; have GE157 := n4_; have NB156_157 := n5_; have NB157_156 := n6_; clear n0_ n1_ n2_ n3_ n4_ n5_ n6_; clear hb hbox hg) | ((with_reducible refine gate_dst (N := 4) rfl ?_); refine zx 4 #[.int .i64 0, .int .i64 0] 27 ?_; intro gb158 hg w37 hbox hb; have n0_ := zD BK156 hb; have n1_ := zD BK157 hb; have n2_ := zY HB hb; have n3_ := Aside0.mk (hbox); have n4_ := zS hg HB; have n5_ := zS hg HB; have n6_ := zN hg BK156; have n7_ := zM hg BK156; have n8_ := zN hg BK157; have n9_ := zM hg BK157; clear BK156; clear BK157; clear HB; have BK156 := n0_; have BK157 := n1_; have HB := n2_; have BK158 := n3_; have GW158 := n4_; have GE158 := n5_; have NB156_158 := n6_; have NB158_156 := n7_; have NB157_158 := n8_; have NB158_157 := n9_; clear n0_ n1_ n2_ n3_ n4_ n5_ n6_ n7_ n8_ n9_; clear hb hbox hg; have hnb38 := NB156_157.out; have hnc38 := NB157_156.out; have hnb39 := NB156_158.out; have hnc39 := NB158_156.out; obtain ⟨hcz40_0, hcz40_1, hcz40_2, hcz40_3, hcz40_4, hcz40_5, hfz40_0, hfz40_1, hfz40_2, hfz40_3, hfz40_4, hfz40_5⟩ := zk6 BK156) | ((with_reducible refine gate_callee (f := 15) rfl ?_); refine goesL_ (some 8) rfl rfl Try.func15 (by kernel_rfl) rfl #[.agg #[.slice A0_0 l0_0.length c0_0, .slice A0_1 l0_1.length c0_1, .int .i64 a0_2, .int .i64 a0_3, .int .i64 a0_4, .slice A0_5 l0_5.length c0_5]] rfl za ?_; (with_reducible refine (wear_Check.calls k _ _ l0_0 _ _ l0_1 a0_2 a0_3 a0_4 _ _ l0_5 t159 _ ?side1 ?side2 ?side3 ?side4 ?side5 ?side6 A3.out).mono ?_); (case side1 => exact zl HR0_0 HB); (case side2 => exact HC0_0.out); (case side3 => exact zl HR0_1 HB); (case side4 => exact HC0_1.out); (case side5 => exact zl HR0_5 HB); (case side6 => exact HC0_5.out); rintro e w41 ⟨rfl, hb⟩; refine ⟨_, rfl, ?_⟩; have n0_ := zD BK156 hb; have n1_ := zD BK157 hb; have n2_ := zD BK158 hb; have n3_ := zY HB hb; clear BK156; clear BK157; clear BK158; clear HB; have BK156 := n0_; have BK157 := n1_; have BK158 := n2_; have HB := n3_; clear n0_ n1_ n2_ n3_; (try clear hb); (try clear hb2); (try clear hk); (try clear hi); have hnb42 := NB158_157.out; have hnc42 := NB157_158.out; obtain ⟨hcz43_0, hcz43_1, hfz43_0, hfz43_1⟩ := zk2 BK158))
 refine bodyPost_ret (results_ct rfl _ _ gb158 27 #[.int .i64 0, .int .i64 0] (0, 0) _ rfl (by refine zQ ?_; refine blk_put (cs := #[.int .i64 0, .int .i64 0]) ?_ 1 _ rfl; refine zQ ?_; refine blk_put (cs := #[.int .i64 0, .int .i64 0]) ?_ 0 _ rfl; (with_reducible repeat (first | refine blk_drewN ?_ _ | refine blk_drew ?_ | refine blk_alloc ?_ _)); exact BK158.out) Try.underlying27 rfl (by kernel_rfl)) rfl ?_
 exact ⟨ze, zw HB⟩
def thatchlaw07_Example.f  : Option ((List (S32)) × (List (S55)) × Int × Int × Int × (List (S67))) := some ((([(⟨0, 0⟩ : S32), (⟨20, 0⟩ : S32), (⟨20, 10⟩ : S32), (⟨0, 10⟩ : S32)] : List (S32))), (([(⟨(⟨5, 2⟩ : S32), (⟨9, 6⟩ : S32)⟩ : S55)] : List (S55))), 2, 100, 300, (([(⟨(⟨0, 0⟩ : S32), (⟨180, 200⟩ : S27)⟩ : S67)] : List (S67))))
set_option maxHeartbeats 8000000 in
set_option maxRecDepth 100000 in
theorem thatchlaw07_Example.calls  (r1 : List (S32)) (r2 : List (S55)) (r3 : Int) (r4 : Int) (r5 : Int) (r6 : List (S67)) (w : World) (h : thatchlaw07_Example.f  = some (r1, r2, r3, r4, r5, r6)) :
  Calls Try.prog 19 #[] w fun e w' => ∃ v0_ v1_ v5_ : Value, e = .returned (.agg #[v0_, v1_, .int .i64 r3, .int .i64 r4, .int .i64 r5, v5_]) ∧ Kd.R k32 32 w' w.heap.size (fun _ => True) v0_ r1 ∧ Kd.R k55 55 w' w.heap.size (fun _ => True) v1_ r2 ∧ Kd.R k67 67 w' w.heap.size (fun _ => True) v5_ r6 ∧ Below w.heap.size w w' := by
 have hu30 := Try.underlying30
 have hu32 := Try.underlying32
 have hu55 := Try.underlying55
 have hu25 := Try.underlying25
 have hu27 := Try.underlying27
 have hu67 := Try.underlying67
 have HB := Aside0.mk (Below.refl w.heap.size w)
 have H : (some ((([(⟨0, 0⟩ : S32), (⟨20, 0⟩ : S32), (⟨20, 10⟩ : S32), (⟨0, 10⟩ : S32)] : List (S32))), (([(⟨(⟨5, 2⟩ : S32), (⟨9, 6⟩ : S32)⟩ : S55)] : List (S55))), 2, 100, 300, (([(⟨(⟨0, 0⟩ : S32), (⟨180, 200⟩ : S27)⟩ : S67)] : List (S67))))) = some (r1, r2, r3, r4, r5, r6) := h
 clear h
 obtain ⟨y164, hy164⟩ : ∃ y_ : List (S32), y_ = (([(⟨0, 0⟩ : S32), (⟨20, 0⟩ : S32), (⟨20, 10⟩ : S32), (⟨0, 10⟩ : S32)] : List (S32))) := ⟨_, rfl⟩
 replace H : (some (y164, (([(⟨(⟨5, 2⟩ : S32), (⟨9, 6⟩ : S32)⟩ : S55)] : List (S55))), 2, 100, 300, (([(⟨(⟨0, 0⟩ : S32), (⟨180, 200⟩ : S27)⟩ : S67)] : List (S67))))) = some (r1, r2, r3, r4, r5, r6) := by first | (rw [hy164]; with_reducible exact H) | (have H2_ := (Option.bind_some _ _).symm.trans H; rw [hy164]; with_reducible exact H2_) | (have H2_ := (Option.bind_some _ _).symm.trans H; with_reducible exact H2_) | with_reducible exact H | (rw [hy164]; exact H) | exact H
 have Ny164 := Aside0.mk hy164
 clear hy164
 obtain ⟨y167, hy167⟩ : ∃ y_ : List (S55), y_ = (([(⟨(⟨5, 2⟩ : S32), (⟨9, 6⟩ : S32)⟩ : S55)] : List (S55))) := ⟨_, rfl⟩
 replace H : (some (y164, y167, 2, 100, 300, (([(⟨(⟨0, 0⟩ : S32), (⟨180, 200⟩ : S27)⟩ : S67)] : List (S67))))) = some (r1, r2, r3, r4, r5, r6) := by first | (rw [hy167]; with_reducible exact H) | (have H2_ := (Option.bind_some _ _).symm.trans H; rw [hy167]; with_reducible exact H2_) | (have H2_ := (Option.bind_some _ _).symm.trans H; with_reducible exact H2_) | with_reducible exact H | (rw [hy167]; exact H) | exact H
 have Ny167 := Aside0.mk hy167
 clear hy167
 obtain ⟨y170, hy170⟩ : ∃ y_ : List (S67), y_ = (([(⟨(⟨0, 0⟩ : S32), (⟨180, 200⟩ : S27)⟩ : S67)] : List (S67))) := ⟨_, rfl⟩
 replace H : (some (y164, y167, 2, 100, 300, y170)) = some (r1, r2, r3, r4, r5, r6) := by first | (rw [hy170]; with_reducible exact H) | (have H2_ := (Option.bind_some _ _).symm.trans H; rw [hy170]; with_reducible exact H2_) | (have H2_ := (Option.bind_some _ _).symm.trans H; with_reducible exact H2_) | with_reducible exact H | (rw [hy170]; exact H) | exact H
 have Ny170 := Aside0.mk hy170
 clear hy170
 simp only [Option.some.injEq, Prod.mk.injEq] at H
 obtain ⟨rfl, rfl, rfl, rfl, rfl, rfl⟩ := H
 go_enter Try.func19, Try.ntmps19
 go_wp2_with (first | ((with_reducible refine gate_dst (N := 0) rfl ?_); refine zx 0 #[.slice none 0 0, .slice none 0 0, .int .i64 0, .int .i64 0, .int .i64 0, .slice none 0 0] 30 ?_; intro gb163 hg w1 hbox hb; have n0_ := zY HB hb; have n1_ := Aside0.mk (hbox); have n2_ := zS hg HB; have n3_ := zS hg HB; clear HB; have HB := n0_; have BK163 := n1_; have GW163 := n2_; have GE163 := n3_; clear n0_ n1_ n2_ n3_; clear hb hbox hg) | ((with_reducible refine gate_dst (N := 5) rfl ?_); refine Kd.R_lit k32 _ 32 ?hg (N := 5) ?hd (xs := ([(⟨0, 0⟩ : S32), (⟨20, 0⟩ : S32), (⟨20, 10⟩ : S32), (⟨0, 10⟩ : S32)] : List (S32))) (inner := [.int .i64 0, .int .i64 0, .int .i64 20, .int .i64 0, .int .i64 20, .int .i64 10, .int .i64 0, .int .i64 10]) (ok := fun _ => True) (okp := fun _ => True) ?hr ?hp (fun _ hk => hk) trivial (Below.refl _ _) (Nat.le_refl _) (by simp) ?_; (case hd => rfl); (case hg => rfl); (case hr => first | (go_simp; done) | (go_simp; rfl)); (case hp => exact (Reps.c2 (show Kd.M k32 _ _ _ (⟨0, 0⟩ : S32) [.int .i64 0, .int .i64 0] from (k32_mkM _ _ _ (⟨0, 0⟩ : S32) )) (Reps.c2 (show Kd.M k32 _ _ _ (⟨20, 0⟩ : S32) [.int .i64 20, .int .i64 0] from (k32_mkM _ _ _ (⟨20, 0⟩ : S32) )) (Reps.c2 (show Kd.M k32 _ _ _ (⟨20, 10⟩ : S32) [.int .i64 20, .int .i64 10] from (k32_mkM _ _ _ (⟨20, 10⟩ : S32) )) (Reps.c2 (show Kd.M k32 _ _ _ (⟨0, 10⟩ : S32) [.int .i64 0, .int .i64 10] from (k32_mkM _ _ _ (⟨0, 10⟩ : S32) )) (Reps.none _ _)))))); intro v165 w2 ho3 hb hg_ hnew_; clear hg_ hnew_; (first | rw [← Ny164.out] at ho3 | (simp only [Int.reduceToNat] at ho3; rw [← Ny164.out] at ho3)); have n0_ := Aside0.mk (Kd.R_lower ho3 (below_size (zw HB))); have n1_ := zD BK163 hb; have n2_ := zY HB hb; clear BK163; clear HB; have HO166 := n0_; have BK163 := n1_; have HB := n2_; clear n0_ n1_ n2_; clear hb ho3) | ((with_reducible refine gate_dst (N := 9) rfl ?_); refine Kd.R_lit k55 _ 55 ?hg (N := 9) ?hd (xs := ([(⟨(⟨5, 2⟩ : S32), (⟨9, 6⟩ : S32)⟩ : S55)] : List (S55))) (inner := [.int .i64 5, .int .i64 2, .int .i64 9, .int .i64 6]) (ok := fun _ => True) (okp := fun _ => True) ?hr ?hp (fun _ hk => hk) trivial (Below.refl _ _) (Nat.le_refl _) (by simp) ?_; (case hd => rfl); (case hg => rfl); (case hr => first | (go_simp; done) | (go_simp; rfl)); (case hp => exact (Reps.c4 (show Kd.M k55 _ _ _ (⟨(⟨5, 2⟩ : S32), (⟨9, 6⟩ : S32)⟩ : S55) [.int .i64 5, .int .i64 2, .int .i64 9, .int .i64 6] from (k55_mkM _ _ _ (⟨(⟨5, 2⟩ : S32), (⟨9, 6⟩ : S32)⟩ : S55) )) (Reps.none _ _))); intro v168 w4 ho5 hb hg_ hnew_; clear hg_ hnew_; (first | rw [← Ny167.out] at ho5 | (simp only [Int.reduceToNat] at ho5; rw [← Ny167.out] at ho5)); have n0_ := Aside0.mk (Kd.R_below (zt HO166) hb); have n1_ := Aside0.mk (Kd.R_lower ho5 (below_size (zw HB))); have n2_ := zD BK163 hb; have n3_ := zY HB hb; clear HO166; clear BK163; clear HB; have HO166 := n0_; have HO169 := n1_; have BK163 := n2_; have HB := n3_; clear n0_ n1_ n2_ n3_; clear hb ho5; obtain ⟨Ao6, co6, eo6⟩ := Kd.R_slice HO169.out; subst eo6; obtain ⟨Ao7, co7, eo7⟩ := Kd.R_slice HO166.out; subst eo7) | ((with_reducible refine gate_dst (N := 14) rfl ?_); refine Kd.R_lit k67 _ 67 ?hg (N := 14) ?hd (xs := ([(⟨(⟨0, 0⟩ : S32), (⟨180, 200⟩ : S27)⟩ : S67)] : List (S67))) (inner := [.int .i64 0, .int .i64 0, .int .i64 180, .int .i64 200]) (ok := fun _ => True) (okp := fun _ => True) ?hr ?hp (fun _ hk => hk) trivial (Below.refl _ _) (Nat.le_refl _) (by simp) ?_; (case hd => rfl); (case hg => rfl); (case hr => first | (go_simp; done) | (go_simp; rfl)); (case hp => exact (Reps.c4 (show Kd.M k67 _ _ _ (⟨(⟨0, 0⟩ : S32), (⟨180, 200⟩ : S27)⟩ : S67) [.int .i64 0, .int .i64 0, .int .i64 180, .int .i64 200] from (k67_mkM _ _ _ (⟨(⟨0, 0⟩ : S32), (⟨180, 200⟩ : S27)⟩ : S67) )) (Reps.none _ _))); intro v171 w8 ho9 hb hg_ hnew_; clear hg_ hnew_; (first | rw [← Ny170.out] at ho9 | (simp only [Int.reduceToNat] at ho9; rw [← Ny170.out] at ho9)); have n0_ := Aside0.mk (Kd.R_below (zt HO166) hb); have n1_ := Aside0.mk (Kd.R_below (zt HO169) hb); have n2_ := Aside0.mk (Kd.R_lower ho9 (below_size (zw HB))); have n3_ := zD BK163 hb; have n4_ := zY HB hb; clear HO166; clear HO169; clear BK163; clear HB; have HO166 := n0_; have HO169 := n1_; have HO172 := n2_; have BK163 := n3_; have HB := n4_; clear n0_ n1_ n2_ n3_ n4_; clear hb ho9; obtain ⟨Ao10, co10, eo10⟩ := Kd.R_slice HO172.out; subst eo10; obtain ⟨hcz11_0, hcz11_1, hcz11_2, hcz11_3, hcz11_4, hcz11_5, hfz11_0, hfz11_1, hfz11_2, hfz11_3, hfz11_4, hfz11_5⟩ := zk6 BK163))
 refine bodyPost_ret (results_cell_row rfl _ _ gb163 30 #[.slice Ao7 y164.length co7, .slice Ao6 y167.length co6, .int .i64 2, .int .i64 100, .int .i64 300, .slice Ao10 y170.length co10] (0, 0) _ rfl (by refine zQ ?_; refine blk_put (cs := #[.slice Ao7 y164.length co7, .slice Ao6 y167.length co6, .int .i64 2, .int .i64 100, .int .i64 300, .slice none 0 0]) ?_ 5 _ rfl; refine zQ ?_; refine blk_put (cs := #[.slice Ao7 y164.length co7, .slice Ao6 y167.length co6, .int .i64 2, .int .i64 100, .int .i64 0, .slice none 0 0]) ?_ 4 _ rfl; refine zQ ?_; refine blk_put (cs := #[.slice Ao7 y164.length co7, .slice Ao6 y167.length co6, .int .i64 2, .int .i64 0, .int .i64 0, .slice none 0 0]) ?_ 3 _ rfl; refine zQ ?_; refine blk_put (cs := #[.slice Ao7 y164.length co7, .slice Ao6 y167.length co6, .int .i64 0, .int .i64 0, .int .i64 0, .slice none 0 0]) ?_ 2 _ rfl; refine zQ ?_; refine blk_put (cs := #[.slice Ao7 y164.length co7, .slice none 0 0, .int .i64 0, .int .i64 0, .int .i64 0, .slice none 0 0]) ?_ 1 _ rfl; refine zQ ?_; refine blk_put (cs := #[.slice none 0 0, .slice none 0 0, .int .i64 0, .int .i64 0, .int .i64 0, .slice none 0 0]) ?_ 0 _ rfl; (with_reducible repeat (first | refine blk_drewN ?_ _ | refine blk_drew ?_ | refine blk_alloc ?_ _)); exact BK163.out) Try.underlying30 rfl (by kernel_rfl)) rfl ?_
 exact ⟨_, _, _, ze, by (with_reducible repeat (first | apply Kd.R_alloc | apply Kd.R_drewN | apply Kd.R_drew)); exact Kd.R_mono (Kd.R_far (p := ⟨gb163, 5, none⟩) (Kd.R_far (p := ⟨gb163, 4, none⟩) (Kd.R_far (p := ⟨gb163, 3, none⟩) (Kd.R_far (p := ⟨gb163, 2, none⟩) (Kd.R_far (p := ⟨gb163, 1, none⟩) (Kd.R_far (p := ⟨gb163, 0, none⟩) (Kd.R_types HO166.out BK163.out (by decide)) (fun _ hk => hk.2) (.slice Ao7 y164.length co7)) (fun _ hk => hk.2) (.slice Ao6 y167.length co6)) (fun _ hk => hk.2) (.int .i64 2)) (fun _ hk => hk.2) (.int .i64 100)) (fun _ hk => hk.2) (.int .i64 300)) (fun _ hk => hk.2) (.slice Ao10 y170.length co10)) (fun _ hk => trivial), by (with_reducible repeat (first | apply Kd.R_alloc | apply Kd.R_drewN | apply Kd.R_drew)); exact Kd.R_mono (Kd.R_far (p := ⟨gb163, 5, none⟩) (Kd.R_far (p := ⟨gb163, 4, none⟩) (Kd.R_far (p := ⟨gb163, 3, none⟩) (Kd.R_far (p := ⟨gb163, 2, none⟩) (Kd.R_far (p := ⟨gb163, 1, none⟩) (Kd.R_far (p := ⟨gb163, 0, none⟩) (Kd.R_types HO169.out BK163.out (by decide)) (fun _ hk => hk.2) (.slice Ao7 y164.length co7)) (fun _ hk => hk.2) (.slice Ao6 y167.length co6)) (fun _ hk => hk.2) (.int .i64 2)) (fun _ hk => hk.2) (.int .i64 100)) (fun _ hk => hk.2) (.int .i64 300)) (fun _ hk => hk.2) (.slice Ao10 y170.length co10)) (fun _ hk => trivial), by (with_reducible repeat (first | apply Kd.R_alloc | apply Kd.R_drewN | apply Kd.R_drew)); exact Kd.R_mono (Kd.R_far (p := ⟨gb163, 5, none⟩) (Kd.R_far (p := ⟨gb163, 4, none⟩) (Kd.R_far (p := ⟨gb163, 3, none⟩) (Kd.R_far (p := ⟨gb163, 2, none⟩) (Kd.R_far (p := ⟨gb163, 1, none⟩) (Kd.R_far (p := ⟨gb163, 0, none⟩) (Kd.R_types HO172.out BK163.out (by decide)) (fun _ hk => hk.2) (.slice Ao7 y164.length co7)) (fun _ hk => hk.2) (.slice Ao6 y167.length co6)) (fun _ hk => hk.2) (.int .i64 2)) (fun _ hk => hk.2) (.int .i64 100)) (fun _ hk => hk.2) (.int .i64 300)) (fun _ hk => hk.2) (.slice Ao10 y170.length co10)) (fun _ hk => trivial), zw HB⟩
def wear_Rate.f (a0_0 : Int) (a0_1 : Int) (a1 : Int) (a2 : Int) (a3 : Int) (a4 : Int) : Option (Int × Int × Int) := (wear_spans.f a0_0 a0_1 10000).bind fun t175 => (if t175 = true then ((wear_in.f a1 1 100).bind fun t176 => (if t176 = true then ((wear_in.f a2 1 100).bind fun t177 => (if t177 = true then ((wear_in.f a3 0 100).bind fun t178 => (if t178 = true then ((wear_in.f a4 0 100).bind fun t179 => (if t179 = true then (if (wrap64 (200 * a1)) = 0 then (none) else (if (wrap64 (20000 * a1)) = 0 then (none) else (some (wrap64 (Int.tdiv (wrap64 (a0_0 * (wrap64 ((wrap64 (100 + a3)) * (wrap64 (a1 + a2)))))) (wrap64 (200 * a1))), wrap64 (Int.tdiv (wrap64 ((wrap64 ((wrap64 ((wrap64 (a0_1 * (wrap64 ((wrap64 (100 + a3)) * (wrap64 (a1 + a2)))))) * (wrap64 (100 + a4)))) + (wrap64 (20000 * a1)))) - 1)) (wrap64 (20000 * a1))), 0)))) else (some (0, 0, 1)))) else (some (0, 0, 1)))) else (some (0, 0, 1)))) else (some (0, 0, 1)))) else (some (0, 0, 1)))
def wear_Rate.T5 : Bool × List (List Nat × List Nat) := (true, [([], []), ([0], [0]), ([1], [1]), ([], []), ([2, 3], [2, 3]), ([], []), ([5], [5]), ([4, 6], [4, 6]), ([], []), ([8], [8]), ([9], [9]), ([], []), ([10, 11], [10, 11]), ([], []), ([13], [13]), ([12, 14], [12, 14]), ([], []), ([15, 16], [15, 16]), ([17], [17]), ([], []), ([18, 19], [18, 19]), ([7, 20], [7, 20]), ([21, 0, 1, 2, 3, 4, 5, 6, 7, 8, 9, 10, 11, 12, 13, 14, 15, 16, 17, 18, 19, 20, 21], [21]), ([22, 0, 1, 2, 3, 4, 5, 6, 7, 8, 9, 10, 11, 12, 13, 14, 15, 16, 17, 18, 19, 20, 21, 22], [])])
def wear_Rate.B5 : List Nat := [0, 1, 3, 0, 15, 0, 32, 127, 0, 256, 768, 0, 3840, 0, 8192, 32512, 0, 130816, 261888, 0, 1048320, 2097151, 4194303, 8388607]
theorem wear_Rate.tab5 : rtab .any (opsOf Try.f20 5) = wear_Rate.T5 := by kernel_rfl
theorem wear_Rate.bits5 : waitsOk wear_Rate.T5.2 wear_Rate.B5 = true := by kernel_rfl
set_option maxHeartbeats 8000000 in
set_option maxRecDepth 100000 in
theorem wear_Rate.calls (a0_0 : Int) (a0_1 : Int) (a1 : Int) (a2 : Int) (a3 : Int) (a4 : Int) (r1 : Int) (r2 : Int) (r3 : Int) (w : World) (h : wear_Rate.f a0_0 a0_1 a1 a2 a3 a4 = some (r1, r2, r3)) :
  Calls Try.prog 20 #[.agg #[.int .i64 a0_0, .int .i64 a0_1], .int .i64 a1, .int .i64 a2, .int .i64 a3, .int .i64 a4] w fun e w' => e = .returned (.tuple #[.agg #[.int .i64 r1, .int .i64 r2], .int .i64 r3]) ∧ Below w.heap.size w w' := by
 have hu60 := Try.underlying60
 have hu27 := Try.underlying27
 have HB := Aside0.mk (Below.refl w.heap.size w)
 have H : ((wear_spans.f a0_0 a0_1 10000).bind fun t175 => (if t175 = true then ((wear_in.f a1 1 100).bind fun t176 => (if t176 = true then ((wear_in.f a2 1 100).bind fun t177 => (if t177 = true then ((wear_in.f a3 0 100).bind fun t178 => (if t178 = true then ((wear_in.f a4 0 100).bind fun t179 => (if t179 = true then (if (wrap64 (200 * a1)) = 0 then (none) else (if (wrap64 (20000 * a1)) = 0 then (none) else (some (wrap64 (Int.tdiv (wrap64 (a0_0 * (wrap64 ((wrap64 (100 + a3)) * (wrap64 (a1 + a2)))))) (wrap64 (200 * a1))), wrap64 (Int.tdiv (wrap64 ((wrap64 ((wrap64 ((wrap64 (a0_1 * (wrap64 ((wrap64 (100 + a3)) * (wrap64 (a1 + a2)))))) * (wrap64 (100 + a4)))) + (wrap64 (20000 * a1)))) - 1)) (wrap64 (20000 * a1))), 0)))) else (some (0, 0, 1)))) else (some (0, 0, 1)))) else (some (0, 0, 1)))) else (some (0, 0, 1)))) else (some (0, 0, 1)))) = some (r1, r2, r3) := h
 clear h
 replace H := Option.bind_eq_some_iff.mp H
 obtain ⟨t175, A60, H⟩ := H
 replace H : (if t175 = true then ((wear_in.f a1 1 100).bind fun t176 => (if t176 = true then ((wear_in.f a2 1 100).bind fun t177 => (if t177 = true then ((wear_in.f a3 0 100).bind fun t178 => (if t178 = true then ((wear_in.f a4 0 100).bind fun t179 => (if t179 = true then (if (wrap64 (200 * a1)) = 0 then (none) else (if (wrap64 (20000 * a1)) = 0 then (none) else (some (wrap64 (Int.tdiv (wrap64 (a0_0 * (wrap64 ((wrap64 (100 + a3)) * (wrap64 (a1 + a2)))))) (wrap64 (200 * a1))), wrap64 (Int.tdiv (wrap64 ((wrap64 ((wrap64 ((wrap64 (a0_1 * (wrap64 ((wrap64 (100 + a3)) * (wrap64 (a1 + a2)))))) * (wrap64 (100 + a4)))) + (wrap64 (20000 * a1)))) - 1)) (wrap64 (20000 * a1))), 0)))) else (some (0, 0, 1)))) else (some (0, 0, 1)))) else (some (0, 0, 1)))) else (some (0, 0, 1)))) else (some (0, 0, 1))) = some (r1, r2, r3) := H
 have A6 := Aside0.mk A60
 clear A60
 by_cases c7 : t175 = true
 ·subst c7
  have H1 : ((wear_in.f a1 1 100).bind fun t176 => (if t176 = true then ((wear_in.f a2 1 100).bind fun t177 => (if t177 = true then ((wear_in.f a3 0 100).bind fun t178 => (if t178 = true then ((wear_in.f a4 0 100).bind fun t179 => (if t179 = true then (if (wrap64 (200 * a1)) = 0 then (none) else (if (wrap64 (20000 * a1)) = 0 then (none) else (some (wrap64 (Int.tdiv (wrap64 (a0_0 * (wrap64 ((wrap64 (100 + a3)) * (wrap64 (a1 + a2)))))) (wrap64 (200 * a1))), wrap64 (Int.tdiv (wrap64 ((wrap64 ((wrap64 ((wrap64 (a0_1 * (wrap64 ((wrap64 (100 + a3)) * (wrap64 (a1 + a2)))))) * (wrap64 (100 + a4)))) + (wrap64 (20000 * a1)))) - 1)) (wrap64 (20000 * a1))), 0)))) else (some (0, 0, 1)))) else (some (0, 0, 1)))) else (some (0, 0, 1)))) else (some (0, 0, 1)))) = some (r1, r2, r3) := by rw [if_pos rfl] at H; exact H
  clear H
  have H := H1
  clear H1
  replace H := Option.bind_eq_some_iff.mp H
  obtain ⟨t176, A80, H⟩ := H
  replace H : (if t176 = true then ((wear_in.f a2 1 100).bind fun t177 => (if t177 = true then ((wear_in.f a3 0 100).bind fun t178 => (if t178 = true then ((wear_in.f a4 0 100).bind fun t179 => (if t179 = true then (if (wrap64 (200 * a1)) = 0 then (none) else (if (wrap64 (20000 * a1)) = 0 then (none) else (some (wrap64 (Int.tdiv (wrap64 (a0_0 * (wrap64 ((wrap64 (100 + a3)) * (wrap64 (a1 + a2)))))) (wrap64 (200 * a1))), wrap64 (Int.tdiv (wrap64 ((wrap64 ((wrap64 ((wrap64 (a0_1 * (wrap64 ((wrap64 (100 + a3)) * (wrap64 (a1 + a2)))))) * (wrap64 (100 + a4)))) + (wrap64 (20000 * a1)))) - 1)) (wrap64 (20000 * a1))), 0)))) else (some (0, 0, 1)))) else (some (0, 0, 1)))) else (some (0, 0, 1)))) else (some (0, 0, 1))) = some (r1, r2, r3) := H
  have A8 := Aside0.mk A80
  clear A80
  by_cases c9 : t176 = true
  ·subst c9
   have H1 : ((wear_in.f a2 1 100).bind fun t177 => (if t177 = true then ((wear_in.f a3 0 100).bind fun t178 => (if t178 = true then ((wear_in.f a4 0 100).bind fun t179 => (if t179 = true then (if (wrap64 (200 * a1)) = 0 then (none) else (if (wrap64 (20000 * a1)) = 0 then (none) else (some (wrap64 (Int.tdiv (wrap64 (a0_0 * (wrap64 ((wrap64 (100 + a3)) * (wrap64 (a1 + a2)))))) (wrap64 (200 * a1))), wrap64 (Int.tdiv (wrap64 ((wrap64 ((wrap64 ((wrap64 (a0_1 * (wrap64 ((wrap64 (100 + a3)) * (wrap64 (a1 + a2)))))) * (wrap64 (100 + a4)))) + (wrap64 (20000 * a1)))) - 1)) (wrap64 (20000 * a1))), 0)))) else (some (0, 0, 1)))) else (some (0, 0, 1)))) else (some (0, 0, 1)))) = some (r1, r2, r3) := by rw [if_pos rfl] at H; exact H
   clear H
   have H := H1
   clear H1
   replace H := Option.bind_eq_some_iff.mp H
   obtain ⟨t177, A100, H⟩ := H
   replace H : (if t177 = true then ((wear_in.f a3 0 100).bind fun t178 => (if t178 = true then ((wear_in.f a4 0 100).bind fun t179 => (if t179 = true then (if (wrap64 (200 * a1)) = 0 then (none) else (if (wrap64 (20000 * a1)) = 0 then (none) else (some (wrap64 (Int.tdiv (wrap64 (a0_0 * (wrap64 ((wrap64 (100 + a3)) * (wrap64 (a1 + a2)))))) (wrap64 (200 * a1))), wrap64 (Int.tdiv (wrap64 ((wrap64 ((wrap64 ((wrap64 (a0_1 * (wrap64 ((wrap64 (100 + a3)) * (wrap64 (a1 + a2)))))) * (wrap64 (100 + a4)))) + (wrap64 (20000 * a1)))) - 1)) (wrap64 (20000 * a1))), 0)))) else (some (0, 0, 1)))) else (some (0, 0, 1)))) else (some (0, 0, 1))) = some (r1, r2, r3) := H
   have A10 := Aside0.mk A100
   clear A100
   by_cases c11 : t177 = true
   ·subst c11
    have H1 : ((wear_in.f a3 0 100).bind fun t178 => (if t178 = true then ((wear_in.f a4 0 100).bind fun t179 => (if t179 = true then (if (wrap64 (200 * a1)) = 0 then (none) else (if (wrap64 (20000 * a1)) = 0 then (none) else (some (wrap64 (Int.tdiv (wrap64 (a0_0 * (wrap64 ((wrap64 (100 + a3)) * (wrap64 (a1 + a2)))))) (wrap64 (200 * a1))), wrap64 (Int.tdiv (wrap64 ((wrap64 ((wrap64 ((wrap64 (a0_1 * (wrap64 ((wrap64 (100 + a3)) * (wrap64 (a1 + a2)))))) * (wrap64 (100 + a4)))) + (wrap64 (20000 * a1)))) - 1)) (wrap64 (20000 * a1))), 0)))) else (some (0, 0, 1)))) else (some (0, 0, 1)))) = some (r1, r2, r3) := by rw [if_pos rfl] at H; exact H
    clear H
    have H := H1
    clear H1
    replace H := Option.bind_eq_some_iff.mp H
    obtain ⟨t178, A120, H⟩ := H
    replace H : (if t178 = true then ((wear_in.f a4 0 100).bind fun t179 => (if t179 = true then (if (wrap64 (200 * a1)) = 0 then (none) else (if (wrap64 (20000 * a1)) = 0 then (none) else (some (wrap64 (Int.tdiv (wrap64 (a0_0 * (wrap64 ((wrap64 (100 + a3)) * (wrap64 (a1 + a2)))))) (wrap64 (200 * a1))), wrap64 (Int.tdiv (wrap64 ((wrap64 ((wrap64 ((wrap64 (a0_1 * (wrap64 ((wrap64 (100 + a3)) * (wrap64 (a1 + a2)))))) * (wrap64 (100 + a4)))) + (wrap64 (20000 * a1)))) - 1)) (wrap64 (20000 * a1))), 0)))) else (some (0, 0, 1)))) else (some (0, 0, 1))) = some (r1, r2, r3) := H
    have A12 := Aside0.mk A120
    clear A120
    by_cases c13 : t178 = true
    ·subst c13
     have H1 : ((wear_in.f a4 0 100).bind fun t179 => (if t179 = true then (if (wrap64 (200 * a1)) = 0 then (none) else (if (wrap64 (20000 * a1)) = 0 then (none) else (some (wrap64 (Int.tdiv (wrap64 (a0_0 * (wrap64 ((wrap64 (100 + a3)) * (wrap64 (a1 + a2)))))) (wrap64 (200 * a1))), wrap64 (Int.tdiv (wrap64 ((wrap64 ((wrap64 ((wrap64 (a0_1 * (wrap64 ((wrap64 (100 + a3)) * (wrap64 (a1 + a2)))))) * (wrap64 (100 + a4)))) + (wrap64 (20000 * a1)))) - 1)) (wrap64 (20000 * a1))), 0)))) else (some (0, 0, 1)))) = some (r1, r2, r3) := by rw [if_pos rfl] at H; exact H
     clear H
     have H := H1
     clear H1
     replace H := Option.bind_eq_some_iff.mp H
     obtain ⟨t179, A140, H⟩ := H
     replace H : (if t179 = true then (if (wrap64 (200 * a1)) = 0 then (none) else (if (wrap64 (20000 * a1)) = 0 then (none) else (some (wrap64 (Int.tdiv (wrap64 (a0_0 * (wrap64 ((wrap64 (100 + a3)) * (wrap64 (a1 + a2)))))) (wrap64 (200 * a1))), wrap64 (Int.tdiv (wrap64 ((wrap64 ((wrap64 ((wrap64 (a0_1 * (wrap64 ((wrap64 (100 + a3)) * (wrap64 (a1 + a2)))))) * (wrap64 (100 + a4)))) + (wrap64 (20000 * a1)))) - 1)) (wrap64 (20000 * a1))), 0)))) else (some (0, 0, 1))) = some (r1, r2, r3) := H
     have A14 := Aside0.mk A140
     clear A140
     by_cases c15 : t179 = true
     ·subst c15
      have H1 : (if (wrap64 (200 * a1)) = 0 then (none) else (if (wrap64 (20000 * a1)) = 0 then (none) else (some (wrap64 (Int.tdiv (wrap64 (a0_0 * (wrap64 ((wrap64 (100 + a3)) * (wrap64 (a1 + a2)))))) (wrap64 (200 * a1))), wrap64 (Int.tdiv (wrap64 ((wrap64 ((wrap64 ((wrap64 (a0_1 * (wrap64 ((wrap64 (100 + a3)) * (wrap64 (a1 + a2)))))) * (wrap64 (100 + a4)))) + (wrap64 (20000 * a1)))) - 1)) (wrap64 (20000 * a1))), 0)))) = some (r1, r2, r3) := by rw [if_pos rfl] at H; exact H
      clear H
      have H := H1
      clear H1
      by_cases c16 : (wrap64 (200 * a1)) = 0
      ·rw [if_pos c16] at H
       exact absurd H (by simp)
      rw [if_neg c16] at H
      have c16b0 : ((wrap64 (200 * a1)) == 0) = false := beq_eq_false_iff_ne.mpr c16
      have c16b1 : ((wrap64 (200 * a1)) != 0) = true := bne_iff_ne.mpr c16
      by_cases c17 : (wrap64 (20000 * a1)) = 0
      ·rw [if_pos c17] at H
       exact absurd H (by simp)
      rw [if_neg c17] at H
      have c17b0 : ((wrap64 (20000 * a1)) == 0) = false := beq_eq_false_iff_ne.mpr c17
      have c17b1 : ((wrap64 (20000 * a1)) != 0) = true := bne_iff_ne.mpr c17
      simp only [Option.some.injEq, Prod.mk.injEq] at H
      obtain ⟨rfl, rfl, rfl⟩ := H
      go_enter Try.func20, Try.ntmps20
      try go_wp2_with (first | ((with_reducible refine gate_dst (N := 5) rfl ?_); refine zx 5 #[.int .i64 a0_0, .int .i64 a0_1] 60 ?_; intro gb173 hg w18 hbox hb; have n0_ := zY HB hb; have n1_ := Aside0.mk (hbox); have n2_ := zS hg HB; have n3_ := zS hg HB; clear HB; have HB := n0_; have BK173 := n1_; have GW173 := n2_; have GE173 := n3_; clear n0_ n1_ n2_ n3_; clear hb hbox hg) | ((with_reducible refine gate_dst (N := 10) rfl ?_); refine zx 10 #[.int .i64 0, .int .i64 0] 27 ?_; intro gb174 hg w19 hbox hb; have n0_ := zD BK173 hb; have n1_ := zY HB hb; have n2_ := Aside0.mk (hbox); have n3_ := zS hg HB; have n4_ := zS hg HB; have n5_ := zN hg BK173; have n6_ := zM hg BK173; clear BK173; clear HB; have BK173 := n0_; have HB := n1_; have BK174 := n2_; have GW174 := n3_; have GE174 := n4_; have NB173_174 := n5_; have NB174_173 := n6_; clear n0_ n1_ n2_ n3_ n4_ n5_ n6_; clear hb hbox hg; have hnb20 := NB173_174.out; have hnc20 := NB174_173.out; obtain ⟨hcz21_0, hcz21_1, hfz21_0, hfz21_1⟩ := zk2 BK173) | ((with_reducible refine gate_callee (f := 37) rfl ?_); refine goesL_ (some 16) rfl rfl Try.func37 (by kernel_rfl) rfl #[.agg #[.int .i64 a0_0, .int .i64 a0_1], .int .i64 10000] rfl za ?_; (with_reducible refine (wear_spans.calls a0_0 a0_1 10000 true _ A6.out).mono ?_); rintro e w22 ⟨rfl, hb⟩; refine ⟨_, rfl, ?_⟩; have n0_ := zD BK173 hb; have n1_ := zD BK174 hb; have n2_ := zY HB hb; clear BK173; clear BK174; clear HB; have BK173 := n0_; have BK174 := n1_; have HB := n2_; clear n0_ n1_ n2_; (try clear hb); (try clear hb2); (try clear hk); (try clear hi)) | (go_at_call 22; (with_reducible refine (wear_in.calls a1 1 100 true _ A8.out).mono ?_); rintro e w' ⟨rfl, ⟨nd, rfl⟩⟩; (try (rw [drewN_self w22]; generalize hq_ : World.drewN w22 _ = w22; have n0_ : Aside0 (w22.heap[gb173]? = some (.cells #[.int .i64 a0_0, .int .i64 a0_1] 60 (0, 0))) := ⟨by rw [← hq_]; exact (zb BK173)⟩; have n1_ : Aside0 (w22.heap[gb174]? = some (.cells #[.int .i64 0, .int .i64 0] 27 (0, 0))) := ⟨by rw [← hq_]; exact (zb BK174)⟩; have n2_ : Aside0 (Below w.heap.size w w22) := ⟨by rw [← hq_]; exact (zw HB)⟩; clear BK173 BK174 HB hq_; have BK173 := n0_; have BK174 := n1_; have HB := n2_; clear n0_ n1_ n2_))) | (go_at_call 22; (with_reducible refine (wear_in.calls a2 1 100 true _ A10.out).mono ?_); rintro e w' ⟨rfl, ⟨nd, rfl⟩⟩; (try (rw [drewN_self w22]; generalize hq_ : World.drewN w22 _ = w22; have n0_ : Aside0 (w22.heap[gb173]? = some (.cells #[.int .i64 a0_0, .int .i64 a0_1] 60 (0, 0))) := ⟨by rw [← hq_]; exact (zb BK173)⟩; have n1_ : Aside0 (w22.heap[gb174]? = some (.cells #[.int .i64 0, .int .i64 0] 27 (0, 0))) := ⟨by rw [← hq_]; exact (zb BK174)⟩; have n2_ : Aside0 (Below w.heap.size w w22) := ⟨by rw [← hq_]; exact (zw HB)⟩; clear BK173 BK174 HB hq_; have BK173 := n0_; have BK174 := n1_; have HB := n2_; clear n0_ n1_ n2_))) | (go_at_call 22; (with_reducible refine (wear_in.calls a3 0 100 true _ A12.out).mono ?_); rintro e w' ⟨rfl, ⟨nd, rfl⟩⟩; (try (rw [drewN_self w22]; generalize hq_ : World.drewN w22 _ = w22; have n0_ : Aside0 (w22.heap[gb173]? = some (.cells #[.int .i64 a0_0, .int .i64 a0_1] 60 (0, 0))) := ⟨by rw [← hq_]; exact (zb BK173)⟩; have n1_ : Aside0 (w22.heap[gb174]? = some (.cells #[.int .i64 0, .int .i64 0] 27 (0, 0))) := ⟨by rw [← hq_]; exact (zb BK174)⟩; have n2_ : Aside0 (Below w.heap.size w w22) := ⟨by rw [← hq_]; exact (zw HB)⟩; clear BK173 BK174 HB hq_; have BK173 := n0_; have BK174 := n1_; have HB := n2_; clear n0_ n1_ n2_))) | (go_at_call 22; (with_reducible refine (wear_in.calls a4 0 100 true _ A14.out).mono ?_); rintro e w' ⟨rfl, ⟨nd, rfl⟩⟩; (try (rw [drewN_self w22]; generalize hq_ : World.drewN w22 _ = w22; have n0_ : Aside0 (w22.heap[gb173]? = some (.cells #[.int .i64 a0_0, .int .i64 a0_1] 60 (0, 0))) := ⟨by rw [← hq_]; exact (zb BK173)⟩; have n1_ : Aside0 (w22.heap[gb174]? = some (.cells #[.int .i64 0, .int .i64 0] 27 (0, 0))) := ⟨by rw [← hq_]; exact (zb BK174)⟩; have n2_ : Aside0 (Below w.heap.size w w22) := ⟨by rw [← hq_]; exact (zw HB)⟩; clear BK173 BK174 HB hq_; have BK173 := n0_; have BK174 := n1_; have HB := n2_; clear n0_ n1_ n2_))))
      have n0_ := Aside0.mk (blk_drew BK173.out)
      have n1_ := Aside0.mk (blk_drew BK174.out)
      have n2_ := Aside0.mk (below_drew1 HB.out)
      clear BK173; clear BK174; clear HB
      have BK173 := n0_
      have BK174 := n1_
      have HB := n2_
      clear n0_ n1_ n2_
      refine start_ (n := 24) (S := fun w' => w'.cell? ⟨gb173, 0, none⟩ = some (.int .i64 a0_0) ∧ w'.cell? ⟨gb173, 1, none⟩ = some (.int .i64 a0_1)) (ds := []) #[Z0, Z0, Z0, Z0, Z0, Z0, Z0, Z0, Z0, Z0, Z0, Z0, Z0, Z0, Z0, Z0, Z0, Z0, Z0, Z0, Z0, Z0, Z0, Z0] (by kernel_rfl) rfl rfl ⟨(blk_cell BK173.out 0).trans rfl, (blk_cell BK173.out 1).trans rfl⟩ (fun hHeld => ?_); refine with_tabW wear_Rate.tab5 wear_Rate.bits5 (fun HT_ HW_ => ?_)
      generalize w22.drew = w23 at BK173 BK174 HB hHeld ⊢
      refine zp 0 (some 47) #[Z1, Z0, Z0, Z0, Z0, Z0, Z0, Z0, Z0, Z0, Z0, Z0, Z0, Z0, Z0, Z0, Z0, Z0, Z0, Z0, Z0, Z0, Z0, Z0] rfl rfl (any_of HT_.out (by kernel_rfl)) ?_
      refine zp 1 (some 48) #[Z1, Z1, Z0, Z0, Z0, Z0, Z0, Z0, Z0, Z0, Z0, Z0, Z0, Z0, Z0, Z0, Z0, Z0, Z0, Z0, Z0, Z0, Z0, Z0] rfl rfl (any_of HT_.out (by kernel_rfl)) ?_
      refine zp 3 (some 50) #[Z1, Z1, Z0, Z1, Z0, Z0, Z0, Z0, Z0, Z0, Z0, Z0, Z0, Z0, Z0, Z0, Z0, Z0, Z0, Z0, Z0, Z0, Z0, Z0] rfl rfl (any_of HT_.out (by kernel_rfl)) ?_
      refine zp 5 (some 52) #[Z1, Z1, Z0, Z1, Z0, Z1, Z0, Z0, Z0, Z0, Z0, Z0, Z0, Z0, Z0, Z0, Z0, Z0, Z0, Z0, Z0, Z0, Z0, Z0] rfl rfl (any_of HT_.out (by kernel_rfl)) ?_
      refine zp 6 (some 53) #[Z1, Z1, Z0, Z1, Z0, Z1, Z1, Z0, Z0, Z0, Z0, Z0, Z0, Z0, Z0, Z0, Z0, Z0, Z0, Z0, Z0, Z0, Z0, Z0] rfl rfl (any_of HT_.out (by kernel_rfl)) ?_
      refine zp 8 (some 55) #[Z1, Z1, Z0, Z1, Z0, Z1, Z1, Z0, Z1, Z0, Z0, Z0, Z0, Z0, Z0, Z0, Z0, Z0, Z0, Z0, Z0, Z0, Z0, Z0] rfl rfl (any_of HT_.out (by kernel_rfl)) ?_
      refine zp 9 (some 56) #[Z1, Z1, Z0, Z1, Z0, Z1, Z1, Z0, Z1, Z1, Z0, Z0, Z0, Z0, Z0, Z0, Z0, Z0, Z0, Z0, Z0, Z0, Z0, Z0] rfl rfl (any_of HT_.out (by kernel_rfl)) ?_
      refine zp 11 (some 58) #[Z1, Z1, Z0, Z1, Z0, Z1, Z1, Z0, Z1, Z1, Z0, Z1, Z0, Z0, Z0, Z0, Z0, Z0, Z0, Z0, Z0, Z0, Z0, Z0] rfl rfl (any_of HT_.out (by kernel_rfl)) ?_
      refine zp 13 (some 60) #[Z1, Z1, Z0, Z1, Z0, Z1, Z1, Z0, Z1, Z1, Z0, Z1, Z0, Z1, Z0, Z0, Z0, Z0, Z0, Z0, Z0, Z0, Z0, Z0] rfl rfl (any_of HT_.out (by kernel_rfl)) ?_
      refine zp 14 (some 61) #[Z1, Z1, Z0, Z1, Z0, Z1, Z1, Z0, Z1, Z1, Z0, Z1, Z0, Z1, Z1, Z0, Z0, Z0, Z0, Z0, Z0, Z0, Z0, Z0] rfl rfl (any_of HT_.out (by kernel_rfl)) ?_
      refine zp 16 (some 63) #[Z1, Z1, Z0, Z1, Z0, Z1, Z1, Z0, Z1, Z1, Z0, Z1, Z0, Z1, Z1, Z0, Z1, Z0, Z0, Z0, Z0, Z0, Z0, Z0] rfl rfl (any_of HT_.out (by kernel_rfl)) ?_
      refine zp 19 (some 66) #[Z1, Z1, Z0, Z1, Z0, Z1, Z1, Z0, Z1, Z1, Z0, Z1, Z0, Z1, Z1, Z0, Z1, Z0, Z0, Z1, Z0, Z0, Z0, Z0] rfl rfl (any_of HT_.out (by kernel_rfl)) ?_
      refine take_ (i := 2) (N := some 49) (v := ?_) (a' := ?_) #[Z1, Z1, Z1, Z1, Z0, Z1, Z1, Z0, Z1, Z1, Z0, Z1, Z0, Z1, Z1, Z0, Z1, Z0, Z0, Z1, Z0, Z0, Z0, Z0] rfl rfl (take_ofW HT_.out HW_.out (by kernel_rfl)) (fun _ _ _ h => h) (Or.inl ⟨by rfl, ?_⟩) hHeld ?_ ?_
      rotate_left; · rintro w' ⟨s0, s1⟩; go_simp; with_reducible rfl
      rotate_left; · simp only [Act.put, List.setIfInBounds_toArray, List.set_cons_zero, List.set_cons_succ, i64_w, i32_w]; rfl
      refine zp 4 (some 51) #[Z1, Z1, Z1, Z1, Z1, Z1, Z1, Z0, Z1, Z1, Z0, Z1, Z0, Z1, Z1, Z0, Z1, Z0, Z0, Z1, Z0, Z0, Z0, Z0] rfl rfl (any_of HT_.out (by kernel_rfl)) ?_
      refine zp 7 (some 54) #[Z1, Z1, Z1, Z1, Z1, Z1, Z1, Z1, Z1, Z1, Z0, Z1, Z0, Z1, Z1, Z0, Z1, Z0, Z0, Z1, Z0, Z0, Z0, Z0] rfl rfl (any_of HT_.out (by kernel_rfl)) ?_
      refine take_ (i := 10) (N := some 57) (v := ?_) (a' := ?_) #[Z1, Z1, Z1, Z1, Z1, Z1, Z1, Z1, Z1, Z1, Z1, Z1, Z0, Z1, Z1, Z0, Z1, Z0, Z0, Z1, Z0, Z0, Z0, Z0] rfl rfl (take_ofW HT_.out HW_.out (by kernel_rfl)) (fun _ _ _ h => h) (Or.inl ⟨by rfl, ?_⟩) hHeld ?_ ?_
      rotate_left; · rintro w' ⟨s0, s1⟩; go_simp; with_reducible rfl
      rotate_left; · simp only [Act.put, List.setIfInBounds_toArray, List.set_cons_zero, List.set_cons_succ, i64_w, i32_w]; rfl
      refine zp 12 (some 59) #[Z1, Z1, Z1, Z1, Z1, Z1, Z1, Z1, Z1, Z1, Z1, Z1, Z1, Z1, Z1, Z0, Z1, Z0, Z0, Z1, Z0, Z0, Z0, Z0] rfl rfl (any_of HT_.out (by kernel_rfl)) ?_
      refine zp 15 (some 62) #[Z1, Z1, Z1, Z1, Z1, Z1, Z1, Z1, Z1, Z1, Z1, Z1, Z1, Z1, Z1, Z1, Z1, Z0, Z0, Z1, Z0, Z0, Z0, Z0] rfl rfl (any_of HT_.out (by kernel_rfl)) ?_
      refine zp 17 (some 64) #[Z1, Z1, Z1, Z1, Z1, Z1, Z1, Z1, Z1, Z1, Z1, Z1, Z1, Z1, Z1, Z1, Z1, Z1, Z0, Z1, Z0, Z0, Z0, Z0] rfl rfl (any_of HT_.out (by kernel_rfl)) ?_
      refine zp 18 (some 65) #[Z1, Z1, Z1, Z1, Z1, Z1, Z1, Z1, Z1, Z1, Z1, Z1, Z1, Z1, Z1, Z1, Z1, Z1, Z1, Z1, Z0, Z0, Z0, Z0] rfl rfl (any_of HT_.out (by kernel_rfl)) ?_
      refine zp 20 (some 67) #[Z1, Z1, Z1, Z1, Z1, Z1, Z1, Z1, Z1, Z1, Z1, Z1, Z1, Z1, Z1, Z1, Z1, Z1, Z1, Z1, Z1, Z0, Z0, Z0] rfl rfl (any_of HT_.out (by kernel_rfl)) ?_
      refine zp 21 (some 68) #[Z1, Z1, Z1, Z1, Z1, Z1, Z1, Z1, Z1, Z1, Z1, Z1, Z1, Z1, Z1, Z1, Z1, Z1, Z1, Z1, Z1, Z1, Z0, Z0] rfl rfl (any_of HT_.out (by kernel_rfl)) ?_
      refine one_ (i := 22) (N := none) #[Z1, Z1, Z1, Z1, Z1, Z1, Z1, Z1, Z1, Z1, Z1, Z1, Z1, Z1, Z1, Z1, Z1, Z1, Z1, Z1, Z1, Z1, Z1, Z0] rfl rfl (one_of HT_.out (by kernel_rfl)) (by decide) (fun K hK => ?_)
      have hs24 : w23.cell? ⟨gb174, 0, none⟩ = some (.int .i64 0) := (blk_cell BK174.out 0).trans rfl
      have hfs24 := blk_frozen BK174.out 0
      have hns24_0 := NB173_174.out
      have hms24_0 := NB174_173.out
      have hs25 : w23.cell? ⟨gb174, 1, none⟩ = some (.int .i64 0) := (blk_cell BK174.out 1).trans rfl
      have hfs25 := blk_frozen BK174.out 1
      have hns25_0 := NB173_174.out
      have hms25_0 := NB174_173.out
      refine skip_ (w1 := ?_) (by rfl) rfl ?_ ?_
      rotate_left
      ·go_simp
       rfl
      refine hK.out _ _ ⟨((cell_far (p := ⟨gb174, _, none⟩) NB173_174.out _).trans (((cell_far (p := ⟨gb174, _, none⟩) NB173_174.out _).trans (hHeld.1)))), ((cell_far (p := ⟨gb174, _, none⟩) NB173_174.out _).trans (((cell_far (p := ⟨gb174, _, none⟩) NB173_174.out _).trans (hHeld.2))))⟩ (fun hHeld => ?_)
      clear hK K
      refine zp 23 (some 11) #[Z1, Z1, Z1, Z1, Z1, Z1, Z1, Z1, Z1, Z1, Z1, Z1, Z1, Z1, Z1, Z1, Z1, Z1, Z1, Z1, Z1, Z1, Z1, Z1] rfl rfl (any_of HT_.out (by kernel_rfl)) ?_
      refine done_ (done_of HT_.out (by kernel_rfl)) ?_
      try go_wp2
      refine bodyPost_ret (results_ct rfl _ _ gb174 27 #[.int .i64 (wrap64 (Int.tdiv (wrap64 (a0_0 * (wrap64 ((wrap64 (100 + a3)) * (wrap64 (a1 + a2)))))) (wrap64 (200 * a1)))), .int .i64 (wrap64 (Int.tdiv (wrap64 ((wrap64 ((wrap64 ((wrap64 (a0_1 * (wrap64 ((wrap64 (100 + a3)) * (wrap64 (a1 + a2)))))) * (wrap64 (100 + a4)))) + (wrap64 (20000 * a1)))) - 1)) (wrap64 (20000 * a1))))] (0, 0) _ rfl (by refine zQ ?_; refine blk_put (cs := #[.int .i64 (wrap64 (Int.tdiv (wrap64 (a0_0 * (wrap64 ((wrap64 (100 + a3)) * (wrap64 (a1 + a2)))))) (wrap64 (200 * a1)))), .int .i64 0]) ?_ 1 _ rfl; refine zQ ?_; refine blk_put (cs := #[.int .i64 0, .int .i64 0]) ?_ 0 _ rfl; (with_reducible repeat (first | refine blk_drewN ?_ _ | refine blk_drew ?_ | refine blk_alloc ?_ _)); exact BK174.out) Try.underlying27 rfl (by kernel_rfl)) rfl ?_
      exact ⟨ze, zw HB⟩
     replace c15 := Bool.eq_false_iff.mpr c15
     subst c15
     have H1 : (some (0, 0, 1)) = some (r1, r2, r3) := by rw [if_neg (show ¬ (false = true) by decide)] at H; exact H
     clear H
     have H := H1
     clear H1
     simp only [Option.some.injEq, Prod.mk.injEq] at H
     obtain ⟨rfl, rfl, rfl⟩ := H
     go_enter Try.func20, Try.ntmps20
     go_wp2_with (first | ((with_reducible refine gate_dst (N := 5) rfl ?_); refine zx 5 #[.int .i64 a0_0, .int .i64 a0_1] 60 ?_; intro gb173 hg w26 hbox hb; have n0_ := zY HB hb; have n1_ := Aside0.mk (hbox); have n2_ := zS hg HB; have n3_ := zS hg HB; clear HB; have HB := n0_; have BK173 := n1_; have GW173 := n2_; have GE173 := n3_; clear n0_ n1_ n2_ n3_; clear hb hbox hg) | ((with_reducible refine gate_dst (N := 10) rfl ?_); refine zx 10 #[.int .i64 0, .int .i64 0] 27 ?_; intro gb174 hg w27 hbox hb; have n0_ := zD BK173 hb; have n1_ := zY HB hb; have n2_ := Aside0.mk (hbox); have n3_ := zS hg HB; have n4_ := zS hg HB; have n5_ := zN hg BK173; have n6_ := zM hg BK173; clear BK173; clear HB; have BK173 := n0_; have HB := n1_; have BK174 := n2_; have GW174 := n3_; have GE174 := n4_; have NB173_174 := n5_; have NB174_173 := n6_; clear n0_ n1_ n2_ n3_ n4_ n5_ n6_; clear hb hbox hg; have hnb28 := NB173_174.out; have hnc28 := NB174_173.out; obtain ⟨hcz29_0, hcz29_1, hfz29_0, hfz29_1⟩ := zk2 BK173) | ((with_reducible refine gate_callee (f := 37) rfl ?_); refine goesL_ (some 16) rfl rfl Try.func37 (by kernel_rfl) rfl #[.agg #[.int .i64 a0_0, .int .i64 a0_1], .int .i64 10000] rfl za ?_; (with_reducible refine (wear_spans.calls a0_0 a0_1 10000 true _ A6.out).mono ?_); rintro e w30 ⟨rfl, hb⟩; refine ⟨_, rfl, ?_⟩; have n0_ := zD BK173 hb; have n1_ := zD BK174 hb; have n2_ := zY HB hb; clear BK173; clear BK174; clear HB; have BK173 := n0_; have BK174 := n1_; have HB := n2_; clear n0_ n1_ n2_; (try clear hb); (try clear hb2); (try clear hk); (try clear hi)) | (go_at_call 22; (with_reducible refine (wear_in.calls a1 1 100 true _ A8.out).mono ?_); rintro e w' ⟨rfl, ⟨nd, rfl⟩⟩; (try (rw [drewN_self w30]; generalize hq_ : World.drewN w30 _ = w30; have n0_ : Aside0 (w30.heap[gb173]? = some (.cells #[.int .i64 a0_0, .int .i64 a0_1] 60 (0, 0))) := ⟨by rw [← hq_]; exact (zb BK173)⟩; have n1_ : Aside0 (w30.heap[gb174]? = some (.cells #[.int .i64 0, .int .i64 0] 27 (0, 0))) := ⟨by rw [← hq_]; exact (zb BK174)⟩; have n2_ : Aside0 (Below w.heap.size w w30) := ⟨by rw [← hq_]; exact (zw HB)⟩; clear BK173 BK174 HB hq_; have BK173 := n0_; have BK174 := n1_; have HB := n2_; clear n0_ n1_ n2_))) | (go_at_call 22; (with_reducible refine (wear_in.calls a2 1 100 true _ A10.out).mono ?_); rintro e w' ⟨rfl, ⟨nd, rfl⟩⟩; (try (rw [drewN_self w30]; generalize hq_ : World.drewN w30 _ = w30; have n0_ : Aside0 (w30.heap[gb173]? = some (.cells #[.int .i64 a0_0, .int .i64 a0_1] 60 (0, 0))) := ⟨by rw [← hq_]; exact (zb BK173)⟩; have n1_ : Aside0 (w30.heap[gb174]? = some (.cells #[.int .i64 0, .int .i64 0] 27 (0, 0))) := ⟨by rw [← hq_]; exact (zb BK174)⟩; have n2_ : Aside0 (Below w.heap.size w w30) := ⟨by rw [← hq_]; exact (zw HB)⟩; clear BK173 BK174 HB hq_; have BK173 := n0_; have BK174 := n1_; have HB := n2_; clear n0_ n1_ n2_))) | (go_at_call 22; (with_reducible refine (wear_in.calls a3 0 100 true _ A12.out).mono ?_); rintro e w' ⟨rfl, ⟨nd, rfl⟩⟩; (try (rw [drewN_self w30]; generalize hq_ : World.drewN w30 _ = w30; have n0_ : Aside0 (w30.heap[gb173]? = some (.cells #[.int .i64 a0_0, .int .i64 a0_1] 60 (0, 0))) := ⟨by rw [← hq_]; exact (zb BK173)⟩; have n1_ : Aside0 (w30.heap[gb174]? = some (.cells #[.int .i64 0, .int .i64 0] 27 (0, 0))) := ⟨by rw [← hq_]; exact (zb BK174)⟩; have n2_ : Aside0 (Below w.heap.size w w30) := ⟨by rw [← hq_]; exact (zw HB)⟩; clear BK173 BK174 HB hq_; have BK173 := n0_; have BK174 := n1_; have HB := n2_; clear n0_ n1_ n2_))) | (go_at_call 22; (with_reducible refine (wear_in.calls a4 0 100 false _ A14.out).mono ?_); rintro e w' ⟨rfl, ⟨nd, rfl⟩⟩; (try (rw [drewN_self w30]; generalize hq_ : World.drewN w30 _ = w30; have n0_ : Aside0 (w30.heap[gb173]? = some (.cells #[.int .i64 a0_0, .int .i64 a0_1] 60 (0, 0))) := ⟨by rw [← hq_]; exact (zb BK173)⟩; have n1_ : Aside0 (w30.heap[gb174]? = some (.cells #[.int .i64 0, .int .i64 0] 27 (0, 0))) := ⟨by rw [← hq_]; exact (zb BK174)⟩; have n2_ : Aside0 (Below w.heap.size w w30) := ⟨by rw [← hq_]; exact (zw HB)⟩; clear BK173 BK174 HB hq_; have BK173 := n0_; have BK174 := n1_; have HB := n2_; clear n0_ n1_ n2_)); obtain ⟨hcz31_0, hcz31_1, hfz31_0, hfz31_1⟩ := zk2 BK174))
     refine bodyPost_ret (results_ct rfl _ _ gb174 27 #[.int .i64 0, .int .i64 0] (0, 0) _ rfl (by refine zQ ?_; refine blk_put (cs := #[.int .i64 0, .int .i64 0]) ?_ 1 _ rfl; refine zQ ?_; refine blk_put (cs := #[.int .i64 0, .int .i64 0]) ?_ 0 _ rfl; (with_reducible repeat (first | refine blk_drewN ?_ _ | refine blk_drew ?_ | refine blk_alloc ?_ _)); exact BK174.out) Try.underlying27 rfl (by kernel_rfl)) rfl ?_
     exact ⟨ze, zw HB⟩
    replace c13 := Bool.eq_false_iff.mpr c13
    subst c13
    have H1 : (some (0, 0, 1)) = some (r1, r2, r3) := by rw [if_neg (show ¬ (false = true) by decide)] at H; exact H
    clear H
    have H := H1
    clear H1
    simp only [Option.some.injEq, Prod.mk.injEq] at H
    obtain ⟨rfl, rfl, rfl⟩ := H
    go_enter Try.func20, Try.ntmps20
    go_wp2_with (first | ((with_reducible refine gate_dst (N := 5) rfl ?_); refine zx 5 #[.int .i64 a0_0, .int .i64 a0_1] 60 ?_; intro gb173 hg w32 hbox hb; have n0_ := zY HB hb; have n1_ := Aside0.mk (hbox); have n2_ := zS hg HB; have n3_ := zS hg HB; clear HB; have HB := n0_; have BK173 := n1_; have GW173 := n2_; have GE173 := n3_; clear n0_ n1_ n2_ n3_; clear hb hbox hg) | ((with_reducible refine gate_dst (N := 10) rfl ?_); refine zx 10 #[.int .i64 0, .int .i64 0] 27 ?_; intro gb174 hg w33 hbox hb; have n0_ := zD BK173 hb; have n1_ := zY HB hb; have n2_ := Aside0.mk (hbox); have n3_ := zS hg HB; have n4_ := zS hg HB; have n5_ := zN hg BK173; have n6_ := zM hg BK173; clear BK173; clear HB; have BK173 := n0_; have HB := n1_; have BK174 := n2_; have GW174 := n3_; have GE174 := n4_; have NB173_174 := n5_; have NB174_173 := n6_; clear n0_ n1_ n2_ n3_ n4_ n5_ n6_; clear hb hbox hg; have hnb34 := NB173_174.out; have hnc34 := NB174_173.out; obtain ⟨hcz35_0, hcz35_1, hfz35_0, hfz35_1⟩ := zk2 BK173) | ((with_reducible refine gate_callee (f := 37) rfl ?_); refine goesL_ (some 16) rfl rfl Try.func37 (by kernel_rfl) rfl #[.agg #[.int .i64 a0_0, .int .i64 a0_1], .int .i64 10000] rfl za ?_; (with_reducible refine (wear_spans.calls a0_0 a0_1 10000 true _ A6.out).mono ?_); rintro e w36 ⟨rfl, hb⟩; refine ⟨_, rfl, ?_⟩; have n0_ := zD BK173 hb; have n1_ := zD BK174 hb; have n2_ := zY HB hb; clear BK173; clear BK174; clear HB; have BK173 := n0_; have BK174 := n1_; have HB := n2_; clear n0_ n1_ n2_; (try clear hb); (try clear hb2); (try clear hk); (try clear hi)) | (go_at_call 22; (with_reducible refine (wear_in.calls a1 1 100 true _ A8.out).mono ?_); rintro e w' ⟨rfl, ⟨nd, rfl⟩⟩; (try (rw [drewN_self w36]; generalize hq_ : World.drewN w36 _ = w36; have n0_ : Aside0 (w36.heap[gb173]? = some (.cells #[.int .i64 a0_0, .int .i64 a0_1] 60 (0, 0))) := ⟨by rw [← hq_]; exact (zb BK173)⟩; have n1_ : Aside0 (w36.heap[gb174]? = some (.cells #[.int .i64 0, .int .i64 0] 27 (0, 0))) := ⟨by rw [← hq_]; exact (zb BK174)⟩; have n2_ : Aside0 (Below w.heap.size w w36) := ⟨by rw [← hq_]; exact (zw HB)⟩; clear BK173 BK174 HB hq_; have BK173 := n0_; have BK174 := n1_; have HB := n2_; clear n0_ n1_ n2_))) | (go_at_call 22; (with_reducible refine (wear_in.calls a2 1 100 true _ A10.out).mono ?_); rintro e w' ⟨rfl, ⟨nd, rfl⟩⟩; (try (rw [drewN_self w36]; generalize hq_ : World.drewN w36 _ = w36; have n0_ : Aside0 (w36.heap[gb173]? = some (.cells #[.int .i64 a0_0, .int .i64 a0_1] 60 (0, 0))) := ⟨by rw [← hq_]; exact (zb BK173)⟩; have n1_ : Aside0 (w36.heap[gb174]? = some (.cells #[.int .i64 0, .int .i64 0] 27 (0, 0))) := ⟨by rw [← hq_]; exact (zb BK174)⟩; have n2_ : Aside0 (Below w.heap.size w w36) := ⟨by rw [← hq_]; exact (zw HB)⟩; clear BK173 BK174 HB hq_; have BK173 := n0_; have BK174 := n1_; have HB := n2_; clear n0_ n1_ n2_))) | (go_at_call 22; (with_reducible refine (wear_in.calls a3 0 100 false _ A12.out).mono ?_); rintro e w' ⟨rfl, ⟨nd, rfl⟩⟩; (try (rw [drewN_self w36]; generalize hq_ : World.drewN w36 _ = w36; have n0_ : Aside0 (w36.heap[gb173]? = some (.cells #[.int .i64 a0_0, .int .i64 a0_1] 60 (0, 0))) := ⟨by rw [← hq_]; exact (zb BK173)⟩; have n1_ : Aside0 (w36.heap[gb174]? = some (.cells #[.int .i64 0, .int .i64 0] 27 (0, 0))) := ⟨by rw [← hq_]; exact (zb BK174)⟩; have n2_ : Aside0 (Below w.heap.size w w36) := ⟨by rw [← hq_]; exact (zw HB)⟩; clear BK173 BK174 HB hq_; have BK173 := n0_; have BK174 := n1_; have HB := n2_; clear n0_ n1_ n2_)); obtain ⟨hcz37_0, hcz37_1, hfz37_0, hfz37_1⟩ := zk2 BK174))
    refine bodyPost_ret (results_ct rfl _ _ gb174 27 #[.int .i64 0, .int .i64 0] (0, 0) _ rfl (by refine zQ ?_; refine blk_put (cs := #[.int .i64 0, .int .i64 0]) ?_ 1 _ rfl; refine zQ ?_; refine blk_put (cs := #[.int .i64 0, .int .i64 0]) ?_ 0 _ rfl; (with_reducible repeat (first | refine blk_drewN ?_ _ | refine blk_drew ?_ | refine blk_alloc ?_ _)); exact BK174.out) Try.underlying27 rfl (by kernel_rfl)) rfl ?_
    exact ⟨ze, zw HB⟩
   replace c11 := Bool.eq_false_iff.mpr c11
   subst c11
   have H1 : (some (0, 0, 1)) = some (r1, r2, r3) := by rw [if_neg (show ¬ (false = true) by decide)] at H; exact H
   clear H
   have H := H1
   clear H1
   simp only [Option.some.injEq, Prod.mk.injEq] at H
   obtain ⟨rfl, rfl, rfl⟩ := H
   go_enter Try.func20, Try.ntmps20
   go_wp2_with (first | ((with_reducible refine gate_dst (N := 5) rfl ?_); refine zx 5 #[.int .i64 a0_0, .int .i64 a0_1] 60 ?_; intro gb173 hg w38 hbox hb; have n0_ := zY HB hb; have n1_ := Aside0.mk (hbox); have n2_ := zS hg HB; have n3_ := zS hg HB; clear HB; have HB := n0_; have BK173 := n1_; have GW173 := n2_; have GE173 := n3_; clear n0_ n1_ n2_ n3_; clear hb hbox hg) | ((with_reducible refine gate_dst (N := 10) rfl ?_); refine zx 10 #[.int .i64 0, .int .i64 0] 27 ?_; intro gb174 hg w39 hbox hb; have n0_ := zD BK173 hb; have n1_ := zY HB hb; have n2_ := Aside0.mk (hbox); have n3_ := zS hg HB; have n4_ := zS hg HB; have n5_ := zN hg BK173; have n6_ := zM hg BK173; clear BK173; clear HB; have BK173 := n0_; have HB := n1_; have BK174 := n2_; have GW174 := n3_; have GE174 := n4_; have NB173_174 := n5_; have NB174_173 := n6_; clear n0_ n1_ n2_ n3_ n4_ n5_ n6_; clear hb hbox hg; have hnb40 := NB173_174.out; have hnc40 := NB174_173.out; obtain ⟨hcz41_0, hcz41_1, hfz41_0, hfz41_1⟩ := zk2 BK173) | ((with_reducible refine gate_callee (f := 37) rfl ?_); refine goesL_ (some 16) rfl rfl Try.func37 (by kernel_rfl) rfl #[.agg #[.int .i64 a0_0, .int .i64 a0_1], .int .i64 10000] rfl za ?_; (with_reducible refine (wear_spans.calls a0_0 a0_1 10000 true _ A6.out).mono ?_); rintro e w42 ⟨rfl, hb⟩; refine ⟨_, rfl, ?_⟩; have n0_ := zD BK173 hb; have n1_ := zD BK174 hb; have n2_ := zY HB hb; clear BK173; clear BK174; clear HB; have BK173 := n0_; have BK174 := n1_; have HB := n2_; clear n0_ n1_ n2_; (try clear hb); (try clear hb2); (try clear hk); (try clear hi)) | (go_at_call 22; (with_reducible refine (wear_in.calls a1 1 100 true _ A8.out).mono ?_); rintro e w' ⟨rfl, ⟨nd, rfl⟩⟩; (try (rw [drewN_self w42]; generalize hq_ : World.drewN w42 _ = w42; have n0_ : Aside0 (w42.heap[gb173]? = some (.cells #[.int .i64 a0_0, .int .i64 a0_1] 60 (0, 0))) := ⟨by rw [← hq_]; exact (zb BK173)⟩; have n1_ : Aside0 (w42.heap[gb174]? = some (.cells #[.int .i64 0, .int .i64 0] 27 (0, 0))) := ⟨by rw [← hq_]; exact (zb BK174)⟩; have n2_ : Aside0 (Below w.heap.size w w42) := ⟨by rw [← hq_]; exact (zw HB)⟩; clear BK173 BK174 HB hq_; have BK173 := n0_; have BK174 := n1_; have HB := n2_; clear n0_ n1_ n2_))) | (go_at_call 22; (with_reducible refine (wear_in.calls a2 1 100 false _ A10.out).mono ?_); rintro e w' ⟨rfl, ⟨nd, rfl⟩⟩; (try (rw [drewN_self w42]; generalize hq_ : World.drewN w42 _ = w42; have n0_ : Aside0 (w42.heap[gb173]? = some (.cells #[.int .i64 a0_0, .int .i64 a0_1] 60 (0, 0))) := ⟨by rw [← hq_]; exact (zb BK173)⟩; have n1_ : Aside0 (w42.heap[gb174]? = some (.cells #[.int .i64 0, .int .i64 0] 27 (0, 0))) := ⟨by rw [← hq_]; exact (zb BK174)⟩; have n2_ : Aside0 (Below w.heap.size w w42) := ⟨by rw [← hq_]; exact (zw HB)⟩; clear BK173 BK174 HB hq_; have BK173 := n0_; have BK174 := n1_; have HB := n2_; clear n0_ n1_ n2_)); obtain ⟨hcz43_0, hcz43_1, hfz43_0, hfz43_1⟩ := zk2 BK174))
   refine bodyPost_ret (results_ct rfl _ _ gb174 27 #[.int .i64 0, .int .i64 0] (0, 0) _ rfl (by refine zQ ?_; refine blk_put (cs := #[.int .i64 0, .int .i64 0]) ?_ 1 _ rfl; refine zQ ?_; refine blk_put (cs := #[.int .i64 0, .int .i64 0]) ?_ 0 _ rfl; (with_reducible repeat (first | refine blk_drewN ?_ _ | refine blk_drew ?_ | refine blk_alloc ?_ _)); exact BK174.out) Try.underlying27 rfl (by kernel_rfl)) rfl ?_
   exact ⟨ze, zw HB⟩
  replace c9 := Bool.eq_false_iff.mpr c9
  subst c9
  have H1 : (some (0, 0, 1)) = some (r1, r2, r3) := by rw [if_neg (show ¬ (false = true) by decide)] at H; exact H
  clear H
  have H := H1
  clear H1
  simp only [Option.some.injEq, Prod.mk.injEq] at H
  obtain ⟨rfl, rfl, rfl⟩ := H
  go_enter Try.func20, Try.ntmps20
  go_wp2_with (first | ((with_reducible refine gate_dst (N := 5) rfl ?_); refine zx 5 #[.int .i64 a0_0, .int .i64 a0_1] 60 ?_; intro gb173 hg w44 hbox hb; have n0_ := zY HB hb; have n1_ := Aside0.mk (hbox); have n2_ := zS hg HB; have n3_ := zS hg HB; clear HB; have HB := n0_; have BK173 := n1_; have GW173 := n2_; have GE173 := n3_; clear n0_ n1_ n2_ n3_; clear hb hbox hg) | ((with_reducible refine gate_dst (N := 10) rfl ?_); refine zx 10 #[.int .i64 0, .int .i64 0] 27 ?_; intro gb174 hg w45 hbox hb; have n0_ := zD BK173 hb; have n1_ := zY HB hb; have n2_ := Aside0.mk (hbox); have n3_ := zS hg HB; have n4_ := zS hg HB; have n5_ := zN hg BK173; have n6_ := zM hg BK173; clear BK173; clear HB; have BK173 := n0_; have HB := n1_; have BK174 := n2_; have GW174 := n3_; have GE174 := n4_; have NB173_174 := n5_; have NB174_173 := n6_; clear n0_ n1_ n2_ n3_ n4_ n5_ n6_; clear hb hbox hg; have hnb46 := NB173_174.out; have hnc46 := NB174_173.out; obtain ⟨hcz47_0, hcz47_1, hfz47_0, hfz47_1⟩ := zk2 BK173) | ((with_reducible refine gate_callee (f := 37) rfl ?_); refine goesL_ (some 16) rfl rfl Try.func37 (by kernel_rfl) rfl #[.agg #[.int .i64 a0_0, .int .i64 a0_1], .int .i64 10000] rfl za ?_; (with_reducible refine (wear_spans.calls a0_0 a0_1 10000 true _ A6.out).mono ?_); rintro e w48 ⟨rfl, hb⟩; refine ⟨_, rfl, ?_⟩; have n0_ := zD BK173 hb; have n1_ := zD BK174 hb; have n2_ := zY HB hb; clear BK173; clear BK174; clear HB; have BK173 := n0_; have BK174 := n1_; have HB := n2_; clear n0_ n1_ n2_; (try clear hb); (try clear hb2); (try clear hk); (try clear hi)) | (go_at_call 22; (with_reducible refine (wear_in.calls a1 1 100 false _ A8.out).mono ?_); rintro e w' ⟨rfl, ⟨nd, rfl⟩⟩; (try (rw [drewN_self w48]; generalize hq_ : World.drewN w48 _ = w48; have n0_ : Aside0 (w48.heap[gb173]? = some (.cells #[.int .i64 a0_0, .int .i64 a0_1] 60 (0, 0))) := ⟨by rw [← hq_]; exact (zb BK173)⟩; have n1_ : Aside0 (w48.heap[gb174]? = some (.cells #[.int .i64 0, .int .i64 0] 27 (0, 0))) := ⟨by rw [← hq_]; exact (zb BK174)⟩; have n2_ : Aside0 (Below w.heap.size w w48) := ⟨by rw [← hq_]; exact (zw HB)⟩; clear BK173 BK174 HB hq_; have BK173 := n0_; have BK174 := n1_; have HB := n2_; clear n0_ n1_ n2_)); obtain ⟨hcz49_0, hcz49_1, hfz49_0, hfz49_1⟩ := zk2 BK174))
  refine bodyPost_ret (results_ct rfl _ _ gb174 27 #[.int .i64 0, .int .i64 0] (0, 0) _ rfl (by refine zQ ?_; refine blk_put (cs := #[.int .i64 0, .int .i64 0]) ?_ 1 _ rfl; refine zQ ?_; refine blk_put (cs := #[.int .i64 0, .int .i64 0]) ?_ 0 _ rfl; (with_reducible repeat (first | refine blk_drewN ?_ _ | refine blk_drew ?_ | refine blk_alloc ?_ _)); exact BK174.out) Try.underlying27 rfl (by kernel_rfl)) rfl ?_
  exact ⟨ze, zw HB⟩
 replace c7 := Bool.eq_false_iff.mpr c7
 subst c7
 have H1 : (some (0, 0, 1)) = some (r1, r2, r3) := by rw [if_neg (show ¬ (false = true) by decide)] at H; exact H
 clear H
 have H := H1
 clear H1
 simp only [Option.some.injEq, Prod.mk.injEq] at H
 obtain ⟨rfl, rfl, rfl⟩ := H
 go_enter Try.func20, Try.ntmps20
 go_wp2_with (first | ((with_reducible refine gate_dst (N := 5) rfl ?_); refine zx 5 #[.int .i64 a0_0, .int .i64 a0_1] 60 ?_; intro gb173 hg w50 hbox hb; have n0_ := zY HB hb; have n1_ := Aside0.mk (hbox); have n2_ := zS hg HB; have n3_ := zS hg HB; clear HB; have HB := n0_; have BK173 := n1_; have GW173 := n2_; have GE173 := n3_; clear n0_ n1_ n2_ n3_; clear hb hbox hg) | ((with_reducible refine gate_dst (N := 10) rfl ?_); refine zx 10 #[.int .i64 0, .int .i64 0] 27 ?_; intro gb174 hg w51 hbox hb; have n0_ := zD BK173 hb; have n1_ := zY HB hb; have n2_ := Aside0.mk (hbox); have n3_ := zS hg HB; have n4_ := zS hg HB; have n5_ := zN hg BK173; have n6_ := zM hg BK173; clear BK173; clear HB; have BK173 := n0_; have HB := n1_; have BK174 := n2_; have GW174 := n3_; have GE174 := n4_; have NB173_174 := n5_; have NB174_173 := n6_; clear n0_ n1_ n2_ n3_ n4_ n5_ n6_; clear hb hbox hg; have hnb52 := NB173_174.out; have hnc52 := NB174_173.out; obtain ⟨hcz53_0, hcz53_1, hfz53_0, hfz53_1⟩ := zk2 BK173) | ((with_reducible refine gate_callee (f := 37) rfl ?_); refine goesL_ (some 16) rfl rfl Try.func37 (by kernel_rfl) rfl #[.agg #[.int .i64 a0_0, .int .i64 a0_1], .int .i64 10000] rfl za ?_; (with_reducible refine (wear_spans.calls a0_0 a0_1 10000 false _ A6.out).mono ?_); rintro e w54 ⟨rfl, hb⟩; refine ⟨_, rfl, ?_⟩; have n0_ := zD BK173 hb; have n1_ := zD BK174 hb; have n2_ := zY HB hb; clear BK173; clear BK174; clear HB; have BK173 := n0_; have BK174 := n1_; have HB := n2_; clear n0_ n1_ n2_; (try clear hb); (try clear hb2); (try clear hk); (try clear hi); obtain ⟨hcz55_0, hcz55_1, hfz55_0, hfz55_1⟩ := zk2 BK174))
 refine bodyPost_ret (results_ct rfl _ _ gb174 27 #[.int .i64 0, .int .i64 0] (0, 0) _ rfl (by refine zQ ?_; refine blk_put (cs := #[.int .i64 0, .int .i64 0]) ?_ 1 _ rfl; refine zQ ?_; refine blk_put (cs := #[.int .i64 0, .int .i64 0]) ?_ 0 _ rfl; (with_reducible repeat (first | refine blk_drewN ?_ _ | refine blk_drew ?_ | refine blk_alloc ?_ _)); exact BK174.out) Try.underlying27 rfl (by kernel_rfl)) rfl ?_
 exact ⟨ze, zw HB⟩
def thatchlaw07_lives.f (k : Nat)  : Option (Bool) := (thatchlaw07_Example.f).bind fun bt180 => ((wear_Bounds.f k bt180.1 bt180.2.1 bt180.2.2.1 bt180.2.2.2.1 bt180.2.2.2.2.1 bt180.2.2.2.2.2 20 10).bind fun bt192 => ((wear_Rate.f 100 200 1 2 10 50).bind fun bt196 => (if bt192.2.2 = 0 then (if (bt192.1 == 120 && (bt192.2.1 == 260)) = true then (if bt196.2.2 = 0 then (some (bt196.1 == 165 && (bt196.2.1 == 495))) else (some false)) else (some false)) else (some false))))
theorem thatchlaw07_lives.mono : ∀ k, LeO (thatchlaw07_lives.f k ) (thatchlaw07_lives.f (k + 1) ) := by
 intro  k
 unfold thatchlaw07_lives.f
 repeat' first
   | (with_reducible exact wear_Bounds.mono _ _ _ _ _ _ _ _ _)
   | (with_reducible exact LeO.refl _)
   | (with_reducible exact LeO.none _)
   | (with_reducible refine LeO.ite ?_ ?_)
   | (with_reducible refine LeO.bind ?_ (fun _ => ?_))
   | exact wear_Bounds.mono _ _ _ _ _ _ _ _ _
   | exact LeO.none _
   | refine LeO.ite ?_ ?_
   | refine LeO.bind ?_ (fun _ => ?_)
set_option maxHeartbeats 8000000 in
set_option maxRecDepth 100000 in
theorem thatchlaw07_lives.calls (k : Nat)  (r : Bool) (w : World) (h : thatchlaw07_lives.f k  = some r) :
  Calls Try.prog 8 #[] w fun e w' => e = .returned (.bool r) ∧ Below w.heap.size w w' := by
 have hu32 := Try.underlying32
 have hu27 := Try.underlying27
 have hu60 := Try.underlying60
 have HB := Aside0.mk (Below.refl w.heap.size w)
 have H : ((thatchlaw07_Example.f).bind fun bt180 => ((wear_Bounds.f k bt180.1 bt180.2.1 bt180.2.2.1 bt180.2.2.2.1 bt180.2.2.2.2.1 bt180.2.2.2.2.2 20 10).bind fun bt192 => ((wear_Rate.f 100 200 1 2 10 50).bind fun bt196 => (if bt192.2.2 = 0 then (if (bt192.1 == 120 && (bt192.2.1 == 260)) = true then (if bt196.2.2 = 0 then (some (bt196.1 == 165 && (bt196.2.1 == 495))) else (some false)) else (some false)) else (some false))))) = some r := h
 clear h
 replace H := Option.bind_eq_some_iff.mp H
 obtain ⟨⟨t180, t183, t186, t187, t188, t189⟩, A10, H⟩ := H
 replace H : ((wear_Bounds.f k t180 t183 t186 t187 t188 t189 20 10).bind fun bt192 => ((wear_Rate.f 100 200 1 2 10 50).bind fun bt196 => (if bt192.2.2 = 0 then (if (bt192.1 == 120 && (bt192.2.1 == 260)) = true then (if bt196.2.2 = 0 then (some (bt196.1 == 165 && (bt196.2.1 == 495))) else (some false)) else (some false)) else (some false)))) = some r := H
 have A1 := Aside0.mk A10
 clear A10
 replace H := Option.bind_eq_some_iff.mp H
 obtain ⟨⟨t192, t193, t194⟩, A20, H⟩ := H
 replace H : ((wear_Rate.f 100 200 1 2 10 50).bind fun bt196 => (if t194 = 0 then (if (t192 == 120 && (t193 == 260)) = true then (if bt196.2.2 = 0 then (some (bt196.1 == 165 && (bt196.2.1 == 495))) else (some false)) else (some false)) else (some false))) = some r := H
 have A2 := Aside0.mk A20
 clear A20
 replace H := Option.bind_eq_some_iff.mp H
 obtain ⟨⟨t196, t197, t198⟩, A30, H⟩ := H
 replace H : (if t194 = 0 then (if (t192 == 120 && (t193 == 260)) = true then (if t198 = 0 then (some (t196 == 165 && (t197 == 495))) else (some false)) else (some false)) else (some false)) = some r := H
 have A3 := Aside0.mk A30
 clear A30
 by_cases c4 : t194 = 0
 ·rw [if_pos c4] at H
  have c4b0 : (t194 == 0) = true := beq_iff_eq.mpr c4
  have c4b1 : (t194 != 0) = false := bne_eq_false_iff_eq.mpr c4
  clear c4
  by_cases c5 : (t192 == 120 && (t193 == 260)) = true
  ·rw [if_pos c5] at H
   have c5b0 : (t192 == 120 && (t193 == 260)) = true := c5
   (try (have c5b1 : decide (t192 = 120 && (t193 == 260)) = true := by simpa using c5))
   (try (have c5b2 : (t192 == 120 && (t193 == 260)) = true := by simpa using c5))
   clear c5
   by_cases c6 : t198 = 0
   ·rw [if_pos c6] at H
    have c6b0 : (t198 == 0) = true := beq_iff_eq.mpr c6
    have c6b1 : (t198 != 0) = false := bne_eq_false_iff_eq.mpr c6
    clear c6
    obtain rfl := Option.some.inj H
    go_enter Try.func8, Try.ntmps8
    go_wp2_with (first | ((with_reducible refine gate_callee (f := 19) rfl ?_); refine goesL_ (some 6) rfl rfl Try.func19 (by kernel_rfl) rfl #[] rfl za ?_; (with_reducible refine (thatchlaw07_Example.calls  t180 t183 t186 t187 t188 t189 _ A1.out).mono ?_); rintro e w7 ⟨v181, v184, v190, rfl, ho0, ho1, ho2, hb⟩; refine ⟨_, rfl, ?_⟩; have n0_ := Aside0.mk (Kd.R_lower ho0 (below_size (zw HB))); have n1_ := Aside0.mk (Kd.R_lower ho1 (below_size (zw HB))); have n2_ := Aside0.mk (Kd.R_lower ho2 (below_size (zw HB))); have n3_ := zY HB hb; clear HB; have HO182 := n0_; have HO185 := n1_; have HO191 := n2_; have HB := n3_; clear n0_ n1_ n2_ n3_; (try clear hb); (try clear hb2); (try clear hk); (try clear hi); (try clear ho0); (try clear ho1); (try clear ho2); obtain ⟨Ao8, co8, eo8⟩ := Kd.R_slice HO182.out; subst eo8; obtain ⟨Ao9, co9, eo9⟩ := Kd.R_slice HO185.out; subst eo9; obtain ⟨Ao10, co10, eo10⟩ := Kd.R_slice HO191.out; subst eo10) | ((with_reducible refine gate_callee (f := 13) rfl ?_); refine goesL_ (some 8) rfl rfl Try.func13 (by kernel_rfl) rfl #[.agg #[.slice Ao8 t180.length co8, .slice Ao9 t183.length co9, .int .i64 t186, .int .i64 t187, .int .i64 t188, .slice Ao10 t189.length co10], .agg #[.int .i64 20, .int .i64 10]] rfl za ?_; (with_reducible refine (wear_Bounds.calls k _ _ t180 _ _ t183 t186 t187 t188 _ _ t189 20 10 t192 t193 t194 _ ?side1 ?side2 ?side3 ?side4 ?side5 ?side6 A2.out).mono ?_); (case side1 => exact zr (Kd.R_reads' HO182.out).2.2); (case side2 => exact (Kd.R_reads' HO182.out).2.1); (case side3 => exact zr (Kd.R_reads' HO185.out).2.2); (case side4 => exact (Kd.R_reads' HO185.out).2.1); (case side5 => exact zr (Kd.R_reads' HO191.out).2.2); (case side6 => exact (Kd.R_reads' HO191.out).2.1); rintro e w11 ⟨rfl, hb⟩; refine ⟨_, rfl, ?_⟩; have n0_ := Aside0.mk (Kd.R_below (zt HO182) hb); have n1_ := Aside0.mk (Kd.R_below (zt HO185) hb); have n2_ := Aside0.mk (Kd.R_below (zt HO191) hb); have n3_ := zY HB hb; clear HO182; clear HO185; clear HO191; clear HB; have HO182 := n0_; have HO185 := n1_; have HO191 := n2_; have HB := n3_; clear n0_ n1_ n2_ n3_; (try clear hb); (try clear hb2); (try clear hk); (try clear hi)) | ((with_reducible refine gate_dst (N := 1) rfl ?_); refine zx 1 #[.int .i64 0, .int .i64 0] 27 ?_; intro gb195 hg w12 hbox hb; have n0_ := Aside0.mk (Kd.R_below (zt HO182) hb); have n1_ := Aside0.mk (Kd.R_below (zt HO185) hb); have n2_ := Aside0.mk (Kd.R_below (zt HO191) hb); have n3_ := zY HB hb; have n4_ := Aside0.mk (hbox); have n5_ := zS hg HB; have n6_ := zS hg HB; clear HO182; clear HO185; clear HO191; clear HB; have HO182 := n0_; have HO185 := n1_; have HO191 := n2_; have HB := n3_; have BK195 := n4_; have GW195 := n5_; have GE195 := n6_; clear n0_ n1_ n2_ n3_ n4_ n5_ n6_; clear hb hbox hg; obtain ⟨hcz13_0, hcz13_1, hfz13_0, hfz13_1⟩ := zk2 BK195) | ((with_reducible refine gate_callee (f := 20) rfl ?_); refine goesL_ (some 14) rfl rfl Try.func20 (by kernel_rfl) rfl #[.agg #[.int .i64 100, .int .i64 200], .int .i64 1, .int .i64 2, .int .i64 10, .int .i64 50] rfl za ?_; (with_reducible refine (wear_Rate.calls 100 200 1 2 10 50 t196 t197 t198 _ A3.out).mono ?_); rintro e w14 ⟨rfl, hb⟩; refine ⟨_, rfl, ?_⟩; have n0_ := Aside0.mk (Kd.R_below (zF HO182 BK195) hb); have n1_ := Aside0.mk (Kd.R_below (zF HO185 BK195) hb); have n2_ := Aside0.mk (Kd.R_below (zF HO191 BK195) hb); have n3_ := Aside0.mk (blk_below (g := gb195) (o := .cells #[.int .i64 t192, .int .i64 t193] 27 (0, 0)) (by refine zQ ?_; refine blk_put (cs := #[.int .i64 t192, .int .i64 0]) ?_ 1 _ rfl; refine zQ ?_; refine blk_put (cs := #[.int .i64 0, .int .i64 0]) ?_ 0 _ rfl; (with_reducible repeat (first | refine blk_drewN ?_ _ | refine blk_drew ?_ | refine blk_alloc ?_ _)); exact BK195.out) hb); have n4_ := zY HB hb; clear HO182; clear HO185; clear HO191; clear BK195; clear HB; have HO182 := n0_; have HO185 := n1_; have HO191 := n2_; have BK195 := n3_; have HB := n4_; clear n0_ n1_ n2_ n3_ n4_; (try clear hb); (try clear hb2); (try clear hk); (try clear hi)) | ((with_reducible refine gate_dst (N := 3) rfl ?_); refine zx 3 #[.int .i64 0, .int .i64 0] 27 ?_; intro gb199 hg w15 hbox hb; have n0_ := Aside0.mk (Kd.R_below (zt HO182) hb); have n1_ := Aside0.mk (Kd.R_below (zt HO185) hb); have n2_ := Aside0.mk (Kd.R_below (zt HO191) hb); have n3_ := zD BK195 hb; have n4_ := zY HB hb; have n5_ := Aside0.mk (hbox); have n6_ := zS hg HB; have n7_ := zS hg HB; have n8_ := zN hg BK195; have n9_ := zM hg BK195; clear HO182; clear HO185; clear HO191; clear BK195; clear HB; have HO182 := n0_; have HO185 := n1_; have HO191 := n2_; have BK195 := n3_; have HB := n4_; have BK199 := n5_; have GW199 := n6_; have GE199 := n7_; have NB195_199 := n8_; have NB199_195 := n9_; clear n0_ n1_ n2_ n3_ n4_ n5_ n6_ n7_ n8_ n9_; clear hb hbox hg; have hnb16 := NB199_195.out; have hnc16 := NB195_199.out; obtain ⟨hcz17_0, hcz17_1, hfz17_0, hfz17_1⟩ := zk2 BK199; obtain ⟨hcz18_0, hcz18_1, hfz18_0, hfz18_1⟩ := zk2 BK195))
    go_ret
    exact ⟨ze, zw HB⟩
   rw [if_neg c6] at H
   have c6b0 : (t198 == 0) = false := beq_eq_false_iff_ne.mpr c6
   have c6b1 : (t198 != 0) = true := bne_iff_ne.mpr c6
   obtain rfl := Option.some.inj H
   go_enter Try.func8, Try.ntmps8
   go_wp2_with (first | ((with_reducible refine gate_callee (f := 19) rfl ?_); refine goesL_ (some 6) rfl rfl Try.func19 (by kernel_rfl) rfl #[] rfl za ?_; (with_reducible refine (thatchlaw07_Example.calls  t180 t183 t186 t187 t188 t189 _ A1.out).mono ?_); rintro e w19 ⟨v181, v184, v190, rfl, ho0, ho1, ho2, hb⟩; refine ⟨_, rfl, ?_⟩; have n0_ := Aside0.mk (Kd.R_lower ho0 (below_size (zw HB))); have n1_ := Aside0.mk (Kd.R_lower ho1 (below_size (zw HB))); have n2_ := Aside0.mk (Kd.R_lower ho2 (below_size (zw HB))); have n3_ := zY HB hb; clear HB; have HO182 := n0_; have HO185 := n1_; have HO191 := n2_; have HB := n3_; clear n0_ n1_ n2_ n3_; (try clear hb); (try clear hb2); (try clear hk); (try clear hi); (try clear ho0); (try clear ho1); (try clear ho2); obtain ⟨Ao20, co20, eo20⟩ := Kd.R_slice HO182.out; subst eo20; obtain ⟨Ao21, co21, eo21⟩ := Kd.R_slice HO185.out; subst eo21; obtain ⟨Ao22, co22, eo22⟩ := Kd.R_slice HO191.out; subst eo22) | ((with_reducible refine gate_callee (f := 13) rfl ?_); refine goesL_ (some 8) rfl rfl Try.func13 (by kernel_rfl) rfl #[.agg #[.slice Ao20 t180.length co20, .slice Ao21 t183.length co21, .int .i64 t186, .int .i64 t187, .int .i64 t188, .slice Ao22 t189.length co22], .agg #[.int .i64 20, .int .i64 10]] rfl za ?_; (with_reducible refine (wear_Bounds.calls k _ _ t180 _ _ t183 t186 t187 t188 _ _ t189 20 10 t192 t193 t194 _ ?side1 ?side2 ?side3 ?side4 ?side5 ?side6 A2.out).mono ?_); (case side1 => exact zr (Kd.R_reads' HO182.out).2.2); (case side2 => exact (Kd.R_reads' HO182.out).2.1); (case side3 => exact zr (Kd.R_reads' HO185.out).2.2); (case side4 => exact (Kd.R_reads' HO185.out).2.1); (case side5 => exact zr (Kd.R_reads' HO191.out).2.2); (case side6 => exact (Kd.R_reads' HO191.out).2.1); rintro e w23 ⟨rfl, hb⟩; refine ⟨_, rfl, ?_⟩; have n0_ := Aside0.mk (Kd.R_below (zt HO182) hb); have n1_ := Aside0.mk (Kd.R_below (zt HO185) hb); have n2_ := Aside0.mk (Kd.R_below (zt HO191) hb); have n3_ := zY HB hb; clear HO182; clear HO185; clear HO191; clear HB; have HO182 := n0_; have HO185 := n1_; have HO191 := n2_; have HB := n3_; clear n0_ n1_ n2_ n3_; (try clear hb); (try clear hb2); (try clear hk); (try clear hi)) | ((with_reducible refine gate_dst (N := 1) rfl ?_); refine zx 1 #[.int .i64 0, .int .i64 0] 27 ?_; intro gb195 hg w24 hbox hb; have n0_ := Aside0.mk (Kd.R_below (zt HO182) hb); have n1_ := Aside0.mk (Kd.R_below (zt HO185) hb); have n2_ := Aside0.mk (Kd.R_below (zt HO191) hb); have n3_ := zY HB hb; have n4_ := Aside0.mk (hbox); have n5_ := zS hg HB; have n6_ := zS hg HB; clear HO182; clear HO185; clear HO191; clear HB; have HO182 := n0_; have HO185 := n1_; have HO191 := n2_; have HB := n3_; have BK195 := n4_; have GW195 := n5_; have GE195 := n6_; clear n0_ n1_ n2_ n3_ n4_ n5_ n6_; clear hb hbox hg; obtain ⟨hcz25_0, hcz25_1, hfz25_0, hfz25_1⟩ := zk2 BK195) | ((with_reducible refine gate_callee (f := 20) rfl ?_); refine goesL_ (some 14) rfl rfl Try.func20 (by kernel_rfl) rfl #[.agg #[.int .i64 100, .int .i64 200], .int .i64 1, .int .i64 2, .int .i64 10, .int .i64 50] rfl za ?_; (with_reducible refine (wear_Rate.calls 100 200 1 2 10 50 t196 t197 t198 _ A3.out).mono ?_); rintro e w26 ⟨rfl, hb⟩; refine ⟨_, rfl, ?_⟩; have n0_ := Aside0.mk (Kd.R_below (zF HO182 BK195) hb); have n1_ := Aside0.mk (Kd.R_below (zF HO185 BK195) hb); have n2_ := Aside0.mk (Kd.R_below (zF HO191 BK195) hb); have n3_ := Aside0.mk (blk_below (g := gb195) (o := .cells #[.int .i64 t192, .int .i64 t193] 27 (0, 0)) (by refine zQ ?_; refine blk_put (cs := #[.int .i64 t192, .int .i64 0]) ?_ 1 _ rfl; refine zQ ?_; refine blk_put (cs := #[.int .i64 0, .int .i64 0]) ?_ 0 _ rfl; (with_reducible repeat (first | refine blk_drewN ?_ _ | refine blk_drew ?_ | refine blk_alloc ?_ _)); exact BK195.out) hb); have n4_ := zY HB hb; clear HO182; clear HO185; clear HO191; clear BK195; clear HB; have HO182 := n0_; have HO185 := n1_; have HO191 := n2_; have BK195 := n3_; have HB := n4_; clear n0_ n1_ n2_ n3_ n4_; (try clear hb); (try clear hb2); (try clear hk); (try clear hi)) | ((with_reducible refine gate_dst (N := 3) rfl ?_); refine zx 3 #[.int .i64 0, .int .i64 0] 27 ?_; intro gb199 hg w27 hbox hb; have n0_ := Aside0.mk (Kd.R_below (zt HO182) hb); have n1_ := Aside0.mk (Kd.R_below (zt HO185) hb); have n2_ := Aside0.mk (Kd.R_below (zt HO191) hb); have n3_ := zD BK195 hb; have n4_ := zY HB hb; have n5_ := Aside0.mk (hbox); have n6_ := zS hg HB; have n7_ := zS hg HB; have n8_ := zN hg BK195; have n9_ := zM hg BK195; clear HO182; clear HO185; clear HO191; clear BK195; clear HB; have HO182 := n0_; have HO185 := n1_; have HO191 := n2_; have BK195 := n3_; have HB := n4_; have BK199 := n5_; have GW199 := n6_; have GE199 := n7_; have NB195_199 := n8_; have NB199_195 := n9_; clear n0_ n1_ n2_ n3_ n4_ n5_ n6_ n7_ n8_ n9_; clear hb hbox hg; have hnb28 := NB199_195.out; have hnc28 := NB195_199.out; obtain ⟨hcz29_0, hcz29_1, hfz29_0, hfz29_1⟩ := zk2 BK199; obtain ⟨hcz30_0, hcz30_1, hfz30_0, hfz30_1⟩ := zk2 BK195))
   go_ret
   exact ⟨ze, zw HB⟩
  rw [if_neg c5] at H
  have c5b0 : (t192 == 120 && (t193 == 260)) = false := by simpa using c5
  (try (have c5b1 : decide (t192 = 120 && (t193 == 260)) = false := by simpa using c5))
  (try (have c5b2 : (t192 == 120 && (t193 == 260)) = false := by simpa using c5))
  (try (have c5b3 : ¬ (t192 = 120 && (t193 == 260)) := by simpa using c5))
  clear c5
  obtain rfl := Option.some.inj H
  go_enter Try.func8, Try.ntmps8
  go_wp2_with (first | ((with_reducible refine gate_callee (f := 19) rfl ?_); refine goesL_ (some 6) rfl rfl Try.func19 (by kernel_rfl) rfl #[] rfl za ?_; (with_reducible refine (thatchlaw07_Example.calls  t180 t183 t186 t187 t188 t189 _ A1.out).mono ?_); rintro e w31 ⟨v181, v184, v190, rfl, ho0, ho1, ho2, hb⟩; refine ⟨_, rfl, ?_⟩; have n0_ := Aside0.mk (Kd.R_lower ho0 (below_size (zw HB))); have n1_ := Aside0.mk (Kd.R_lower ho1 (below_size (zw HB))); have n2_ := Aside0.mk (Kd.R_lower ho2 (below_size (zw HB))); have n3_ := zY HB hb; clear HB; have HO182 := n0_; have HO185 := n1_; have HO191 := n2_; have HB := n3_; clear n0_ n1_ n2_ n3_; (try clear hb); (try clear hb2); (try clear hk); (try clear hi); (try clear ho0); (try clear ho1); (try clear ho2); obtain ⟨Ao32, co32, eo32⟩ := Kd.R_slice HO182.out; subst eo32; obtain ⟨Ao33, co33, eo33⟩ := Kd.R_slice HO185.out; subst eo33; obtain ⟨Ao34, co34, eo34⟩ := Kd.R_slice HO191.out; subst eo34) | ((with_reducible refine gate_callee (f := 13) rfl ?_); refine goesL_ (some 8) rfl rfl Try.func13 (by kernel_rfl) rfl #[.agg #[.slice Ao32 t180.length co32, .slice Ao33 t183.length co33, .int .i64 t186, .int .i64 t187, .int .i64 t188, .slice Ao34 t189.length co34], .agg #[.int .i64 20, .int .i64 10]] rfl za ?_; (with_reducible refine (wear_Bounds.calls k _ _ t180 _ _ t183 t186 t187 t188 _ _ t189 20 10 t192 t193 t194 _ ?side1 ?side2 ?side3 ?side4 ?side5 ?side6 A2.out).mono ?_); (case side1 => exact zr (Kd.R_reads' HO182.out).2.2); (case side2 => exact (Kd.R_reads' HO182.out).2.1); (case side3 => exact zr (Kd.R_reads' HO185.out).2.2); (case side4 => exact (Kd.R_reads' HO185.out).2.1); (case side5 => exact zr (Kd.R_reads' HO191.out).2.2); (case side6 => exact (Kd.R_reads' HO191.out).2.1); rintro e w35 ⟨rfl, hb⟩; refine ⟨_, rfl, ?_⟩; have n0_ := Aside0.mk (Kd.R_below (zt HO182) hb); have n1_ := Aside0.mk (Kd.R_below (zt HO185) hb); have n2_ := Aside0.mk (Kd.R_below (zt HO191) hb); have n3_ := zY HB hb; clear HO182; clear HO185; clear HO191; clear HB; have HO182 := n0_; have HO185 := n1_; have HO191 := n2_; have HB := n3_; clear n0_ n1_ n2_ n3_; (try clear hb); (try clear hb2); (try clear hk); (try clear hi)) | ((with_reducible refine gate_dst (N := 1) rfl ?_); refine zx 1 #[.int .i64 0, .int .i64 0] 27 ?_; intro gb195 hg w36 hbox hb; have n0_ := Aside0.mk (Kd.R_below (zt HO182) hb); have n1_ := Aside0.mk (Kd.R_below (zt HO185) hb); have n2_ := Aside0.mk (Kd.R_below (zt HO191) hb); have n3_ := zY HB hb; have n4_ := Aside0.mk (hbox); have n5_ := zS hg HB; have n6_ := zS hg HB; clear HO182; clear HO185; clear HO191; clear HB; have HO182 := n0_; have HO185 := n1_; have HO191 := n2_; have HB := n3_; have BK195 := n4_; have GW195 := n5_; have GE195 := n6_; clear n0_ n1_ n2_ n3_ n4_ n5_ n6_; clear hb hbox hg; obtain ⟨hcz37_0, hcz37_1, hfz37_0, hfz37_1⟩ := zk2 BK195) | ((with_reducible refine gate_callee (f := 20) rfl ?_); refine goesL_ (some 14) rfl rfl Try.func20 (by kernel_rfl) rfl #[.agg #[.int .i64 100, .int .i64 200], .int .i64 1, .int .i64 2, .int .i64 10, .int .i64 50] rfl za ?_; (with_reducible refine (wear_Rate.calls 100 200 1 2 10 50 t196 t197 t198 _ A3.out).mono ?_); rintro e w38 ⟨rfl, hb⟩; refine ⟨_, rfl, ?_⟩; have n0_ := Aside0.mk (Kd.R_below (zF HO182 BK195) hb); have n1_ := Aside0.mk (Kd.R_below (zF HO185 BK195) hb); have n2_ := Aside0.mk (Kd.R_below (zF HO191 BK195) hb); have n3_ := Aside0.mk (blk_below (g := gb195) (o := .cells #[.int .i64 t192, .int .i64 t193] 27 (0, 0)) (by refine zQ ?_; refine blk_put (cs := #[.int .i64 t192, .int .i64 0]) ?_ 1 _ rfl; refine zQ ?_; refine blk_put (cs := #[.int .i64 0, .int .i64 0]) ?_ 0 _ rfl; (with_reducible repeat (first | refine blk_drewN ?_ _ | refine blk_drew ?_ | refine blk_alloc ?_ _)); exact BK195.out) hb); have n4_ := zY HB hb; clear HO182; clear HO185; clear HO191; clear BK195; clear HB; have HO182 := n0_; have HO185 := n1_; have HO191 := n2_; have BK195 := n3_; have HB := n4_; clear n0_ n1_ n2_ n3_ n4_; (try clear hb); (try clear hb2); (try clear hk); (try clear hi)) | ((with_reducible refine gate_dst (N := 3) rfl ?_); refine zx 3 #[.int .i64 0, .int .i64 0] 27 ?_; intro gb199 hg w39 hbox hb; have n0_ := Aside0.mk (Kd.R_below (zt HO182) hb); have n1_ := Aside0.mk (Kd.R_below (zt HO185) hb); have n2_ := Aside0.mk (Kd.R_below (zt HO191) hb); have n3_ := zD BK195 hb; have n4_ := zY HB hb; have n5_ := Aside0.mk (hbox); have n6_ := zS hg HB; have n7_ := zS hg HB; have n8_ := zN hg BK195; have n9_ := zM hg BK195; clear HO182; clear HO185; clear HO191; clear BK195; clear HB; have HO182 := n0_; have HO185 := n1_; have HO191 := n2_; have BK195 := n3_; have HB := n4_; have BK199 := n5_; have GW199 := n6_; have GE199 := n7_; have NB195_199 := n8_; have NB199_195 := n9_; clear n0_ n1_ n2_ n3_ n4_ n5_ n6_ n7_ n8_ n9_; clear hb hbox hg; have hnb40 := NB199_195.out; have hnc40 := NB195_199.out; obtain ⟨hcz41_0, hcz41_1, hfz41_0, hfz41_1⟩ := zk2 BK199; obtain ⟨hcz42_0, hcz42_1, hfz42_0, hfz42_1⟩ := zk2 BK195))
  go_ret
  exact ⟨ze, zw HB⟩
 rw [if_neg c4] at H
 have c4b0 : (t194 == 0) = false := beq_eq_false_iff_ne.mpr c4
 have c4b1 : (t194 != 0) = true := bne_iff_ne.mpr c4
 obtain rfl := Option.some.inj H
 go_enter Try.func8, Try.ntmps8
 go_wp2_with (first | ((with_reducible refine gate_callee (f := 19) rfl ?_); refine goesL_ (some 6) rfl rfl Try.func19 (by kernel_rfl) rfl #[] rfl za ?_; (with_reducible refine (thatchlaw07_Example.calls  t180 t183 t186 t187 t188 t189 _ A1.out).mono ?_); rintro e w43 ⟨v181, v184, v190, rfl, ho0, ho1, ho2, hb⟩; refine ⟨_, rfl, ?_⟩; have n0_ := Aside0.mk (Kd.R_lower ho0 (below_size (zw HB))); have n1_ := Aside0.mk (Kd.R_lower ho1 (below_size (zw HB))); have n2_ := Aside0.mk (Kd.R_lower ho2 (below_size (zw HB))); have n3_ := zY HB hb; clear HB; have HO182 := n0_; have HO185 := n1_; have HO191 := n2_; have HB := n3_; clear n0_ n1_ n2_ n3_; (try clear hb); (try clear hb2); (try clear hk); (try clear hi); (try clear ho0); (try clear ho1); (try clear ho2); obtain ⟨Ao44, co44, eo44⟩ := Kd.R_slice HO182.out; subst eo44; obtain ⟨Ao45, co45, eo45⟩ := Kd.R_slice HO185.out; subst eo45; obtain ⟨Ao46, co46, eo46⟩ := Kd.R_slice HO191.out; subst eo46) | ((with_reducible refine gate_callee (f := 13) rfl ?_); refine goesL_ (some 8) rfl rfl Try.func13 (by kernel_rfl) rfl #[.agg #[.slice Ao44 t180.length co44, .slice Ao45 t183.length co45, .int .i64 t186, .int .i64 t187, .int .i64 t188, .slice Ao46 t189.length co46], .agg #[.int .i64 20, .int .i64 10]] rfl za ?_; (with_reducible refine (wear_Bounds.calls k _ _ t180 _ _ t183 t186 t187 t188 _ _ t189 20 10 t192 t193 t194 _ ?side1 ?side2 ?side3 ?side4 ?side5 ?side6 A2.out).mono ?_); (case side1 => exact zr (Kd.R_reads' HO182.out).2.2); (case side2 => exact (Kd.R_reads' HO182.out).2.1); (case side3 => exact zr (Kd.R_reads' HO185.out).2.2); (case side4 => exact (Kd.R_reads' HO185.out).2.1); (case side5 => exact zr (Kd.R_reads' HO191.out).2.2); (case side6 => exact (Kd.R_reads' HO191.out).2.1); rintro e w47 ⟨rfl, hb⟩; refine ⟨_, rfl, ?_⟩; have n0_ := Aside0.mk (Kd.R_below (zt HO182) hb); have n1_ := Aside0.mk (Kd.R_below (zt HO185) hb); have n2_ := Aside0.mk (Kd.R_below (zt HO191) hb); have n3_ := zY HB hb; clear HO182; clear HO185; clear HO191; clear HB; have HO182 := n0_; have HO185 := n1_; have HO191 := n2_; have HB := n3_; clear n0_ n1_ n2_ n3_; (try clear hb); (try clear hb2); (try clear hk); (try clear hi)) | ((with_reducible refine gate_dst (N := 1) rfl ?_); refine zx 1 #[.int .i64 0, .int .i64 0] 27 ?_; intro gb195 hg w48 hbox hb; have n0_ := Aside0.mk (Kd.R_below (zt HO182) hb); have n1_ := Aside0.mk (Kd.R_below (zt HO185) hb); have n2_ := Aside0.mk (Kd.R_below (zt HO191) hb); have n3_ := zY HB hb; have n4_ := Aside0.mk (hbox); have n5_ := zS hg HB; have n6_ := zS hg HB; clear HO182; clear HO185; clear HO191; clear HB; have HO182 := n0_; have HO185 := n1_; have HO191 := n2_; have HB := n3_; have BK195 := n4_; have GW195 := n5_; have GE195 := n6_; clear n0_ n1_ n2_ n3_ n4_ n5_ n6_; clear hb hbox hg; obtain ⟨hcz49_0, hcz49_1, hfz49_0, hfz49_1⟩ := zk2 BK195) | ((with_reducible refine gate_callee (f := 20) rfl ?_); refine goesL_ (some 14) rfl rfl Try.func20 (by kernel_rfl) rfl #[.agg #[.int .i64 100, .int .i64 200], .int .i64 1, .int .i64 2, .int .i64 10, .int .i64 50] rfl za ?_; (with_reducible refine (wear_Rate.calls 100 200 1 2 10 50 t196 t197 t198 _ A3.out).mono ?_); rintro e w50 ⟨rfl, hb⟩; refine ⟨_, rfl, ?_⟩; have n0_ := Aside0.mk (Kd.R_below (zF HO182 BK195) hb); have n1_ := Aside0.mk (Kd.R_below (zF HO185 BK195) hb); have n2_ := Aside0.mk (Kd.R_below (zF HO191 BK195) hb); have n3_ := Aside0.mk (blk_below (g := gb195) (o := .cells #[.int .i64 t192, .int .i64 t193] 27 (0, 0)) (by refine zQ ?_; refine blk_put (cs := #[.int .i64 t192, .int .i64 0]) ?_ 1 _ rfl; refine zQ ?_; refine blk_put (cs := #[.int .i64 0, .int .i64 0]) ?_ 0 _ rfl; (with_reducible repeat (first | refine blk_drewN ?_ _ | refine blk_drew ?_ | refine blk_alloc ?_ _)); exact BK195.out) hb); have n4_ := zY HB hb; clear HO182; clear HO185; clear HO191; clear BK195; clear HB; have HO182 := n0_; have HO185 := n1_; have HO191 := n2_; have BK195 := n3_; have HB := n4_; clear n0_ n1_ n2_ n3_ n4_; (try clear hb); (try clear hb2); (try clear hk); (try clear hi)) | ((with_reducible refine gate_dst (N := 3) rfl ?_); refine zx 3 #[.int .i64 0, .int .i64 0] 27 ?_; intro gb199 hg w51 hbox hb; have n0_ := Aside0.mk (Kd.R_below (zt HO182) hb); have n1_ := Aside0.mk (Kd.R_below (zt HO185) hb); have n2_ := Aside0.mk (Kd.R_below (zt HO191) hb); have n3_ := zD BK195 hb; have n4_ := zY HB hb; have n5_ := Aside0.mk (hbox); have n6_ := zS hg HB; have n7_ := zS hg HB; have n8_ := zN hg BK195; have n9_ := zM hg BK195; clear HO182; clear HO185; clear HO191; clear BK195; clear HB; have HO182 := n0_; have HO185 := n1_; have HO191 := n2_; have BK195 := n3_; have HB := n4_; have BK199 := n5_; have GW199 := n6_; have GE199 := n7_; have NB195_199 := n8_; have NB199_195 := n9_; clear n0_ n1_ n2_ n3_ n4_ n5_ n6_ n7_ n8_ n9_; clear hb hbox hg; have hnb52 := NB199_195.out; have hnc52 := NB195_199.out; obtain ⟨hcz53_0, hcz53_1, hfz53_0, hfz53_1⟩ := zk2 BK199))
 go_ret
 exact ⟨ze, zw HB⟩
end Go.Proofs.Ytcfpclehogdmbaa.Q
end
section
namespace Go.Proofs.Ytcfpclehogdmbaa.Q
open Go.RowKit Go.Proofs.YtcfpclehogdmbaaW.PrintWords Go.Proofs.YtcfpclehogdmbaaW.PrintLast Go.Proofs.YtcfpclehogdmbaaW.PrintMore
attribute [local go_sem] max2_int min2_int max_two min_two max_three min_three max_four min_four   -- for this text's walks alone
set_option linter.unusedVariables false
set_option linter.unusedSimpArgs false
theorem eqA55 (d : Nat) (w : World) (x0 y0 : Int) (x1 y1 : Int) (x2 y2 : Int) (x3 y3 : Int) :
  (Op.equalIn (d + 3) 55 (.agg #[.int .i64 x0, .int .i64 x1, .int .i64 x2, .int .i64 x3]) (.agg #[.int .i64 y0, .int .i64 y1, .int .i64 y2, .int .i64 y3])).run Try.prog w = .ok ((x0 == y0 && (x1 == y1)) && ((x2 == y2 && (x3 == y3)))) w := by
 refine eqA_of Try.underlying55 (by kernel_rfl) ?_
 refine eqf_cons (by rfl) (by go_simp) (by go_simp) (eqA32 (d + 0) w _ _ _ _) ?_
 exact eqf_last (by rfl) (by go_simp) (by go_simp) (eqA32 (d + 0) w _ _ _ _)
end Go.Proofs.Ytcfpclehogdmbaa.Q
end
section
namespace Go.Proofs.Ytcfpclehogdmbaa.Q
open Go.RowKit Go.Proofs.YtcfpclehogdmbaaW.PrintWords Go.Proofs.YtcfpclehogdmbaaW.PrintLast Go.Proofs.YtcfpclehogdmbaaW.PrintMore
attribute [local go_sem] max2_int min2_int max_two min_two max_three min_three max_four min_four   -- for this text's walks alone
set_option linter.unusedVariables false
set_option linter.unusedSimpArgs false
theorem eqA67 (d : Nat) (w : World) (x0 y0 : Int) (x1 y1 : Int) (x2 y2 : Int) (x3 y3 : Int) :
  (Op.equalIn (d + 3) 67 (.agg #[.int .i64 x0, .int .i64 x1, .int .i64 x2, .int .i64 x3]) (.agg #[.int .i64 y0, .int .i64 y1, .int .i64 y2, .int .i64 y3])).run Try.prog w = .ok ((x0 == y0 && (x1 == y1)) && ((x2 == y2 && (x3 == y3)))) w := by
 refine eqA_of Try.underlying67 (by kernel_rfl) ?_
 refine eqf_cons (by rfl) (by go_simp) (by go_simp) (eqA32 (d + 0) w _ _ _ _) ?_
 exact eqf_last (by rfl) (by go_simp) (by go_simp) (eqA27 (d + 0) w _ _ _ _)
end Go.Proofs.Ytcfpclehogdmbaa.Q
end
section
namespace Go.Proofs.Ytcfpclehogdmbaa.Q
open Go.RowKit Go.Proofs.YtcfpclehogdmbaaW.PrintWords Go.Proofs.YtcfpclehogdmbaaW.PrintLast Go.Proofs.YtcfpclehogdmbaaW.PrintMore
attribute [local go_sem] max2_int min2_int max_two min_two max_three min_three max_four min_four   -- for this text's walks alone
set_option linter.unusedVariables false
set_option linter.unusedSimpArgs false
attribute [local go_sem high] eqA27 eqA32 eqA55 eqA67
mutual
def thatchref07_Same.j0 : Nat → Bool → List (S32) → List (S55) → Int → Int → Int → List (S67) → List (S32) → List (S55) → Int → Int → Int → List (S67) → Option (Bool)
 | 0, _, _, _, _, _, _, _, _, _, _, _, _, _ => none
 | k + 1, x50, x329000, x329001, x329002, x329003, x329004, x329005, x330000, x330001, x330002, x330003, x330004, x330005 => if x50 = true then (some false) else (thatchref07_Same.l0 k 0 x329000 x329001 x329002 x329003 x329004 x329005 x330000 x330001 x330002 x330003 x330004 x330005)
def thatchref07_Same.l0 : Nat → Int → List (S32) → List (S55) → Int → Int → Int → List (S67) → List (S32) → List (S55) → Int → Int → Int → List (S67) → Option (Bool)
 | 0, _, _, _, _, _, _, _, _, _, _, _, _, _ => none
 | k + 1, x5, x329000, x329001, x329002, x329003, x329004, x329005, x330000, x330001, x330002, x330003, x330004, x330005 => if x5 < (x329005.length : Int) then (if 0 ≤ x5 then (if x5 < (x330005.length : Int) then (if ((!(((rd_T67 x329005 x5).f0.f0) == ((rd_T67 x330005 x5).f0.f0)) || (!(((rd_T67 x329005 x5).f0.f1) == ((rd_T67 x330005 x5).f0.f1)))) || ((!(((rd_T67 x329005 x5).f1.f0) == ((rd_T67 x330005 x5).f1.f0)) || (!(((rd_T67 x329005 x5).f1.f1) == ((rd_T67 x330005 x5).f1.f1)))))) = true then (some false) else (thatchref07_Same.l0 k (wrap64 (x5 + 1)) x329000 x329001 x329002 x329003 x329004 x329005 x330000 x330001 x330002 x330003 x330004 x330005)) else (none)) else (none)) else (thatchref07_Same.l1 k 0 x329000 x329001 x329002 x329003 x329004 x329005 x330000 x330001 x330002 x330003 x330004 x330005)
def thatchref07_Same.l1 : Nat → Int → List (S32) → List (S55) → Int → Int → Int → List (S67) → List (S32) → List (S55) → Int → Int → Int → List (S67) → Option (Bool)
 | 0, _, _, _, _, _, _, _, _, _, _, _, _, _ => none
 | k + 1, x6, x329000, x329001, x329002, x329003, x329004, x329005, x330000, x330001, x330002, x330003, x330004, x330005 => if x6 < (x329000.length : Int) then (if 0 ≤ x6 then (if x6 < (x330000.length : Int) then (if (!(((rd_T32 x329000 x6).f0) == ((rd_T32 x330000 x6).f0)) || (!(((rd_T32 x329000 x6).f1) == ((rd_T32 x330000 x6).f1)))) = true then (some false) else (thatchref07_Same.l1 k (wrap64 (x6 + 1)) x329000 x329001 x329002 x329003 x329004 x329005 x330000 x330001 x330002 x330003 x330004 x330005)) else (none)) else (none)) else (thatchref07_Same.l2 k 0 x329000 x329001 x329002 x329003 x329004 x329005 x330000 x330001 x330002 x330003 x330004 x330005)
def thatchref07_Same.l2 : Nat → Int → List (S32) → List (S55) → Int → Int → Int → List (S67) → List (S32) → List (S55) → Int → Int → Int → List (S67) → Option (Bool)
 | 0, _, _, _, _, _, _, _, _, _, _, _, _, _ => none
 | k + 1, x7, x329000, x329001, x329002, x329003, x329004, x329005, x330000, x330001, x330002, x330003, x330004, x330005 => if x7 < (x329001.length : Int) then (if 0 ≤ x7 then (if x7 < (x330001.length : Int) then (if ((!(((rd_T55 x329001 x7).f0.f0) == ((rd_T55 x330001 x7).f0.f0)) || (!(((rd_T55 x329001 x7).f0.f1) == ((rd_T55 x330001 x7).f0.f1)))) || ((!(((rd_T55 x329001 x7).f1.f0) == ((rd_T55 x330001 x7).f1.f0)) || (!(((rd_T55 x329001 x7).f1.f1) == ((rd_T55 x330001 x7).f1.f1)))))) = true then (some false) else (thatchref07_Same.l2 k (wrap64 (x7 + 1)) x329000 x329001 x329002 x329003 x329004 x329005 x330000 x330001 x330002 x330003 x330004 x330005)) else (none)) else (none)) else (some true)
end
def thatchref07_Same.f (k : Nat) (l0_0 : List (S32)) (l0_1 : List (S55)) (a0_2 : Int) (a0_3 : Int) (a0_4 : Int) (l0_5 : List (S67)) (l1_0 : List (S32)) (l1_1 : List (S55)) (a1_2 : Int) (a1_3 : Int) (a1_4 : Int) (l1_5 : List (S67)) : Option (Bool) := if a0_2 = a1_2 then (if (!(a0_3 == a1_3) || (!(a0_4 == a1_4))) = true then (thatchref07_Same.j0 k true l0_0 l0_1 a0_2 a0_3 a0_4 l0_5 l1_0 l1_1 a1_2 a1_3 a1_4 l1_5) else (if (l0_5.length : Int) = (l1_5.length : Int) then (if (l0_0.length : Int) = (l1_0.length : Int) then (thatchref07_Same.j0 k ((l0_1.length : Int) != (l1_1.length : Int)) l0_0 l0_1 a0_2 a0_3 a0_4 l0_5 l1_0 l1_1 a1_2 a1_3 a1_4 l1_5) else (thatchref07_Same.j0 k true l0_0 l0_1 a0_2 a0_3 a0_4 l0_5 l1_0 l1_1 a1_2 a1_3 a1_4 l1_5)) else (thatchref07_Same.j0 k true l0_0 l0_1 a0_2 a0_3 a0_4 l0_5 l1_0 l1_1 a1_2 a1_3 a1_4 l1_5))) else (thatchref07_Same.j0 k true l0_0 l0_1 a0_2 a0_3 a0_4 l0_5 l1_0 l1_1 a1_2 a1_3 a1_4 l1_5)
set_option maxHeartbeats 8000000 in
set_option maxRecDepth 100000 in
theorem thatchref07_Same.calls (k : Nat) (A0_0 : Option Addr) (c0_0 : Nat) (l0_0 : List (S32)) (A0_1 : Option Addr) (c0_1 : Nat) (l0_1 : List (S55)) (a0_2 : Int) (a0_3 : Int) (a0_4 : Int) (A0_5 : Option Addr) (c0_5 : Nat) (l0_5 : List (S67)) (A1_0 : Option Addr) (c1_0 : Nat) (l1_0 : List (S32)) (A1_1 : Option Addr) (c1_1 : Nat) (l1_1 : List (S55)) (a1_2 : Int) (a1_3 : Int) (a1_4 : Int) (A1_5 : Option Addr) (c1_5 : Nat) (l1_5 : List (S67)) (r : Bool) (w : World) (hr0_0 : Kd.C k32 w A0_0 l0_0.length l0_0) (hc0_0 : l0_0.length ≤ c0_0) (hr0_1 : Kd.C k55 w A0_1 l0_1.length l0_1) (hc0_1 : l0_1.length ≤ c0_1) (hr0_5 : Kd.C k67 w A0_5 l0_5.length l0_5) (hc0_5 : l0_5.length ≤ c0_5) (hr1_0 : Kd.C k32 w A1_0 l1_0.length l1_0) (hc1_0 : l1_0.length ≤ c1_0) (hr1_1 : Kd.C k55 w A1_1 l1_1.length l1_1) (hc1_1 : l1_1.length ≤ c1_1) (hr1_5 : Kd.C k67 w A1_5 l1_5.length l1_5) (hc1_5 : l1_5.length ≤ c1_5) (h : thatchref07_Same.f k l0_0 l0_1 a0_2 a0_3 a0_4 l0_5 l1_0 l1_1 a1_2 a1_3 a1_4 l1_5 = some r) :
  Calls Try.prog 11 #[.agg #[.slice A0_0 l0_0.length c0_0, .slice A0_1 l0_1.length c0_1, .int .i64 a0_2, .int .i64 a0_3, .int .i64 a0_4, .slice A0_5 l0_5.length c0_5], .agg #[.slice A1_0 l1_0.length c1_0, .slice A1_1 l1_1.length c1_1, .int .i64 a1_2, .int .i64 a1_3, .int .i64 a1_4, .slice A1_5 l1_5.length c1_5]] w fun e w' => e = .returned (.bool r) ∧ Below w.heap.size w w' := by
 have hu30 := Try.underlying30
 have hu27 := Try.underlying27
 have hu67 := Try.underlying67
 have hu32 := Try.underlying32
 have hu55 := Try.underlying55
 have HR0_0 := Aside0.mk hr0_0
 have HC0_0 := Aside0.mk hc0_0
 clear hr0_0 hc0_0
 have HR0_1 := Aside0.mk hr0_1
 have HC0_1 := Aside0.mk hc0_1
 clear hr0_1 hc0_1
 have HR0_5 := Aside0.mk hr0_5
 have HC0_5 := Aside0.mk hc0_5
 clear hr0_5 hc0_5
 have HR1_0 := Aside0.mk hr1_0
 have HC1_0 := Aside0.mk hc1_0
 clear hr1_0 hc1_0
 have HR1_1 := Aside0.mk hr1_1
 have HC1_1 := Aside0.mk hc1_1
 clear hr1_1 hc1_1
 have HR1_5 := Aside0.mk hr1_5
 have HC1_5 := Aside0.mk hc1_5
 clear hr1_5 hc1_5
 have HB := Aside0.mk (Below.refl w.heap.size w)
 have H : (if a0_2 = a1_2 then (if (!(a0_3 == a1_3) || (!(a0_4 == a1_4))) = true then (thatchref07_Same.j0 k true l0_0 l0_1 a0_2 a0_3 a0_4 l0_5 l1_0 l1_1 a1_2 a1_3 a1_4 l1_5) else (if (l0_5.length : Int) = (l1_5.length : Int) then (if (l0_0.length : Int) = (l1_0.length : Int) then (thatchref07_Same.j0 k ((l0_1.length : Int) != (l1_1.length : Int)) l0_0 l0_1 a0_2 a0_3 a0_4 l0_5 l1_0 l1_1 a1_2 a1_3 a1_4 l1_5) else (thatchref07_Same.j0 k true l0_0 l0_1 a0_2 a0_3 a0_4 l0_5 l1_0 l1_1 a1_2 a1_3 a1_4 l1_5)) else (thatchref07_Same.j0 k true l0_0 l0_1 a0_2 a0_3 a0_4 l0_5 l1_0 l1_1 a1_2 a1_3 a1_4 l1_5))) else (thatchref07_Same.j0 k true l0_0 l0_1 a0_2 a0_3 a0_4 l0_5 l1_0 l1_1 a1_2 a1_3 a1_4 l1_5)) = some r := h
 clear h
 have HC3 := Aside0.mk H
 clear H
 go_enter Try.func11, Try.ntmps11
 go_upto_region 1 with (first | ((with_reducible refine gate_dst (N := 2) rfl ?_); (try (refine gate_guard (by rfl) ?_; dsimp only)); refine zx 2 #[.slice A0_0 l0_0.length c0_0, .slice A0_1 l0_1.length c0_1, .int .i64 a0_2, .int .i64 a0_3, .int .i64 a0_4, .slice A0_5 l0_5.length c0_5] 30 ?_; intro gb328 hg w4 hbox hb; have n0_ := zY HB hb; have n1_ := Aside0.mk (hbox); have n2_ := zS hg HB; have n3_ := zS hg HB; clear HB; have HB := n0_; have BK328 := n1_; have GW328 := n2_; have GE328 := n3_; clear n0_ n1_ n2_ n3_; clear hb hbox hg) | ((with_reducible refine gate_dst (N := 3) rfl ?_); (try (refine gate_guard (by rfl) ?_; dsimp only)); refine zx 3 #[.slice A1_0 l1_0.length c1_0, .slice A1_1 l1_1.length c1_1, .int .i64 a1_2, .int .i64 a1_3, .int .i64 a1_4, .slice A1_5 l1_5.length c1_5] 30 ?_; intro gb329 hg w5 hbox hb; have n0_ := zD BK328 hb; have n1_ := zY HB hb; have n2_ := Aside0.mk (hbox); have n3_ := zS hg HB; have n4_ := zS hg HB; have n5_ := zN hg BK328; have n6_ := zM hg BK328; clear BK328; clear HB; have BK328 := n0_; have HB := n1_; have BK329 := n2_; have GW329 := n3_; have GE329 := n4_; have NB328_329 := n5_; have NB329_328 := n6_; clear n0_ n1_ n2_ n3_ n4_ n5_ n6_; clear hb hbox hg))
 repeat (go_quiet (first | ((with_reducible refine gate_dst (N := 2) rfl ?_); (try (refine gate_guard (by rfl) ?_; dsimp only)); refine zx 2 #[.slice A0_0 l0_0.length c0_0, .slice A0_1 l0_1.length c0_1, .int .i64 a0_2, .int .i64 a0_3, .int .i64 a0_4, .slice A0_5 l0_5.length c0_5] 30 ?_; intro gb328 hg w4 hbox hb; have n0_ := zY HB hb; have n1_ := Aside0.mk (hbox); have n2_ := zS hg HB; have n3_ := zS hg HB; clear HB; have HB := n0_; have BK328 := n1_; have GW328 := n2_; have GE328 := n3_; clear n0_ n1_ n2_ n3_; clear hb hbox hg) | ((with_reducible refine gate_dst (N := 3) rfl ?_); (try (refine gate_guard (by rfl) ?_; dsimp only)); refine zx 3 #[.slice A1_0 l1_0.length c1_0, .slice A1_1 l1_1.length c1_1, .int .i64 a1_2, .int .i64 a1_3, .int .i64 a1_4, .slice A1_5 l1_5.length c1_5] 30 ?_; intro gb329 hg w5 hbox hb; have n0_ := zD BK328 hb; have n1_ := zY HB hb; have n2_ := Aside0.mk (hbox); have n3_ := zS hg HB; have n4_ := zS hg HB; have n5_ := zN hg BK328; have n6_ := zM hg BK328; clear BK328; clear HB; have BK328 := n0_; have HB := n1_; have BK329 := n2_; have GW329 := n3_; have GE329 := n4_; have NB328_329 := n5_; have NB329_328 := n6_; clear n0_ n1_ n2_ n3_ n4_ n5_ n6_; clear hb hbox hg)); go_upto_region 1 with (first | ((with_reducible refine gate_dst (N := 2) rfl ?_); (try (refine gate_guard (by rfl) ?_; dsimp only)); refine zx 2 #[.slice A0_0 l0_0.length c0_0, .slice A0_1 l0_1.length c0_1, .int .i64 a0_2, .int .i64 a0_3, .int .i64 a0_4, .slice A0_5 l0_5.length c0_5] 30 ?_; intro gb328 hg w4 hbox hb; have n0_ := zY HB hb; have n1_ := Aside0.mk (hbox); have n2_ := zS hg HB; have n3_ := zS hg HB; clear HB; have HB := n0_; have BK328 := n1_; have GW328 := n2_; have GE328 := n3_; clear n0_ n1_ n2_ n3_; clear hb hbox hg) | ((with_reducible refine gate_dst (N := 3) rfl ?_); (try (refine gate_guard (by rfl) ?_; dsimp only)); refine zx 3 #[.slice A1_0 l1_0.length c1_0, .slice A1_1 l1_1.length c1_1, .int .i64 a1_2, .int .i64 a1_3, .int .i64 a1_4, .slice A1_5 l1_5.length c1_5] 30 ?_; intro gb329 hg w5 hbox hb; have n0_ := zD BK328 hb; have n1_ := zY HB hb; have n2_ := Aside0.mk (hbox); have n3_ := zS hg HB; have n4_ := zS hg HB; have n5_ := zN hg BK328; have n6_ := zM hg BK328; clear BK328; clear HB; have BK328 := n0_; have HB := n1_; have BK329 := n2_; have GW329 := n3_; have GE329 := n4_; have NB328_329 := n5_; have NB329_328 := n6_; clear n0_ n1_ n2_ n3_ n4_ n5_ n6_; clear hb hbox hg)))
 (try simp only [Act.put, List.setIfInBounds_toArray, List.set_cons_zero, List.set_cons_succ])
 go_cut [50] (fun v50 wc => ∃ (kq : Nat) (x50_2 : Bool), v50 = .bool x50_2 ∧ Aside0 (thatchref07_Same.j0 kq x50_2 l0_0 l0_1 a0_2 a0_3 a0_4 l0_5 l1_0 l1_1 a1_2 a1_3 a1_4 l1_5 = some r) ∧ Aside0 (kq ≤ k) ∧ Aside0 (wc.heap[gb328]? = some (.cells #[(.slice A0_0 l0_0.length c0_0), (.slice A0_1 l0_1.length c0_1), .int .i64 a0_2, .int .i64 a0_3, .int .i64 a0_4, (.slice A0_5 l0_5.length c0_5)] 30 (0, 0))) ∧ Aside0 (wc.heap[gb329]? = some (.cells #[(.slice A1_0 l1_0.length c1_0), (.slice A1_1 l1_1.length c1_1), .int .i64 a1_2, .int .i64 a1_3, .int .i64 a1_4, (.slice A1_5 l1_5.length c1_5)] 30 (0, 0))) ∧ Aside0 (Below w.heap.size w wc))
 case first =>
  have H := HC3.out
  clear HC3
  by_cases c6 : a0_2 = a1_2
  ·rw [if_pos c6] at H
   have c6b0 : (a0_2 == a1_2) = true := beq_iff_eq.mpr c6
   have c6b1 : (a0_2 != a1_2) = false := bne_eq_false_iff_eq.mpr c6
   clear c6
   (first | rw [c6b0] | (simp only [i64_w, i32_w]; rw [c6b0]) | skip)
   by_cases c7 : (!(a0_3 == a1_3) || (!(a0_4 == a1_4))) = true
   ·rw [if_pos c7] at H
    have c7b0 : (!(a0_3 == a1_3) || (!(a0_4 == a1_4))) = true := c7
    clear c7
    have H' := Aside0.mk H
    clear H
    have hnb8 := NB328_329.out
    have hnc8 := NB329_328.out
    obtain ⟨hcz9_0, hcz9_1, hcz9_2, hcz9_3, hcz9_4, hcz9_5, hfz9_0, hfz9_1, hfz9_2, hfz9_3, hfz9_4, hfz9_5⟩ := zk6 BK328
    obtain ⟨hcz10_0, hcz10_1, hcz10_2, hcz10_3, hcz10_4, hcz10_5, hfz10_0, hfz10_1, hfz10_2, hfz10_3, hfz10_4, hfz10_5⟩ := zk6 BK329
    go_wp2
    repeat (go_quiet (fail); try go_wp2)
    go_meet
    case rel => exact ⟨_, (true), zq, H', ⟨by first | omega | exact Nat.le_refl _⟩, ⟨zb BK328⟩, ⟨zb BK329⟩, ⟨zw HB⟩⟩
   rw [if_neg c7] at H
   have c7b0 : (!(a0_3 == a1_3) || (!(a0_4 == a1_4))) = false := by simpa using c7
   clear c7
   by_cases c11 : (l0_5.length : Int) = (l1_5.length : Int)
   ·rw [if_pos c11] at H
    have c11b0 : ((l0_5.length : Int) == (l1_5.length : Int)) = true := beq_iff_eq.mpr c11
    have c11b1 : ((l0_5.length : Int) != (l1_5.length : Int)) = false := bne_eq_false_iff_eq.mpr c11
    have c11b2 : (l0_5.length == l1_5.length) = true := by first | simpa using c11 | (simp at c11 ⊢; omega)
    clear c11
    by_cases c12 : (l0_0.length : Int) = (l1_0.length : Int)
    ·rw [if_pos c12] at H
     have c12b0 : ((l0_0.length : Int) == (l1_0.length : Int)) = true := beq_iff_eq.mpr c12
     have c12b1 : ((l0_0.length : Int) != (l1_0.length : Int)) = false := bne_eq_false_iff_eq.mpr c12
     have c12b2 : (l0_0.length == l1_0.length) = true := by first | simpa using c12 | (simp at c12 ⊢; omega)
     clear c12
     have H' := Aside0.mk H
     clear H
     have hnb13 := NB328_329.out
     have hnc13 := NB329_328.out
     obtain ⟨hcz14_0, hcz14_1, hcz14_2, hcz14_3, hcz14_4, hcz14_5, hfz14_0, hfz14_1, hfz14_2, hfz14_3, hfz14_4, hfz14_5⟩ := zk6 BK328
     obtain ⟨hcz15_0, hcz15_1, hcz15_2, hcz15_3, hcz15_4, hcz15_5, hfz15_0, hfz15_1, hfz15_2, hfz15_3, hfz15_4, hfz15_5⟩ := zk6 BK329
     go_wp2
     repeat (go_quiet (fail); try go_wp2)
     go_meet
     case rel => exact ⟨_, (((l0_1.length : Int) != (l1_1.length : Int))), zq, H', ⟨by first | omega | exact Nat.le_refl _⟩, ⟨zb BK328⟩, ⟨zb BK329⟩, ⟨zw HB⟩⟩
    rw [if_neg c12] at H
    have c12b0 : ((l0_0.length : Int) == (l1_0.length : Int)) = false := beq_eq_false_iff_ne.mpr c12
    have c12b1 : ((l0_0.length : Int) != (l1_0.length : Int)) = true := bne_iff_ne.mpr c12
    have c12b2 : (l0_0.length == l1_0.length) = false := by first | simpa using c12 | (simp at c12 ⊢; omega)
    have H' := Aside0.mk H
    clear H
    have hnb16 := NB328_329.out
    have hnc16 := NB329_328.out
    obtain ⟨hcz17_0, hcz17_1, hcz17_2, hcz17_3, hcz17_4, hcz17_5, hfz17_0, hfz17_1, hfz17_2, hfz17_3, hfz17_4, hfz17_5⟩ := zk6 BK328
    obtain ⟨hcz18_0, hcz18_1, hcz18_2, hcz18_3, hcz18_4, hcz18_5, hfz18_0, hfz18_1, hfz18_2, hfz18_3, hfz18_4, hfz18_5⟩ := zk6 BK329
    go_wp2
    repeat (go_quiet (fail); try go_wp2)
    go_meet
    case rel => exact ⟨_, (true), zq, H', ⟨by first | omega | exact Nat.le_refl _⟩, ⟨zb BK328⟩, ⟨zb BK329⟩, ⟨zw HB⟩⟩
   rw [if_neg c11] at H
   have c11b0 : ((l0_5.length : Int) == (l1_5.length : Int)) = false := beq_eq_false_iff_ne.mpr c11
   have c11b1 : ((l0_5.length : Int) != (l1_5.length : Int)) = true := bne_iff_ne.mpr c11
   have c11b2 : (l0_5.length == l1_5.length) = false := by first | simpa using c11 | (simp at c11 ⊢; omega)
   have H' := Aside0.mk H
   clear H
   have hnb19 := NB328_329.out
   have hnc19 := NB329_328.out
   obtain ⟨hcz20_0, hcz20_1, hcz20_2, hcz20_3, hcz20_4, hcz20_5, hfz20_0, hfz20_1, hfz20_2, hfz20_3, hfz20_4, hfz20_5⟩ := zk6 BK328
   obtain ⟨hcz21_0, hcz21_1, hcz21_2, hcz21_3, hcz21_4, hcz21_5, hfz21_0, hfz21_1, hfz21_2, hfz21_3, hfz21_4, hfz21_5⟩ := zk6 BK329
   go_wp2
   repeat (go_quiet (fail); try go_wp2)
   go_meet
   case rel => exact ⟨_, (true), zq, H', ⟨by first | omega | exact Nat.le_refl _⟩, ⟨zb BK328⟩, ⟨zb BK329⟩, ⟨zw HB⟩⟩
  rw [if_neg c6] at H
  have c6b0 : (a0_2 == a1_2) = false := beq_eq_false_iff_ne.mpr c6
  have c6b1 : (a0_2 != a1_2) = true := bne_iff_ne.mpr c6
  (first | rw [c6b0] | (simp only [i64_w, i32_w]; rw [c6b0]) | skip)
  have H' := Aside0.mk H
  clear H
  have hnb22 := NB328_329.out
  have hnc22 := NB329_328.out
  obtain ⟨hcz23_0, hcz23_1, hcz23_2, hcz23_3, hcz23_4, hcz23_5, hfz23_0, hfz23_1, hfz23_2, hfz23_3, hfz23_4, hfz23_5⟩ := zk6 BK328
  obtain ⟨hcz24_0, hcz24_1, hcz24_2, hcz24_3, hcz24_4, hcz24_5, hfz24_0, hfz24_1, hfz24_2, hfz24_3, hfz24_4, hfz24_5⟩ := zk6 BK329
  go_wp2
  repeat (go_quiet (fail); try go_wp2)
  go_meet
  case rel => exact ⟨_, (true), zq, H', ⟨by first | omega | exact Nat.le_refl _⟩, ⟨zb BK328⟩, ⟨zb BK329⟩, ⟨zw HB⟩⟩
 case rest =>
  clear HC3; try clear c1; try clear c2; try clear p2; try clear c6; try clear c6b0; try clear c6b1; try clear c7; try clear c7b0; try clear c8; try clear c11; try clear c11b0; try clear c11b1; try clear c11b2; try clear c12; try clear c12b0; try clear c12b1; try clear c12b2; try clear c13; try clear c16; try clear c19; try clear c22; try clear hcz10_0 hcz10_1 hcz10_2 hcz10_3 hcz10_4 hcz10_5; try clear hcz14_0 hcz14_1 hcz14_2 hcz14_3 hcz14_4 hcz14_5; try clear hcz15_0 hcz15_1 hcz15_2 hcz15_3 hcz15_4 hcz15_5; try clear hcz17_0 hcz17_1 hcz17_2 hcz17_3 hcz17_4 hcz17_5; try clear hcz18_0 hcz18_1 hcz18_2 hcz18_3 hcz18_4 hcz18_5; try clear hcz20_0 hcz20_1 hcz20_2 hcz20_3 hcz20_4 hcz20_5; try clear hcz21_0 hcz21_1 hcz21_2 hcz21_3 hcz21_4 hcz21_5; try clear hcz23_0 hcz23_1 hcz23_2 hcz23_3 hcz23_4 hcz23_5; try clear hcz24_0 hcz24_1 hcz24_2 hcz24_3 hcz24_4 hcz24_5; try clear hcz9_0 hcz9_1 hcz9_2 hcz9_3 hcz9_4 hcz9_5; try clear hfz10_0 hfz10_1 hfz10_2 hfz10_3 hfz10_4 hfz10_5; try clear hfz14_0 hfz14_1 hfz14_2 hfz14_3 hfz14_4 hfz14_5; try clear hfz15_0 hfz15_1 hfz15_2 hfz15_3 hfz15_4 hfz15_5; try clear hfz17_0 hfz17_1 hfz17_2 hfz17_3 hfz17_4 hfz17_5; try clear hfz18_0 hfz18_1 hfz18_2 hfz18_3 hfz18_4 hfz18_5; try clear hfz20_0 hfz20_1 hfz20_2 hfz20_3 hfz20_4 hfz20_5; try clear hfz21_0 hfz21_1 hfz21_2 hfz21_3 hfz21_4 hfz21_5; try clear hfz23_0 hfz23_1 hfz23_2 hfz23_3 hfz23_4 hfz23_5; try clear hfz24_0 hfz24_1 hfz24_2 hfz24_3 hfz24_4 hfz24_5; try clear hfz9_0 hfz9_1 hfz9_2 hfz9_3 hfz9_4 hfz9_5
  obtain ⟨kq, x50_2, rfl, HA, HJ2, BK328, BK329, HB⟩ := hcut
  cases kq with
  | zero => exact absurd HA.out (by simp [thatchref07_Same.j0])
  | succ kj2 =>
   have H := HA.out
   clear HA
   simp only [thatchref07_Same.j0] at H
   by_cases c25 : x50_2 = true
   ·subst c25
    have H1 : (some false) = some r := by rw [if_pos rfl] at H; exact H
    clear H
    have H := H1
    clear H1
    obtain rfl := Option.some.inj H
    go_wp2
    repeat (go_quiet (fail); try go_wp2)
    go_ret
    exact ⟨ze, zw HB⟩
   replace c25 := Bool.eq_false_iff.mpr c25
   subst c25
   have H1 : (thatchref07_Same.l0 kj2 0 l0_0 l0_1 a0_2 a0_3 a0_4 l0_5 l1_0 l1_1 a1_2 a1_3 a1_4 l1_5) = some r := by rw [if_neg (show ¬ (false = true) by decide)] at H; exact H
   clear H
   have H := H1
   clear H1
   have H' := Aside0.mk H
   clear H
   go_wp2
   repeat (go_quiet (fail); try go_wp2)
   go_loopg [5] kj2 (fun kq v5 w' => ∃ (x5_2 : Int), v5 = .int .i64 x5_2 ∧ Aside0 (thatchref07_Same.l0 kq x5_2 l0_0 l0_1 a0_2 a0_3 a0_4 l0_5 l1_0 l1_1 a1_2 a1_3 a1_4 l1_5 = some r) ∧ Aside0 (kq ≤ kj2) ∧ Aside0 (w'.heap[gb328]? = some (.cells #[(.slice A0_0 l0_0.length c0_0), (.slice A0_1 l0_1.length c0_1), .int .i64 a0_2, .int .i64 a0_3, .int .i64 a0_4, (.slice A0_5 l0_5.length c0_5)] 30 (0, 0))) ∧ Aside0 (w'.heap[gb329]? = some (.cells #[(.slice A1_0 l1_0.length c1_0), (.slice A1_1 l1_1.length c1_1), .int .i64 a1_2, .int .i64 a1_3, .int .i64 a1_4, (.slice A1_5 l1_5.length c1_5)] 30 (0, 0))) ∧ Aside0 (Below w.heap.size w w'))
   case atStart => exact ⟨(0), zq, H', ⟨Nat.le_refl _⟩, ⟨zb BK328⟩, ⟨zb BK329⟩, ⟨zw HB⟩⟩
   case round =>
    clear H'; try clear c1; try clear c2; try clear p2; try clear c6; try clear c6b0; try clear c6b1; try clear c7; try clear c7b0; try clear c8; try clear c11; try clear c11b0; try clear c11b1; try clear c11b2; try clear c12; try clear c12b0; try clear c12b1; try clear c12b2; try clear c13; try clear c16; try clear c19; try clear c22; try clear c25; try clear hcz10_0 hcz10_1 hcz10_2 hcz10_3 hcz10_4 hcz10_5; try clear hcz14_0 hcz14_1 hcz14_2 hcz14_3 hcz14_4 hcz14_5; try clear hcz15_0 hcz15_1 hcz15_2 hcz15_3 hcz15_4 hcz15_5; try clear hcz17_0 hcz17_1 hcz17_2 hcz17_3 hcz17_4 hcz17_5; try clear hcz18_0 hcz18_1 hcz18_2 hcz18_3 hcz18_4 hcz18_5; try clear hcz20_0 hcz20_1 hcz20_2 hcz20_3 hcz20_4 hcz20_5; try clear hcz21_0 hcz21_1 hcz21_2 hcz21_3 hcz21_4 hcz21_5; try clear hcz23_0 hcz23_1 hcz23_2 hcz23_3 hcz23_4 hcz23_5; try clear hcz24_0 hcz24_1 hcz24_2 hcz24_3 hcz24_4 hcz24_5; try clear hcz9_0 hcz9_1 hcz9_2 hcz9_3 hcz9_4 hcz9_5; try clear hfz10_0 hfz10_1 hfz10_2 hfz10_3 hfz10_4 hfz10_5; try clear hfz14_0 hfz14_1 hfz14_2 hfz14_3 hfz14_4 hfz14_5; try clear hfz15_0 hfz15_1 hfz15_2 hfz15_3 hfz15_4 hfz15_5; try clear hfz17_0 hfz17_1 hfz17_2 hfz17_3 hfz17_4 hfz17_5; try clear hfz18_0 hfz18_1 hfz18_2 hfz18_3 hfz18_4 hfz18_5; try clear hfz20_0 hfz20_1 hfz20_2 hfz20_3 hfz20_4 hfz20_5; try clear hfz21_0 hfz21_1 hfz21_2 hfz21_3 hfz21_4 hfz21_5; try clear hfz23_0 hfz23_1 hfz23_2 hfz23_3 hfz23_4 hfz23_5; try clear hfz24_0 hfz24_1 hfz24_2 hfz24_3 hfz24_4 hfz24_5; try clear hfz9_0 hfz9_1 hfz9_2 hfz9_3 hfz9_4 hfz9_5; try clear p2
    obtain ⟨x5_2, rfl, HA, HK2, BK328, BK329, HB⟩ := hrel
    cases gk with
    | zero => exact absurd HA.out (by simp [thatchref07_Same.l0])
    | succ k2 =>
     have H := HA.out
     clear HA
     simp only [thatchref07_Same.l0] at H
     by_cases c26 : x5_2 < (l0_5.length : Int)
     ·rw [if_pos c26] at H
      have c26b0 : decide (x5_2 < (l0_5.length : Int)) = true := decide_eq_true c26
      clear c26
      by_cases c27 : 0 ≤ x5_2
      ·rw [if_pos c27] at H
       have c27b0 : decide (0 ≤ x5_2) = true := decide_eq_true c27
       clear c27
       by_cases c28 : x5_2 < (l1_5.length : Int)
       ·rw [if_pos c28] at H
        have c28b0 : decide (x5_2 < (l1_5.length : Int)) = true := decide_eq_true c28
        clear c28
        by_cases c29 : ((!(((rd_T67 l0_5 x5_2).f0.f0) == ((rd_T67 l1_5 x5_2).f0.f0)) || (!(((rd_T67 l0_5 x5_2).f0.f1) == ((rd_T67 l1_5 x5_2).f0.f1)))) || ((!(((rd_T67 l0_5 x5_2).f1.f0) == ((rd_T67 l1_5 x5_2).f1.f0)) || (!(((rd_T67 l0_5 x5_2).f1.f1) == ((rd_T67 l1_5 x5_2).f1.f1)))))) = true
        ·rw [if_pos c29] at H
         have c29b0 : ((!(((rd_T67 l0_5 x5_2).f0.f0) == ((rd_T67 l1_5 x5_2).f0.f0)) || (!(((rd_T67 l0_5 x5_2).f0.f1) == ((rd_T67 l1_5 x5_2).f0.f1)))) || ((!(((rd_T67 l0_5 x5_2).f1.f0) == ((rd_T67 l1_5 x5_2).f1.f0)) || (!(((rd_T67 l0_5 x5_2).f1.f1) == ((rd_T67 l1_5 x5_2).f1.f1)))))) = true := c29
         clear c29
         obtain rfl := Option.some.inj H
         have hnb30 := NB328_329.out
         have hnc30 := NB329_328.out
         obtain ⟨hcz31_0, hcz31_1, hcz31_2, hcz31_3, hcz31_4, hcz31_5, hfz31_0, hfz31_1, hfz31_2, hfz31_3, hfz31_4, hfz31_5⟩ := zk6 BK328
         have p330 : 0 ≤ (x5_2 : Int) := of_decide_eq_true zj
         have q330 : x5_2 < (l0_5.length : Int) := of_decide_eq_true zj
         obtain ⟨ad330, e330, hx330_0, hx330_1, hx330_2, hx330_3⟩ := at_T67 HR0_5.out x5_2 p330 q330
         cases e330
         replace hx330_0 := zu hx330_0 HB
         replace hx330_1 := zu hx330_1 HB
         replace hx330_2 := zu hx330_2 HB
         replace hx330_3 := zu hx330_3 HB
         replace p330 := eq_true p330
         replace q330 := eq_true q330
         obtain ⟨hcz32_0, hcz32_1, hcz32_2, hcz32_3, hcz32_4, hcz32_5, hfz32_0, hfz32_1, hfz32_2, hfz32_3, hfz32_4, hfz32_5⟩ := zk6 BK329
         have p331 : 0 ≤ (x5_2 : Int) := of_decide_eq_true zj
         have q331 : x5_2 < (l1_5.length : Int) := of_decide_eq_true zj
         obtain ⟨ad331, e331, hx331_0, hx331_1, hx331_2, hx331_3⟩ := at_T67 HR1_5.out x5_2 p331 q331
         cases e331
         replace hx331_0 := zu hx331_0 HB
         replace hx331_1 := zu hx331_1 HB
         replace hx331_2 := zu hx331_2 HB
         replace hx331_3 := zu hx331_3 HB
         replace p331 := eq_true p331
         replace q331 := eq_true q331
         go_wp2
         repeat (go_quiet (fail); try go_wp2)
         go_ret
         exact ⟨ze, zw HB⟩
        rw [if_neg c29] at H
        have c29b0 : ((!(((rd_T67 l0_5 x5_2).f0.f0) == ((rd_T67 l1_5 x5_2).f0.f0)) || (!(((rd_T67 l0_5 x5_2).f0.f1) == ((rd_T67 l1_5 x5_2).f0.f1)))) || ((!(((rd_T67 l0_5 x5_2).f1.f0) == ((rd_T67 l1_5 x5_2).f1.f0)) || (!(((rd_T67 l0_5 x5_2).f1.f1) == ((rd_T67 l1_5 x5_2).f1.f1)))))) = false := by simpa using c29
        clear c29
        have H' := Aside0.mk H
        clear H
        have hnb33 := NB328_329.out
        have hnc33 := NB329_328.out
        obtain ⟨hcz34_0, hcz34_1, hcz34_2, hcz34_3, hcz34_4, hcz34_5, hfz34_0, hfz34_1, hfz34_2, hfz34_3, hfz34_4, hfz34_5⟩ := zk6 BK328
        have p330 : 0 ≤ (x5_2 : Int) := of_decide_eq_true zj
        have q330 : x5_2 < (l0_5.length : Int) := of_decide_eq_true zj
        obtain ⟨ad330, e330, hx330_0, hx330_1, hx330_2, hx330_3⟩ := at_T67 HR0_5.out x5_2 p330 q330
        cases e330
        replace hx330_0 := zu hx330_0 HB
        replace hx330_1 := zu hx330_1 HB
        replace hx330_2 := zu hx330_2 HB
        replace hx330_3 := zu hx330_3 HB
        replace p330 := eq_true p330
        replace q330 := eq_true q330
        obtain ⟨hcz35_0, hcz35_1, hcz35_2, hcz35_3, hcz35_4, hcz35_5, hfz35_0, hfz35_1, hfz35_2, hfz35_3, hfz35_4, hfz35_5⟩ := zk6 BK329
        have p331 : 0 ≤ (x5_2 : Int) := of_decide_eq_true zj
        have q331 : x5_2 < (l1_5.length : Int) := of_decide_eq_true zj
        obtain ⟨ad331, e331, hx331_0, hx331_1, hx331_2, hx331_3⟩ := at_T67 HR1_5.out x5_2 p331 q331
        cases e331
        replace hx331_0 := zu hx331_0 HB
        replace hx331_1 := zu hx331_1 HB
        replace hx331_2 := zu hx331_2 HB
        replace hx331_3 := zu hx331_3 HB
        replace p331 := eq_true p331
        replace q331 := eq_true q331
        go_wp2
        repeat (go_quiet (fail); try go_wp2)
        go_roundg k2
        case measure => have := HJ2.out; have := HK2.out; omega
        case rel => exact ⟨(wrap64 (x5_2 + 1)), zq, H', ⟨by have := HJ2.out; have := HK2.out; omega⟩, ⟨zb BK328⟩, ⟨zb BK329⟩, ⟨zw HB⟩⟩
       rw [if_neg c28] at H
       exact absurd H (by simp)
      rw [if_neg c27] at H
      exact absurd H (by simp)
     rw [if_neg c26] at H
     have c26b0 : decide (x5_2 < (l0_5.length : Int)) = false := decide_eq_false c26
     clear c26
     have H' := Aside0.mk H
     clear H
     have hnb36 := NB328_329.out
     have hnc36 := NB329_328.out
     obtain ⟨hcz37_0, hcz37_1, hcz37_2, hcz37_3, hcz37_4, hcz37_5, hfz37_0, hfz37_1, hfz37_2, hfz37_3, hfz37_4, hfz37_5⟩ := zk6 BK328
     go_wp2
     repeat (go_quiet (fail); try go_wp2)
     go_loopg [6] k2 (fun kq v6 w' => ∃ (x6_3 : Int), v6 = .int .i64 x6_3 ∧ Aside0 (thatchref07_Same.l1 kq x6_3 l0_0 l0_1 a0_2 a0_3 a0_4 l0_5 l1_0 l1_1 a1_2 a1_3 a1_4 l1_5 = some r) ∧ Aside0 (kq ≤ k2) ∧ Aside0 (w'.heap[gb328]? = some (.cells #[(.slice A0_0 l0_0.length c0_0), (.slice A0_1 l0_1.length c0_1), .int .i64 a0_2, .int .i64 a0_3, .int .i64 a0_4, (.slice A0_5 l0_5.length c0_5)] 30 (0, 0))) ∧ Aside0 (w'.heap[gb329]? = some (.cells #[(.slice A1_0 l1_0.length c1_0), (.slice A1_1 l1_1.length c1_1), .int .i64 a1_2, .int .i64 a1_3, .int .i64 a1_4, (.slice A1_5 l1_5.length c1_5)] 30 (0, 0))) ∧ Aside0 (Below w.heap.size w w'))
     case atStart => exact ⟨(0), zq, H', ⟨Nat.le_refl _⟩, ⟨zb BK328⟩, ⟨zb BK329⟩, ⟨zw HB⟩⟩
     case round =>
      clear H'; try clear c1; try clear c2; try clear p2; try clear c3; try clear p3; try clear q3; try clear hx3; try clear c6; try clear c6b0; try clear c6b1; try clear p6; try clear c7; try clear c7b0; try clear c8; try clear c11; try clear c11b0; try clear c11b1; try clear c11b2; try clear c12; try clear c12b0; try clear c12b1; try clear c12b2; try clear c13; try clear c16; try clear c19; try clear c22; try clear c25; try clear c26; try clear c26b0; try clear c27; try clear c27b0; try clear c28; try clear c28b0; try clear c29; try clear c29b0; try clear c30; try clear c33; try clear p33; try clear q33; try clear hx33; try clear c36; try clear hcz10_0 hcz10_1 hcz10_2 hcz10_3 hcz10_4 hcz10_5; try clear hcz14_0 hcz14_1 hcz14_2 hcz14_3 hcz14_4 hcz14_5; try clear hcz15_0 hcz15_1 hcz15_2 hcz15_3 hcz15_4 hcz15_5; try clear hcz17_0 hcz17_1 hcz17_2 hcz17_3 hcz17_4 hcz17_5; try clear hcz18_0 hcz18_1 hcz18_2 hcz18_3 hcz18_4 hcz18_5; try clear hcz20_0 hcz20_1 hcz20_2 hcz20_3 hcz20_4 hcz20_5; try clear hcz21_0 hcz21_1 hcz21_2 hcz21_3 hcz21_4 hcz21_5; try clear hcz23_0 hcz23_1 hcz23_2 hcz23_3 hcz23_4 hcz23_5; try clear hcz24_0 hcz24_1 hcz24_2 hcz24_3 hcz24_4 hcz24_5; try clear hcz31_0 hcz31_1 hcz31_2 hcz31_3 hcz31_4 hcz31_5; try clear hcz32_0 hcz32_1 hcz32_2 hcz32_3 hcz32_4 hcz32_5; try clear hcz34_0 hcz34_1 hcz34_2 hcz34_3 hcz34_4 hcz34_5; try clear hcz35_0 hcz35_1 hcz35_2 hcz35_3 hcz35_4 hcz35_5; try clear hcz37_0 hcz37_1 hcz37_2 hcz37_3 hcz37_4 hcz37_5; try clear hcz9_0 hcz9_1 hcz9_2 hcz9_3 hcz9_4 hcz9_5; try clear hfz10_0 hfz10_1 hfz10_2 hfz10_3 hfz10_4 hfz10_5; try clear hfz14_0 hfz14_1 hfz14_2 hfz14_3 hfz14_4 hfz14_5; try clear hfz15_0 hfz15_1 hfz15_2 hfz15_3 hfz15_4 hfz15_5; try clear hfz17_0 hfz17_1 hfz17_2 hfz17_3 hfz17_4 hfz17_5; try clear hfz18_0 hfz18_1 hfz18_2 hfz18_3 hfz18_4 hfz18_5; try clear hfz20_0 hfz20_1 hfz20_2 hfz20_3 hfz20_4 hfz20_5; try clear hfz21_0 hfz21_1 hfz21_2 hfz21_3 hfz21_4 hfz21_5; try clear hfz23_0 hfz23_1 hfz23_2 hfz23_3 hfz23_4 hfz23_5; try clear hfz24_0 hfz24_1 hfz24_2 hfz24_3 hfz24_4 hfz24_5; try clear hfz31_0 hfz31_1 hfz31_2 hfz31_3 hfz31_4 hfz31_5; try clear hfz32_0 hfz32_1 hfz32_2 hfz32_3 hfz32_4 hfz32_5; try clear hfz34_0 hfz34_1 hfz34_2 hfz34_3 hfz34_4 hfz34_5; try clear hfz35_0 hfz35_1 hfz35_2 hfz35_3 hfz35_4 hfz35_5; try clear hfz37_0 hfz37_1 hfz37_2 hfz37_3 hfz37_4 hfz37_5; try clear hfz9_0 hfz9_1 hfz9_2 hfz9_3 hfz9_4 hfz9_5; try clear hx330_0; try clear hx330_1; try clear hx330_2; try clear hx330_3; try clear hx331_0; try clear hx331_1; try clear hx331_2; try clear hx331_3; try clear p2; try clear p330; try clear p331; try clear q330; try clear q331
      obtain ⟨x6_3, rfl, HA, HK3, BK328, BK329, HB⟩ := hrel
      cases gk with
      | zero => exact absurd HA.out (by simp [thatchref07_Same.l1])
      | succ k3 =>
       have H := HA.out
       clear HA
       simp only [thatchref07_Same.l1] at H
       by_cases c38 : x6_3 < (l0_0.length : Int)
       ·rw [if_pos c38] at H
        have c38b0 : decide (x6_3 < (l0_0.length : Int)) = true := decide_eq_true c38
        clear c38
        by_cases c39 : 0 ≤ x6_3
        ·rw [if_pos c39] at H
         have c39b0 : decide (0 ≤ x6_3) = true := decide_eq_true c39
         clear c39
         by_cases c40 : x6_3 < (l1_0.length : Int)
         ·rw [if_pos c40] at H
          have c40b0 : decide (x6_3 < (l1_0.length : Int)) = true := decide_eq_true c40
          clear c40
          by_cases c41 : (!(((rd_T32 l0_0 x6_3).f0) == ((rd_T32 l1_0 x6_3).f0)) || (!(((rd_T32 l0_0 x6_3).f1) == ((rd_T32 l1_0 x6_3).f1)))) = true
          ·rw [if_pos c41] at H
           have c41b0 : (!(((rd_T32 l0_0 x6_3).f0) == ((rd_T32 l1_0 x6_3).f0)) || (!(((rd_T32 l0_0 x6_3).f1) == ((rd_T32 l1_0 x6_3).f1)))) = true := c41
           clear c41
           obtain rfl := Option.some.inj H
           have hnb42 := NB328_329.out
           have hnc42 := NB329_328.out
           obtain ⟨hcz43_0, hcz43_1, hcz43_2, hcz43_3, hcz43_4, hcz43_5, hfz43_0, hfz43_1, hfz43_2, hfz43_3, hfz43_4, hfz43_5⟩ := zk6 BK328
           have p332 : 0 ≤ (x6_3 : Int) := of_decide_eq_true zj
           have q332 : x6_3 < (l0_0.length : Int) := of_decide_eq_true zj
           obtain ⟨ad332, e332, hx332_0, hx332_1⟩ := at_T32 HR0_0.out x6_3 p332 q332
           cases e332
           replace hx332_0 := zu hx332_0 HB
           replace hx332_1 := zu hx332_1 HB
           replace p332 := eq_true p332
           replace q332 := eq_true q332
           obtain ⟨hcz44_0, hcz44_1, hcz44_2, hcz44_3, hcz44_4, hcz44_5, hfz44_0, hfz44_1, hfz44_2, hfz44_3, hfz44_4, hfz44_5⟩ := zk6 BK329
           have p333 : 0 ≤ (x6_3 : Int) := of_decide_eq_true zj
           have q333 : x6_3 < (l1_0.length : Int) := of_decide_eq_true zj
           obtain ⟨ad333, e333, hx333_0, hx333_1⟩ := at_T32 HR1_0.out x6_3 p333 q333
           cases e333
           replace hx333_0 := zu hx333_0 HB
           replace hx333_1 := zu hx333_1 HB
           replace p333 := eq_true p333
           replace q333 := eq_true q333
           go_wp2
           repeat (go_quiet (fail); try go_wp2)
           go_ret
           exact ⟨ze, zw HB⟩
          rw [if_neg c41] at H
          have c41b0 : (!(((rd_T32 l0_0 x6_3).f0) == ((rd_T32 l1_0 x6_3).f0)) || (!(((rd_T32 l0_0 x6_3).f1) == ((rd_T32 l1_0 x6_3).f1)))) = false := by simpa using c41
          clear c41
          have H' := Aside0.mk H
          clear H
          have hnb45 := NB328_329.out
          have hnc45 := NB329_328.out
          obtain ⟨hcz46_0, hcz46_1, hcz46_2, hcz46_3, hcz46_4, hcz46_5, hfz46_0, hfz46_1, hfz46_2, hfz46_3, hfz46_4, hfz46_5⟩ := zk6 BK328
          have p332 : 0 ≤ (x6_3 : Int) := of_decide_eq_true zj
          have q332 : x6_3 < (l0_0.length : Int) := of_decide_eq_true zj
          obtain ⟨ad332, e332, hx332_0, hx332_1⟩ := at_T32 HR0_0.out x6_3 p332 q332
          cases e332
          replace hx332_0 := zu hx332_0 HB
          replace hx332_1 := zu hx332_1 HB
          replace p332 := eq_true p332
          replace q332 := eq_true q332
          obtain ⟨hcz47_0, hcz47_1, hcz47_2, hcz47_3, hcz47_4, hcz47_5, hfz47_0, hfz47_1, hfz47_2, hfz47_3, hfz47_4, hfz47_5⟩ := zk6 BK329
          have p333 : 0 ≤ (x6_3 : Int) := of_decide_eq_true zj
          have q333 : x6_3 < (l1_0.length : Int) := of_decide_eq_true zj
          obtain ⟨ad333, e333, hx333_0, hx333_1⟩ := at_T32 HR1_0.out x6_3 p333 q333
          cases e333
          replace hx333_0 := zu hx333_0 HB
          replace hx333_1 := zu hx333_1 HB
          replace p333 := eq_true p333
          replace q333 := eq_true q333
          go_wp2
          repeat (go_quiet (fail); try go_wp2)
          go_roundg k3
          case measure => have := HJ2.out; have := HK2.out; have := HK3.out; omega
          case rel => exact ⟨(wrap64 (x6_3 + 1)), zq, H', ⟨by have := HJ2.out; have := HK2.out; have := HK3.out; omega⟩, ⟨zb BK328⟩, ⟨zb BK329⟩, ⟨zw HB⟩⟩
         rw [if_neg c40] at H
         exact absurd H (by simp)
        rw [if_neg c39] at H
        exact absurd H (by simp)
       rw [if_neg c38] at H
       have c38b0 : decide (x6_3 < (l0_0.length : Int)) = false := decide_eq_false c38
       clear c38
       have H' := Aside0.mk H
       clear H
       have hnb48 := NB328_329.out
       have hnc48 := NB329_328.out
       obtain ⟨hcz49_0, hcz49_1, hcz49_2, hcz49_3, hcz49_4, hcz49_5, hfz49_0, hfz49_1, hfz49_2, hfz49_3, hfz49_4, hfz49_5⟩ := zk6 BK328
       go_wp2
       repeat (go_quiet (fail); try go_wp2)
       go_loopg [7] k3 (fun kq v7 w' => ∃ (x7_4 : Int), v7 = .int .i64 x7_4 ∧ Aside0 (thatchref07_Same.l2 kq x7_4 l0_0 l0_1 a0_2 a0_3 a0_4 l0_5 l1_0 l1_1 a1_2 a1_3 a1_4 l1_5 = some r) ∧ Aside0 (kq ≤ k3) ∧ Aside0 (w'.heap[gb328]? = some (.cells #[(.slice A0_0 l0_0.length c0_0), (.slice A0_1 l0_1.length c0_1), .int .i64 a0_2, .int .i64 a0_3, .int .i64 a0_4, (.slice A0_5 l0_5.length c0_5)] 30 (0, 0))) ∧ Aside0 (w'.heap[gb329]? = some (.cells #[(.slice A1_0 l1_0.length c1_0), (.slice A1_1 l1_1.length c1_1), .int .i64 a1_2, .int .i64 a1_3, .int .i64 a1_4, (.slice A1_5 l1_5.length c1_5)] 30 (0, 0))) ∧ Aside0 (Below w.heap.size w w'))
       case atStart => exact ⟨(0), zq, H', ⟨Nat.le_refl _⟩, ⟨zb BK328⟩, ⟨zb BK329⟩, ⟨zw HB⟩⟩
       case round =>
        clear H'; try clear c1; try clear c2; try clear p2; try clear c3; try clear p3; try clear q3; try clear hx3; try clear c4; try clear c6; try clear c6b0; try clear c6b1; try clear p6; try clear c7; try clear c7b0; try clear c8; try clear c11; try clear c11b0; try clear c11b1; try clear c11b2; try clear c12; try clear c12b0; try clear c12b1; try clear c12b2; try clear c13; try clear c16; try clear c19; try clear c22; try clear c25; try clear c26; try clear c26b0; try clear c27; try clear c27b0; try clear c28; try clear c28b0; try clear c29; try clear c29b0; try clear c30; try clear c33; try clear p33; try clear q33; try clear hx33; try clear c36; try clear c38; try clear c38b0; try clear c39; try clear c39b0; try clear c40; try clear c40b0; try clear c41; try clear c41b0; try clear c42; try clear c45; try clear c48; try clear hcz10_0 hcz10_1 hcz10_2 hcz10_3 hcz10_4 hcz10_5; try clear hcz14_0 hcz14_1 hcz14_2 hcz14_3 hcz14_4 hcz14_5; try clear hcz15_0 hcz15_1 hcz15_2 hcz15_3 hcz15_4 hcz15_5; try clear hcz17_0 hcz17_1 hcz17_2 hcz17_3 hcz17_4 hcz17_5; try clear hcz18_0 hcz18_1 hcz18_2 hcz18_3 hcz18_4 hcz18_5; try clear hcz20_0 hcz20_1 hcz20_2 hcz20_3 hcz20_4 hcz20_5; try clear hcz21_0 hcz21_1 hcz21_2 hcz21_3 hcz21_4 hcz21_5; try clear hcz23_0 hcz23_1 hcz23_2 hcz23_3 hcz23_4 hcz23_5; try clear hcz24_0 hcz24_1 hcz24_2 hcz24_3 hcz24_4 hcz24_5; try clear hcz31_0 hcz31_1 hcz31_2 hcz31_3 hcz31_4 hcz31_5; try clear hcz32_0 hcz32_1 hcz32_2 hcz32_3 hcz32_4 hcz32_5; try clear hcz34_0 hcz34_1 hcz34_2 hcz34_3 hcz34_4 hcz34_5; try clear hcz35_0 hcz35_1 hcz35_2 hcz35_3 hcz35_4 hcz35_5; try clear hcz37_0 hcz37_1 hcz37_2 hcz37_3 hcz37_4 hcz37_5; try clear hcz43_0 hcz43_1 hcz43_2 hcz43_3 hcz43_4 hcz43_5; try clear hcz44_0 hcz44_1 hcz44_2 hcz44_3 hcz44_4 hcz44_5; try clear hcz46_0 hcz46_1 hcz46_2 hcz46_3 hcz46_4 hcz46_5; try clear hcz47_0 hcz47_1 hcz47_2 hcz47_3 hcz47_4 hcz47_5; try clear hcz49_0 hcz49_1 hcz49_2 hcz49_3 hcz49_4 hcz49_5; try clear hcz9_0 hcz9_1 hcz9_2 hcz9_3 hcz9_4 hcz9_5; try clear hfz10_0 hfz10_1 hfz10_2 hfz10_3 hfz10_4 hfz10_5; try clear hfz14_0 hfz14_1 hfz14_2 hfz14_3 hfz14_4 hfz14_5; try clear hfz15_0 hfz15_1 hfz15_2 hfz15_3 hfz15_4 hfz15_5; try clear hfz17_0 hfz17_1 hfz17_2 hfz17_3 hfz17_4 hfz17_5; try clear hfz18_0 hfz18_1 hfz18_2 hfz18_3 hfz18_4 hfz18_5; try clear hfz20_0 hfz20_1 hfz20_2 hfz20_3 hfz20_4 hfz20_5; try clear hfz21_0 hfz21_1 hfz21_2 hfz21_3 hfz21_4 hfz21_5; try clear hfz23_0 hfz23_1 hfz23_2 hfz23_3 hfz23_4 hfz23_5; try clear hfz24_0 hfz24_1 hfz24_2 hfz24_3 hfz24_4 hfz24_5; try clear hfz31_0 hfz31_1 hfz31_2 hfz31_3 hfz31_4 hfz31_5; try clear hfz32_0 hfz32_1 hfz32_2 hfz32_3 hfz32_4 hfz32_5; try clear hfz34_0 hfz34_1 hfz34_2 hfz34_3 hfz34_4 hfz34_5; try clear hfz35_0 hfz35_1 hfz35_2 hfz35_3 hfz35_4 hfz35_5; try clear hfz37_0 hfz37_1 hfz37_2 hfz37_3 hfz37_4 hfz37_5; try clear hfz43_0 hfz43_1 hfz43_2 hfz43_3 hfz43_4 hfz43_5; try clear hfz44_0 hfz44_1 hfz44_2 hfz44_3 hfz44_4 hfz44_5; try clear hfz46_0 hfz46_1 hfz46_2 hfz46_3 hfz46_4 hfz46_5; try clear hfz47_0 hfz47_1 hfz47_2 hfz47_3 hfz47_4 hfz47_5; try clear hfz49_0 hfz49_1 hfz49_2 hfz49_3 hfz49_4 hfz49_5; try clear hfz9_0 hfz9_1 hfz9_2 hfz9_3 hfz9_4 hfz9_5; try clear hx330_0; try clear hx330_1; try clear hx330_2; try clear hx330_3; try clear hx331_0; try clear hx331_1; try clear hx331_2; try clear hx331_3; try clear hx332_0; try clear hx332_1; try clear hx333_0; try clear hx333_1; try clear p2; try clear p3; try clear p33; try clear p330; try clear p331; try clear p332; try clear p333; try clear p6; try clear q3; try clear q33; try clear q330; try clear q331; try clear q332; try clear q333
        obtain ⟨x7_4, rfl, HA, HK4, BK328, BK329, HB⟩ := hrel
        cases gk with
        | zero => exact absurd HA.out (by simp [thatchref07_Same.l2])
        | succ k4 =>
         have H := HA.out
         clear HA
         simp only [thatchref07_Same.l2] at H
         by_cases c50 : x7_4 < (l0_1.length : Int)
         ·rw [if_pos c50] at H
          have c50b0 : decide (x7_4 < (l0_1.length : Int)) = true := decide_eq_true c50
          clear c50
          by_cases c51 : 0 ≤ x7_4
          ·rw [if_pos c51] at H
           have c51b0 : decide (0 ≤ x7_4) = true := decide_eq_true c51
           clear c51
           by_cases c52 : x7_4 < (l1_1.length : Int)
           ·rw [if_pos c52] at H
            have c52b0 : decide (x7_4 < (l1_1.length : Int)) = true := decide_eq_true c52
            clear c52
            by_cases c53 : ((!(((rd_T55 l0_1 x7_4).f0.f0) == ((rd_T55 l1_1 x7_4).f0.f0)) || (!(((rd_T55 l0_1 x7_4).f0.f1) == ((rd_T55 l1_1 x7_4).f0.f1)))) || ((!(((rd_T55 l0_1 x7_4).f1.f0) == ((rd_T55 l1_1 x7_4).f1.f0)) || (!(((rd_T55 l0_1 x7_4).f1.f1) == ((rd_T55 l1_1 x7_4).f1.f1)))))) = true
            ·rw [if_pos c53] at H
             have c53b0 : ((!(((rd_T55 l0_1 x7_4).f0.f0) == ((rd_T55 l1_1 x7_4).f0.f0)) || (!(((rd_T55 l0_1 x7_4).f0.f1) == ((rd_T55 l1_1 x7_4).f0.f1)))) || ((!(((rd_T55 l0_1 x7_4).f1.f0) == ((rd_T55 l1_1 x7_4).f1.f0)) || (!(((rd_T55 l0_1 x7_4).f1.f1) == ((rd_T55 l1_1 x7_4).f1.f1)))))) = true := c53
             clear c53
             obtain rfl := Option.some.inj H
             have hnb54 := NB328_329.out
             have hnc54 := NB329_328.out
             obtain ⟨hcz55_0, hcz55_1, hcz55_2, hcz55_3, hcz55_4, hcz55_5, hfz55_0, hfz55_1, hfz55_2, hfz55_3, hfz55_4, hfz55_5⟩ := zk6 BK328
             have p334 : 0 ≤ (x7_4 : Int) := of_decide_eq_true zj
             have q334 : x7_4 < (l0_1.length : Int) := of_decide_eq_true zj
             obtain ⟨ad334, e334, hx334_0, hx334_1, hx334_2, hx334_3⟩ := at_T55 HR0_1.out x7_4 p334 q334
             cases e334
             replace hx334_0 := zu hx334_0 HB
             replace hx334_1 := zu hx334_1 HB
             replace hx334_2 := zu hx334_2 HB
             replace hx334_3 := zu hx334_3 HB
             replace p334 := eq_true p334
             replace q334 := eq_true q334
             obtain ⟨hcz56_0, hcz56_1, hcz56_2, hcz56_3, hcz56_4, hcz56_5, hfz56_0, hfz56_1, hfz56_2, hfz56_3, hfz56_4, hfz56_5⟩ := zk6 BK329
             have p335 : 0 ≤ (x7_4 : Int) := of_decide_eq_true zj
             have q335 : x7_4 < (l1_1.length : Int) := of_decide_eq_true zj
             obtain ⟨ad335, e335, hx335_0, hx335_1, hx335_2, hx335_3⟩ := at_T55 HR1_1.out x7_4 p335 q335
             cases e335
             replace hx335_0 := zu hx335_0 HB
             replace hx335_1 := zu hx335_1 HB
             replace hx335_2 := zu hx335_2 HB
             replace hx335_3 := zu hx335_3 HB
             replace p335 := eq_true p335
             replace q335 := eq_true q335
             go_wp2
             repeat (go_quiet (fail); try go_wp2)
             go_ret
             exact ⟨ze, zw HB⟩
            rw [if_neg c53] at H
            have c53b0 : ((!(((rd_T55 l0_1 x7_4).f0.f0) == ((rd_T55 l1_1 x7_4).f0.f0)) || (!(((rd_T55 l0_1 x7_4).f0.f1) == ((rd_T55 l1_1 x7_4).f0.f1)))) || ((!(((rd_T55 l0_1 x7_4).f1.f0) == ((rd_T55 l1_1 x7_4).f1.f0)) || (!(((rd_T55 l0_1 x7_4).f1.f1) == ((rd_T55 l1_1 x7_4).f1.f1)))))) = false := by simpa using c53
            clear c53
            have H' := Aside0.mk H
            clear H
            have hnb57 := NB328_329.out
            have hnc57 := NB329_328.out
            obtain ⟨hcz58_0, hcz58_1, hcz58_2, hcz58_3, hcz58_4, hcz58_5, hfz58_0, hfz58_1, hfz58_2, hfz58_3, hfz58_4, hfz58_5⟩ := zk6 BK328
            have p334 : 0 ≤ (x7_4 : Int) := of_decide_eq_true zj
            have q334 : x7_4 < (l0_1.length : Int) := of_decide_eq_true zj
            obtain ⟨ad334, e334, hx334_0, hx334_1, hx334_2, hx334_3⟩ := at_T55 HR0_1.out x7_4 p334 q334
            cases e334
            replace hx334_0 := zu hx334_0 HB
            replace hx334_1 := zu hx334_1 HB
            replace hx334_2 := zu hx334_2 HB
            replace hx334_3 := zu hx334_3 HB
            replace p334 := eq_true p334
            replace q334 := eq_true q334
            obtain ⟨hcz59_0, hcz59_1, hcz59_2, hcz59_3, hcz59_4, hcz59_5, hfz59_0, hfz59_1, hfz59_2, hfz59_3, hfz59_4, hfz59_5⟩ := zk6 BK329
            have p335 : 0 ≤ (x7_4 : Int) := of_decide_eq_true zj
            have q335 : x7_4 < (l1_1.length : Int) := of_decide_eq_true zj
            obtain ⟨ad335, e335, hx335_0, hx335_1, hx335_2, hx335_3⟩ := at_T55 HR1_1.out x7_4 p335 q335
            cases e335
            replace hx335_0 := zu hx335_0 HB
            replace hx335_1 := zu hx335_1 HB
            replace hx335_2 := zu hx335_2 HB
            replace hx335_3 := zu hx335_3 HB
            replace p335 := eq_true p335
            replace q335 := eq_true q335
            go_wp2
            repeat (go_quiet (fail); try go_wp2)
            go_roundg k4
            case measure => have := HJ2.out; have := HK2.out; have := HK3.out; have := HK4.out; omega
            case rel => exact ⟨(wrap64 (x7_4 + 1)), zq, H', ⟨by have := HJ2.out; have := HK2.out; have := HK3.out; have := HK4.out; omega⟩, ⟨zb BK328⟩, ⟨zb BK329⟩, ⟨zw HB⟩⟩
           rw [if_neg c52] at H
           exact absurd H (by simp)
          rw [if_neg c51] at H
          exact absurd H (by simp)
         rw [if_neg c50] at H
         have c50b0 : decide (x7_4 < (l0_1.length : Int)) = false := decide_eq_false c50
         clear c50
         obtain rfl := Option.some.inj H
         have hnb60 := NB328_329.out
         have hnc60 := NB329_328.out
         obtain ⟨hcz61_0, hcz61_1, hcz61_2, hcz61_3, hcz61_4, hcz61_5, hfz61_0, hfz61_1, hfz61_2, hfz61_3, hfz61_4, hfz61_5⟩ := zk6 BK328
         go_wp2
         repeat (go_quiet (fail); try go_wp2)
         go_ret
         exact ⟨ze, zw HB⟩
end Go.Proofs.Ytcfpclehogdmbaa.Q
end
