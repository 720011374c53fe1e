/- part 1 of a proof over the translation: walks that a program of ours has printed and shortened, and plain laws; each says what stands in it -/
import Derived.Test.YtcfpclehogdmbaaTB0
section
namespace Go.Proofs.Ytcfpclehogdmbaa.Q
open Go.RowKit Go.Proofs.YtcfpclehogdmbaaW.PrintWords Go.Proofs.YtcfpclehogdmbaaW.PrintLast Go.Proofs.YtcfpclehogdmbaaW.PrintMore
attribute [local go_sem] max2_int min2_int max_two min_two max_three min_three max_four min_four   -- for this text's walks alone
set_option linter.unusedVariables false
set_option linter.unusedSimpArgs false
def wear_checkOutline.placed (p : S32) : Bool := decide (0 ≤ p.f0 ∧ p.f0 ≤ 400 ∧ 0 ≤ p.f1 ∧ p.f1 ≤ 400)
def wear_checkOutline.same (p q : S32) : Bool := p.f0 == q.f0 && p.f1 == q.f1
def wear_checkOutline.twice (l : List S32) : Nat → Bool
  | 0 => false
  | k + 1 => wear_checkOutline.twice l k || (l.take k).any (wear_checkOutline.same (l.getD k z32))
def wear_checkOutline.back (a b : S32 × S32) : Bool :=
  decide (wear_has.left a.1 a.2 b.2.f0 b.2.f1 = 0) && decide (wrap64 (wrap64 (wrap64 (a.2.f0 - a.1.f0) * wrap64 (b.2.f0 - b.1.f0)) + wrap64 (wrap64 (a.2.f1 - a.1.f1) * wrap64 (b.2.f1 - b.1.f1))) < 0)
def wear_checkOutline.step (l : List S32) (st : (S32 × S32) × Bool × Bool) (x : S32 × S32) : (S32 × S32) × Bool × Bool :=
  (x, st.2.1 || l.any (fun p => decide (wear_has.left x.1 x.2 p.f0 p.f1 > 0)), st.2.2 && !(l.any fun p => decide (wear_has.left x.1 x.2 p.f0 p.f1 < 0)) && !(wear_checkOutline.back st.1 x))
def wear_checkOutline.scan (l : List S32) (pre : List (S32 × S32)) : (S32 × S32) × Bool × Bool := pre.foldl (wear_checkOutline.step l) ((l.getD (l.length - 1) z32, l.getD 0 z32), false, true)
def wear_checkOutline.err (l : List S32) : Int :=
  if !(decide (3 ≤ l.length ∧ l.length ≤ 12)) || l.any (fun p => !(wear_checkOutline.placed p)) then 1
  else if wear_checkOutline.twice l l.length then 6
  else if (wear_checkOutline.scan l (upTo (wear_sides.edge l) l.length)).2.2 && (wear_checkOutline.scan l (upTo (wear_sides.edge l) l.length)).2.1 then 0 else 9
def wear_checkOutline.f (l0 : List S32) : Option (Int) := some (wear_checkOutline.err l0)
theorem wear_checkOutline.scan_snoc (l : List S32) (pre : List (S32 × S32)) (x : S32 × S32) : wear_checkOutline.scan l (pre ++ [x]) = wear_checkOutline.step l (wear_checkOutline.scan l pre) x := by
  unfold wear_checkOutline.scan
  rw [List.foldl_append]
  rfl
theorem wear_checkOutline.scan_bad (l : List S32) (pre suf : List (S32 × S32)) (h : (wear_checkOutline.scan l pre).2.2 = false) : (wear_checkOutline.scan l (pre ++ suf)).2.2 = false := by
  have key : ∀ (suf : List (S32 × S32)) (st : (S32 × S32) × Bool × Bool), st.2.2 = false → (suf.foldl (wear_checkOutline.step l) st).2.2 = false := by
    intro suf
    induction suf with
    | nil => exact fun st h => h
    | cons x suf ih => exact fun st h => ih _ (by simp [wear_checkOutline.step, h])
  unfold wear_checkOutline.scan at *
  rw [List.foldl_append]
  exact key suf _ h
theorem wear_checkOutline.twice_yes (l : List S32) (k n : Nat) (hk : k ≤ n) (h : wear_checkOutline.twice l k = true) : wear_checkOutline.twice l n = true := by
  induction n with
  | zero => obtain rfl : k = 0 := by omega
            exact h
  | succ n ih =>
    rcases Nat.lt_or_ge n k with h1 | h1
    · obtain rfl : k = n + 1 := by omega
      exact h
    simp [wear_checkOutline.twice, ih h1]
theorem pts.index (l : List S32) (p0 p1 : Int) (hn : l.length ≤ 9223372036854775807) (d : Nat) : ∀ (k x : Nat), x ≤ l.length → l.length - x = d → d < k → ∃ r : Int, api_Pt_66.l0 k l (l.length : Int) x p0 p1 = some r ∧ (decide (r ≥ 0) = (l.drop x).any fun q => p0 == q.f0 && p1 == q.f1) := by
  induction d with
  | zero =>
    intro k x hx hd hk
    obtain ⟨k, rfl⟩ : ∃ m, k = m + 1 := ⟨k - 1, by omega⟩
    obtain rfl : x = l.length := by omega
    exact ⟨-1, by simp only [api_Pt_66.l0]; rw [if_neg (by omega)], by simp⟩
  | succ d ih =>
    intro k x hx hd hk
    obtain ⟨k, rfl⟩ : ∃ m, k = m + 1 := ⟨k - 1, by omega⟩
    have hlt : x < l.length := by omega
    have hrd : rd_T32 l (x : Int) = l[x] := by simp [rd_T32, List.getD_eq_getElem?_getD, List.getElem?_eq_getElem hlt]
    simp only [api_Pt_66.l0]
    rw [if_pos (by omega), if_pos (by omega), if_pos (by omega), hrd, List.drop_eq_getElem_cons hlt, List.any_cons]
    by_cases hc : (p0 == l[x].f0 && p1 == l[x].f1) = true
    · exact ⟨x, by rw [if_pos hc], by rw [hc]; simp⟩
    obtain ⟨r, h1, h2⟩ := ih k (x + 1) (by omega) (by omega) (by omega)
    refine ⟨r, ?_, ?_⟩
    · rw [if_neg hc, show wrap64 ((x : Int) + 1) = ((x + 1 : Nat) : Int) by unfold wrap64; omega]; exact h1
    rw [h2, Bool.eq_false_iff.2 hc, Bool.false_or]
theorem pts.contains (l : List S32) (p0 p1 : Int) (hn : l.length ≤ 9223372036854775807) : ∃ k, api_Pt_58.f k l p0 p1 = some (l.any fun q => p0 == q.f0 && p1 == q.f1) := by
  obtain ⟨r, h1, h2⟩ := pts.index l p0 p1 hn l.length (l.length + 1) 0 (by omega) (by omega) (by omega)
  refine ⟨l.length + 1, ?_⟩
  unfold api_Pt_58.f api_Pt_66.f
  rw [show ((0 : Nat) : Int) = 0 from rfl] at h1
  rw [h1, Option.bind_some, h2]
  rfl
set_option maxHeartbeats 1000000 in
theorem outline1.calls (x : S32) (W : World) : Calls Try.prog 57 #[.agg #[.int .i64 x.f0, .int .i64 x.f1]] W fun e W' => e = .returned (.bool (!(wear_checkOutline.placed x))) ∧ Below W.heap.size W W' := by
  have hu32 := Try.underlying32
  have HPL := Aside0.mk (wear_placed.tells x.f0 x.f1)
  have HE := Aside0.mk (show wear_checkOutline.placed x = decide (0 ≤ x.f0 ∧ x.f0 ≤ 400 ∧ 0 ≤ x.f1 ∧ x.f1 ≤ 400) from rfl)
  generalize decide (0 ≤ x.f0 ∧ x.f0 ≤ 400 ∧ 0 ≤ x.f1 ∧ x.f1 ≤ 400) = b at HPL HE
  go_enter Try.func57, Try.ntmps57
  go_wp2_with (go_at_call 40; refine (wear_placed.calls _ _ _ _ HPL.out).mono ?_; rintro e w1 ⟨rfl, hb⟩; have HB := Aside0.mk hb; clear hb)
  go_ret
  exact ⟨by rw [HE.out]; rfl, ((Below.refl _ W).alloc (Nat.le_refl _) _).trans (HB.out.mono (by simp))⟩
def edgeCells (x : S32 × S32) : Array Value := #[.int .i64 x.1.f0, .int .i64 x.1.f1, .int .i64 x.2.f0, .int .i64 x.2.f1]
theorem four_set {W : World} {g : Nat} {a b c d p q r s : Value} {t : TypeId} (h : W.heap[g]? = some (.cells #[a, b, c, d] t (0, 0))) :
    ((((W.setCell ⟨g, 0, none⟩ p).setCell ⟨g, 1, none⟩ q).setCell ⟨g, 2, none⟩ r).setCell ⟨g, 3, none⟩ s).heap[g]? = some (.cells #[p, q, r, s] t (0, 0)) := by
  refine blk_put (cs := #[p, q, r, d]) ?_ 3 _ rfl
  refine blk_put (cs := #[p, q, c, d]) ?_ 2 _ rfl
  refine blk_put (cs := #[p, b, c, d]) ?_ 1 _ rfl
  exact blk_put (cs := #[a, b, c, d]) h 0 _ rfl
theorem four_other {W : World} {g k : Nat} {p q r s : Value} (hk : k ≠ g) :
    ((((W.setCell ⟨g, 0, none⟩ p).setCell ⟨g, 1, none⟩ q).setCell ⟨g, 2, none⟩ r).setCell ⟨g, 3, none⟩ s).heap[k]? = W.heap[k]? := by
  rw [Below.heap_setCell _ _ _ k hk, Below.heap_setCell _ _ _ k hk, Below.heap_setCell _ _ _ k hk, Below.heap_setCell _ _ _ k hk]
theorem four_below {B : Nat} {V W : World} {g : Nat} {p q r s : Value} (h : Below B V W) (hg : B ≤ g) : Below B V ((((W.setCell ⟨g, 0, none⟩ p).setCell ⟨g, 1, none⟩ q).setCell ⟨g, 2, none⟩ r).setCell ⟨g, 3, none⟩ s) :=
  (((h.setCell hg _).setCell hg _).setCell hg _).setCell hg _
theorem four_keeps {W : World} {g : Nat} {p q r s : Value} : KeepsOthers W ((((W.setCell ⟨g, 0, none⟩ p).setCell ⟨g, 1, none⟩ q).setCell ⟨g, 2, none⟩ r).setCell ⟨g, 3, none⟩ s) :=
  (((KeepsOthers.setCell _ _ _).trans (KeepsOthers.setCell _ _ _)).trans (KeepsOthers.setCell _ _ _)).trans (KeepsOthers.setCell _ _ _)
theorem four_size {W : World} {g : Nat} {p q r s : Value} : ((((W.setCell ⟨g, 0, none⟩ p).setCell ⟨g, 1, none⟩ q).setCell ⟨g, 2, none⟩ r).setCell ⟨g, 3, none⟩ s).heap.size = W.heap.size := by
  simp [World.setCell]
structure co.St (w : World) (b5 b6 : Nat) (s0 : Value) (sm : Bool) (last : S32 × S32) (W : World) : Prop where
  k1 : W.heap[w.heap.size]? = some (.cells #[s0] 22 (0, 0))
  k2 : W.heap[w.heap.size + 1]? = some (.cells #[.int .i64 0] 35 (0, 0))
  k5 : W.heap[b5]? = some (.cells #[.bool sm] 4 (0, 0))
  k6 : W.heap[b6]? = some (.cells (edgeCells last) 87 (0, 0))
  kb : Below w.heap.size w W
theorem co.St.own {w : World} {b5 b6 : Nat} {s0 : Value} {β : Type} {sm : β → Bool} {last : β → S32 × S32} {B : Nat} (hB : w.heap.size ≤ B) : OwnFrom B (fun (s : β) W => co.St w b5 b6 s0 (sm s) (last s) W) :=
  fun s X Y row hs hg hr => ⟨blk_ownFrom hs.k1 hg hr, blk_ownFrom hs.k2 hg hr, blk_ownFrom hs.k5 hg hr, blk_ownFrom hs.k6 hg hr, ownFrom_below (β := β) (Nat.le_refl _) hB s X Y row hs.kb hg hr⟩
theorem co.St.below {w : World} {b5 b6 : Nat} {s0 : Value} {sm : Bool} {last : S32 × S32} {W W' : World} (h : co.St w b5 b6 s0 sm last W) (hb : Below W.heap.size W W') : co.St w b5 b6 s0 sm last W' :=
  ⟨(hb.block _ (Array.getElem?_eq_some_iff.1 h.k1).1).trans h.k1, (hb.block _ (Array.getElem?_eq_some_iff.1 h.k2).1).trans h.k2, (hb.block _ (Array.getElem?_eq_some_iff.1 h.k5).1).trans h.k5, (hb.block _ (Array.getElem?_eq_some_iff.1 h.k6).1).trans h.k6, h.kb.trans (hb.mono h.kb.size)⟩
theorem co.St.set5 {w : World} {b5 b6 : Nat} {s0 : Value} {sm : Bool} {last : S32 × S32} {W : World} (h : co.St w b5 b6 s0 sm last W) (h5 : w.heap.size + 2 ≤ b5) (h6 : b5 < b6) (v : Bool) : co.St w b5 b6 s0 v last (W.setCell ⟨b5, 0, none⟩ (.bool v)) :=
  ⟨(Below.heap_setCell _ _ _ _ (by simp; omega)).trans h.k1, (Below.heap_setCell _ _ _ _ (by simp; omega)).trans h.k2, Boxed.set (.bool v) h.k5, (Below.heap_setCell _ _ _ _ (by simp; omega)).trans h.k6, h.kb.setCell (by simp; omega) _⟩
theorem co.St.set6 {w : World} {b5 b6 : Nat} {s0 : Value} {sm : Bool} {last : S32 × S32} {W : World} (h : co.St w b5 b6 s0 sm last W) (h5 : w.heap.size + 2 ≤ b5) (h6 : b5 < b6) (x : S32 × S32) :
    co.St w b5 b6 s0 sm x ((((W.setCell ⟨b6, 0, none⟩ (.int .i64 x.1.f0)).setCell ⟨b6, 1, none⟩ (.int .i64 x.1.f1)).setCell ⟨b6, 2, none⟩ (.int .i64 x.2.f0)).setCell ⟨b6, 3, none⟩ (.int .i64 x.2.f1)) :=
  ⟨(four_other (by omega)).trans h.k1, (four_other (by omega)).trans h.k2, (four_other (by omega)).trans h.k5, four_set h.k6, four_below h.kb (by omega)⟩
theorem co.St.set2 {w : World} {b5 b6 : Nat} {s0 : Value} {sm : Bool} {last : S32 × S32} {W : World} (h : co.St w b5 b6 s0 sm last W) (v : Int) : (W.setCell ⟨w.heap.size + 1, 0, none⟩ (.int .i64 v)).heap[w.heap.size + 1]? = some (.cells #[.int .i64 v] 35 (0, 0)) ∧ Below w.heap.size w (W.setCell ⟨w.heap.size + 1, 0, none⟩ (.int .i64 v)) :=
  ⟨Boxed.set (.int .i64 v) h.k2, h.kb.setCell (by simp) _⟩
def co.I (w : World) (b5 b6 : Nat) (s0 : Value) (l : List S32) (n : Nat) (pre : List (S32 × S32)) (W : World) : Prop :=
  co.St w b5 b6 s0 (wear_checkOutline.scan l pre).2.1 (wear_checkOutline.scan l pre).1 W ∧ (wear_checkOutline.scan l pre).2.2 = true ∧ n ≤ W.heap.size
theorem co.I.own {w : World} {b5 b6 : Nat} {s0 : Value} {l : List S32} {n B : Nat} (hB : w.heap.size ≤ B) : OwnFrom B (co.I w b5 b6 s0 l n) :=
  fun s X Y row hs hg hr => ⟨co.St.own (β := List (S32 × S32)) (sm := fun pre => (wear_checkOutline.scan l pre).2.1) (last := fun pre => (wear_checkOutline.scan l pre).1) hB s X Y row hs.1 hg hr, hs.2.1, Nat.le_trans hs.2.2 hg.size⟩
def co.X (w : World) (l : List S32) (c : Code) (pre : List (S32 × S32)) (W : World) : Prop :=
  c = .ret ∧ (wear_checkOutline.scan l pre).2.2 = false ∧ W.heap[w.heap.size + 1]? = some (.cells #[.int .i64 9] 35 (0, 0)) ∧ Below w.heap.size w W
theorem co.X.own {w : World} {l : List S32} {B : Nat} (hB : w.heap.size ≤ B) (c : Code) : OwnFrom B (co.X w l c) :=
  fun s X Y row hs hg hr => ⟨hs.1, hs.2.1, blk_ownFrom hs.2.2.1 hg hr, ownFrom_below (β := List (S32 × S32)) (Nat.le_refl _) hB s X Y row hs.2.2.2 hg hr⟩
def co.neg (x : S32 × S32) (l : List S32) : Bool := l.any fun p => decide (wear_has.left x.1 x.2 p.f0 p.f1 < 0)
def co.pos (x : S32 × S32) (l : List S32) : Bool := l.any fun p => decide (wear_has.left x.1 x.2 p.f0 p.f1 > 0)
theorem co.take_snoc (f : S32 → Bool) (l : List S32) (j : Int) (h0 : 0 ≤ j) (h1 : j < l.length) : (l.take (j + 1).toNat).any f = ((l.take j.toNat).any f || f (rd_T32 l j)) := by
  rw [show (j + 1).toNat = j.toNat + 1 by omega, List.take_succ_eq_append_getElem (show j.toNat < l.length by omega), List.any_append]
  simp [rd_T32, List.getD_eq_getElem?_getD, List.getElem?_eq_getElem (show j.toNat < l.length by omega)]
theorem co.step_bad1 (l : List S32) (pre : List (S32 × S32)) (x : S32 × S32) (h : co.neg x l = true) : (wear_checkOutline.scan l (pre ++ [x])).2.2 = false := by
  rw [wear_checkOutline.scan_snoc]
  unfold co.neg at h
  simp [wear_checkOutline.step, h]
theorem co.step_bad2 (l : List S32) (pre : List (S32 × S32)) (x : S32 × S32) (h : wear_checkOutline.back (wear_checkOutline.scan l pre).1 x = true) : (wear_checkOutline.scan l (pre ++ [x])).2.2 = false := by
  rw [wear_checkOutline.scan_snoc]
  simp [wear_checkOutline.step, h]
theorem co.step_good (l : List S32) (pre : List (S32 × S32)) (x : S32 × S32) (h0 : (wear_checkOutline.scan l pre).2.2 = true) (h1 : co.neg x l = false) (h2 : wear_checkOutline.back (wear_checkOutline.scan l pre).1 x = false) :
    wear_checkOutline.scan l (pre ++ [x]) = (x, (wear_checkOutline.scan l pre).2.1 || co.pos x l, true) := by
  rw [wear_checkOutline.scan_snoc]
  unfold co.neg at h1
  simp [wear_checkOutline.step, h0, h1, h2, co.pos]
theorem co.neg_take (x : S32 × S32) (l : List S32) (j : Nat) (h : co.neg x (l.take j) = true) : co.neg x l = true := by
  obtain ⟨p, hp, hn⟩ := List.any_eq_true.1 h
  exact List.any_eq_true.2 ⟨p, List.mem_of_mem_take hp, hn⟩
section
open Go.Shelf
attribute [local go_sem] Oper.semAt_some
theorem two_boxes (w : World) (o0 o1 : Obj) (w1 : World) (hb : Below ((w.alloc o0).alloc o1).heap.size ((w.alloc o0).alloc o1) w1) :
    w1.heap[w.heap.size]? = some o0 ∧ w1.heap[w.heap.size + 1]? = some o1 ∧ w.heap.size + 2 ≤ w1.heap.size ∧ Below w.heap.size w w1 := by
  have hs := hb.size
  simp only [World.size_alloc] at hs
  refine ⟨(hb.block _ (by simp; omega)).trans ?_, (hb.block _ (by simp)).trans ?_, by omega, ?_⟩
  · rw [Below.heap_alloc _ _ _ (by simp)]; exact World.alloc_heap_new w o0
  · have := World.alloc_heap_new (w.alloc o0) o1; rwa [World.size_alloc] at this
  exact (((Below.refl _ w).alloc (Nat.le_refl _) o0).alloc (by simp) o1).trans (hb.mono (by simp; omega))
theorem co_end {w w1 : World} {B : Nat} {v u : Value} {t : TypeId} (h : w1.heap[B]? = some (.cells #[u] t (0, 0))) (hb : Below w.heap.size w w1) (hB : w.heap.size ≤ B) :
    (w1.setCell ⟨B, 0, none⟩ v).cell? ⟨B, 0, none⟩ = some v ∧ Below w.heap.size w (w1.setCell ⟨B, 0, none⟩ v) ∧ (w1.setCell ⟨B, 0, none⟩ v).heap[B]? = some (.cells #[v] t (0, 0)) :=
  ⟨(Boxed.set v (show Boxed w1 B t u from h)).cell, hb.setCell hB _, Boxed.set v (show Boxed w1 B t u from h)⟩
theorem in_calls (a b c : Int) (r : Bool) (w : World) (h : wear_in.f a b c = some r) : Calls Try.prog 22 #[.int .i64 a, .int .i64 b, .int .i64 c] w fun e w' => e = .returned (.bool r) ∧ Below w.heap.size w w' :=
  (wear_in.calls a b c r w h).mono fun e w' ⟨h1, nd, h2⟩ => ⟨h1, by rw [h2]; exact pw_below_drewN (Below.refl _ _) _⟩
def bodyPostN (F : Fence) (n : Nat) (P : Program) (fn : Func) (R : Ending → World → Prop) : Exit → Act → World → Prop
  | .normal, a, w | .ret, a, w => LeavesInM F n P fn a.tmps R a.defers .returning w
  | _, _, _ => False
theorem bodyPostN_le {F : Fence} {n : Nat} {P : Program} {fn : Func} {R : Ending → World → Prop} (e : Exit) (a : Act) (w : World) (h : bodyPostN F n P fn R e a w) : bodyPostM F n P fn R e a w := by
  cases e <;> first | exact h | exact h.elim
set_option maxHeartbeats 4000000 in
set_option maxRecDepth 100000 in
theorem wear_checkOutline.calls (A0 : Option Addr) (c0 : Nat) (l0 : List S32) (r : Int) (w : World) (hr0 : Kd.C k32 w A0 l0.length l0) (hc0 : l0.length ≤ c0) (h : wear_checkOutline.f l0 = some r) :
    Calls Try.prog 34 #[.slice A0 l0.length c0] w fun e w' => e = .returned (.int .i64 r) ∧ Below w.heap.size w w' := by
  obtain rfl : wear_checkOutline.err l0 = r := Option.some.inj h
  clear h
  have hu22 := Try.underlying22
  have hu32 := Try.underlying32
  have hu87 := Try.underlying87
  have hln : (l0.length : Int) ≤ 9223372036854775807 := by have := hr0.2.1; omega
  have HR0 := Aside0.mk hr0
  have HC0 := Aside0.mk hc0
  clear hr0 hc0
  by_cases hlen : 3 ≤ l0.length ∧ l0.length ≤ 12
  · have hin : wear_in.f (l0.length : Int) 3 12 = some true := by unfold wear_in.f; rw [if_pos (by omega), decide_eq_true (by omega)]
    have HIN := Aside0.mk hin
    clear hin
    have HCON := Aside0.mk (fun (W : World) (hb : Below w.heap.size w W) => points.contains 57 #[] (fun p => !(wear_checkOutline.placed p)) A0 c0 l0 W (Kd.C_below HR0.out hb) HC0.out (enters_of Try.func57 (by kernel_rfl) rfl) (fun x W' _ => outline1.calls x W'))
    cases hpl : l0.any (fun p => !(wear_checkOutline.placed p)) with
    | true =>
      have HE := Aside0.mk (show wear_checkOutline.err l0 = 1 from by unfold wear_checkOutline.err; rw [hpl]; simp)
      rw [hpl] at HCON
      clear hpl hlen
      go_enter Try.func34, Try.ntmps34
      go_wp2_with (first
        | (go_at_call 22; refine (in_calls _ _ _ _ _ HIN.out).mono ?_; rintro e w1 ⟨rfl, hb⟩; obtain ⟨k0, k1, ks, kb⟩ := two_boxes w _ _ w1 hb; have q0 : w1.cell? ⟨w.heap.size, 0, none⟩ = some (.slice A0 l0.length c0) := (blk_cell k0 0).trans rfl; have K0 := Aside0.mk k0; have K1 := Aside0.mk k1; have KB := Aside0.mk kb; have KS := Aside0.mk ks; clear hb k0 k1 kb ks)
        | (go_at_call 56; refine (HCON.out _ KB.out).mono ?_; rintro e w2 ⟨rfl, hb⟩; have k1 := (hb.block _ (Array.getElem?_eq_some_iff.1 K1.out).1).trans K1.out; have z0 : w2.cell? ⟨w.heap.size + 1, 0, none⟩ = some (.int .i64 0) := (blk_cell k1 0).trans rfl; have z1 := blk_frozen k1 0; have K2 := Aside0.mk k1; have KB2 := Aside0.mk (KB.out.trans (hb.mono KB.out.size)); clear hb k1))
      obtain ⟨e1, e2, _⟩ := co_end (v := .int .i64 1) K2.out KB2.out (by omega)
      refine bodyPost_ret (v := .int .i64 1) (by simp [results, Try.results34, go_sem, e1]) rfl ⟨by rw [HE.out], e2⟩
    | false =>
      rw [hpl] at HCON
      have HCON := Aside0.mk HCON.out
      have HPLN := Aside0.mk hpl
      have HLEN := Aside0.mk hlen
      clear hpl hlen
      refine (callsIn_wide (n := 9)).1 ?_
      refine callsIn_of_wp_marks Try.func34 rfl trivial ?_ rfl
      simp only [Try.ntmps34, List.size_toArray, List.length_cons, List.length_nil, Nat.reduceAdd, Nat.reduceSub, Array.replicate_succ, Array.replicate_zero, List.push_toArray, List.append_toArray, List.nil_append, List.cons_append]
      refine wpIn_wide.2 (Code.wp_mono bodyPostN_le ?_)
      go_wp2_with (first
        | (go_at_call 22; refine (in_calls _ _ _ _ _ HIN.out).mono ?_; rintro e w1 ⟨rfl, hb⟩; obtain ⟨k0, k1, ks, kb⟩ := two_boxes w _ _ w1 hb; have q0 : w1.cell? ⟨w.heap.size, 0, none⟩ = some (.slice A0 l0.length c0) := (blk_cell k0 0).trans rfl; have K0 := Aside0.mk k0; have K1 := Aside0.mk k1; have KB := Aside0.mk kb; have KS := Aside0.mk ks; clear hb k0 k1 kb ks)
        | (go_at_call 56; refine (HCON.out _ KB.out).mono ?_; rintro e w2 ⟨rfl, hb⟩; have k0 := (hb.block _ (Array.getElem?_eq_some_iff.1 K0.out).1).trans K0.out; have k1 := (hb.block _ (Array.getElem?_eq_some_iff.1 K1.out).1).trans K1.out; have kb := KB.out.trans (hb.mono KB.out.size); have ks := Nat.le_trans KS.out hb.size; clear K0 K1 KB KS q0; have K0 := Aside0.mk k0; have K1 := Aside0.mk k1; have KB := Aside0.mk kb; have KS := Aside0.mk ks; have q0 : w2.cell? ⟨w.heap.size, 0, none⟩ = some (.slice A0 l0.length c0) := (blk_cell k0 0).trans rfl; clear hb k0 k1 kb ks))
      go_loopw [21] (fun i wr => ∃ x : Int, i = .int .i64 x ∧ 0 ≤ x ∧ x ≤ (l0.length : Int) ∧ Aside0 (wear_checkOutline.twice l0 x.toNat = false) ∧ Aside0 (wr.heap[w.heap.size]? = some (.cells #[.slice A0 l0.length c0] 22 (0, 0))) ∧ Aside0 (wr.heap[w.heap.size + 1]? = some (.cells #[.int .i64 0] 35 (0, 0))) ∧ Aside0 (Below w.heap.size w wr) ∧ Aside0 (w.heap.size + 2 ≤ wr.heap.size))
        (fun i _ => l0.length - (intOf i).toNat)
      case atStart => exact ⟨0, rfl, by omega, by omega, ⟨rfl⟩, K0, K1, KB, KS⟩
      case round =>
        clear q0 K0 K1 KB KS
        obtain ⟨x, rfl, hx0, hx1, HT, K0, K1, KB, KS⟩ := hrel
        by_cases hlt : x < (l0.length : Int)
        · have q0 : wr.cell? ⟨w.heap.size, 0, none⟩ = some (.slice A0 l0.length c0) := (blk_cell K0.out 0).trans rfl
          obtain ⟨ad, e1, g0, g1⟩ := at_T32 (Kd.C_below (w1 := wr) HR0.out KB.out) x hx0 hlt
          subst e1
          have px := eq_true hx0
          have qx := eq_true hlt
          have HX := Aside0.mk (And.intro hx0 hlt)
          have hcut := cut_to (P := Try.prog) 22 32 .i64 (by kernel_rfl) (i := (Try.prog.info? 32).getD default) (by kernel_rfl) (some ad) l0.length c0 x hx0 (by omega) HC0.out
          have HWX := Aside0.mk (IntWalk.wrap64_in (x + 1) (by omega))
          have hlx : x.toNat < l0.length := by omega
          have HTS := Aside0.mk (show wear_checkOutline.twice l0 (x.toNat + 1) = (l0.take x.toNat).any (fun q => (rd_T32 l0 x).f0 == q.f0 && (rd_T32 l0 x).f1 == q.f1) from by
            simp only [wear_checkOutline.twice, HT.out, Bool.false_or]; rfl)
          have hctk : ∀ W : World, Below w.heap.size w W → Kd.C k32 W (some ad) (l0.take x.toNat).length (l0.take x.toNat) := fun W hb => Kd.C_take (Kd.C_below HR0.out hb) (by omega)
          have hltk : (l0.take x.toNat).length = x.toNat := by rw [List.length_take]; omega
          rw [hltk] at hctk
          obtain ⟨kf, hcon⟩ := pts.contains (l0.take x.toNat) (rd_T32 l0 x).f0 (rd_T32 l0 x).f1 (by rw [hltk]; omega)
          rw [← HTS.out] at hcon
          have HCALL := Aside0.mk (fun (W : World) (hb : Below w.heap.size w W) => api_Pt_58.calls kf (some ad) c0 (l0.take x.toNat) (rd_T32 l0 x).f0 (rd_T32 l0 x).f1 _ W (by rw [hltk]; exact hctk W hb) (by rw [hltk]; have := HC0.out; omega) hcon)
          rw [hltk] at HCALL
          clear hcon hctk hltk hlx HTS HT; clear hx0 hx1 hlt
          go_wp2
          have hb5 : Below wr.heap.size wr (wr.alloc (.cells #[.int .i64 (rd_T32 l0 x).f0, .int .i64 (rd_T32 l0 x).f1] 32)) := (Below.refl _ _).alloc (Nat.le_refl _) _
          have k5 : (wr.alloc (.cells #[.int .i64 (rd_T32 l0 x).f0, .int .i64 (rd_T32 l0 x).f1] 32)).heap[wr.heap.size]? = some (.cells #[.int .i64 (rd_T32 l0 x).f0, .int .i64 (rd_T32 l0 x).f1] 32 (0, 0)) := World.alloc_heap_new _ _
          generalize wr.alloc (.cells #[.int .i64 (rd_T32 l0 x).f0, .int .i64 (rd_T32 l0 x).f1] 32) = w5 at hb5 k5 ⊢
          have K05 := Aside0.mk ((hb5.block _ (Array.getElem?_eq_some_iff.1 K0.out).1).trans K0.out)
          have K15 := Aside0.mk ((hb5.block _ (Array.getElem?_eq_some_iff.1 K1.out).1).trans K1.out)
          have KB5 := Aside0.mk (KB.out.trans (hb5.mono KB.out.size))
          have KS5 := Aside0.mk (Nat.le_trans KS.out hb5.size)
          have h4 : w5.cell? ⟨w.heap.size, 0, none⟩ = some (.slice (some ad) l0.length c0) := (blk_cell K05.out 0).trans rfl
          obtain ⟨h0, h1⟩ := zc2 ⟨k5⟩
          clear hb5 k5 q0 g0 g1
          refine start_ (n := 5) (S := fun w' => w'.cell? ⟨w.heap.size, 0, none⟩ = some (.slice (some ad) l0.length c0) ∧ w'.cell? ⟨wr.heap.size, 0, none⟩ = some (.int .i64 (rd_T32 l0 x).f0) ∧ w'.cell? ⟨wr.heap.size, 1, none⟩ = some (.int .i64 (rd_T32 l0 x).f1)) (ds := [4]) #[Z0, Z0, Z0, Z0, Z0] (by kernel_rfl) rfl rfl ⟨h4, h0, h1⟩ (fun hHeld => ?_)
          refine take_ (i := 0) (N := (some 26)) (v := ?_) (a' := ?_) #[Z1, Z0, Z0, Z0, Z0] rfl rfl (by kernel_rfl) (fun _ _ _ h => h) (Or.inl ⟨by rfl, ?_⟩) hHeld ?_ ?_
          rotate_left; · rintro w' ⟨s0, s1, s2⟩; go_simp; with_reducible rfl
          rotate_left; · simp only [Act.put, List.setIfInBounds_toArray, List.set_cons_zero, List.set_cons_succ, i64_w, i32_w]; rfl
          refine zp 1 (some 27) #[Z1, Z1, Z0, Z0, Z0] rfl rfl (by kernel_rfl) ?_
          refine zp 2 (some 28) #[Z1, Z1, Z1, Z0, Z0] rfl rfl (by kernel_rfl) ?_
          refine take_ (i := 3) (N := (some 29)) (v := ?_) (a' := ?_) #[Z1, Z1, Z1, Z1, Z0] rfl rfl (by kernel_rfl) (fun _ _ _ h => h) (Or.inl ⟨by rfl, ?_⟩) hHeld ?_ ?_
          rotate_left; · rintro w' ⟨s0, s1, s2⟩; go_simp; with_reducible rfl
          rotate_left; · simp only [Act.put, List.setIfInBounds_toArray, List.set_cons_zero, List.set_cons_succ, i64_w, i32_w]; rfl
          refine last_ (i := 4) (N := some 30) #[Z1, Z1, Z1, Z1, Z1] rfl rfl (by kernel_rfl) (by decide) (fun K hK => ?_)
          go_simp
          go_at_call 58
          refine (HCALL.out w5.drew (by exact KB5.out.drew)).mono ?_
          rintro e w6 ⟨rfl, hb6⟩
          have hb6 : Below w5.heap.size w5 w6 := (Below.refl _ w5).drew.trans hb6
          refine hK.out _ _ (done_ (by kernel_rfl) ?_)
          have k0 := (hb6.block _ (Array.getElem?_eq_some_iff.1 K05.out).1).trans K05.out
          have k1 := (hb6.block _ (Array.getElem?_eq_some_iff.1 K15.out).1).trans K15.out
          have K06 := Aside0.mk k0
          have K16 := Aside0.mk k1
          have KB6 := Aside0.mk (KB5.out.trans (hb6.mono KB5.out.size))
          have KS6 := Aside0.mk (Nat.le_trans KS5.out hb6.size)
          clear hK K hHeld h0 h1 h4 hb6 hcut K0 K1 KB KS K05 K15 KB5 KS5 k0
          cases htw : wear_checkOutline.twice l0 (x.toNat + 1) with
          | true =>
            have z0 : w6.cell? ⟨w.heap.size + 1, 0, none⟩ = some (.int .i64 0) := (blk_cell k1 0).trans rfl
            have z1 := blk_frozen k1 0
            have HE := Aside0.mk (show wear_checkOutline.err l0 = 6 from by
              unfold wear_checkOutline.err; rw [HPLN.out, decide_eq_true HLEN.out, wear_checkOutline.twice_yes l0 (x.toNat + 1) l0.length (by have := HX.out; omega) htw]; rfl)
            clear htw k1
            go_wp2
            obtain ⟨e1, e2, _⟩ := co_end (v := .int .i64 6) K16.out KB6.out (by omega)
            refine ⟨.int .i64 6, by simp [results, Try.results34, go_sem, e1], by rw [HE.out], e2⟩
          | false =>
            have HTW := Aside0.mk htw
            clear htw k1
            go_wp2
            rw [HWX.out]
            refine ⟨?_, ?_⟩
            · exact ⟨x + 1, rfl, by have := HX.out; omega, by have := HX.out; omega, ⟨by rw [show (x + 1).toNat = x.toNat + 1 by have := HX.out; omega]; exact HTW.out⟩, K06, K16, KB6, KS6⟩
            have := HX.out
            simp [intOf]
            omega
        have hx2 : x = (l0.length : Int) := by omega
        subst hx2
        have HT2 := Aside0.mk (show wear_checkOutline.twice l0 l0.length = false by simpa using HT.out)
        clear HT hx0 hx1
        have q0 : wr.cell? ⟨w.heap.size, 0, none⟩ = some (.slice A0 l0.length c0) := (blk_cell K0.out 0).trans rfl
        obtain ⟨wo, rfl⟩ : ∃ wo : World, wo = wr := ⟨_, rfl⟩
        go_wp2
        have hlen := HLEN.out
        obtain ⟨m, hm⟩ : ∃ m : Int, (l0.length : Int) - 1 = m := ⟨_, rfl⟩
        have hm0 : 0 ≤ m := by omega
        have hm1 : m < (l0.length : Int) := by omega
        obtain ⟨ad, e1, g0, g1⟩ := at_T32 (Kd.C_below (w1 := wo) HR0.out KB.out) m hm0 hm1
        obtain ⟨ad2, e2, g2, g3⟩ := at_T32 (Kd.C_below (w1 := wo) HR0.out KB.out) 0 (by omega) (by omega)
        rw [e1] at e2
        obtain rfl : ad = ad2 := Option.some.inj e2
        subst e1
        have hb5 : Below wo.heap.size wo (wo.alloc (.cells #[.bool false] 4)) := (Below.refl _ _).alloc (Nat.le_refl _) _
        have k5 : (wo.alloc (.cells #[.bool false] 4)).heap[wo.heap.size]? = some (.cells #[.bool false] 4 (0, 0)) := World.alloc_heap_new _ _
        have ks5 : (wo.alloc (.cells #[.bool false] 4)).heap.size = wo.heap.size + 1 := by simp
        generalize wo.alloc (.cells #[.bool false] 4) = w5 at hb5 k5 ks5 ⊢
        have h0 := (hb5.cell (World.block_lt_of_cell? wo _ g0)).trans g0
        have h1 := (hb5.cell (World.block_lt_of_cell? wo _ g1)).trans g1
        have h2 := (hb5.cell (World.block_lt_of_cell? wo _ g2)).trans g2
        have h3 := (hb5.cell (World.block_lt_of_cell? wo _ g3)).trans g3
        have h4 := (hb5.cell (World.block_lt_of_cell? wo _ q0)).trans q0
        have HB5 := Aside0.mk hb5
        have K5 := Aside0.mk k5
        have KS5 := Aside0.mk ks5
        have hw := (show wrap64 ((l0.length : Int) - 1) = m from by rw [hm]; exact IntWalk.wrap64_in m (by omega))
        have pm := eq_true hm0
        have qm := eq_true hm1
        have HM := Aside0.mk hm
        have pz : (0 < l0.length) = True := eq_true (by omega)
        clear hb5 k5 ks5 g0 g1 g2 g3 q0 hlen hm hm0 hm1
        refine start_ (n := 12) (S := fun w' => w'.cell? ⟨w.heap.size, 0, none⟩ = some (.slice (some ad) l0.length c0) ∧ w'.cell? (ad.add (m.toNat * 2)) = some (.int .i64 (rd_T32 l0 m).f0) ∧ w'.cell? ⟨(ad.add (m.toNat * 2)).block, (ad.add (m.toNat * 2)).off + 1, none⟩ = some (.int .i64 (rd_T32 l0 m).f1) ∧ w'.cell? ad = some (.int .i64 (rd_T32 l0 0).f0) ∧ w'.cell? ⟨ad.block, ad.off + 1, none⟩ = some (.int .i64 (rd_T32 l0 0).f1)) (ds := [11]) #[Z0, Z0, Z0, Z0, Z0, Z0, Z0, Z0, Z0, Z0, Z0, Z0] (by kernel_rfl) rfl rfl ⟨h4, h0, h1, by simpa [Addr.add] using h2, by simpa [Addr.add] using h3⟩ (fun hHeld => ?_)
        refine take_ (i := 0) (N := (some 32)) (v := ?_) (a' := ?_) #[Z1, Z0, Z0, Z0, Z0, Z0, Z0, Z0, Z0, Z0, Z0, Z0] rfl rfl (by kernel_rfl) (fun _ _ _ h => h) (Or.inl ⟨by rfl, ?_⟩) hHeld ?_ ?_
        rotate_left; · rintro w' ⟨s0, s1, s2, s3, s4⟩; go_simp; with_reducible rfl
        rotate_left; · simp only [Act.put, List.setIfInBounds_toArray, List.set_cons_zero, List.set_cons_succ, i64_w, i32_w]; rfl
        refine take_ (i := 1) (N := (some 33)) (v := ?_) (a' := ?_) #[Z1, Z1, Z0, Z0, Z0, Z0, Z0, Z0, Z0, Z0, Z0, Z0] rfl rfl (by kernel_rfl) (fun _ _ _ h => h) (Or.inl ⟨by rfl, ?_⟩) hHeld ?_ ?_
        rotate_left; · rintro w' ⟨s0, s1, s2, s3, s4⟩; go_simp; with_reducible rfl
        rotate_left; · simp only [Act.put, List.setIfInBounds_toArray, List.set_cons_zero, List.set_cons_succ, i64_w, i32_w]; rfl
        refine zp 2 (some 34) #[Z1, Z1, Z1, Z0, Z0, Z0, Z0, Z0, Z0, Z0, Z0, Z0] rfl rfl (by kernel_rfl) ?_
        refine zp 3 (some 35) #[Z1, Z1, Z1, Z1, Z0, Z0, Z0, Z0, Z0, Z0, Z0, Z0] rfl rfl (by kernel_rfl) ?_
        refine zp 4 (some 36) #[Z1, Z1, Z1, Z1, Z1, Z0, Z0, Z0, Z0, Z0, Z0, Z0] rfl rfl (by kernel_rfl) ?_
        refine take_ (i := 5) (N := (some 37)) (v := ?_) (a' := ?_) #[Z1, Z1, Z1, Z1, Z1, Z1, Z0, Z0, Z0, Z0, Z0, Z0] rfl rfl (by kernel_rfl) (fun _ _ _ h => h) (Or.inl ⟨by rfl, ?_⟩) hHeld ?_ ?_
        rotate_left; · rintro w' ⟨s0, s1, s2, s3, s4⟩; go_simp; with_reducible rfl
        rotate_left; · simp only [Act.put, List.setIfInBounds_toArray, List.set_cons_zero, List.set_cons_succ, i64_w, i32_w]; rfl
        refine take_ (i := 6) (N := (some 38)) (v := ?_) (a' := ?_) #[Z1, Z1, Z1, Z1, Z1, Z1, Z1, Z0, Z0, Z0, Z0, Z0] rfl rfl (by kernel_rfl) (fun _ _ _ h => h) (Or.inl ⟨by rfl, ?_⟩) hHeld ?_ ?_
        rotate_left; · rintro w' ⟨s0, s1, s2, s3, s4⟩; go_simp; with_reducible rfl
        rotate_left; · simp only [Act.put, List.setIfInBounds_toArray, List.set_cons_zero, List.set_cons_succ, i64_w, i32_w]; rfl
        refine zp 7 (some 39) #[Z1, Z1, Z1, Z1, Z1, Z1, Z1, Z1, Z0, Z0, Z0, Z0] rfl rfl (by kernel_rfl) ?_
        refine take_ (i := 8) (N := (some 40)) (v := ?_) (a' := ?_) #[Z1, Z1, Z1, Z1, Z1, Z1, Z1, Z1, Z1, Z0, Z0, Z0] rfl rfl (by kernel_rfl) (fun _ _ _ h => h) (Or.inl ⟨by rfl, ?_⟩) hHeld ?_ ?_
        rotate_left; · rintro w' ⟨s0, s1, s2, s3, s4⟩; go_simp; with_reducible rfl
        rotate_left; · simp only [Act.put, List.setIfInBounds_toArray, List.set_cons_zero, List.set_cons_succ, i64_w, i32_w]; rfl
        refine zp 9 (some 41) #[Z1, Z1, Z1, Z1, Z1, Z1, Z1, Z1, Z1, Z1, Z0, Z0] rfl rfl (by kernel_rfl) ?_
        refine one_ (i := 10) (N := some 6) #[Z1, Z1, Z1, Z1, Z1, Z1, Z1, Z1, Z1, Z1, Z1, Z0] rfl rfl (by kernel_rfl) (by decide) (fun K hK => ?_)
        go_simp
        have hb6 : Below w5.heap.size w5 (w5.alloc (.cells #[.int .i64 0, .int .i64 0, .int .i64 0, .int .i64 0] 87)).drew := ((Below.refl _ _).alloc (Nat.le_refl _) _).drew
        have k6 : (w5.alloc (.cells #[.int .i64 0, .int .i64 0, .int .i64 0, .int .i64 0] 87)).drew.heap[w5.heap.size]? = some (.cells #[.int .i64 0, .int .i64 0, .int .i64 0, .int .i64 0] 87 (0, 0)) := World.alloc_heap_new _ _
        have ks6 : (w5.alloc (.cells #[.int .i64 0, .int .i64 0, .int .i64 0, .int .i64 0] 87)).drew.heap.size = w5.heap.size + 1 := World.size_alloc _ _
        generalize (w5.alloc (.cells #[.int .i64 0, .int .i64 0, .int .i64 0, .int .i64 0] 87)).drew = w6 at hb6 k6 ks6 ⊢
        refine hK.out _ _ ⟨(hb6.cell (World.block_lt_of_cell? w5 _ h4)).trans h4, (hb6.cell (World.block_lt_of_cell? w5 _ h0)).trans h0, (hb6.cell (World.block_lt_of_cell? w5 _ h1)).trans h1, (hb6.cell (World.block_lt_of_cell? w5 _ hHeld.2.2.2.1)).trans hHeld.2.2.2.1, (hb6.cell (World.block_lt_of_cell? w5 _ hHeld.2.2.2.2)).trans hHeld.2.2.2.2⟩ (fun hHeld => ?_)
        clear hK K
        have z0 := (blk_cell k6 0).trans rfl
        have z1 := (blk_cell k6 1).trans rfl
        have z2 := (blk_cell k6 2).trans rfl
        have z3 := (blk_cell k6 3).trans rfl
        obtain ⟨y0, y1, y2, y3⟩ := zg4 ⟨k6⟩
        refine last_ (i := 11) (N := none) #[Z1, Z1, Z1, Z1, Z1, Z1, Z1, Z1, Z1, Z1, Z1, Z1] rfl rfl (by kernel_rfl) (by decide) (fun K hK => ?_)
        go_simp
        have k7 := four_set (p := .int .i64 (rd_T32 l0 m).f0) (q := .int .i64 (rd_T32 l0 m).f1) (r := .int .i64 (rd_T32 l0 0).f0) (s := .int .i64 (rd_T32 l0 0).f1) k6
        have hb7 := four_below (p := .int .i64 (rd_T32 l0 m).f0) (q := .int .i64 (rd_T32 l0 m).f1) (r := .int .i64 (rd_T32 l0 0).f0) (s := .int .i64 (rd_T32 l0 0).f1) hb6 (Nat.le_refl w5.heap.size)
        have ks7 := (four_size (W := w6) (g := w5.heap.size) (p := .int .i64 (rd_T32 l0 m).f0) (q := .int .i64 (rd_T32 l0 m).f1) (r := .int .i64 (rd_T32 l0 0).f0) (s := .int .i64 (rd_T32 l0 0).f1)).trans ks6
        generalize ((((w6.setCell ⟨w5.heap.size, 0, none⟩ (.int .i64 (rd_T32 l0 m).f0)).setCell ⟨w5.heap.size, 1, none⟩ (.int .i64 (rd_T32 l0 m).f1)).setCell ⟨w5.heap.size, 2, none⟩ (.int .i64 (rd_T32 l0 0).f0)).setCell ⟨w5.heap.size, 3, none⟩ (.int .i64 (rd_T32 l0 0).f1)) = w7 at k7 hb7 ks7 ⊢
        have hst7 : co.St w wo.heap.size w5.heap.size (.slice (some ad) l0.length c0) false (wear_checkOutline.scan l0 []).1 w7 :=
          ⟨(hb7.block _ (by have := KS5.out; have := KS.out; omega)).trans ((HB5.out.block _ (by have := KS.out; omega)).trans K0.out), (hb7.block _ (by have := KS5.out; have := KS.out; omega)).trans ((HB5.out.block _ (by have := KS.out; omega)).trans K1.out), (hb7.block _ (by have := KS5.out; omega)).trans K5.out,
            by rw [k7]; simp [edgeCells, wear_checkOutline.scan, rd_T32, ← HM.out, show ((l0.length : Int) - 1).toNat = l0.length - 1 by omega], (KB.out.trans (HB5.out.mono KB.out.size)).trans (hb7.mono (by have := KS5.out; have := KB.out.size; omega))⟩
        refine hK.out _ _ (done_ (by kernel_rfl) ?_)
        have q7 : w7.cell? ⟨w.heap.size, 0, none⟩ = some (.slice (some ad) l0.length c0) := (blk_cell hst7.k1 0).trans rfl
        have HST7 := Aside0.mk hst7
        have KS7 := Aside0.mk ks7
        clear hK K hst7 k7 hb7 ks7 k6 hb6 ks6 z0 z1 z2 z3 y0 y1 y2 y3 hHeld h0 h1 h2 h3 h4 hw pm qm pz
        go_wp2_with (go_at_call 41; refine (wear_sides.calls _ _ _ _).mono ?_; rintro e w8 ⟨rfl, rfl⟩)
        have hst8 := HST7.out.below ((Below.refl _ w7).alloc (Nat.le_refl _) (.cells #[.slice (some ad) l0.length c0] 22))
        have k8 : (w7.alloc (.cells #[.slice (some ad) l0.length c0] 22)).heap[w7.heap.size]? = some (.cells #[.slice (some ad) l0.length c0] 22 (0, 0)) := World.alloc_heap_new _ _
        have ks8 : (w7.alloc (.cells #[.slice (some ad) l0.length c0] 22)).heap.size = w7.heap.size + 1 := World.size_alloc _ _
        generalize w7.alloc (.cells #[.slice (some ad) l0.length c0] 22) = w8 at hst8 k8 ks8 ⊢
        have HST8 := Aside0.mk hst8
        have KS8 := Aside0.mk ks8
        have hsz : w.heap.size + 2 ≤ wo.heap.size ∧ w5.heap.size = wo.heap.size + 1 ∧ w7.heap.size = wo.heap.size + 2 ∧ w8.heap.size = wo.heap.size + 3 := by
          have := KS.out; have := KS5.out; have := KS7.out; omega
        have HSZ := Aside0.mk hsz
        clear hst8 ks8 hsz q7
        refine (wpIn_wide (n := 9)).1 ?_
        refine wpIn_rangeFunc_ownH rfl (by omega) (gf := 60) (lb := #[.pointer (some ⟨w7.heap.size, 0, none⟩)]) rfl trivial (enters_of Try.func60 (by kernel_rfl) rfl)
          (wear_sides.stops 8 (by omega) w7.heap.size (some ad) c0 l0 HC0.out w HR0.out w8 HST8.out.kb k8) keepsBox_t (keepsBox_b HST8.out.kb.size (by have := HSZ.out; omega)) (Below.refl _ _) (fun _ => rfl)
          (co.I w wo.heap.size w5.heap.size (.slice (some ad) l0.length c0) l0 w8.heap.size) (co.X w l0)
          (co.I.own HST8.out.kb.size) (co.X.own HST8.out.kb.size) ⟨HST8.out, rfl, Nat.le_refl _⟩
          (fun x a' W => ∃ Bx, W.heap[Bx]? = some (.cells (edgeCells x) 87 (0, 0)) ∧ w8.heap.size ≤ Bx ∧ a' = { tmps := #[.slice (some ad) l0.length c0, .pointer (some ⟨w.heap.size, 0, none⟩), .pointer (some ⟨w.heap.size + 1, 0, none⟩), u3, u4, .pointer (some ⟨wo.heap.size, 0, none⟩), .pointer (some ⟨w5.heap.size, 0, none⟩), .pointer (some ⟨Bx, 0, none⟩), undef, undef, undef, .slice (some ad) l0.length c0, .int .i64 (l0.length : Int), .bool true, .bool false, .bool false, .slice (some ad) l0.length c0, .bool false, .bool false, .slice (some ad) l0.length c0, .int .i64 (l0.length : Int), .int .i64 (l0.length : Int), .bool false, u23, u24, u25, u26, u27, u28, u29, u30, u31, .slice (some ad) l0.length c0, .slice (some ad) l0.length c0, .int .i64 (l0.length : Int), .int .i64 m, .pointer (some (ad.add (m.toNat * 2))), .agg #[.int .i64 (rd_T32 l0 m).f0, .int .i64 (rd_T32 l0 m).f1], .slice (some ad) l0.length c0, .pointer (some ad), .agg #[.int .i64 (rd_T32 l0 0).f0, .int .i64 (rd_T32 l0 0).f1], .agg #[.int .i64 (rd_T32 l0 m).f0, .int .i64 (rd_T32 l0 m).f1, .int .i64 (rd_T32 l0 0).f0, .int .i64 (rd_T32 l0 0).f1], .slice (some ad) l0.length c0, .func (.func 60) #[] #[.pointer (some ⟨w7.heap.size, 0, none⟩)], .agg #[.int .i64 x.1.f0, .int .i64 x.1.f1, .int .i64 x.2.f0, .int .i64 x.2.f1], undef, undef, undef, undef, undef, undef, undef, undef, undef, undef, undef, undef, undef, undef, undef, undef, undef, undef, undef, undef, undef, undef, undef, undef, undef, undef, undef, undef, undef, undef, undef, undef, undef, undef, undef, undef, undef, undef, undef, undef, undef, undef, undef, undef, undef, undef, undef, undef, undef, undef, undef, undef, undef, undef, undef, undef, undef, undef], defers := [] })
          (fun x a' s X Y row hs hg hr => by obtain ⟨Bx, h1, h2⟩ := hs; exact ⟨Bx, blk_ownFrom h1 hg hr, h2⟩)
          ?assign ?body ?done ?stop
        case assign =>
          rintro l pre x W K hi hK
          have HI := Aside0.mk hi
          clear hi
          simp only [wear_sides.enc]
          gi_wp2
          exact hK _ _ ((KeepsOthers.alloc _ _).from _) (keepsBox_below ((Below.refl _ _).alloc (Nat.le_refl _) _) HI.out.1.kb.size (by have := HSZ.out; have := HI.out.2.2; omega)) ⟨HI.out.1.below ((Below.refl _ _).alloc (Nat.le_refl _) _), HI.out.2.1, Nat.le_trans HI.out.2.2 (by simp)⟩ ⟨W.heap.size, World.alloc_heap_new _ _, HI.out.2.2, rfl⟩
        case body =>
          rintro l pre x a' W hl - hi ⟨Bx, hBx, hBn, rfl⟩ hlen
          have HI := Aside0.mk hi
          have HBX := Aside0.mk hBx
          have HBN := Aside0.mk hBn
          have HL := Aside0.mk hl
          clear hi hBx hBn hl hlen
          have q1 : W.cell? ⟨w.heap.size, 0, none⟩ = some (.slice (some ad) l0.length c0) := (blk_cell HI.out.1.k1 0).trans rfl
          gi_wp2
          gi_loopw [47] (fun i wr => ∃ j : Int, i = .int .i64 j ∧ 0 ≤ j ∧ j ≤ (l0.length : Int) ∧ Aside0 (co.neg x (l0.take j.toNat) = false) ∧ Aside0 (co.St w wo.heap.size w5.heap.size (.slice (some ad) l0.length c0) ((wear_checkOutline.scan l0 pre).2.1 || co.pos x (l0.take j.toNat)) (wear_checkOutline.scan l0 pre).1 wr) ∧ Aside0 (wr.heap[Bx]? = some (.cells (edgeCells x) 87 (0, 0))) ∧ Aside0 (KeepsOthers W wr) ∧ Aside0 (KeepsBox w.heap.size w7.heap.size W wr))
            (fun i _ => l0.length - (intOf i).toNat)
          case atStart => exact ⟨0, rfl, by omega, by omega, ⟨by simp [co.neg]⟩, ⟨by simpa [co.pos] using HI.out.1⟩, HBX, ⟨KeepsOthers.refl _⟩, ⟨Below.refl _ _, rfl⟩⟩
          case round =>
            clear q1
            obtain ⟨j, rfl, hj0, hj1, HN, HS, HBX, HKO, HKB⟩ := hrel
            by_cases hlt : j < (l0.length : Int)
            · have pj := eq_true hj0
              have qj := eq_true hlt
              have HJ := Aside0.mk (And.intro hj0 hlt)
              obtain ⟨ad3, e1, g0, g1⟩ := at_T32 (Kd.C_below (w1 := wr) HR0.out HS.out.kb) j hj0 hlt
              obtain rfl : ad = ad3 := Option.some.inj e1
              have HWJ := Aside0.mk (IntWalk.wrap64_in (j + 1) (by omega))
              have HNJ := Aside0.mk (show co.neg x (l0.take (j + 1).toNat) = (co.neg x (l0.take j.toNat) || decide (wear_has.left x.1 x.2 (rd_T32 l0 j).f0 (rd_T32 l0 j).f1 < 0)) from co.take_snoc _ l0 j hj0 hlt)
              have HPJ := Aside0.mk (show co.pos x (l0.take (j + 1).toNat) = (co.pos x (l0.take j.toNat) || decide (wear_has.left x.1 x.2 (rd_T32 l0 j).f0 (rd_T32 l0 j).f1 > 0)) from co.take_snoc _ l0 j hj0 hlt)
              clear hj0 hj1 hlt e1
              have hbx2 : (wr.alloc (.cells #[.int .i64 (rd_T32 l0 j).f0, .int .i64 (rd_T32 l0 j).f1] 32)).heap[Bx]? = some (.cells (edgeCells x) 87 (0, 0)) := (((Below.refl wr.heap.size wr).alloc (Nat.le_refl _) _).block _ (Array.getElem?_eq_some_iff.1 HBX.out).1).trans HBX.out
              obtain ⟨q0, q1, q2, q3⟩ := zc4 ⟨hbx2⟩
              clear hbx2
              have HCALL := Aside0.mk (fun (W : World) => wear_side_left.calls x.1.f0 x.1.f1 x.2.f0 x.2.f1 (rd_T32 l0 j).f0 (rd_T32 l0 j).f1 (wear_has.left x.1 x.2 (rd_T32 l0 j).f0 (rd_T32 l0 j).f1) W rfl)
              generalize hL : wear_has.left x.1 x.2 (rd_T32 l0 j).f0 (rd_T32 l0 j).f1 = L at HCALL HNJ HPJ
              generalize hsb : ((wear_checkOutline.scan l0 pre).2.1 || co.pos x (l0.take j.toNat)) = sb at HS
              have HSB := Aside0.mk hsb
              clear hL hsb
              by_cases hneg : L < 0
              · have hd := decide_eq_true hneg
                have HNX := Aside0.mk (co.step_bad1 l0 pre x (co.neg_take x l0 (j + 1).toNat (by rw [HNJ.out, hd, Bool.or_true])))
                clear hneg
                gi_wp2_with (refine ⟨trivial, ?_⟩; gi_at_call 42; refine (CallsIn.inRound l (callsIn_wide.2 (HCALL.out _))).mono ?_; rintro e w3 ⟨rfl, hb3⟩; have hb3 := ((Below.refl wr.heap.size wr).alloc (Nat.le_refl _) _).trans (hb3.mono (by simp)); have hs3 := HS.out.below hb3; have z0 : w3.cell? ⟨w.heap.size + 1, 0, none⟩ = some (.int .i64 0) := (blk_cell hs3.k2 0).trans rfl; have z1 := blk_frozen hs3.k2 0; have HS3 := Aside0.mk hs3; have HB3 := Aside0.mk hb3; clear hs3 hb3)
                refine ⟨((HKO.out.trans (keeps_of_below HB3.out)).trans (KeepsOthers.setCell _ _ _)).from _, rfl, HNX.out, ?_, ?_⟩
                · exact (HS3.out.set2 9).1
                exact (HS3.out.set2 9).2
              have hd := decide_eq_false hneg
              have HN1 := Aside0.mk (show co.neg x (l0.take (j + 1).toNat) = false by rw [HNJ.out, hd, HN.out]; rfl)
              have HNEG := Aside0.mk hneg
              clear hneg
              by_cases hpos : L > 0
              · have hp := decide_eq_true hpos
                have HS1 := Aside0.mk (show ((wear_checkOutline.scan l0 pre).2.1 || co.pos x (l0.take (j + 1).toNat)) = true by rw [HPJ.out, hp, Bool.or_true, Bool.or_true])
                clear hpos
                gi_wp2_with (refine ⟨trivial, ?_⟩; gi_at_call 42; refine (CallsIn.inRound l (callsIn_wide.2 (HCALL.out _))).mono ?_; rintro e w3 ⟨rfl, hb3⟩; have hb3 := ((Below.refl wr.heap.size wr).alloc (Nat.le_refl _) _).trans (hb3.mono (by simp)); have hs3 := HS.out.below hb3; have z0 : w3.cell? ⟨wo.heap.size, 0, none⟩ = some (.bool sb) := (blk_cell hs3.k5 0).trans rfl; have z1 := blk_frozen hs3.k5 0; have HS3 := Aside0.mk hs3; have HB3 := Aside0.mk hb3; clear hs3 hb3)
                rw [HWJ.out]
                refine ⟨⟨j + 1, rfl, by have := HJ.out; omega, by have := HJ.out; omega, HN1, ⟨by rw [HS1.out]; exact HS3.out.set5 HSZ.out.1 (by have := HSZ.out; omega) true⟩, ⟨(Below.heap_setCell _ _ _ _ (by have := HSZ.out; have := HBN.out; simp; omega)).trans ((HB3.out.block _ (Array.getElem?_eq_some_iff.1 HBX.out).1).trans HBX.out)⟩, ⟨(HKO.out.trans (keeps_of_below HB3.out)).trans (KeepsOthers.setCell _ _ _)⟩, ⟨keepsBox_t (keepsBox_t HKB.out (keepsBox_below HB3.out ?_ ?_)) ⟨(Below.refl _ _).setCell (by have := HSZ.out; simp; omega) _, Below.heap_setCell _ _ _ _ (by have := HSZ.out; simp; omega)⟩⟩⟩, ?_⟩
                · exact HS.out.kb.size
                · have := HSZ.out; have := HI.out.2.2; have := HKB.out.1.size; omega
                have := HJ.out
                simp [intOf]
                omega
              have hp := decide_eq_false hpos
              have HS1 := Aside0.mk (show ((wear_checkOutline.scan l0 pre).2.1 || co.pos x (l0.take (j + 1).toNat)) = sb by rw [HPJ.out, hp, Bool.or_false]; exact HSB.out)
              clear hpos
              gi_wp2_with (refine ⟨trivial, ?_⟩; gi_at_call 42; refine (CallsIn.inRound l (callsIn_wide.2 (HCALL.out _))).mono ?_; rintro e w3 ⟨rfl, hb3⟩; have hb3 := ((Below.refl wr.heap.size wr).alloc (Nat.le_refl _) _).trans (hb3.mono (by simp)); have HB3 := Aside0.mk hb3; clear hb3)
              rw [HWJ.out]
              refine ⟨⟨j + 1, rfl, by have := HJ.out; omega, by have := HJ.out; omega, HN1, ⟨by rw [HS1.out]; exact HS.out.below HB3.out⟩, ⟨(HB3.out.block _ (Array.getElem?_eq_some_iff.1 HBX.out).1).trans HBX.out⟩, ⟨HKO.out.trans (keeps_of_below HB3.out)⟩, ⟨keepsBox_t HKB.out (keepsBox_below HB3.out ?_ ?_)⟩⟩, ?_⟩
              · exact HS.out.kb.size
              · have := HSZ.out; have := HI.out.2.2; have := HKB.out.1.size; omega
              have := HJ.out
              simp [intOf]
              omega
            have hj2 : j = (l0.length : Int) := by omega
            subst hj2
            have HN2 := Aside0.mk (show co.neg x l0 = false by simpa using HN.out)
            have HS2 : Aside0 (co.St w wo.heap.size w5.heap.size (.slice (some ad) l0.length c0) ((wear_checkOutline.scan l0 pre).2.1 || co.pos x l0) (wear_checkOutline.scan l0 pre).1 wr) := ⟨by simpa using HS.out⟩
            clear HN HS hj0 hj1
            have HGOOD := Aside0.mk (co.step_good l0 pre x HI.out.2.1 HN2.out)
            have HBAD := Aside0.mk (co.step_bad2 l0 pre x)
            generalize hLa : (wear_checkOutline.scan l0 pre).1 = La at HS2 HGOOD HBAD
            generalize hsb : ((wear_checkOutline.scan l0 pre).2.1 || co.pos x l0) = sb at HS2 HGOOD
            have HI1 := Aside0.mk HI.out.2.2
            have HI0 := Aside0.mk HI.out.1.kb
            clear hLa hsb HI
            have hb6 := Aside0.mk HS2.out.k6
            obtain ⟨q0, q1, q2, q3⟩ := zc4 ⟨hb6.out⟩
            obtain ⟨p0, p1, p2, p3⟩ := zc4 ⟨HBX.out⟩
            have HCALL := Aside0.mk (fun (W : World) => wear_side_left.calls La.1.f0 La.1.f1 La.2.f0 La.2.f1 x.2.f0 x.2.f1 (wear_has.left La.1 La.2 x.2.f0 x.2.f1) W rfl)
            have HBK := Aside0.mk (show wear_checkOutline.back La x = (decide (wear_has.left La.1 La.2 x.2.f0 x.2.f1 = 0) && decide (wrap64 (wrap64 (wrap64 (La.2.f0 - La.1.f0) * wrap64 (x.2.f0 - x.1.f0)) + wrap64 (wrap64 (La.2.f1 - La.1.f1) * wrap64 (x.2.f1 - x.1.f1))) < 0)) from rfl)
            generalize wear_has.left La.1 La.2 x.2.f0 x.2.f1 = L at HCALL HBK
            have HNEXT : Aside0 (∀ W3 : World, Below wr.heap.size wr W3 → wear_checkOutline.back La x = false → ownPostG w8.heap.size (KeepsBox w.heap.size w7.heap.size)
                (co.I w wo.heap.size w5.heap.size (Value.slice (some ad) l0.length c0) l0 w8.heap.size) (co.X w l0) (pre ++ [x]) W .normal { tmps := #[], defers := [] }
                ((((W3.setCell ⟨w5.heap.size, 0, none⟩ (.int .i64 x.1.f0)).setCell ⟨w5.heap.size, 1, none⟩ (.int .i64 x.1.f1)).setCell ⟨w5.heap.size, 2, none⟩ (.int .i64 x.2.f0)).setCell ⟨w5.heap.size, 3, none⟩ (.int .i64 x.2.f1))) := ⟨by
              intro W3 hb3 hbk
              have hsc := HGOOD.out hbk
              have hsz := HSZ.out
              have hsW := HI1.out
              have hsr := HKB.out.1.size
              refine ⟨((HKO.out.trans (keeps_of_below hb3)).trans four_keeps).from _, keepsBox_t (keepsBox_t HKB.out (keepsBox_below hb3 ?_ ?_)) ⟨four_below (Below.refl _ _) (by omega), four_other (by omega)⟩, ?_⟩
              · have := HI0.out.size; omega
              · omega
              refine ⟨?_, ?_, ?_⟩
              · rw [hsc]
                exact (HS2.out.below hb3).set6 hsz.1 (by omega) x
              · rw [hsc]
              rw [four_size]
              have := hb3.size
              omega⟩
            clear HGOOD
            have tac3 : ∀ w3 : World, Below wr.heap.size wr w3 → co.St w wo.heap.size w5.heap.size (.slice (some ad) l0.length c0) sb La w3 := fun w3 hb3 => HS2.out.below hb3
            have HT3 := Aside0.mk tac3
            clear tac3
            by_cases hz : L = 0
            · subst hz
              by_cases hD : wrap64 (wrap64 (wrap64 (La.2.f0 - La.1.f0) * wrap64 (x.2.f0 - x.1.f0)) + wrap64 (wrap64 (La.2.f1 - La.1.f1) * wrap64 (x.2.f1 - x.1.f1))) < 0
              · have hd := decide_eq_true hD
                have HNX := Aside0.mk (HBAD.out (by rw [HBK.out, hd]; rfl))
                clear hD HBK HNEXT
                gi_wp2_with (refine ⟨trivial, ?_⟩; gi_at_call 42; refine (CallsIn.inRound l (callsIn_wide.2 (HCALL.out _))).mono ?_; rintro e w3 ⟨rfl, hb3⟩; have z0 : w3.cell? ⟨w5.heap.size, 0, none⟩ = some (.int .i64 La.1.f0) := (blk_cell (HT3.out w3 hb3).k6 0).trans rfl; have z1 : w3.cell? ⟨w5.heap.size, 1, none⟩ = some (.int .i64 La.1.f1) := (blk_cell (HT3.out w3 hb3).k6 1).trans rfl; have z2 : w3.cell? ⟨w5.heap.size, 2, none⟩ = some (.int .i64 La.2.f0) := (blk_cell (HT3.out w3 hb3).k6 2).trans rfl; have z3 : w3.cell? ⟨w5.heap.size, 3, none⟩ = some (.int .i64 La.2.f1) := (blk_cell (HT3.out w3 hb3).k6 3).trans rfl; have z4 : w3.cell? ⟨Bx, 0, none⟩ = some (.int .i64 x.1.f0) := (blk_cell ((hb3.block _ (Array.getElem?_eq_some_iff.1 HBX.out).1).trans HBX.out) 0).trans rfl; have z5 : w3.cell? ⟨Bx, 1, none⟩ = some (.int .i64 x.1.f1) := (blk_cell ((hb3.block _ (Array.getElem?_eq_some_iff.1 HBX.out).1).trans HBX.out) 1).trans rfl; have z6 : w3.cell? ⟨Bx, 2, none⟩ = some (.int .i64 x.2.f0) := (blk_cell ((hb3.block _ (Array.getElem?_eq_some_iff.1 HBX.out).1).trans HBX.out) 2).trans rfl; have z7 : w3.cell? ⟨Bx, 3, none⟩ = some (.int .i64 x.2.f1) := (blk_cell ((hb3.block _ (Array.getElem?_eq_some_iff.1 HBX.out).1).trans HBX.out) 3).trans rfl; have z8 : w3.cell? ⟨w.heap.size + 1, 0, none⟩ = some (.int .i64 0) := (blk_cell (HT3.out w3 hb3).k2 0).trans rfl; have z9 := blk_frozen (HT3.out w3 hb3).k2 0; have HB3 := Aside0.mk hb3; clear hb3)
                refine ⟨((HKO.out.trans (keeps_of_below HB3.out)).trans (KeepsOthers.setCell _ _ _)).from _, rfl, HNX.out, ?_, ?_⟩
                · exact ((HT3.out _ HB3.out).set2 9).1
                exact ((HT3.out _ HB3.out).set2 9).2
              have hd := decide_eq_false hD
              have HNX := Aside0.mk (show wear_checkOutline.back La x = false by rw [HBK.out, hd, Bool.and_false])
              clear hD HBK HBAD
              gi_wp2_with (refine ⟨trivial, ?_⟩; gi_at_call 42; refine (CallsIn.inRound l (callsIn_wide.2 (HCALL.out _))).mono ?_; rintro e w3 ⟨rfl, hb3⟩; have z0 : w3.cell? ⟨w5.heap.size, 0, none⟩ = some (.int .i64 La.1.f0) := (blk_cell (HT3.out w3 hb3).k6 0).trans rfl; have z1 : w3.cell? ⟨w5.heap.size, 1, none⟩ = some (.int .i64 La.1.f1) := (blk_cell (HT3.out w3 hb3).k6 1).trans rfl; have z2 : w3.cell? ⟨w5.heap.size, 2, none⟩ = some (.int .i64 La.2.f0) := (blk_cell (HT3.out w3 hb3).k6 2).trans rfl; have z3 : w3.cell? ⟨w5.heap.size, 3, none⟩ = some (.int .i64 La.2.f1) := (blk_cell (HT3.out w3 hb3).k6 3).trans rfl; have z4 : w3.cell? ⟨Bx, 0, none⟩ = some (.int .i64 x.1.f0) := (blk_cell ((hb3.block _ (Array.getElem?_eq_some_iff.1 HBX.out).1).trans HBX.out) 0).trans rfl; have z5 : w3.cell? ⟨Bx, 1, none⟩ = some (.int .i64 x.1.f1) := (blk_cell ((hb3.block _ (Array.getElem?_eq_some_iff.1 HBX.out).1).trans HBX.out) 1).trans rfl; have z6 : w3.cell? ⟨Bx, 2, none⟩ = some (.int .i64 x.2.f0) := (blk_cell ((hb3.block _ (Array.getElem?_eq_some_iff.1 HBX.out).1).trans HBX.out) 2).trans rfl; have z7 : w3.cell? ⟨Bx, 3, none⟩ = some (.int .i64 x.2.f1) := (blk_cell ((hb3.block _ (Array.getElem?_eq_some_iff.1 HBX.out).1).trans HBX.out) 3).trans rfl; have y0 := blk_frozen (HT3.out w3 hb3).k6 0; have y1 := blk_frozen (HT3.out w3 hb3).k6 1; have y2 := blk_frozen (HT3.out w3 hb3).k6 2; have y3 := blk_frozen (HT3.out w3 hb3).k6 3; have HB3 := Aside0.mk hb3; clear hb3)
              exact HNEXT.out _ HB3.out HNX.out
            have hd := eq_false hz
            have hd2 := decide_eq_false hz
            have hd3 : (L == 0) = false := by simpa using hz
            have HNX := Aside0.mk (show wear_checkOutline.back La x = false by rw [HBK.out, hd2, Bool.false_and])
            clear hz HBK HBAD
            gi_wp2_with (refine ⟨trivial, ?_⟩; gi_at_call 42; refine (CallsIn.inRound l (callsIn_wide.2 (HCALL.out _))).mono ?_; rintro e w3 ⟨rfl, hb3⟩; have z0 : w3.cell? ⟨w5.heap.size, 0, none⟩ = some (.int .i64 La.1.f0) := (blk_cell (HT3.out w3 hb3).k6 0).trans rfl; have z1 : w3.cell? ⟨w5.heap.size, 1, none⟩ = some (.int .i64 La.1.f1) := (blk_cell (HT3.out w3 hb3).k6 1).trans rfl; have z2 : w3.cell? ⟨w5.heap.size, 2, none⟩ = some (.int .i64 La.2.f0) := (blk_cell (HT3.out w3 hb3).k6 2).trans rfl; have z3 : w3.cell? ⟨w5.heap.size, 3, none⟩ = some (.int .i64 La.2.f1) := (blk_cell (HT3.out w3 hb3).k6 3).trans rfl; have z4 : w3.cell? ⟨Bx, 0, none⟩ = some (.int .i64 x.1.f0) := (blk_cell ((hb3.block _ (Array.getElem?_eq_some_iff.1 HBX.out).1).trans HBX.out) 0).trans rfl; have z5 : w3.cell? ⟨Bx, 1, none⟩ = some (.int .i64 x.1.f1) := (blk_cell ((hb3.block _ (Array.getElem?_eq_some_iff.1 HBX.out).1).trans HBX.out) 1).trans rfl; have z6 : w3.cell? ⟨Bx, 2, none⟩ = some (.int .i64 x.2.f0) := (blk_cell ((hb3.block _ (Array.getElem?_eq_some_iff.1 HBX.out).1).trans HBX.out) 2).trans rfl; have z7 : w3.cell? ⟨Bx, 3, none⟩ = some (.int .i64 x.2.f1) := (blk_cell ((hb3.block _ (Array.getElem?_eq_some_iff.1 HBX.out).1).trans HBX.out) 3).trans rfl; have y0 := blk_frozen (HT3.out w3 hb3).k6 0; have y1 := blk_frozen (HT3.out w3 hb3).k6 1; have y2 := blk_frozen (HT3.out w3 hb3).k6 2; have y3 := blk_frozen (HT3.out w3 hb3).k6 3; have HB3 := Aside0.mk hb3; clear hb3)
            exact HNEXT.out _ HB3.out HNX.out
        case done =>
          rintro D xs W hD rfl hi hK
          have HI := Aside0.mk hi
          have HK := Aside0.mk hK
          have HD := Aside0.mk hD
          clear hi hK hD
          have z0 := (blk_cell HI.out.1.k5 0).trans rfl
          have z1 : W.cell? ⟨w.heap.size + 1, 0, none⟩ = some (.int .i64 0) := (blk_cell HI.out.1.k2 0).trans rfl
          have z2 := blk_frozen HI.out.1.k2 0
          have hsk : ∀ v : Int, (W.setCell ⟨w.heap.size + 1, 0, none⟩ (.int .i64 v)).heap[D]? = some (.deferred (some [])) := fun v => (Below.heap_setCell _ _ _ _ (by have := HD.out; have := HSZ.out; simp; omega)).trans HK.out
          have HSK := Aside0.mk hsk
          clear hsk
          cases hsm : (wear_checkOutline.scan l0 (upTo (wear_sides.edge l0) l0.length)).2.1 with
          | true =>
            rw [hsm] at z0
            have HE := Aside0.mk (show wear_checkOutline.err l0 = 0 from by unfold wear_checkOutline.err; rw [HPLN.out, HT2.out, hsm, HI.out.2.1, decide_eq_true HLEN.out]; rfl)
            clear hsm
            go_wp2
            refine ⟨by simp, .inl ⟨_, _, rfl, run_takeDeferred (HSK.out 0), ?_⟩⟩
            have hbox2 := (Boxed.kept (show Boxed (W.setCell ⟨w.heap.size + 1, 0, none⟩ (.int .i64 0)) (w.heap.size + 1) 35 (.int .i64 0) from (HI.out.1.set2 0).1) (grownBy_putObj' _ D (.deferred none)) (by have := HD.out; have := HSZ.out; simp; omega)).cell
            refine ⟨.int .i64 0, by simp [results, Try.results34, go_sem, hbox2], by rw [HE.out], ?_⟩
            exact (HI.out.1.set2 0).2.trans (belowK_b (w := w) (Nat.le_refl _) _ D _ _ (by have := HD.out; have := HSZ.out; omega) (HSK.out 0) rfl rfl)
          | false =>
            rw [hsm] at z0
            have HE := Aside0.mk (show wear_checkOutline.err l0 = 9 from by unfold wear_checkOutline.err; rw [HPLN.out, HT2.out, hsm, HI.out.2.1, decide_eq_true HLEN.out]; rfl)
            clear hsm
            go_wp2
            refine ⟨by simp, .inl ⟨_, _, rfl, run_takeDeferred (HSK.out 9), ?_⟩⟩
            have hbox2 := (Boxed.kept (show Boxed (W.setCell ⟨w.heap.size + 1, 0, none⟩ (.int .i64 9)) (w.heap.size + 1) 35 (.int .i64 9) from (HI.out.1.set2 9).1) (grownBy_putObj' _ D (.deferred none)) (by have := HD.out; have := HSZ.out; simp; omega)).cell
            refine ⟨.int .i64 9, by simp [results, Try.results34, go_sem, hbox2], by rw [HE.out], ?_⟩
            exact (HI.out.1.set2 9).2.trans (belowK_b (w := w) (Nat.le_refl _) _ D _ _ (by have := HD.out; have := HSZ.out; omega) (HSK.out 9) rfl rfl)
        case stop =>
          rintro D c pre W hD hpre ⟨rfl, hbad, h2, hkb⟩ hK
          have HE := Aside0.mk (show wear_checkOutline.err l0 = 9 from by
            obtain ⟨suf, hsuf⟩ := hpre
            have h9 := wear_checkOutline.scan_bad l0 pre suf hbad
            rw [hsuf] at h9
            unfold wear_checkOutline.err; rw [HPLN.out, HT2.out, h9, decide_eq_true HLEN.out]; rfl)
          refine wpIn_wide.2 ?_
          go_wp2
          refine ⟨by simp, .inl ⟨_, _, rfl, run_takeDeferred hK, ?_⟩⟩
          have hbox2 := (Boxed.kept (show Boxed W (w.heap.size + 1) 35 (.int .i64 9) from h2) (grownBy_putObj' _ D (.deferred none)) (by have := HSZ.out; simp; omega)).cell
          refine ⟨.int .i64 9, by simp [results, Try.results34, go_sem, hbox2], by rw [HE.out], ?_⟩
          exact hkb.trans (belowK_b (w := w) (Nat.le_refl _) _ D _ _ (by have := HSZ.out; omega) hK rfl rfl)
  have hin : wear_in.f (l0.length : Int) 3 12 = some false := by
    unfold wear_in.f
    by_cases h3 : 3 ≤ (l0.length : Int)
    · rw [if_pos h3, decide_eq_false (by omega)]
    rw [if_neg h3]
  have HIN := Aside0.mk hin
  clear hin
  have HE := Aside0.mk (show wear_checkOutline.err l0 = 1 from by unfold wear_checkOutline.err; rw [decide_eq_false hlen]; simp)
  clear hlen
  go_enter Try.func34, Try.ntmps34
  go_wp2_with (go_at_call 22; refine (in_calls _ _ _ _ _ HIN.out).mono ?_; rintro e w1 ⟨rfl, hb⟩; obtain ⟨k0, k1, ks, kb⟩ := two_boxes w _ _ w1 hb; have z0 : w1.cell? ⟨w.heap.size + 1, 0, none⟩ = some (.int .i64 0) := (blk_cell k1 0).trans rfl; have z1 := blk_frozen k1 0; have K2 := Aside0.mk k1; have KB2 := Aside0.mk kb; clear hb k0 k1 kb ks)
  obtain ⟨e1, e2, _⟩ := co_end (v := .int .i64 1) K2.out KB2.out (by omega)
  refine bodyPost_ret (v := .int .i64 1) (by simp [results, Try.results34, go_sem, e1]) rfl ⟨by rw [HE.out], e2⟩
end
end Go.Proofs.Ytcfpclehogdmbaa.Q
end
section
namespace Go.Proofs.Ytcfpclehogdmbaa.Q
open Go.RowKit Go.Proofs.YtcfpclehogdmbaaW.PrintWords Go.Proofs.YtcfpclehogdmbaaW.PrintLast Go.Proofs.YtcfpclehogdmbaaW.PrintMore
set_option linter.unusedVariables false
set_option linter.unusedSimpArgs false
theorem wrap_nat {i n : Nat} (h : i < n) (hn : n < 1000000) : wrap64 ((i : Int) + 1) = ((i + 1 : Nat) : Int) := by rw [wrap_in (by omega) (by omega)]; omega
theorem rd_get (l : List S32) {i : Nat} (h : i < l.length) : rd_T32 l (i : Int) = l[i] := by simp [rd_T32, List.getD_eq_getElem?_getD, List.getElem?_eq_getElem h]
theorem outline_l0 (l : List S32) (hl : l.length < 1000000) (V : Int) (h1 : Tells (fun k => thatchref07_outline.l1 k l (l.length : Int) 0) V) : ∀ (d i : Nat), l.length - i = d → i ≤ l.length →
    Tells (fun k => thatchref07_outline.l0 k l (l.length : Int) (i : Int)) (if (l.drop i).any (fun p => !(wear_checkOutline.placed p)) then 1 else V) := by
  intro d
  induction d with
  | zero =>
    intro i hd hi
    obtain rfl : i = l.length := by omega
    rw [List.drop_length, List.any_nil, if_neg (by decide)]
    exact Tells.succ h1 (fun k => by rw [thatchref07_outline.l0, if_neg (by omega)])
  | succ d ih =>
    intro i hd hi
    have hlt : i < l.length := by omega
    have hih := ih (i + 1) (by omega) (by omega)
    rw [List.drop_eq_getElem_cons hlt, List.any_cons]
    have hstep : ∀ k, thatchref07_outline.l0 (k + 1) l (l.length : Int) (i : Int) = if wear_checkOutline.placed l[i] then thatchref07_outline.l0 k l (l.length : Int) ((i + 1 : Nat) : Int) else some 1 := fun k => by
      rw [thatchref07_outline.l0, if_pos (by omega), if_pos (by omega), if_pos (by omega), wrap_nat hlt hl, rd_get l hlt]
      simp only [in07_tells, Option.bind_some, decide_eq_true_eq, wear_checkOutline.placed]
      by_cases c0 : 0 ≤ l[i].f0 ∧ l[i].f0 ≤ 400
      · rw [if_pos c0]
        by_cases c1 : 0 ≤ l[i].f1 ∧ l[i].f1 ≤ 400
        · rw [if_pos c1, if_pos ⟨c0.1, c0.2, c1⟩]
        · rw [if_neg c1, if_neg (fun h => c1 h.2.2)]
      · rw [if_neg c0, if_neg (fun h => c0 ⟨h.1, h.2.1⟩)]
    by_cases hp : wear_checkOutline.placed l[i] = true
    · rw [hp, Bool.not_true, Bool.false_or]
      exact Tells.succ hih (fun k => by rw [hstep, if_pos hp])
    · rw [Bool.eq_false_iff.2 hp, Bool.not_false, Bool.true_or, if_pos rfl]
      exact Tells.succ (h := fun _ => some 1) (Tells.const fun _ => rfl) (fun k => by rw [hstep, if_neg hp])
def twiceFrom (l : List S32) (i : Nat) : Bool := ((List.range l.length).drop i).any fun j => (l.take j).any (wear_checkOutline.same (l.getD j z32))
theorem outline_l2 (l : List S32) (hl : l.length < 1000000) (i : Nat) (hi : i < l.length) (V : Int) (h1 : Tells (fun k => thatchref07_outline.l1 k l (l.length : Int) ((i + 1 : Nat) : Int)) V) : ∀ (d j : Nat), i - j = d → j ≤ i →
    Tells (fun k => thatchref07_outline.l2 k l (l.length : Int) (i : Int) (j : Int)) (if ((l.take i).drop j).any (wear_checkOutline.same (l.getD i z32)) then 6 else V) := by
  have hti : (l.take i).length = i := by rw [List.length_take]; omega
  intro d
  induction d with
  | zero =>
    intro j hd hj
    obtain rfl : j = i := by omega
    rw [List.drop_of_length_le (by omega), List.any_nil, if_neg (by decide)]
    exact Tells.succ h1 (fun k => by rw [thatchref07_outline.l2, if_neg (by omega), wrap_nat hi hl])
  | succ d ih =>
    intro j hd hj
    have hlt : j < i := by omega
    have hjl : j < l.length := by omega
    have hih := ih (j + 1) (by omega) (by omega)
    have hg : l.getD i z32 = l[i] := by simp [List.getD_eq_getElem?_getD, List.getElem?_eq_getElem hi]
    rw [List.drop_eq_getElem_cons (by omega), List.any_cons, List.getElem_take, hg]
    rw [hg] at hih
    have hstep : ∀ k, thatchref07_outline.l2 (k + 1) l (l.length : Int) (i : Int) (j : Int) = if wear_checkOutline.same l[i] l[j] = true then some 6 else thatchref07_outline.l2 k l (l.length : Int) (i : Int) ((j + 1 : Nat) : Int) := fun k => by
      rw [thatchref07_outline.l2, if_pos (by omega), if_pos (by omega), if_pos (by omega), if_pos (by omega), if_pos (by omega), wrap_nat hjl hl, rd_get l hi, rd_get l hjl]
      rfl
    by_cases hs : wear_checkOutline.same l[i] l[j] = true
    · rw [hs, Bool.true_or, if_pos rfl]
      exact Tells.succ (h := fun _ => some 6) (Tells.const fun _ => rfl) (fun k => by rw [hstep, if_pos hs])
    · rw [Bool.eq_false_iff.2 hs, Bool.false_or]
      exact Tells.succ hih (fun k => by rw [hstep, if_neg hs])
theorem outline_l1 (l : List S32) (hl : l.length < 1000000) (V : Int) (h3 : Tells (fun k => thatchref07_outline.l3 k l (l.length : Int) 0 0) V) : ∀ (d i : Nat), l.length - i = d → i ≤ l.length →
    Tells (fun k => thatchref07_outline.l1 k l (l.length : Int) (i : Int)) (if twiceFrom l i then 6 else V) := by
  intro d
  induction d with
  | zero =>
    intro i hd hi
    obtain rfl : i = l.length := by omega
    unfold twiceFrom
    rw [List.drop_of_length_le (by simp), List.any_nil, if_neg (by decide)]
    exact Tells.succ h3 (fun k => by rw [thatchref07_outline.l1, if_neg (by omega)])
  | succ d ih =>
    intro i hd hi
    have hlt : i < l.length := by omega
    have h2 := outline_l2 l hl i hlt _ (ih (i + 1) (by omega) (by omega)) i 0 (by omega) (by omega)
    refine Tells.succ (h := fun k => thatchref07_outline.l2 k l (l.length : Int) (i : Int) 0) ?_ (fun k => by rw [thatchref07_outline.l1, if_pos (by omega)])
    have e : twiceFrom l i = ((l.take i).any (wear_checkOutline.same (l.getD i z32)) || twiceFrom l (i + 1)) := by
      unfold twiceFrom
      rw [List.drop_eq_getElem_cons (by simpa using hlt), List.any_cons, List.getElem_range]
    rw [List.drop_zero] at h2
    rw [e]
    cases hb : (l.take i).any (wear_checkOutline.same (l.getD i z32)) with
    | true => rw [hb] at h2; simpa using h2
    | false => rw [hb] at h2; simpa using h2
theorem twice_eq (l : List S32) : twiceFrom l 0 = wear_checkOutline.twice l l.length := by
  have key : ∀ n, ((List.range n).any fun j => (l.take j).any (wear_checkOutline.same (l.getD j z32))) = wear_checkOutline.twice l n := by
    intro n
    induction n with
    | zero => rfl
    | succ n ih => rw [List.range_succ, List.any_append, ih]; simp [wear_checkOutline.twice]
  unfold twiceFrom
  rw [List.drop_zero]
  exact key _
end Go.Proofs.Ytcfpclehogdmbaa.Q
end
section
namespace Go.Proofs.Ytcfpclehogdmbaa.Q
open Go.RowKit Go.Proofs.YtcfpclehogdmbaaW.PrintWords Go.Proofs.YtcfpclehogdmbaaW.PrintLast Go.Proofs.YtcfpclehogdmbaaW.PrintMore
set_option linter.unusedVariables false
set_option linter.unusedSimpArgs false
def ed (l : List S32) (i : Nat) : S32 × S32 := wear_sides.edge l (i % l.length)
def badEdge (l : List S32) (i : Nat) : Bool := l.any (fun p => decide (wear_has.left (ed l i).1 (ed l i).2 p.f0 p.f1 < 0)) || wear_checkOutline.back (ed l i) (ed l (i + 1))
def areaFrom (l : List S32) : Nat → Nat → Int → Int
  | 0, _, a => a
  | d + 1, i, a => areaFrom l d (i + 1) (wrap64 (a + wear_has.left (l.getD 0 z32) (ed l i).1 (ed l i).2.f0 (ed l i).2.f1))
theorem outline_l4 (l : List S32) (hl : l.length < 1000000) (i : Nat) (hi : i < l.length) (area : Int) (V : Int)
    (h1 : Tells (fun k => thatchref07_outline.l3 k l (l.length : Int) (wrap64 (area + wear_has.left (l.getD 0 z32) (ed l i).1 (ed l i).2.f0 (ed l i).2.f1)) ((i + 1 : Nat) : Int)) V) : ∀ (d t : Nat), l.length - t = d → t ≤ l.length →
    Tells (fun k => thatchref07_outline.l4 k l (l.length : Int) area (i : Int) (t : Int) (ed l i).1.f0 (ed l i).1.f1 (ed l i).2.f0 (ed l i).2.f1 (ed l (i + 1)).2.f0 (ed l (i + 1)).2.f1)
      (if (l.drop t).any (fun p => decide (wear_has.left (ed l i).1 (ed l i).2 p.f0 p.f1 < 0)) || wear_checkOutline.back (ed l i) (ed l (i + 1)) then 9 else V) := by
  have hen : (ed l (i + 1)).1 = (ed l i).2 := by
    unfold ed wear_sides.edge
    simp only
    rw [Nat.mod_eq_of_lt hi]
  intro d
  induction d with
  | zero =>
    intro t hd ht
    obtain rfl : t = l.length := by omega
    rw [List.drop_length, List.any_nil, Bool.false_or]
    have hr0 : rd_T32 l 0 = l.getD 0 z32 := rfl
    have hstep : ∀ k, thatchref07_outline.l4 (k + 1) l (l.length : Int) area (i : Int) (l.length : Int) (ed l i).1.f0 (ed l i).1.f1 (ed l i).2.f0 (ed l i).2.f1 (ed l (i + 1)).2.f0 (ed l (i + 1)).2.f1 =
        if wear_checkOutline.back (ed l i) (ed l (i + 1)) = true then some 9 else thatchref07_outline.l3 k l (l.length : Int) (wrap64 (area + wear_has.left (l.getD 0 z32) (ed l i).1 (ed l i).2.f0 (ed l i).2.f1)) ((i + 1 : Nat) : Int) := fun k => by
      rw [thatchref07_outline.l4, if_neg (by omega), wrap_nat hi hl, hr0]
      simp only [thatchref07_left.f, Option.bind_some]
      rw [if_pos (show (0 : Int) < (l.length : Int) by omega)]
      unfold wear_checkOutline.back
      rw [hen]
      show (if wear_has.left (ed l i).1 (ed l i).2 (ed l (i + 1)).2.f0 (ed l (i + 1)).2.f1 = 0 then _ else _) = _
      by_cases c0 : wear_has.left (ed l i).1 (ed l i).2 (ed l (i + 1)).2.f0 (ed l (i + 1)).2.f1 = 0
      · rw [if_pos c0, decide_eq_true c0, Bool.true_and]
        simp only [decide_eq_true_eq]
        rfl
      · rw [if_neg c0, decide_eq_false c0, Bool.false_and, if_neg (by decide)]
        rfl
    by_cases hb : wear_checkOutline.back (ed l i) (ed l (i + 1)) = true
    · rw [if_pos hb]
      exact Tells.succ (h := fun _ => some 9) (Tells.const fun _ => rfl) (fun k => by rw [hstep, if_pos hb])
    · rw [if_neg hb]
      exact Tells.succ h1 (fun k => by rw [hstep, if_neg hb])
  | succ d ih =>
    intro t hd ht
    have hlt : t < l.length := by omega
    have hih := ih (t + 1) (by omega) (by omega)
    rw [List.drop_eq_getElem_cons hlt, List.any_cons]
    have hstep : ∀ k, thatchref07_outline.l4 (k + 1) l (l.length : Int) area (i : Int) (t : Int) (ed l i).1.f0 (ed l i).1.f1 (ed l i).2.f0 (ed l i).2.f1 (ed l (i + 1)).2.f0 (ed l (i + 1)).2.f1 =
        if wear_has.left (ed l i).1 (ed l i).2 l[t].f0 l[t].f1 < 0 then some 9 else thatchref07_outline.l4 k l (l.length : Int) area (i : Int) ((t + 1 : Nat) : Int) (ed l i).1.f0 (ed l i).1.f1 (ed l i).2.f0 (ed l i).2.f1 (ed l (i + 1)).2.f0 (ed l (i + 1)).2.f1 := fun k => by
      rw [thatchref07_outline.l4, if_pos (by omega), if_pos (by omega), if_pos (by omega), wrap_nat hlt hl, rd_get l hlt]
      rfl
    by_cases hc : wear_has.left (ed l i).1 (ed l i).2 l[t].f0 l[t].f1 < 0
    · rw [decide_eq_true hc, Bool.true_or, Bool.true_or, if_pos rfl]
      exact Tells.succ (h := fun _ => some 9) (Tells.const fun _ => rfl) (fun k => by rw [hstep, if_pos hc])
    · rw [decide_eq_false hc, Bool.false_or]
      exact Tells.succ hih (fun k => by rw [hstep, if_neg hc])
theorem outline_l3 (l : List S32) (hl : l.length < 1000000) : ∀ (d i : Nat) (area : Int), l.length - i = d → i ≤ l.length →
    Tells (fun k => thatchref07_outline.l3 k l (l.length : Int) area (i : Int)) (if ((List.range l.length).drop i).any (badEdge l) then 9 else if areaFrom l d i area ≤ 0 then 9 else 0) := by
  intro d
  induction d with
  | zero =>
    intro i area hd hi
    obtain rfl : i = l.length := by omega
    rw [List.drop_of_length_le (by simp), List.any_nil, if_neg (by decide)]
    refine Tells.succ (h := fun _ => some (if area ≤ 0 then 9 else 0)) (Tells.const fun _ => rfl) (fun k => ?_)
    rw [thatchref07_outline.l3, if_neg (by omega)]
    by_cases h : area ≤ 0
    · rw [if_pos h, if_pos h]
    · rw [if_neg h, if_neg h]
  | succ d ih =>
    intro i area hd hi
    have hlt : i < l.length := by omega
    have h4 := outline_l4 l hl i hlt area _ (ih (i + 1) (wrap64 (area + wear_has.left (l.getD 0 z32) (ed l i).1 (ed l i).2.f0 (ed l i).2.f1)) (by omega) (by omega)) l.length 0 (by omega) (by omega)
    have hm1 : Int.tmod ((i + 1 : Nat) : Int) (l.length : Int) = (((i + 1) % l.length : Nat) : Int) := by rw [Int.natCast_emod]; exact Int.tmod_eq_emod_of_nonneg (by omega)
    have hm2 : Int.tmod ((i + 2 : Nat) : Int) (l.length : Int) = (((i + 2) % l.length : Nat) : Int) := by rw [Int.natCast_emod]; exact Int.tmod_eq_emod_of_nonneg (by omega)
    have hml1 : (i + 1) % l.length < l.length := Nat.mod_lt _ (by omega)
    have hml2 : (i + 2) % l.length < l.length := Nat.mod_lt _ (by omega)
    have hw2 : wrap64 ((i : Int) + 2) = ((i + 2 : Nat) : Int) := by rw [wrap_in (by omega) (by omega)]; omega
    have e0 : rd_T32 l (i : Int) = (ed l i).1 := by unfold ed wear_sides.edge; simp only; rw [Nat.mod_eq_of_lt hlt]; rfl
    have e1 : rd_T32 l (((i + 1) % l.length : Nat) : Int) = (ed l i).2 := by unfold ed wear_sides.edge; simp only; rw [Nat.mod_eq_of_lt hlt]; rfl
    have e2 : rd_T32 l (((i + 2) % l.length : Nat) : Int) = (ed l (i + 1)).2 := by unfold ed wear_sides.edge; simp only; rw [Nat.mod_add_mod]; rfl
    rw [List.drop_zero] at h4
    refine Tells.succ (h := fun k => thatchref07_outline.l4 k l (l.length : Int) area (i : Int) 0 (ed l i).1.f0 (ed l i).1.f1 (ed l i).2.f0 (ed l i).2.f1 (ed l (i + 1)).2.f0 (ed l (i + 1)).2.f1) ?_ (fun k => by
      rw [thatchref07_outline.l3, if_pos (by omega), if_pos (by omega), if_pos (by omega), if_neg (by omega), wrap_nat hlt hl, hw2, hm1, hm2, if_pos (by omega), if_pos (by omega), if_pos (by omega), if_pos (by omega), e0, e1, e2])
    rw [List.drop_eq_getElem_cons (by simpa using hlt), List.any_cons, List.getElem_range]
    unfold badEdge at h4 ⊢
    cases hb : (l.any (fun p => decide (wear_has.left (ed l i).1 (ed l i).2 p.f0 p.f1 < 0)) || wear_checkOutline.back (ed l i) (ed l (i + 1))) with
    | true => rw [hb] at h4; simpa using h4
    | false => rw [hb] at h4; simpa [areaFrom] using h4
end Go.Proofs.Ytcfpclehogdmbaa.Q
end
section
namespace Go.Proofs.Ytcfpclehogdmbaa.Q
open Go.RowKit Go.Proofs.YtcfpclehogdmbaaW.PrintWords Go.Proofs.YtcfpclehogdmbaaW.PrintLast Go.Proofs.YtcfpclehogdmbaaW.PrintMore
set_option linter.unusedVariables false
set_option linter.unusedSimpArgs false
def OutlineCore : Prop := ∀ l : List S32, 3 ≤ l.length → l.length ≤ 12 → (∀ p ∈ l, wear_checkOutline.placed p = true) →
  (if (List.range l.length).any (badEdge l) then (9 : Int) else if areaFrom l l.length 0 0 ≤ 0 then 9 else 0) = if (wear_checkOutline.scan l (upTo (wear_sides.edge l) l.length)).2.2 && (wear_checkOutline.scan l (upTo (wear_sides.edge l) l.length)).2.1 then 0 else 9
theorem outline_tells (hcore : OutlineCore) (l : List S32) : Tells (fun k => thatchref07_outline.f k l) (wear_checkOutline.err l) := by
  by_cases hlen : 3 ≤ l.length ∧ l.length ≤ 12
  · have hl : l.length < 1000000 := by omega
    have h3 := outline_l3 l hl l.length 0 0 (by omega) (by omega)
    have h1 := outline_l1 l hl _ h3 l.length 0 (by omega) (by omega)
    have h0 := outline_l0 l hl _ h1 l.length 0 (by omega) (by omega)
    rw [List.drop_zero, List.drop_zero, twice_eq] at h0
    have hf : ∀ k, thatchref07_outline.f k l = thatchref07_outline.l0 k l (l.length : Int) 0 := fun k => by
      unfold thatchref07_outline.f
      rw [in07_tells, decide_eq_true (by omega), Option.bind_some, if_pos rfl]
    have e : wear_checkOutline.err l = (if l.any (fun p => !(wear_checkOutline.placed p)) then 1 else if wear_checkOutline.twice l l.length then 6 else if (List.range l.length).any (badEdge l) then (9 : Int) else if areaFrom l l.length 0 0 ≤ 0 then 9 else 0) := by
      unfold wear_checkOutline.err
      rw [decide_eq_true hlen, Bool.not_true, Bool.false_or]
      cases hp : l.any (fun p => !(wear_checkOutline.placed p)) with
      | true => rfl
      | false =>
        have hpl : ∀ p ∈ l, wear_checkOutline.placed p = true := fun p hm => by
          have := List.any_eq_false.1 hp p hm
          simpa using this
        rw [hcore l hlen.1 hlen.2 hpl]
    rw [e]
    exact h0.of_eq hf
  · have e : wear_checkOutline.err l = 1 := by
      unfold wear_checkOutline.err
      rw [decide_eq_false hlen]
      rfl
    rw [e]
    refine Tells.const fun k => ?_
    unfold thatchref07_outline.f
    rw [in07_tells, decide_eq_false (by omega), Option.bind_some]
    rfl
end Go.Proofs.Ytcfpclehogdmbaa.Q
end
section
namespace Go.Proofs.Ytcfpclehogdmbaa.Q
open Go.RowKit Go.Proofs.YtcfpclehogdmbaaW.PrintWords Go.Proofs.YtcfpclehogdmbaaW.PrintLast Go.Proofs.YtcfpclehogdmbaaW.PrintMore
set_option linter.unusedVariables false
set_option linter.unusedSimpArgs false
def negEdge (l : List S32) (i : Nat) : Bool := l.any (fun p => decide (wear_has.left (ed l i).1 (ed l i).2 p.f0 p.f1 < 0))
def posEdge (l : List S32) (i : Nat) : Bool := l.any (fun p => decide (wear_has.left (ed l i).1 (ed l i).2 p.f0 p.f1 > 0))
theorem ed_edge (l : List S32) {i : Nat} (h : i < l.length) : wear_sides.edge l i = ed l i := by unfold ed; rw [Nat.mod_eq_of_lt h]
def prevEd (l : List S32) (i : Nat) : S32 × S32 := ed l (i + l.length - 1)
theorem scan_upTo (l : List S32) (h0 : 0 < l.length) : ∀ m, m ≤ l.length → wear_checkOutline.scan l (upTo (wear_sides.edge l) m) =
    (prevEd l m, (List.range m).any (posEdge l), !((List.range m).any fun i => negEdge l i || wear_checkOutline.back (prevEd l i) (ed l i))) := by
  intro m
  induction m with
  | zero =>
    intro _
    show ((l.getD (l.length - 1) z32, l.getD 0 z32), false, true) = _
    have e : prevEd l 0 = (l.getD (l.length - 1) z32, l.getD 0 z32) := by
      unfold prevEd ed wear_sides.edge
      rw [Nat.zero_add, Nat.mod_eq_of_lt (by omega), show l.length - 1 + 1 = l.length by omega, Nat.mod_self]
    rw [e]
    rfl
  | succ m ih =>
    intro hm
    rw [upTo_succ, wear_checkOutline.scan_snoc, ih (by omega), ed_edge l (by omega)]
    have e : prevEd l (m + 1) = ed l m := by
      unfold prevEd ed
      rw [show m + 1 + l.length - 1 = m + l.length by omega, Nat.add_mod_right]
    simp only [wear_checkOutline.step, List.range_succ, List.any_append, List.any_cons, List.any_nil, Bool.or_false, e, negEdge, posEdge]
    simp only [Prod.mk.injEq, true_and]
    simp only [Bool.not_or, Bool.and_assoc]
theorem ed_add (l : List S32) (i : Nat) : ed l (i + l.length) = ed l i := by unfold ed; rw [Nat.add_mod_right]
theorem bad_cyclic (l : List S32) (h0 : 0 < l.length) : ((List.range l.length).any fun i => negEdge l i || wear_checkOutline.back (prevEd l i) (ed l i)) = (List.range l.length).any (badEdge l) := by
  rw [Bool.eq_iff_iff, List.any_eq_true, List.any_eq_true]
  constructor
  · rintro ⟨i, hi, h⟩
    have hi := List.mem_range.1 hi
    rcases Bool.or_eq_true_iff.1 h with h | h
    · exact ⟨i, List.mem_range.2 hi, Bool.or_eq_true_iff.2 (.inl h)⟩
    · rcases Nat.eq_zero_or_pos i with rfl | hp
      · refine ⟨l.length - 1, List.mem_range.2 (by omega), Bool.or_eq_true_iff.2 (.inr ?_)⟩
        rw [show l.length - 1 + 1 = 0 + l.length by omega, ed_add]
        unfold prevEd at h
        rwa [Nat.zero_add] at h
      · refine ⟨i - 1, List.mem_range.2 (by omega), Bool.or_eq_true_iff.2 (.inr ?_)⟩
        unfold prevEd at h
        rw [show i + l.length - 1 = (i - 1) + l.length by omega, ed_add] at h
        rwa [show i - 1 + 1 = i by omega]
  · rintro ⟨i, hi, h⟩
    have hi := List.mem_range.1 hi
    rcases Bool.or_eq_true_iff.1 h with h | h
    · exact ⟨i, List.mem_range.2 hi, Bool.or_eq_true_iff.2 (.inl h)⟩
    · by_cases hl : i + 1 < l.length
      · refine ⟨i + 1, List.mem_range.2 hl, Bool.or_eq_true_iff.2 (.inr ?_)⟩
        unfold prevEd
        rwa [show i + 1 + l.length - 1 = i + l.length by omega, ed_add]
      · refine ⟨0, List.mem_range.2 h0, Bool.or_eq_true_iff.2 (.inr ?_)⟩
        unfold prevEd
        rw [show i + 1 = 0 + l.length by omega, ed_add] at h
        rwa [show 0 + l.length - 1 = i by omega]
end Go.Proofs.Ytcfpclehogdmbaa.Q
end
section
namespace Go.Proofs.Ytcfpclehogdmbaa.Q
open Go.RowKit Go.Proofs.YtcfpclehogdmbaaW.PrintWords Go.Proofs.YtcfpclehogdmbaaW.PrintLast Go.Proofs.YtcfpclehogdmbaaW.PrintMore
set_option linter.unusedVariables false
set_option linter.unusedSimpArgs false
def sumN (f : Nat → Int) : Nat → Int
  | 0 => 0
  | n + 1 => sumN f n + f n
theorem sumN_congr {f g : Nat → Int} {n : Nat} (h : ∀ i, i < n → f i = g i) : sumN f n = sumN g n := by
  induction n with
  | zero => rfl
  | succ n ih => simp only [sumN]; rw [ih (fun i hi => h i (by omega)), h n (by omega)]
theorem sumN_add (f g : Nat → Int) (n : Nat) : sumN (fun i => f i + g i) n = sumN f n + sumN g n := by
  induction n with
  | zero => rfl
  | succ n ih => simp only [sumN, ih]; omega
theorem sumN_mul (c : Int) (f : Nat → Int) (n : Nat) : sumN (fun i => c * f i) n = c * sumN f n := by
  induction n with
  | zero => simp [sumN]
  | succ n ih => simp only [sumN, ih, Int.mul_add]
theorem sumN_tele (g : Nat → Int) (n : Nat) : sumN (fun i => g (i + 1) - g i) n = g n - g 0 := by
  induction n with
  | zero => simp [sumN]
  | succ n ih => simp only [sumN, ih]; omega
theorem sumN_nonneg {f : Nat → Int} {n : Nat} (h : ∀ i, i < n → 0 ≤ f i) : 0 ≤ sumN f n := by
  induction n with
  | zero => simp [sumN]
  | succ n ih => simp only [sumN]; have := ih (fun i hi => h i (by omega)); have := h n (by omega); omega
theorem sumN_pos {f : Nat → Int} {n : Nat} (h : ∀ i, i < n → 0 ≤ f i) (j : Nat) (hj : j < n) (hp : 0 < f j) : 0 < sumN f n := by
  induction n with
  | zero => omega
  | succ n ih =>
    simp only [sumN]
    have h1 := sumN_nonneg (n := n) (fun i hi => h i (by omega))
    have h2 := h n (by omega)
    by_cases hjn : j = n
    · subst hjn; omega
    · have := ih (fun i hi => h i (by omega)) (by omega); omega
theorem sumN_some {f : Nat → Int} {n : Nat} (h : 0 < sumN f n) : ∃ i, i < n ∧ 0 < f i := by
  induction n with
  | zero => simp [sumN] at h
  | succ n ih =>
    simp only [sumN] at h
    by_cases hf : 0 < f n
    · exact ⟨n, by omega, hf⟩
    · obtain ⟨i, hi, hp⟩ := ih (by omega)
      exact ⟨i, by omega, hp⟩
def crossL (a b : S32) (p0 p1 : Int) : Int := (b.f0 - a.f0) * (p1 - a.f1) - (b.f1 - a.f1) * (p0 - a.f0)
def inP (p : S32) : Prop := 0 ≤ p.f0 ∧ p.f0 ≤ 400 ∧ 0 ≤ p.f1 ∧ p.f1 ≤ 400
theorem mul_bound {a b : Int} (h1 : -400 ≤ a) (h2 : a ≤ 400) (h3 : -400 ≤ b) (h4 : b ≤ 400) : -160000 ≤ a * b ∧ a * b ≤ 160000 := by
  have e1 := Int.mul_nonneg (show 0 ≤ 400 - a by omega) (show 0 ≤ 400 - b by omega)
  have e2 := Int.mul_nonneg (show 0 ≤ 400 + a by omega) (show 0 ≤ 400 + b by omega)
  have e3 := Int.mul_nonneg (show 0 ≤ 400 - a by omega) (show 0 ≤ 400 + b by omega)
  have e4 := Int.mul_nonneg (show 0 ≤ 400 + a by omega) (show 0 ≤ 400 - b by omega)
  simp only [Int.sub_mul, Int.add_mul, Int.mul_sub, Int.mul_add] at e1 e2 e3 e4
  constructor <;> omega
theorem left_plain (a b : S32) (p0 p1 : Int) (ha : inP a) (hb : inP b) (hp : inP ⟨p0, p1⟩) : wear_has.left a b p0 p1 = crossL a b p0 p1 ∧ -320000 ≤ crossL a b p0 p1 ∧ crossL a b p0 p1 ≤ 320000 := by
  obtain ⟨a0, a1, a2, a3⟩ := ha
  obtain ⟨b0, b1, b2, b3⟩ := hb
  obtain ⟨q0, q1, q2, q3⟩ := hp
  simp only at q0 q1 q2 q3
  have m1 := mul_bound (a := b.f0 - a.f0) (b := p1 - a.f1) (by omega) (by omega) (by omega) (by omega)
  have m2 := mul_bound (a := b.f1 - a.f1) (b := p0 - a.f0) (by omega) (by omega) (by omega) (by omega)
  unfold wear_has.left crossL
  rw [wrap_in (n := b.f0 - a.f0) (by omega) (by omega), wrap_in (n := p1 - a.f1) (by omega) (by omega), wrap_in (n := b.f1 - a.f1) (by omega) (by omega), wrap_in (n := p0 - a.f0) (by omega) (by omega)]
  generalize (b.f0 - a.f0) * (p1 - a.f1) = X at *
  generalize (b.f1 - a.f1) * (p0 - a.f0) = Y at *
  rw [wrap_in (n := X) (by omega) (by omega), wrap_in (n := Y) (by omega) (by omega), wrap_in (by omega) (by omega)]
  omega
theorem crossL_open (a b : S32) (p0 p1 : Int) : crossL a b p0 p1 = (a.f0 * b.f1 - a.f1 * b.f0) + (p1 * (b.f0 - a.f0) + -p0 * (b.f1 - a.f1)) := by
  unfold crossL
  simp only [Int.sub_mul, Int.mul_sub, Int.neg_mul]
  have e1 := Int.mul_comm b.f0 a.f1
  have e2 := Int.mul_comm b.f1 a.f0
  have e3 := Int.mul_comm b.f0 p1
  have e4 := Int.mul_comm b.f1 p0
  have e5 := Int.mul_comm a.f0 p1
  have e6 := Int.mul_comm a.f1 p0
  have e7 := Int.mul_comm a.f0 a.f1
  omega
theorem crossL_turn (q a b : S32) : crossL q a b.f0 b.f1 = crossL a b q.f0 q.f1 := by
  rw [crossL_open, crossL_open]
  simp only [Int.mul_sub, Int.neg_mul]
  have e1 := Int.mul_comm b.f0 a.f1
  have e2 := Int.mul_comm b.f1 a.f0
  have e3 := Int.mul_comm b.f0 q.f1
  have e4 := Int.mul_comm b.f1 q.f0
  have e5 := Int.mul_comm a.f0 q.f1
  have e6 := Int.mul_comm a.f1 q.f0
  omega
theorem sum_cross (l : List S32) (h0 : 0 < l.length) (p0 p1 : Int) : sumN (fun i => crossL (ed l i).1 (ed l i).2 p0 p1) l.length = sumN (fun i => (ed l i).1.f0 * (ed l i).2.f1 - (ed l i).1.f1 * (ed l i).2.f0) l.length := by
  have e1 : sumN (fun i => (ed l i).2.f0 - (ed l i).1.f0) l.length = 0 := by
    have := sumN_tele (fun i => (ed l i).1.f0) l.length
    rw [show ed l l.length = ed l 0 by have := ed_add l 0; rwa [Nat.zero_add] at this] at this
    rw [sumN_congr (g := fun i => (ed l (i + 1)).1.f0 - (ed l i).1.f0) (fun i hi => by
      have : (ed l (i + 1)).1 = (ed l i).2 := by unfold ed wear_sides.edge; simp only; rw [Nat.mod_eq_of_lt hi]
      simp only [this])]
    simpa using this
  have e2 : sumN (fun i => (ed l i).2.f1 - (ed l i).1.f1) l.length = 0 := by
    have := sumN_tele (fun i => (ed l i).1.f1) l.length
    rw [show ed l l.length = ed l 0 by have := ed_add l 0; rwa [Nat.zero_add] at this] at this
    rw [sumN_congr (g := fun i => (ed l (i + 1)).1.f1 - (ed l i).1.f1) (fun i hi => by
      have : (ed l (i + 1)).1 = (ed l i).2 := by unfold ed wear_sides.edge; simp only; rw [Nat.mod_eq_of_lt hi]
      simp only [this])]
    simpa using this
  rw [sumN_congr (fun i _ => crossL_open (ed l i).1 (ed l i).2 p0 p1), sumN_add, sumN_add, sumN_mul, sumN_mul, e1, e2]
  simp
end Go.Proofs.Ytcfpclehogdmbaa.Q
end
section
namespace Go.Proofs.Ytcfpclehogdmbaa.Q
open Go.RowKit Go.Proofs.YtcfpclehogdmbaaW.PrintWords Go.Proofs.YtcfpclehogdmbaaW.PrintLast Go.Proofs.YtcfpclehogdmbaaW.PrintMore
set_option linter.unusedVariables false
set_option linter.unusedSimpArgs false
theorem getD_in (l : List S32) (hin : ∀ p ∈ l, inP p) {i : Nat} (h : i < l.length) : inP (l.getD i z32) := by
  rw [show l.getD i z32 = l[i] by simp [List.getD_eq_getElem?_getD, List.getElem?_eq_getElem h]]
  exact hin _ (List.getElem_mem h)
theorem ed_in (l : List S32) (h0 : 0 < l.length) (hin : ∀ p ∈ l, inP p) (i : Nat) : inP (ed l i).1 ∧ inP (ed l i).2 :=
  ⟨getD_in l hin (Nat.mod_lt _ h0), getD_in l hin (Nat.mod_lt _ h0)⟩
theorem area_plain (l : List S32) (h0 : 0 < l.length) (hin : ∀ p ∈ l, inP p) : ∀ (d i : Nat) (a : Int), i + d ≤ 12 → -320000 * (i : Int) ≤ a → a ≤ 320000 * (i : Int) →
    areaFrom l d i a = a + (sumN (fun j => crossL (l.getD 0 z32) (ed l j).1 (ed l j).2.f0 (ed l j).2.f1) (i + d) - sumN (fun j => crossL (l.getD 0 z32) (ed l j).1 (ed l j).2.f0 (ed l j).2.f1) i) := by
  intro d
  induction d with
  | zero => intro i a h1 h2 h3; simp [areaFrom]
  | succ d ih =>
    intro i a h1 h2 h3
    obtain ⟨e1, e2, e3⟩ := left_plain (l.getD 0 z32) (ed l i).1 (ed l i).2.f0 (ed l i).2.f1 (getD_in l hin h0) (ed_in l h0 hin i).1 (ed_in l h0 hin i).2
    show areaFrom l d (i + 1) (wrap64 (a + wear_has.left (l.getD 0 z32) (ed l i).1 (ed l i).2.f0 (ed l i).2.f1)) = _
    rw [e1, wrap_in (by omega) (by omega), ih (i + 1) _ (by omega) (by omega) (by omega), show i + (d + 1) = i + 1 + d by omega]
    simp only [sumN]
    omega
theorem outline_core : OutlineCore := by
  intro l h3 h12 hpl
  have h0 : 0 < l.length := by omega
  have hin : ∀ p ∈ l, inP p := fun p hp => by
    have := hpl p hp
    simpa [wear_checkOutline.placed, inP] using this
  rw [scan_upTo l h0 l.length (Nat.le_refl _), bad_cyclic l h0]
  cases hb : (List.range l.length).any (badEdge l) with
  | true => rfl
  | false =>
    rw [if_neg (by decide)]
    simp only [Bool.not_false, Bool.true_and]
    have hnn : ∀ p ∈ l, ∀ i, i < l.length → 0 ≤ crossL (ed l i).1 (ed l i).2 p.f0 p.f1 := fun p hp i hi => by
      have h1 := List.any_eq_false.1 hb i (List.mem_range.2 hi)
      have h2 : negEdge l i = false := by
        unfold badEdge at h1
        unfold negEdge
        cases hh : (l.any fun p => decide (wear_has.left (ed l i).1 (ed l i).2 p.f0 p.f1 < 0)) with
        | true => rw [hh] at h1; simp at h1
        | false => rfl
      have h4 := List.any_eq_false.1 h2 p hp
      have h5 := (left_plain (ed l i).1 (ed l i).2 p.f0 p.f1 (ed_in l h0 hin i).1 (ed_in l h0 hin i).2 (hin p hp)).1
      rw [h5] at h4
      simpa using h4
    have hA := area_plain l h0 hin l.length 0 0 (by omega) (by omega) (by omega)
    have hm0 : l.getD 0 z32 ∈ l := by rw [show l.getD 0 z32 = l[0] by simp [List.getD_eq_getElem?_getD, List.getElem?_eq_getElem h0]]; exact List.getElem_mem h0
    have hA2 : areaFrom l l.length 0 0 = sumN (fun j => crossL (ed l j).1 (ed l j).2 (l.getD 0 z32).f0 (l.getD 0 z32).f1) l.length := by
      rw [hA, Nat.zero_add, sumN_congr (fun i _ => crossL_turn (l.getD 0 z32) (ed l i).1 (ed l i).2)]
      simp [sumN]
    rw [hA2]
    cases hs : (List.range l.length).any (posEdge l) with
    | true =>
      obtain ⟨i, hi, hp⟩ := List.any_eq_true.1 hs
      obtain ⟨p, hpm, hpp⟩ := List.any_eq_true.1 hp
      have h5 := (left_plain (ed l i).1 (ed l i).2 p.f0 p.f1 (ed_in l h0 hin i).1 (ed_in l h0 hin i).2 (hin p hpm)).1
      rw [h5] at hpp
      have h6 := sumN_pos (f := fun j => crossL (ed l j).1 (ed l j).2 p.f0 p.f1) (n := l.length) (fun j hj => hnn p hpm j hj) i (List.mem_range.1 hi) (by simpa using hpp)
      rw [sum_cross l h0, ← sum_cross l h0 (l.getD 0 z32).f0 (l.getD 0 z32).f1] at h6
      rw [if_neg (by omega), if_pos rfl]
    | false =>
      suffices hle : sumN (fun j => crossL (ed l j).1 (ed l j).2 (l.getD 0 z32).f0 (l.getD 0 z32).f1) l.length ≤ 0 by rw [if_pos hle]; rfl
      refine Int.not_lt.1 fun hlt => ?_
      obtain ⟨i, hi, hp⟩ := sumN_some hlt
      have h1 := List.any_eq_false.1 hs i (List.mem_range.2 hi)
      refine h1 (List.any_eq_true.2 ⟨_, hm0, ?_⟩)
      have h5 := (left_plain (ed l i).1 (ed l i).2 (l.getD 0 z32).f0 (l.getD 0 z32).f1 (ed_in l h0 hin i).1 (ed_in l h0 hin i).2 (hin _ hm0)).1
      rw [h5]
      simpa using hp
end Go.Proofs.Ytcfpclehogdmbaa.Q
end
section
namespace Go.Proofs.Ytcfpclehogdmbaa.Q
open Go.RowKit Go.Proofs.YtcfpclehogdmbaaW.PrintWords Go.Proofs.YtcfpclehogdmbaaW.PrintLast Go.Proofs.YtcfpclehogdmbaaW.PrintMore
attribute [local go_sem] max2_int min2_int max_two min_two max_three min_three max_four min_four   -- for this text's walks alone
set_option linter.unusedVariables false
set_option linter.unusedSimpArgs false
def thatchref07_span.f (a0_0 : Int) (a0_1 : Int) (a1 : Int) : Option (Bool) := if 0 ≤ a0_0 then (if a0_0 ≤ a0_1 then (some (decide (a0_1 ≤ a1))) else (some false)) else (some false)
def thatchref07_far.f (a0_0 : Int) (a0_1 : Int) (a1_0 : Int) (a1_1 : Int) : Option (Int) := some (wrap64 ((mx (wrap64 (a0_0 - a1_0)) (wrap64 (a1_0 - a0_0))) + (mx (wrap64 (a0_1 - a1_1)) (wrap64 (a1_1 - a0_1)))))
end Go.Proofs.Ytcfpclehogdmbaa.Q
end
section
namespace Go.Proofs.Ytcfpclehogdmbaa.Q
open Go.RowKit Go.Proofs.YtcfpclehogdmbaaW.PrintWords Go.Proofs.YtcfpclehogdmbaaW.PrintLast Go.Proofs.YtcfpclehogdmbaaW.PrintMore
attribute [local go_sem] max2_int min2_int max_two min_two max_three min_three max_four min_four   -- for this text's walks alone
set_option linter.unusedVariables false
set_option linter.unusedSimpArgs false
mutual
def thatchref07_agree.l0 : Nat → Int → List (S32) → List (S55) → Int → Int → Int → List (S67) → Option (Bool)
 | 0, _, _, _, _, _, _, _ => none
 | k + 1, x3, x256000, x256001, x256002, x256003, x256004, x256005 => if x3 < (x256005.length : Int) then (if 0 ≤ x3 then (if ((rd_T67 x256005 x3).f1.f0) > x256004 then (thatchref07_agree.j1 k x3 true x256000 x256001 x256002 x256003 x256004 x256005 ((rd_T67 x256005 x3).f0.f0) ((rd_T67 x256005 x3).f0.f1) ((rd_T67 x256005 x3).f1.f0) ((rd_T67 x256005 x3).f1.f1)) else (thatchref07_agree.j1 k x3 (decide (((rd_T67 x256005 x3).f1.f1) < x256003)) x256000 x256001 x256002 x256003 x256004 x256005 ((rd_T67 x256005 x3).f0.f0) ((rd_T67 x256005 x3).f0.f1) ((rd_T67 x256005 x3).f1.f0) ((rd_T67 x256005 x3).f1.f1))) else (none)) else (some true)
def thatchref07_agree.j1 : Nat → Int → Bool → List (S32) → List (S55) → Int → Int → Int → List (S67) → Int → Int → Int → Int → Option (Bool)
 | 0, _, _, _, _, _, _, _, _, _, _, _, _ => none
 | k + 1, x3, x34, x256000, x256001, x256002, x256003, x256004, x256005, x258000, x258001, x258002, x258003 => if x34 = true then (some false) else (thatchref07_agree.l1 k x3 0 x256000 x256001 x256002 x256003 x256004 x256005 x258000 x258001 x258002 x258003)
def thatchref07_agree.l1 : Nat → Int → Int → List (S32) → List (S55) → Int → Int → Int → List (S67) → Int → Int → Int → Int → Option (Bool)
 | 0, _, _, _, _, _, _, _, _, _, _, _, _ => none
 | k + 1, x3, x5, x256000, x256001, x256002, x256003, x256004, x256005, x258000, x258001, x258002, x258003 => if x5 < (x256005.length : Int) then (if 0 ≤ x5 then ((thatchref07_far.f x258000 x258001 ((rd_T67 x256005 x5).f0.f0) ((rd_T67 x256005 x5).f0.f1)).bind fun t260 => (if x258002 > (wrap64 (((rd_T67 x256005 x5).f1.f1) + (wrap64 (x256002 * t260)))) then (some false) else (thatchref07_agree.l1 k x3 (wrap64 (x5 + 1)) x256000 x256001 x256002 x256003 x256004 x256005 x258000 x258001 x258002 x258003))) else (none)) else (thatchref07_agree.l0 k (wrap64 (x3 + 1)) x256000 x256001 x256002 x256003 x256004 x256005)
end
def thatchref07_agree.f (k : Nat) (l0_0 : List (S32)) (l0_1 : List (S55)) (a0_2 : Int) (a0_3 : Int) (a0_4 : Int) (l0_5 : List (S67)) : Option (Bool) := thatchref07_agree.l0 k 0 l0_0 l0_1 a0_2 a0_3 a0_4 l0_5
end Go.Proofs.Ytcfpclehogdmbaa.Q
end
section
namespace Go.Proofs.Ytcfpclehogdmbaa.Q
open Go.RowKit Go.Proofs.YtcfpclehogdmbaaW.PrintWords Go.Proofs.YtcfpclehogdmbaaW.PrintLast Go.Proofs.YtcfpclehogdmbaaW.PrintMore
set_option linter.unusedVariables false
set_option linter.unusedSimpArgs false
def farV (a b : S32) : Int := wrap64 ((mx (wrap64 (a.f0 - b.f0)) (wrap64 (b.f0 - a.f0))) + (mx (wrap64 (a.f1 - b.f1)) (wrap64 (b.f1 - a.f1))))
def clashB (st : Int) (a b : S67) : Bool := decide (a.f1.f0 > wrap64 (b.f1.f1 + wrap64 (st * farV a.f0 b.f0)))
def agreeOne (st lo hi : Int) (l : List S67) (a : S67) : Bool := !(decide (a.f1.f0 > hi)) && !(decide (a.f1.f1 < lo)) && !(l.any (clashB st a))
theorem rd_get67 (l : List S67) {i : Nat} (h : i < l.length) : rd_T67 l (i : Int) = l[i] := by simp [rd_T67, List.getD_eq_getElem?_getD, List.getElem?_eq_getElem h]
theorem agree_l1 (l0 : List S32) (l1 : List S55) (st lo hi : Int) (l : List S67) (hl : l.length < 1000000) (i : Nat) (hi2 : i < l.length) (a : S67) (V : Bool) (h1 : Tells (fun k => thatchref07_agree.l0 k ((i + 1 : Nat) : Int) l0 l1 st lo hi l) V) : ∀ (d t : Nat), l.length - t = d → t ≤ l.length →
    Tells (fun k => thatchref07_agree.l1 k (i : Int) (t : Int) l0 l1 st lo hi l a.f0.f0 a.f0.f1 a.f1.f0 a.f1.f1) (!((l.drop t).any (clashB st a)) && V) := by
  intro d
  induction d with
  | zero =>
    intro t hd ht
    obtain rfl : t = l.length := by omega
    rw [List.drop_length, List.any_nil, Bool.not_false, Bool.true_and]
    exact Tells.succ h1 (fun k => by rw [thatchref07_agree.l1, if_neg (by omega), wrap_nat hi2 hl])
  | succ d ih =>
    intro t hd ht
    have hlt : t < l.length := by omega
    have hih := ih (t + 1) (by omega) (by omega)
    rw [List.drop_eq_getElem_cons hlt, List.any_cons]
    have hstep : ∀ k, thatchref07_agree.l1 (k + 1) (i : Int) (t : Int) l0 l1 st lo hi l a.f0.f0 a.f0.f1 a.f1.f0 a.f1.f1 = if clashB st a l[t] = true then some false else thatchref07_agree.l1 k (i : Int) ((t + 1 : Nat) : Int) l0 l1 st lo hi l a.f0.f0 a.f0.f1 a.f1.f0 a.f1.f1 := fun k => by
      rw [thatchref07_agree.l1, if_pos (by omega), if_pos (by omega), wrap_nat hlt hl, rd_get67 l hlt]
      simp only [thatchref07_far.f, Option.bind_some, clashB, decide_eq_true_eq]
      rfl
    by_cases hc : clashB st a l[t] = true
    · rw [hc, Bool.true_or, Bool.not_true, Bool.false_and]
      exact Tells.succ (h := fun _ => some false) (Tells.const fun _ => rfl) (fun k => by rw [hstep, if_pos hc])
    · rw [Bool.eq_false_iff.2 hc, Bool.false_or]
      exact Tells.succ hih (fun k => by rw [hstep, if_neg hc])
theorem agree_l0 (l0 : List S32) (l1 : List S55) (st lo hi : Int) (l : List S67) (hl : l.length < 1000000) : ∀ (d i : Nat), l.length - i = d → i ≤ l.length →
    Tells (fun k => thatchref07_agree.l0 k (i : Int) l0 l1 st lo hi l) ((l.drop i).all (agreeOne st lo hi l)) := by
  intro d
  induction d with
  | zero =>
    intro i hd hi2
    obtain rfl : i = l.length := by omega
    rw [List.drop_length, List.all_nil]
    exact Tells.succ (h := fun _ => some true) (Tells.const fun _ => rfl) (fun k => by rw [thatchref07_agree.l0, if_neg (by omega)])
  | succ d ih =>
    intro i hd hi2
    have hlt : i < l.length := by omega
    have h1 := agree_l1 l0 l1 st lo hi l hl i hlt l[i] _ (ih (i + 1) (by omega) (by omega)) l.length 0 (by omega) (by omega)
    rw [List.drop_zero] at h1
    rw [List.drop_eq_getElem_cons hlt, List.all_cons]
    have hj : Tells (fun k => thatchref07_agree.j1 k (i : Int) (decide (l[i].f1.f0 > hi) || decide (l[i].f1.f1 < lo)) l0 l1 st lo hi l l[i].f0.f0 l[i].f0.f1 l[i].f1.f0 l[i].f1.f1) (agreeOne st lo hi l l[i] && (l.drop (i + 1)).all (agreeOne st lo hi l)) := by
      cases hb : (decide (l[i].f1.f0 > hi) || decide (l[i].f1.f1 < lo)) with
      | true =>
        have e : agreeOne st lo hi l l[i] = false := by
          unfold agreeOne
          rcases Bool.or_eq_true_iff.1 hb with h | h
          · rw [h]; rfl
          · rw [h]; simp
        rw [e, Bool.false_and]
        exact Tells.succ (h := fun _ => some false) (Tells.const fun _ => rfl) (fun k => by rw [thatchref07_agree.j1, if_pos rfl])
      | false =>
        obtain ⟨e1, e2⟩ := Bool.or_eq_false_iff.1 hb
        have e : agreeOne st lo hi l l[i] = !(l.any (clashB st l[i])) := by unfold agreeOne; rw [e1, e2]; rfl
        rw [e]
        exact Tells.succ h1 (fun k => by rw [thatchref07_agree.j1, if_neg (by decide)]; rfl)
    refine Tells.succ hj (fun k => ?_)
    rw [thatchref07_agree.l0, if_pos (by omega), if_pos (by omega), rd_get67 l hlt]
    by_cases hc : l[i].f1.f0 > hi
    · rw [if_pos hc, decide_eq_true hc, Bool.true_or]
    · rw [if_neg hc, decide_eq_false hc, Bool.false_or]
end Go.Proofs.Ytcfpclehogdmbaa.Q
end
section
namespace Go.Proofs.Ytcfpclehogdmbaa.Q
open Go.RowKit Go.Proofs.YtcfpclehogdmbaaW.PrintWords Go.Proofs.YtcfpclehogdmbaaW.PrintLast Go.Proofs.YtcfpclehogdmbaaW.PrintMore
attribute [local go_sem] max2_int min2_int max_two min_two max_three min_three max_four min_four   -- for this text's walks alone
set_option linter.unusedVariables false
set_option linter.unusedSimpArgs false
mutual
def thatchref07_Check.l0 : Nat → Int → List (S32) → List (S55) → Int → Int → Int → List (S67) → Option (Int)
 | 0, _, _, _, _, _, _, _ => none
 | k + 1, x4, x262000, x262001, x262002, x262003, x262004, x262005 => if x4 < (x262001.length : Int) then (if 0 ≤ x4 then (if ((rd_T55 x262001 x4).f0.f0) ≥ ((rd_T55 x262001 x4).f1.f0) then (some 1) else (if ((rd_T55 x262001 x4).f0.f1) ≥ ((rd_T55 x262001 x4).f1.f1) then (some 1) else (thatchref07_Check.l0 k (wrap64 (x4 + 1)) x262000 x262001 x262002 x262003 x262004 x262005))) else (none)) else ((thatchref07_in.f x262002 0 1000).bind fun t265 => (if t265 = true then ((thatchref07_span.f x262003 x262004 2000).bind fun t266 => (thatchref07_Check.j1 k (!t266) x262000 x262001 x262002 x262003 x262004 x262005)) else (thatchref07_Check.j1 k true x262000 x262001 x262002 x262003 x262004 x262005)))
def thatchref07_Check.j1 : Nat → Bool → List (S32) → List (S55) → Int → Int → Int → List (S67) → Option (Int)
 | 0, _, _, _, _, _, _, _ => none
 | k + 1, x59, x262000, x262001, x262002, x262003, x262004, x262005 => if x59 = true then (some 1) else (if (x262005.length : Int) > 40 then (some 3) else (thatchref07_Check.l1 k 0 x262000 x262001 x262002 x262003 x262004 x262005))
def thatchref07_Check.l1 : Nat → Int → List (S32) → List (S55) → Int → Int → Int → List (S67) → Option (Int)
 | 0, _, _, _, _, _, _, _ => none
 | k + 1, x6, x262000, x262001, x262002, x262003, x262004, x262005 => if x6 < (x262005.length : Int) then (if 0 ≤ x6 then ((thatchref07_on.f k x262000 x262001 ((rd_T67 x262005 x6).f0.f0) ((rd_T67 x262005 x6).f0.f1)).bind fun t268 => (if t268 = true then ((thatchref07_span.f ((rd_T67 x262005 x6).f1.f0) ((rd_T67 x262005 x6).f1.f1) 2000).bind fun t270 => (if t270 = true then (thatchref07_Check.l1 k (wrap64 (x6 + 1)) x262000 x262001 x262002 x262003 x262004 x262005) else (some 1))) else (some 7))) else (none)) else (thatchref07_Check.l2 k 1 x262000 x262001 x262002 x262003 x262004 x262005)
def thatchref07_Check.l2 : Nat → Int → List (S32) → List (S55) → Int → Int → Int → List (S67) → Option (Int)
 | 0, _, _, _, _, _, _, _ => none
 | k + 1, x7, x262000, x262001, x262002, x262003, x262004, x262005 => if x7 < (x262005.length : Int) then (if 0 ≤ x7 then (if 0 ≤ (wrap64 (x7 - 1)) then (if (wrap64 (x7 - 1)) < (x262005.length : Int) then ((thatchref07_behind.f ((rd_T67 x262005 x7).f0.f0) ((rd_T67 x262005 x7).f0.f1) ((rd_T67 x262005 (wrap64 (x7 - 1))).f0.f0) ((rd_T67 x262005 (wrap64 (x7 - 1))).f0.f1)).bind fun t273 => (if t273 = true then (thatchref07_Check.l2 k (wrap64 (x7 + 1)) x262000 x262001 x262002 x262003 x262004 x262005) else (some 8))) else (none)) else (none)) else (none)) else ((thatchref07_agree.f k x262000 x262001 x262002 x262003 x262004 x262005).bind fun t274 => (if t274 = true then (some 0) else (some 10)))
end
def thatchref07_Check.f (k : Nat) (l0_0 : List (S32)) (l0_1 : List (S55)) (a0_2 : Int) (a0_3 : Int) (a0_4 : Int) (l0_5 : List (S67)) : Option (Int) := (thatchref07_outline.f k l0_0).bind fun t262 => (if t262 = 0 then (if (l0_1.length : Int) > 6 then (some 3) else (thatchref07_Check.l0 k 0 l0_0 l0_1 a0_2 a0_3 a0_4 l0_5)) else (some t262))
end Go.Proofs.Ytcfpclehogdmbaa.Q
end
section
namespace Go.Proofs.Ytcfpclehogdmbaa.Q
open Go.RowKit Go.Proofs.YtcfpclehogdmbaaW.PrintWords Go.Proofs.YtcfpclehogdmbaaW.PrintLast Go.Proofs.YtcfpclehogdmbaaW.PrintMore
attribute [local go_sem] max2_int min2_int max_two min_two max_three min_three max_four min_four   -- for this text's walks alone
set_option linter.unusedVariables false
set_option linter.unusedSimpArgs false
set_option maxHeartbeats 1000000 in
theorem check1.calls (x : S55) (W : World) : Calls Try.prog 36 #[.agg #[.int .i64 x.f0.f0, .int .i64 x.f0.f1, .int .i64 x.f1.f0, .int .i64 x.f1.f1]] W fun e W' => e = .returned (.bool (decide (x.f0.f0 ≥ x.f1.f0) || decide (x.f0.f1 ≥ x.f1.f1))) ∧ Below W.heap.size W W' := by
  have hu55 := Try.underlying55
  have hu32 := Try.underlying32
  by_cases c1 : x.f0.f0 ≥ x.f1.f0
  · have b1 : decide (x.f1.f0 ≤ x.f0.f0) = true := decide_eq_true c1
    have B2 := Aside0.mk (show (decide (x.f0.f0 ≥ x.f1.f0) || decide (x.f0.f1 ≥ x.f1.f1)) = true from by simp [c1])
    clear c1
    go_enter Try.func36, Try.ntmps36
    go_wp2
    go_ret
    exact ⟨by rw [B2.out]; rfl, (Below.refl _ _).alloc (Nat.le_refl _) _⟩
  have b1 : decide (x.f1.f0 ≤ x.f0.f0) = false := decide_eq_false c1
  have B2 := Aside0.mk (show (decide (x.f0.f0 ≥ x.f1.f0) || decide (x.f0.f1 ≥ x.f1.f1)) = decide (x.f0.f1 ≥ x.f1.f1) from by simp [c1])
  clear c1
  go_enter Try.func36, Try.ntmps36
  go_wp2
  go_ret
  exact ⟨by rw [B2.out]; rfl, (Below.refl _ _).alloc (Nat.le_refl _) _⟩
def api_Box_wear_Check_1.bad (h : S55) : Bool := decide (h.f0.f0 ≥ h.f1.f0) || decide (h.f0.f1 ≥ h.f1.f1)
def api_Box_wear_Check_1.f (l0 : List (S55)) : Option (Bool) := some (l0.any api_Box_wear_Check_1.bad)
theorem api_Box_wear_Check_1.calls (A0 : Option Addr) (c0 : Nat) (l0 : List (S55)) (r : Bool) (w : World) (hr0 : Kd.C k55 w A0 l0.length l0) (hc0 : l0.length ≤ c0) (h : api_Box_wear_Check_1.f l0 = some r) :
    Calls Try.prog 35 #[.slice A0 l0.length c0, .func (.func 36) #[] #[]] w fun e w' => e = .returned (.bool r) ∧ Below w.heap.size w w' := by
  obtain rfl : l0.any api_Box_wear_Check_1.bad = r := Option.some.inj h
  exact boxes.contains _ #[] api_Box_wear_Check_1.bad A0 c0 l0 w hr0 hc0 (enters_of Try.func36 (by kernel_rfl) rfl) fun x W _ => check1.calls x W
end Go.Proofs.Ytcfpclehogdmbaa.Q
end
section
namespace Go.Proofs.Ytcfpclehogdmbaa.Q
open Go.RowKit Go.Proofs.YtcfpclehogdmbaaW.PrintWords Go.Proofs.YtcfpclehogdmbaaW.PrintLast Go.Proofs.YtcfpclehogdmbaaW.PrintMore
attribute [local go_sem] max2_int min2_int max_two min_two max_three min_three max_four min_four   -- for this text's walks alone
set_option linter.unusedVariables false
set_option linter.unusedSimpArgs false
def cmp_Or_int.l0 : Nat → Int → List Int → Int → Int → Option (Int)
 | 0, _, _, _, _ => none
 | k + 1, x3, x6, x7, x8 => if x8 < x7 then (if 0 ≤ x8 then (if x8 < (x6.length : Int) then (if (rd x6 x8) = x3 then (cmp_Or_int.l0 k x3 x6 x7 (wrap64 (x8 + 1))) else (some (rd x6 x8))) else (none)) else (none)) else (some x3)
def cmp_Or_int.f (k : Nat) (l0 : List Int) : Option (Int) := cmp_Or_int.l0 k 0 l0 (l0.length : Int) 0
theorem cmp_Or_int.mono_l : ∀ k, (∀ y0 y1 y2 y3, LeO (cmp_Or_int.l0 k y0 y1 y2 y3) (cmp_Or_int.l0 (k + 1) y0 y1 y2 y3))
 | 0 => fun _ _ _ _ r h => by simp [cmp_Or_int.l0] at h
 | k + 1 => by
  have ih0 := cmp_Or_int.mono_l k
  ·intro y0 y1 y2 y3
   unfold cmp_Or_int.l0
   repeat' first
   | (with_reducible exact ih0 _ _ _ _)
   | (with_reducible exact LeO.refl _)
   | (with_reducible exact LeO.none _)
   | (with_reducible refine LeO.ite ?_ ?_)
   | (with_reducible refine LeO.bind ?_ (fun _ => ?_))
   | exact ih0 _ _ _ _
   | exact LeO.none _
   | refine LeO.ite ?_ ?_
   | refine LeO.bind ?_ (fun _ => ?_)
theorem cmp_Or_int.mono : ∀ a0 k, LeO (cmp_Or_int.f k a0) (cmp_Or_int.f (k + 1) a0) := by
 intro a0 k
 have ih0 := cmp_Or_int.mono_l k
 unfold cmp_Or_int.f
 repeat' first
   | (with_reducible exact ih0 _ _ _ _)
   | (with_reducible exact LeO.refl _)
   | (with_reducible exact LeO.none _)
   | (with_reducible refine LeO.ite ?_ ?_)
   | (with_reducible refine LeO.bind ?_ (fun _ => ?_))
   | exact ih0 _ _ _ _
   | exact LeO.none _
   | refine LeO.ite ?_ ?_
   | refine LeO.bind ?_ (fun _ => ?_)
set_option maxHeartbeats 8000000 in
set_option maxRecDepth 100000 in
theorem cmp_Or_int.calls (k : Nat) (A0 : Option Addr) (c0 : Nat) (l0 : List Int) (r : Int) (w : World) (hr0 : Kd.C (Kd.int .i64) w A0 l0.length l0) (hc0 : l0.length ≤ c0) (h : cmp_Or_int.f k l0 = some r) :
  Calls Try.prog 47 #[.slice A0 l0.length c0] w fun e w' => e = .returned (.int .i64 r) ∧ Drawn0 w w' := by
 have HR0 := Aside0.mk hr0
 have HC0 := Aside0.mk hc0
 clear hr0 hc0
 have H : (cmp_Or_int.l0 k 0 l0 (l0.length : Int) 0) = some r := h
 clear h
 have H' := Aside0.mk H
 clear H
 go_enter Try.func47, Try.ntmps47
 go_wp2
 go_loopg [8] k (fun kq v8 w' => ∃ (x8_1 : Int), v8 = .int .i64 x8_1 ∧ Aside0 (cmp_Or_int.l0 kq 0 l0 (l0.length : Int) x8_1 = some r) ∧ Aside0 (kq ≤ k) ∧ Drawn0 w w')
 case atStart => exact ⟨(0), zq, H', ⟨Nat.le_refl _⟩, by repeat (first | exact Drawn0.refl _ | apply Drawn0.step)⟩
 case round =>
  clear H'
  obtain ⟨x8_1, rfl, HA, HK1, ⟨m1, rfl⟩⟩ := hrel
  cases gk with
  | zero => exact absurd HA.out (by simp [cmp_Or_int.l0])
  | succ k1 =>
   have H := HA.out
   clear HA
   simp only [cmp_Or_int.l0] at H
   by_cases c2 : x8_1 < (l0.length : Int)
   ·rw [if_pos c2] at H
    have c2b0 : decide (x8_1 < (l0.length : Int)) = true := decide_eq_true c2
    clear c2
    by_cases c3 : 0 ≤ x8_1
    ·rw [if_pos c3] at H
     have c3b0 : decide (0 ≤ x8_1) = true := decide_eq_true c3
     clear c3
     by_cases c4 : x8_1 < (l0.length : Int)
     ·rw [if_pos c4] at H
      have c4b0 : decide (x8_1 < (l0.length : Int)) = true := decide_eq_true c4
      clear c4
      by_cases c5 : (rd l0 x8_1) = 0
      ·rw [if_pos c5] at H
       have c5b0 : ((rd l0 x8_1) == 0) = true := beq_iff_eq.mpr c5
       have c5b1 : ((rd l0 x8_1) != 0) = false := bne_eq_false_iff_eq.mpr c5
       clear c5
       have H' := Aside0.mk H
       clear H
       have p113 : 0 ≤ (x8_1 : Int) := of_decide_eq_true zj
       have q113 : x8_1 < (l0.length : Int) := of_decide_eq_true zj
       obtain ⟨ad113, e113, hx113_0⟩ := Kd.at_int HR0.out x8_1 p113 q113
       cases e113
       replace p113 := eq_true p113
       replace q113 := eq_true q113
       go_wp2
       go_roundg k1
       case measure => have := HK1.out; omega
       case rel => exact ⟨(wrap64 (x8_1 + 1)), zq, H', ⟨by have := HK1.out; omega⟩, by repeat (first | exact Drawn0.refl _ | apply Drawn0.step)⟩
      rw [if_neg c5] at H
      have c5b0 : ((rd l0 x8_1) == 0) = false := beq_eq_false_iff_ne.mpr c5
      have c5b1 : ((rd l0 x8_1) != 0) = true := bne_iff_ne.mpr c5
      obtain rfl := Option.some.inj H
      have p113 : 0 ≤ (x8_1 : Int) := of_decide_eq_true zj
      have q113 : x8_1 < (l0.length : Int) := of_decide_eq_true zj
      obtain ⟨ad113, e113, hx113_0⟩ := Kd.at_int HR0.out x8_1 p113 q113
      cases e113
      replace p113 := eq_true p113
      replace q113 := eq_true q113
      go_wp2
      go_ret
      exact ⟨by first | rfl | (simp; done) | (simp [*]; done), by repeat (first | exact Drawn0.refl _ | apply Drawn0.step)⟩
     rw [if_neg c4] at H
     exact absurd H (by simp)
    rw [if_neg c3] at H
    exact absurd H (by simp)
   rw [if_neg c2] at H
   have c2b0 : decide (x8_1 < (l0.length : Int)) = false := decide_eq_false c2
   clear c2
   obtain rfl := Option.some.inj H
   go_wp2
   go_ret
   exact ⟨by first | rfl | (simp; done) | (simp [*]; done), by repeat (first | exact Drawn0.refl _ | apply Drawn0.step)⟩
def cmp_isNaN_int.f (a0 : Int) : Option (Bool) := some (a0 != a0)
set_option maxHeartbeats 8000000 in
set_option maxRecDepth 100000 in
theorem cmp_isNaN_int.calls (a0 : Int) (r : Bool) (w : World) (h : cmp_isNaN_int.f a0 = some r) :
  Calls Try.prog 61 #[.int .i64 a0] w fun e w' => e = .returned (.bool r) ∧ Drawn0 w w' := by
 have H : (some (a0 != a0)) = some r := h
 clear h
 obtain rfl := Option.some.inj H
 go_enter Try.func61, Try.ntmps61
 go_wp2
 go_ret
 exact ⟨by first | rfl | (simp; done) | (simp [*]; done), by repeat (first | exact Drawn0.refl _ | apply Drawn0.step)⟩
def cmp_Compare_int.f (a0 : Int) (a1 : Int) : Option (Int) := (cmp_isNaN_int.f a0).bind fun t114 => ((cmp_isNaN_int.f a1).bind fun t115 => (if t114 = true then (if t115 = true then (some 0) else (some (-1))) else (if t115 = true then (some 1) else (if a0 < a1 then (some (-1)) else (if a0 > a1 then (some 1) else (some 0))))))
set_option maxHeartbeats 8000000 in
set_option maxRecDepth 100000 in
theorem cmp_Compare_int.calls (a0 : Int) (a1 : Int) (r : Int) (w : World) (h : cmp_Compare_int.f a0 a1 = some r) :
  Calls Try.prog 48 #[.int .i64 a0, .int .i64 a1] w fun e w' => e = .returned (.int .i64 r) ∧ Drawn0 w w' := by
 have H : ((cmp_isNaN_int.f a0).bind fun t114 => ((cmp_isNaN_int.f a1).bind fun t115 => (if t114 = true then (if t115 = true then (some 0) else (some (-1))) else (if t115 = true then (some 1) else (if a0 < a1 then (some (-1)) else (if a0 > a1 then (some 1) else (some 0))))))) = some r := h
 clear h
 replace H := Option.bind_eq_some_iff.mp H
 obtain ⟨t114, A30, H⟩ := H
 replace H : ((cmp_isNaN_int.f a1).bind fun t115 => (if t114 = true then (if t115 = true then (some 0) else (some (-1))) else (if t115 = true then (some 1) else (if a0 < a1 then (some (-1)) else (if a0 > a1 then (some 1) else (some 0)))))) = some r := H
 have A3 := Aside0.mk A30
 clear A30
 replace H := Option.bind_eq_some_iff.mp H
 obtain ⟨t115, A40, H⟩ := H
 replace H : (if t114 = true then (if t115 = true then (some 0) else (some (-1))) else (if t115 = true then (some 1) else (if a0 < a1 then (some (-1)) else (if a0 > a1 then (some 1) else (some 0))))) = some r := H
 have A4 := Aside0.mk A40
 clear A40
 by_cases c5 : t114 = true
 ·subst c5
  have H1 : (if t115 = true then (some 0) else (some (-1))) = some r := by rw [if_pos rfl] at H; exact H
  clear H
  have H := H1
  clear H1
  by_cases c6 : t115 = true
  ·subst c6
   have H1 : (some 0) = some r := by rw [if_pos rfl] at H; exact H
   clear H
   have H := H1
   clear H1
   obtain rfl := Option.some.inj H
   go_enter Try.func48, Try.ntmps48
   go_wp2_with (first | ((with_reducible refine gate_callee (f := 61) rfl ?_); refine goesL_ (some 8) rfl rfl Try.func61 (by kernel_rfl) rfl #[.int .i64 a0] rfl za ?_; (with_reducible refine (cmp_isNaN_int.calls a0 true _ A3.out).mono ?_); rintro e w' ⟨rfl, ⟨nd, rfl⟩⟩; refine ⟨_, rfl, ?_⟩) | ((with_reducible refine gate_callee (f := 61) rfl ?_); refine goesL_ (some 10) rfl rfl Try.func61 (by kernel_rfl) rfl #[.int .i64 a1] rfl za ?_; (with_reducible refine (cmp_isNaN_int.calls a1 true _ A4.out).mono ?_); rintro e w' ⟨rfl, ⟨nd, rfl⟩⟩; refine ⟨_, rfl, ?_⟩))
   go_ret
   exact ⟨by first | rfl | (simp; done) | (simp [*]; done), by repeat (first | exact Drawn0.refl _ | apply Drawn0.step)⟩
  replace c6 := Bool.eq_false_iff.mpr c6
  subst c6
  have H1 : (some (-1)) = some r := by rw [if_neg (show ¬ (false = true) by decide)] at H; exact H
  clear H
  have H := H1
  clear H1
  obtain rfl := Option.some.inj H
  go_enter Try.func48, Try.ntmps48
  go_wp2_with (first | ((with_reducible refine gate_callee (f := 61) rfl ?_); refine goesL_ (some 8) rfl rfl Try.func61 (by kernel_rfl) rfl #[.int .i64 a0] rfl za ?_; (with_reducible refine (cmp_isNaN_int.calls a0 true _ A3.out).mono ?_); rintro e w' ⟨rfl, ⟨nd, rfl⟩⟩; refine ⟨_, rfl, ?_⟩) | ((with_reducible refine gate_callee (f := 61) rfl ?_); refine goesL_ (some 10) rfl rfl Try.func61 (by kernel_rfl) rfl #[.int .i64 a1] rfl za ?_; (with_reducible refine (cmp_isNaN_int.calls a1 false _ A4.out).mono ?_); rintro e w' ⟨rfl, ⟨nd, rfl⟩⟩; refine ⟨_, rfl, ?_⟩))
  go_ret
  exact ⟨by first | rfl | (simp; done) | (simp [*]; done), by repeat (first | exact Drawn0.refl _ | apply Drawn0.step)⟩
 replace c5 := Bool.eq_false_iff.mpr c5
 subst c5
 have H1 : (if t115 = true then (some 1) else (if a0 < a1 then (some (-1)) else (if a0 > a1 then (some 1) else (some 0)))) = some r := by rw [if_neg (show ¬ (false = true) by decide)] at H; exact H
 clear H
 have H := H1
 clear H1
 by_cases c7 : t115 = true
 ·subst c7
  have H1 : (some 1) = some r := by rw [if_pos rfl] at H; exact H
  clear H
  have H := H1
  clear H1
  obtain rfl := Option.some.inj H
  go_enter Try.func48, Try.ntmps48
  go_wp2_with (first | ((with_reducible refine gate_callee (f := 61) rfl ?_); refine goesL_ (some 8) rfl rfl Try.func61 (by kernel_rfl) rfl #[.int .i64 a0] rfl za ?_; (with_reducible refine (cmp_isNaN_int.calls a0 false _ A3.out).mono ?_); rintro e w' ⟨rfl, ⟨nd, rfl⟩⟩; refine ⟨_, rfl, ?_⟩) | ((with_reducible refine gate_callee (f := 61) rfl ?_); refine goesL_ (some 10) rfl rfl Try.func61 (by kernel_rfl) rfl #[.int .i64 a1] rfl za ?_; (with_reducible refine (cmp_isNaN_int.calls a1 true _ A4.out).mono ?_); rintro e w' ⟨rfl, ⟨nd, rfl⟩⟩; refine ⟨_, rfl, ?_⟩))
  go_ret
  exact ⟨by first | rfl | (simp; done) | (simp [*]; done), by repeat (first | exact Drawn0.refl _ | apply Drawn0.step)⟩
 replace c7 := Bool.eq_false_iff.mpr c7
 subst c7
 have H1 : (if a0 < a1 then (some (-1)) else (if a0 > a1 then (some 1) else (some 0))) = some r := by rw [if_neg (show ¬ (false = true) by decide)] at H; exact H
 clear H
 have H := H1
 clear H1
 by_cases c8 : a0 < a1
 ·rw [if_pos c8] at H
  have c8b0 : decide (a0 < a1) = true := decide_eq_true c8
  clear c8
  obtain rfl := Option.some.inj H
  go_enter Try.func48, Try.ntmps48
  go_wp2_with (first | ((with_reducible refine gate_callee (f := 61) rfl ?_); refine goesL_ (some 8) rfl rfl Try.func61 (by kernel_rfl) rfl #[.int .i64 a0] rfl za ?_; (with_reducible refine (cmp_isNaN_int.calls a0 false _ A3.out).mono ?_); rintro e w' ⟨rfl, ⟨nd, rfl⟩⟩; refine ⟨_, rfl, ?_⟩) | ((with_reducible refine gate_callee (f := 61) rfl ?_); refine goesL_ (some 10) rfl rfl Try.func61 (by kernel_rfl) rfl #[.int .i64 a1] rfl za ?_; (with_reducible refine (cmp_isNaN_int.calls a1 false _ A4.out).mono ?_); rintro e w' ⟨rfl, ⟨nd, rfl⟩⟩; refine ⟨_, rfl, ?_⟩))
  go_ret
  exact ⟨by first | rfl | (simp; done) | (simp [*]; done), by repeat (first | exact Drawn0.refl _ | apply Drawn0.step)⟩
 rw [if_neg c8] at H
 have c8b0 : decide (a0 < a1) = false := decide_eq_false c8
 clear c8
 by_cases c9 : a0 > a1
 ·rw [if_pos c9] at H
  have c9b0 : decide (a1 < a0) = true := decide_eq_true c9
  clear c9
  obtain rfl := Option.some.inj H
  go_enter Try.func48, Try.ntmps48
  go_wp2_with (first | ((with_reducible refine gate_callee (f := 61) rfl ?_); refine goesL_ (some 8) rfl rfl Try.func61 (by kernel_rfl) rfl #[.int .i64 a0] rfl za ?_; (with_reducible refine (cmp_isNaN_int.calls a0 false _ A3.out).mono ?_); rintro e w' ⟨rfl, ⟨nd, rfl⟩⟩; refine ⟨_, rfl, ?_⟩) | ((with_reducible refine gate_callee (f := 61) rfl ?_); refine goesL_ (some 10) rfl rfl Try.func61 (by kernel_rfl) rfl #[.int .i64 a1] rfl za ?_; (with_reducible refine (cmp_isNaN_int.calls a1 false _ A4.out).mono ?_); rintro e w' ⟨rfl, ⟨nd, rfl⟩⟩; refine ⟨_, rfl, ?_⟩))
  go_ret
  exact ⟨by first | rfl | (simp; done) | (simp [*]; done), by repeat (first | exact Drawn0.refl _ | apply Drawn0.step)⟩
 rw [if_neg c9] at H
 have c9b0 : decide (a1 < a0) = false := decide_eq_false c9
 clear c9
 obtain rfl := Option.some.inj H
 go_enter Try.func48, Try.ntmps48
 go_wp2_with (first | ((with_reducible refine gate_callee (f := 61) rfl ?_); refine goesL_ (some 8) rfl rfl Try.func61 (by kernel_rfl) rfl #[.int .i64 a0] rfl za ?_; (with_reducible refine (cmp_isNaN_int.calls a0 false _ A3.out).mono ?_); rintro e w' ⟨rfl, ⟨nd, rfl⟩⟩; refine ⟨_, rfl, ?_⟩) | ((with_reducible refine gate_callee (f := 61) rfl ?_); refine goesL_ (some 10) rfl rfl Try.func61 (by kernel_rfl) rfl #[.int .i64 a1] rfl za ?_; (with_reducible refine (cmp_isNaN_int.calls a1 false _ A4.out).mono ?_); rintro e w' ⟨rfl, ⟨nd, rfl⟩⟩; refine ⟨_, rfl, ?_⟩))
 go_ret
 exact ⟨by first | rfl | (simp; done) | (simp [*]; done), by repeat (first | exact Drawn0.refl _ | apply Drawn0.step)⟩
def wear_order.f (k : Nat) (a0_0 : Int) (a0_1 : Int) (a1_0 : Int) (a1_1 : Int) : Option (Int) := (cmp_Compare_int.f a0_1 a1_1).bind fun t118 => ((cmp_Compare_int.f a0_0 a1_0).bind fun t119 => ((cmp_Or_int.f k (([t118, t119] : List Int))).bind fun t123 => (some t123)))
theorem wear_order.mono : ∀ a0 a1 a2 a3 k, LeO (wear_order.f k a0 a1 a2 a3) (wear_order.f (k + 1) a0 a1 a2 a3) := by
 intro a0 a1 a2 a3 k
 unfold wear_order.f
 repeat' first
   | (with_reducible exact cmp_Or_int.mono _ _)
   | (with_reducible exact LeO.refl _)
   | (with_reducible exact LeO.none _)
   | (with_reducible refine LeO.ite ?_ ?_)
   | (with_reducible refine LeO.bind ?_ (fun _ => ?_))
   | exact cmp_Or_int.mono _ _
   | exact LeO.none _
   | refine LeO.ite ?_ ?_
   | refine LeO.bind ?_ (fun _ => ?_)
def wear_order.T1 : Bool × List (List Nat × List Nat) := (true, [([], []), ([0], [0]), ([], []), ([2], [2]), ([1, 3], [1, 3]), ([], []), ([5], [5]), ([], []), ([7], [7]), ([6, 8, 4], [6, 8]), ([4, 9], [4, 9]), ([10, 9], [10]), ([11, 11, 0, 1, 2, 3, 4, 5, 6, 7, 8, 9, 10, 11], [11])])
def wear_order.B1 : List Nat := [0, 1, 0, 4, 15, 0, 32, 0, 128, 511, 1023, 2047, 4095]
theorem wear_order.tab1 : rtab .any (opsOf Try.f26 1) = wear_order.T1 := by kernel_rfl
theorem wear_order.bits1 : waitsOk wear_order.T1.2 wear_order.B1 = true := by kernel_rfl
set_option maxHeartbeats 8000000 in
set_option maxRecDepth 100000 in
theorem wear_order.calls (k : Nat) (a0_0 : Int) (a0_1 : Int) (a1_0 : Int) (a1_1 : Int) (r : Int) (w : World) (h : wear_order.f k a0_0 a0_1 a1_0 a1_1 = some r) :
  Calls Try.prog 26 #[.agg #[.int .i64 a0_0, .int .i64 a0_1], .agg #[.int .i64 a1_0, .int .i64 a1_1]] w fun e w' => e = .returned (.int .i64 r) ∧ Below w.heap.size w w' := by
 have hu32 := Try.underlying32
 have HB := Aside0.mk (Below.refl w.heap.size w)
 have H : ((cmp_Compare_int.f a0_1 a1_1).bind fun t118 => ((cmp_Compare_int.f a0_0 a1_0).bind fun t119 => ((cmp_Or_int.f k (([t118, t119] : List Int))).bind fun t123 => (some t123)))) = some r := h
 clear h
 replace H := Option.bind_eq_some_iff.mp H
 obtain ⟨t118, A30, H⟩ := H
 replace H : ((cmp_Compare_int.f a0_0 a1_0).bind fun t119 => ((cmp_Or_int.f k (([t118, t119] : List Int))).bind fun t123 => (some t123))) = some r := H
 have A3 := Aside0.mk A30
 clear A30
 replace H := Option.bind_eq_some_iff.mp H
 obtain ⟨t119, A40, H⟩ := H
 replace H : ((cmp_Or_int.f k (([t118, t119] : List Int))).bind fun t123 => (some t123)) = some r := H
 have A4 := Aside0.mk A40
 clear A40
 obtain ⟨y120, hy120⟩ : ∃ y_ : List Int, y_ = (([t118, t119] : List Int)) := ⟨_, rfl⟩
 replace H : ((cmp_Or_int.f k y120).bind fun t123 => (some t123)) = some r := by first | (rw [hy120]; with_reducible exact H) | (have H2_ := (Option.bind_some _ _).symm.trans H; rw [hy120]; with_reducible exact H2_) | (have H2_ := (Option.bind_some _ _).symm.trans H; with_reducible exact H2_) | with_reducible exact H | (rw [hy120]; exact H) | exact H
 have Ny120 := Aside0.mk hy120
 clear hy120
 replace H := Option.bind_eq_some_iff.mp H
 obtain ⟨t123, A50, H⟩ := H
 replace H : (some t123) = some r := H
 have A5 := Aside0.mk A50
 clear A50
 obtain rfl := Option.some.inj H
 go_enter Try.func26, Try.ntmps26
 try go_wp2_with (first | ((with_reducible refine gate_dst (N := 2) rfl ?_); refine zx 2 #[.int .i64 a0_0, .int .i64 a0_1] 32 ?_; intro gb116 hg w6 hbox hb; have n0_ := zY HB hb; have n1_ := Aside0.mk (hbox); have n2_ := zS hg HB; have n3_ := zS hg HB; clear HB; have HB := n0_; have BK116 := n1_; have GW116 := n2_; have GE116 := n3_; clear n0_ n1_ n2_ n3_; clear hb hbox hg) | ((with_reducible refine gate_dst (N := 3) rfl ?_); refine zx 3 #[.int .i64 a1_0, .int .i64 a1_1] 32 ?_; intro gb117 hg w7 hbox hb; have n0_ := zD BK116 hb; have n1_ := zY HB hb; have n2_ := Aside0.mk (hbox); have n3_ := zS hg HB; have n4_ := zS hg HB; have n5_ := zN hg BK116; have n6_ := zM hg BK116; clear BK116; clear HB; have BK116 := n0_; have HB := n1_; have BK117 := n2_; have GW117 := n3_; have GE117 := n4_; have NB116_117 := n5_; have NB117_116 := n6_; clear n0_ n1_ n2_ n3_ n4_ n5_ n6_; clear hb hbox hg))
 have n0_ := Aside0.mk (blk_drew BK116.out)
 have n1_ := Aside0.mk (blk_drew BK117.out)
 have n2_ := Aside0.mk (below_drew1 HB.out)
 clear BK116; clear BK117; clear HB
 have BK116 := n0_
 have BK117 := n1_
 have HB := n2_
 clear n0_ n1_ n2_
 refine start_ (n := 13) (S := fun w' => w'.cell? ⟨gb116, 0, none⟩ = some (.int .i64 a0_0) ∧ w'.cell? ⟨gb116, 1, none⟩ = some (.int .i64 a0_1) ∧ w'.cell? ⟨gb117, 0, none⟩ = some (.int .i64 a1_0) ∧ w'.cell? ⟨gb117, 1, none⟩ = some (.int .i64 a1_1)) (ds := []) #[Z0, Z0, Z0, Z0, Z0, Z0, Z0, Z0, Z0, Z0, Z0, Z0, Z0] (by kernel_rfl) rfl rfl ⟨(blk_cell BK116.out 0).trans rfl, (blk_cell BK116.out 1).trans rfl, (blk_cell BK117.out 0).trans rfl, (blk_cell BK117.out 1).trans rfl⟩ (fun hHeld => ?_); refine with_tabW wear_order.tab1 wear_order.bits1 (fun HT_ HW_ => ?_)
 generalize w7.drew = w8 at BK116 BK117 HB hHeld ⊢
 refine zp 0 (some 5) #[Z1, Z0, Z0, Z0, Z0, Z0, Z0, Z0, Z0, Z0, Z0, Z0, Z0] rfl rfl (any_of HT_.out (by kernel_rfl)) ?_
 refine zp 2 (some 7) #[Z1, Z0, Z1, Z0, Z0, Z0, Z0, Z0, Z0, Z0, Z0, Z0, Z0] rfl rfl (any_of HT_.out (by kernel_rfl)) ?_
 refine zp 5 (some 10) #[Z1, Z0, Z1, Z0, Z0, Z1, Z0, Z0, Z0, Z0, Z0, Z0, Z0] rfl rfl (any_of HT_.out (by kernel_rfl)) ?_
 refine zp 7 (some 12) #[Z1, Z0, Z1, Z0, Z0, Z1, Z0, Z1, Z0, Z0, Z0, Z0, Z0] rfl rfl (any_of HT_.out (by kernel_rfl)) ?_
 refine take_ (i := 1) (N := some 6) (v := ?_) (a' := ?_) #[Z1, Z1, Z1, Z0, Z0, Z1, Z0, Z1, Z0, Z0, Z0, Z0, Z0] rfl rfl (take_ofW HT_.out HW_.out (by kernel_rfl)) (fun _ _ _ h => h) (Or.inl ⟨by rfl, ?_⟩) hHeld ?_ ?_
 rotate_left; · rintro w' ⟨s0, s1, s2, s3⟩; go_simp; with_reducible rfl
 rotate_left; · simp only [Act.put, List.setIfInBounds_toArray, List.set_cons_zero, List.set_cons_succ, i64_w, i32_w]; rfl
 refine take_ (i := 3) (N := some 8) (v := ?_) (a' := ?_) #[Z1, Z1, Z1, Z1, Z0, Z1, Z0, Z1, Z0, Z0, Z0, Z0, Z0] rfl rfl (take_ofW HT_.out HW_.out (by kernel_rfl)) (fun _ _ _ h => h) (Or.inl ⟨by rfl, ?_⟩) hHeld ?_ ?_
 rotate_left; · rintro w' ⟨s0, s1, s2, s3⟩; go_simp; with_reducible rfl
 rotate_left; · simp only [Act.put, List.setIfInBounds_toArray, List.set_cons_zero, List.set_cons_succ, i64_w, i32_w]; rfl
 refine take_ (i := 6) (N := some 11) (v := ?_) (a' := ?_) #[Z1, Z1, Z1, Z1, Z0, Z1, Z1, Z1, Z0, Z0, Z0, Z0, Z0] rfl rfl (take_ofW HT_.out HW_.out (by kernel_rfl)) (fun _ _ _ h => h) (Or.inl ⟨by rfl, ?_⟩) hHeld ?_ ?_
 rotate_left; · rintro w' ⟨s0, s1, s2, s3⟩; go_simp; with_reducible rfl
 rotate_left; · simp only [Act.put, List.setIfInBounds_toArray, List.set_cons_zero, List.set_cons_succ, i64_w, i32_w]; rfl
 refine take_ (i := 8) (N := some 13) (v := ?_) (a' := ?_) #[Z1, Z1, Z1, Z1, Z0, Z1, Z1, Z1, Z1, Z0, Z0, Z0, Z0] rfl rfl (take_ofW HT_.out HW_.out (by kernel_rfl)) (fun _ _ _ h => h) (Or.inl ⟨by rfl, ?_⟩) hHeld ?_ ?_
 rotate_left; · rintro w' ⟨s0, s1, s2, s3⟩; go_simp; with_reducible rfl
 rotate_left; · simp only [Act.put, List.setIfInBounds_toArray, List.set_cons_zero, List.set_cons_succ, i64_w, i32_w]; rfl
 refine one_ (i := 4) (N := some 9) #[Z1, Z1, Z1, Z1, Z1, Z1, Z1, Z1, Z1, Z0, Z0, Z0, Z0] rfl rfl (one_of HT_.out (by kernel_rfl)) (by decide) (fun K hK => ?_)
 refine goes_ Try.func48 (by kernel_rfl) rfl #[.int .i64 a0_1, .int .i64 a1_1] (by rfl) rfl rfl za ?_
 with_reducible refine (cmp_Compare_int.calls a0_1 a1_1 t118 _ A3.out).mono ?_
 rintro e w' ⟨rfl, ⟨nd, rfl⟩⟩
 refine ⟨_, rfl, ?_⟩
 refine hK.out _ _ ⟨(blk_cell BK116.out 0).trans rfl, (blk_cell BK116.out 1).trans rfl, (blk_cell BK117.out 0).trans rfl, (blk_cell BK117.out 1).trans rfl⟩ (fun hHeld => ?_)
 clear hK K
 refine norm_ (a' := ?_) ?_ ?_
 rotate_left
 ·show Act.put _ (some 9) _ = _
  simp only [Act.put, List.setIfInBounds_toArray, List.set_cons_zero, List.set_cons_succ, i64_w, i32_w]
  rfl
 refine one_ (i := 9) (N := some 14) #[Z1, Z1, Z1, Z1, Z1, Z1, Z1, Z1, Z1, Z1, Z0, Z0, Z0] rfl rfl (one_of HT_.out (by kernel_rfl)) (by decide) (fun K hK => ?_)
 refine goes_ Try.func48 (by kernel_rfl) rfl #[.int .i64 a0_0, .int .i64 a1_0] (by rfl) rfl rfl za ?_
 with_reducible refine (cmp_Compare_int.calls a0_0 a1_0 t119 _ A4.out).mono ?_
 rintro e w' ⟨rfl, ⟨nd, rfl⟩⟩
 refine ⟨_, rfl, ?_⟩
 refine hK.out _ _ ⟨(blk_cell BK116.out 0).trans rfl, (blk_cell BK116.out 1).trans rfl, (blk_cell BK117.out 0).trans rfl, (blk_cell BK117.out 1).trans rfl⟩ (fun hHeld => ?_)
 clear hK K
 refine norm_ (a' := ?_) ?_ ?_
 rotate_left
 ·show Act.put _ (some 14) _ = _
  simp only [Act.put, List.setIfInBounds_toArray, List.set_cons_zero, List.set_cons_succ, i64_w, i32_w]
  rfl
 refine one_ (i := 10) (N := some 15) #[Z1, Z1, Z1, Z1, Z1, Z1, Z1, Z1, Z1, Z1, Z1, Z0, Z0] rfl rfl (one_of HT_.out (by kernel_rfl)) (by decide) (fun K hK => ?_)
 refine Kd.R_lit_step (Kd.int .i64) _ 3 ?hg (N := 15) ?hd (xs := ([t118, t119] : List Int)) (inner := [.int .i64 t118, .int .i64 t119]) (ok := fun _ => True) (okp := fun _ => True) ?hr ?hp (fun _ hk => hk) trivial (Below.refl _ _) (Nat.le_refl _) (by simp) ?_; (case hd => rfl); (case hg => rfl); (case hr => first | (go_simp; done) | (go_simp; rfl)); (case hp => exact (Reps.one (show Kd.M (Kd.int .i64) _ _ _ t118 [.int .i64 t118] from rfl) (Reps.one (show Kd.M (Kd.int .i64) _ _ _ t119 [.int .i64 t119] from rfl) (Reps.none _ _))))
 intro v121 w9 ho10 hb hg_ hnew_
 clear hg_ hnew_
 (first | rw [← Ny120.out] at ho10 | (simp only [Int.reduceToNat] at ho10; rw [← Ny120.out] at ho10))
 have n0_ := Aside0.mk (Kd.R_lower ho10 (below_size (zw HB)))
 have n1_ := zD BK116 hb
 have n2_ := zD BK117 hb
 have n3_ := zY HB hb
 clear BK116; clear BK117; clear HB
 have HO122 := n0_
 have BK116 := n1_
 have BK117 := n2_
 have HB := n3_
 clear n0_ n1_ n2_ n3_; clear hb ho10
 obtain ⟨Ao11, co11, eo11⟩ := Kd.R_slice HO122.out
 (first | subst eo11 | (injection eo11 with f1_ f2_ f3_; have f4_ := f1_.symm; have f5_ := f3_.symm; clear f1_ f2_ f3_; subst f4_; subst f5_))
 refine hK.out _ _ ⟨(blk_cell BK116.out 0).trans rfl, (blk_cell BK116.out 1).trans rfl, (blk_cell BK117.out 0).trans rfl, (blk_cell BK117.out 1).trans rfl⟩ (fun hHeld => ?_)
 clear hK K
 refine norm_ (a' := ?_) ?_ ?_
 rotate_left
 ·show Act.put _ (some 15) _ = _
  simp only [Act.put, List.setIfInBounds_toArray, List.set_cons_zero, List.set_cons_succ, i64_w, i32_w]
  rfl
 refine one_ (i := 11) (N := some 16) #[Z1, Z1, Z1, Z1, Z1, Z1, Z1, Z1, Z1, Z1, Z1, Z1, Z0] rfl rfl (one_of HT_.out (by kernel_rfl)) (by decide) (fun K hK => ?_)
 refine goes_ Try.func47 (by kernel_rfl) rfl #[.slice Ao11 y120.length co11] (by rfl) rfl rfl za ?_
 with_reducible refine (cmp_Or_int.calls k _ _ y120 t123 _ ?side1 ?side2 A5.out).mono ?_
 (case side1 => exact zr (Kd.R_reads' HO122.out).2.2)
 (case side2 => exact (Kd.R_reads' HO122.out).2.1)
 rintro e w' ⟨rfl, ⟨nd, rfl⟩⟩
 refine ⟨_, rfl, ?_⟩
 refine hK.out _ _ ⟨(blk_cell BK116.out 0).trans rfl, (blk_cell BK116.out 1).trans rfl, (blk_cell BK117.out 0).trans rfl, (blk_cell BK117.out 1).trans rfl⟩ (fun hHeld => ?_)
 clear hK K
 refine norm_ (a' := ?_) ?_ ?_
 rotate_left
 ·show Act.put _ (some 16) _ = _
  simp only [Act.put, List.setIfInBounds_toArray, List.set_cons_zero, List.set_cons_succ, i64_w, i32_w]
  rfl
 refine zp 12 (some 4) #[Z1, Z1, Z1, Z1, Z1, Z1, Z1, Z1, Z1, Z1, Z1, Z1, Z1] rfl rfl (any_of HT_.out (by kernel_rfl)) ?_
 refine done_ (done_of HT_.out (by kernel_rfl)) ?_
 try go_wp2
 go_ret
 exact ⟨ze, zw HB⟩
def wear_far.f (a0_0 : Int) (a0_1 : Int) (a1_0 : Int) (a1_1 : Int) : Option (Int) := some (wrap64 ((mx (wrap64 (a0_0 - a1_0)) (wrap64 (a1_0 - a0_0))) + (mx (wrap64 (a0_1 - a1_1)) (wrap64 (a1_1 - a0_1)))))
set_option maxHeartbeats 8000000 in
set_option maxRecDepth 100000 in
theorem wear_far.calls (a0_0 : Int) (a0_1 : Int) (a1_0 : Int) (a1_1 : Int) (r : Int) (w : World) (h : wear_far.f a0_0 a0_1 a1_0 a1_1 = some r) :
  Calls Try.prog 55 #[.agg #[.int .i64 a0_0, .int .i64 a0_1], .agg #[.int .i64 a1_0, .int .i64 a1_1]] w fun e w' => e = .returned (.int .i64 r) ∧ Below w.heap.size w w' := by
 have hu32 := Try.underlying32
 have HB := Aside0.mk (Below.refl w.heap.size w)
 have H : (some (wrap64 ((mx (wrap64 (a0_0 - a1_0)) (wrap64 (a1_0 - a0_0))) + (mx (wrap64 (a0_1 - a1_1)) (wrap64 (a1_1 - a0_1)))))) = some r := h
 clear h
 obtain ⟨ji3, hji3⟩ : ∃ j_ : Int, (mx (wrap64 (a0_0 - a1_0)) (wrap64 (a1_0 - a0_0))) = j_ := ⟨_, rfl⟩
 replace H : (some (wrap64 ((ji3) + (mx (wrap64 (a0_1 - a1_1)) (wrap64 (a1_1 - a0_1)))))) = some r := by first | (rw [hji3] at H; exact H) | (simp only [hji3] at H ⊢; exact H)
 have hji3_ : (if (wrap64 (a0_0 - a1_0)) < (wrap64 (a1_0 - a0_0)) then (wrap64 (a1_0 - a0_0)) else (wrap64 (a0_0 - a1_0))) = ji3 := hji3
 obtain ⟨ji4, hji4⟩ : ∃ j_ : Int, (mx (wrap64 (a0_1 - a1_1)) (wrap64 (a1_1 - a0_1))) = j_ := ⟨_, rfl⟩
 replace H : (some (wrap64 ((ji3) + (ji4)))) = some r := by first | (rw [hji4] at H; exact H) | (simp only [hji4] at H ⊢; exact H)
 have hji4_ : (if (wrap64 (a0_1 - a1_1)) < (wrap64 (a1_1 - a0_1)) then (wrap64 (a1_1 - a0_1)) else (wrap64 (a0_1 - a1_1))) = ji4 := hji4
 obtain rfl := Option.some.inj H
 go_enter Try.func55, Try.ntmps55
 go_wp2_with (first | ((with_reducible refine gate_dst (N := 2) rfl ?_); refine zx 2 #[.int .i64 a0_0, .int .i64 a0_1] 32 ?_; intro gb124 hg w5 hbox hb; have n0_ := zY HB hb; have n1_ := Aside0.mk (hbox); have n2_ := zS hg HB; have n3_ := zS hg HB; clear HB; have HB := n0_; have BK124 := n1_; have GW124 := n2_; have GE124 := n3_; clear n0_ n1_ n2_ n3_; clear hb hbox hg) | ((with_reducible refine gate_dst (N := 3) rfl ?_); refine zx 3 #[.int .i64 a1_0, .int .i64 a1_1] 32 ?_; intro gb125 hg w6 hbox hb; have n0_ := zD BK124 hb; have n1_ := zY HB hb; have n2_ := Aside0.mk (hbox); have n3_ := zS hg HB; have n4_ := zS hg HB; have n5_ := zN hg BK124; have n6_ := zM hg BK124; clear BK124; clear HB; have BK124 := n0_; have HB := n1_; have BK125 := n2_; have GW125 := n3_; have GE125 := n4_; have NB124_125 := n5_; have NB125_124 := n6_; clear n0_ n1_ n2_ n3_ n4_ n5_ n6_; clear hb hbox hg; have hnb7 := NB124_125.out; have hnc7 := NB125_124.out; obtain ⟨hcz8_0, hcz8_1, hfz8_0, hfz8_1⟩ := zk2 BK124; obtain ⟨hcz9_0, hcz9_1, hfz9_0, hfz9_1⟩ := zk2 BK125))
 go_ret
 exact ⟨by first | rfl | (simp [errW_none, errW_some] <;> rfl) | (simp only [← hji3, ← hji4]; first | rfl | (simp [errW_none, errW_some] <;> rfl)) | (simp [*, errW_none, errW_some] <;> rfl), zw HB⟩
def wear_bounds.l0 : Nat → List (S67) → Int → Int → List (S32) → List (S55) → Int → Int → Int → List (S67) → Int → Int → Int → Int → Option (Int × Int)
 | 0, _, _, _, _, _, _, _, _, _, _, _, _, _ => none
 | k + 1, x12, x13, x14, x127000, x127001, x127002, x127003, x127004, x127005, x128000, x128001, x130000, x130001 => if x14 < x13 then (if 0 ≤ x14 then (if x14 < (x12.length : Int) then ((wear_far.f x128000 x128001 ((rd_T67 x12 x14).f0.f0) ((rd_T67 x12 x14).f0.f1)).bind fun t132 => (wear_bounds.l0 k x12 x13 (wrap64 (x14 + 1)) x127000 x127001 x127002 x127003 x127004 x127005 x128000 x128001 (mx x130000 (wrap64 (((rd_T67 x12 x14).f1.f0) - (wrap64 (x127002 * t132))))) (mn x130001 (wrap64 (((rd_T67 x12 x14).f1.f1) + (wrap64 (x127002 * t132))))))) else (none)) else (none)) else (some (x130000, x130001))
def wear_bounds.f (k : Nat) (l0_0 : List (S32)) (l0_1 : List (S55)) (a0_2 : Int) (a0_3 : Int) (a0_4 : Int) (l0_5 : List (S67)) (a1_0 : Int) (a1_1 : Int) : Option (Int × Int) := wear_bounds.l0 k l0_5 (l0_5.length : Int) 0 l0_0 l0_1 a0_2 a0_3 a0_4 l0_5 a1_0 a1_1 a0_3 a0_4
theorem wear_bounds.mono_l : ∀ k, (∀ y0 y1 y2 y3 y4 y5 y6 y7 y8 y9 y10 y11 y12, LeO (wear_bounds.l0 k y0 y1 y2 y3 y4 y5 y6 y7 y8 y9 y10 y11 y12) (wear_bounds.l0 (k + 1) y0 y1 y2 y3 y4 y5 y6 y7 y8 y9 y10 y11 y12))
 | 0 => fun _ _ _ _ _ _ _ _ _ _ _ _ _ r h => by simp [wear_bounds.l0] at h
 | k + 1 => by
  have ih0 := wear_bounds.mono_l k
  ·intro y0 y1 y2 y3 y4 y5 y6 y7 y8 y9 y10 y11 y12
   unfold wear_bounds.l0
   repeat' first
   | (with_reducible exact ih0 _ _ _ _ _ _ _ _ _ _ _ _ _)
   | (with_reducible exact LeO.refl _)
   | (with_reducible exact LeO.none _)
   | (with_reducible refine LeO.ite ?_ ?_)
   | (with_reducible refine LeO.bind ?_ (fun _ => ?_))
   | exact ih0 _ _ _ _ _ _ _ _ _ _ _ _ _
   | exact LeO.none _
   | refine LeO.ite ?_ ?_
   | refine LeO.bind ?_ (fun _ => ?_)
theorem wear_bounds.mono : ∀ a0 a1 a2 a3 a4 a5 a6 a7 k, LeO (wear_bounds.f k a0 a1 a2 a3 a4 a5 a6 a7) (wear_bounds.f (k + 1) a0 a1 a2 a3 a4 a5 a6 a7) := by
 intro a0 a1 a2 a3 a4 a5 a6 a7 k
 have ih0 := wear_bounds.mono_l k
 unfold wear_bounds.f
 repeat' first
   | (with_reducible exact ih0 _ _ _ _ _ _ _ _ _ _ _ _ _)
   | (with_reducible exact LeO.refl _)
   | (with_reducible exact LeO.none _)
   | (with_reducible refine LeO.ite ?_ ?_)
   | (with_reducible refine LeO.bind ?_ (fun _ => ?_))
   | exact ih0 _ _ _ _ _ _ _ _ _ _ _ _ _
   | exact LeO.none _
   | refine LeO.ite ?_ ?_
   | refine LeO.bind ?_ (fun _ => ?_)
def wear_bounds.T5 : Bool × List (List Nat × List Nat) := (true, [([], []), ([0], [0]), ([], []), ([], []), ([3], [3]), ([2, 4], [2, 4]), ([1, 5], [1, 5]), ([6, 5, 0, 1, 2, 3, 4, 5, 6], [6])])
def wear_bounds.B5 : List Nat := [0, 1, 0, 0, 8, 28, 63, 127]
theorem wear_bounds.tab5 : rtab .any (opsOf Try.f33 5) = wear_bounds.T5 := by kernel_rfl
theorem wear_bounds.bits5 : waitsOk wear_bounds.T5.2 wear_bounds.B5 = true := by kernel_rfl
set_option maxHeartbeats 8000000 in
set_option maxRecDepth 100000 in
theorem wear_bounds.calls (k : Nat) (A0_0 : Option Addr) (c0_0 : Nat) (l0_0 : List (S32)) (A0_1 : Option Addr) (c0_1 : Nat) (l0_1 : List (S55)) (a0_2 : Int) (a0_3 : Int) (a0_4 : Int) (A0_5 : Option Addr) (c0_5 : Nat) (l0_5 : List (S67)) (a1_0 : Int) (a1_1 : Int) (r1 : Int) (r2 : Int) (w : World) (hr0_0 : Kd.C k32 w A0_0 l0_0.length l0_0) (hc0_0 : l0_0.length ≤ c0_0) (hr0_1 : Kd.C k55 w A0_1 l0_1.length l0_1) (hc0_1 : l0_1.length ≤ c0_1) (hr0_5 : Kd.C k67 w A0_5 l0_5.length l0_5) (hc0_5 : l0_5.length ≤ c0_5) (h : wear_bounds.f k l0_0 l0_1 a0_2 a0_3 a0_4 l0_5 a1_0 a1_1 = some (r1, r2)) :
  Calls Try.prog 33 #[.agg #[.slice A0_0 l0_0.length c0_0, .slice A0_1 l0_1.length c0_1, .int .i64 a0_2, .int .i64 a0_3, .int .i64 a0_4, .slice A0_5 l0_5.length c0_5], .agg #[.int .i64 a1_0, .int .i64 a1_1]] w fun e w' => e = .returned (.agg #[.int .i64 r1, .int .i64 r2]) ∧ Below w.heap.size w w' := by
 have hu30 := Try.underlying30
 have hu32 := Try.underlying32
 have hu27 := Try.underlying27
 have hu67 := Try.underlying67
 have HR0_0 := Aside0.mk hr0_0
 have HC0_0 := Aside0.mk hc0_0
 clear hr0_0 hc0_0
 have HR0_1 := Aside0.mk hr0_1
 have HC0_1 := Aside0.mk hc0_1
 clear hr0_1 hc0_1
 have HR0_5 := Aside0.mk hr0_5
 have HC0_5 := Aside0.mk hc0_5
 clear hr0_5 hc0_5
 have HB := Aside0.mk (Below.refl w.heap.size w)
 have H : (wear_bounds.l0 k l0_5 (l0_5.length : Int) 0 l0_0 l0_1 a0_2 a0_3 a0_4 l0_5 a1_0 a1_1 a0_3 a0_4) = some (r1, r2) := h
 clear h
 have H' := Aside0.mk H
 clear H
 go_enter Try.func33, Try.ntmps33
 go_wp2_with (first | ((with_reducible refine gate_dst (N := 2) rfl ?_); refine zx 2 #[.slice A0_0 l0_0.length c0_0, .slice A0_1 l0_1.length c0_1, .int .i64 a0_2, .int .i64 a0_3, .int .i64 a0_4, .slice A0_5 l0_5.length c0_5] 30 ?_; intro gb126 hg w3 hbox hb; have n0_ := zY HB hb; have n1_ := Aside0.mk (hbox); have n2_ := zS hg HB; have n3_ := zS hg HB; clear HB; have HB := n0_; have BK126 := n1_; have GW126 := n2_; have GE126 := n3_; clear n0_ n1_ n2_ n3_; clear hb hbox hg) | ((with_reducible refine gate_dst (N := 3) rfl ?_); refine zx 3 #[.int .i64 a1_0, .int .i64 a1_1] 32 ?_; intro gb127 hg w4 hbox hb; have n0_ := zD BK126 hb; have n1_ := zY HB hb; have n2_ := Aside0.mk (hbox); have n3_ := zS hg HB; have n4_ := zS hg HB; have n5_ := zN hg BK126; have n6_ := zM hg BK126; clear BK126; clear HB; have BK126 := n0_; have HB := n1_; have BK127 := n2_; have GW127 := n3_; have GE127 := n4_; have NB126_127 := n5_; have NB127_126 := n6_; clear n0_ n1_ n2_ n3_ n4_ n5_ n6_; clear hb hbox hg) | ((with_reducible refine gate_dst (N := 4) rfl ?_); refine zx 4 #[.int .i64 0, .int .i64 0] 27 ?_; intro gb128 hg w5 hbox hb; have n0_ := zD BK126 hb; have n1_ := zD BK127 hb; have n2_ := zY HB hb; have n3_ := Aside0.mk (hbox); have n4_ := zS hg HB; have n5_ := zS hg HB; have n6_ := zN hg BK126; have n7_ := zM hg BK126; have n8_ := zN hg BK127; have n9_ := zM hg BK127; clear BK126; clear BK127; clear HB; have BK126 := n0_; have BK127 := n1_; have HB := n2_; have BK128 := n3_; have GW128 := n4_; have GE128 := n5_; have NB126_128 := n6_; have NB128_126 := n7_; have NB127_128 := n8_; have NB128_127 := n9_; clear n0_ n1_ n2_ n3_ n4_ n5_ n6_ n7_ n8_ n9_; clear hb hbox hg; have hnb6 := NB126_127.out; have hnc6 := NB127_126.out; have hnb7 := NB126_128.out; have hnc7 := NB128_126.out; obtain ⟨hcz8_0, hcz8_1, hcz8_2, hcz8_3, hcz8_4, hcz8_5, hfz8_0, hfz8_1, hfz8_2, hfz8_3, hfz8_4, hfz8_5⟩ := zk6 BK126) | ((with_reducible refine gate_dst (N := 5) rfl ?_); refine zx 5 #[.int .i64 0, .int .i64 0] 27 ?_; intro gb129 hg w9 hbox hb; have n0_ := zD BK126 hb; have n1_ := zD BK127 hb; have n2_ := zD BK128 hb; have n3_ := zY HB hb; have n4_ := Aside0.mk (hbox); have n5_ := zS hg HB; have n6_ := zS hg HB; have n7_ := zN hg BK126; have n8_ := zM hg BK126; have n9_ := zN hg BK127; have n10_ := zM hg BK127; have n11_ := zN hg BK128; have n12_ := zM hg BK128; clear BK126; clear BK127; clear BK128; clear HB; have BK126 := n0_; have BK127 := n1_; have BK128 := n2_; have HB := n3_; have BK129 := n4_; have GW129 := n5_; have GE129 := n6_; have NB126_129 := n7_; have NB129_126 := n8_; have NB127_129 := n9_; have NB129_127 := n10_; have NB128_129 := n11_; have NB129_128 := n12_; clear n0_ n1_ n2_ n3_ n4_ n5_ n6_ n7_ n8_ n9_ n10_ n11_ n12_; clear hb hbox hg; have hnb10 := NB129_126.out; have hnc10 := NB126_129.out; have hnb11 := NB129_127.out; have hnc11 := NB127_129.out; have hnb12 := NB129_128.out; have hnc12 := NB128_129.out; obtain ⟨hcz13_0, hcz13_1, hfz13_0, hfz13_1⟩ := zk2 BK129; obtain ⟨hcz14_0, hcz14_1, hcz14_2, hcz14_3, hcz14_4, hcz14_5, hfz14_0, hfz14_1, hfz14_2, hfz14_3, hfz14_4, hfz14_5⟩ := zk6 BK126))
 go_loopg [14] k (fun kq v14 w' => ∃ (x14_1 : Int) (x130000_1 : Int) (x130001_1 : Int), v14 = .int .i64 x14_1 ∧ Aside0 (wear_bounds.l0 kq l0_5 (l0_5.length : Int) x14_1 l0_0 l0_1 a0_2 a0_3 a0_4 l0_5 a1_0 a1_1 x130000_1 x130001_1 = some (r1, r2)) ∧ Aside0 (kq ≤ k) ∧ Aside0 (w'.heap[gb126]? = some (.cells #[(.slice A0_0 l0_0.length c0_0), (.slice A0_1 l0_1.length c0_1), .int .i64 a0_2, .int .i64 a0_3, .int .i64 a0_4, (.slice A0_5 l0_5.length c0_5)] 30 (0, 0))) ∧ Aside0 (w'.heap[gb127]? = some (.cells #[.int .i64 a1_0, .int .i64 a1_1] 32 (0, 0))) ∧ Aside0 (w'.heap[gb128]? = some (.cells #[.int .i64 0, .int .i64 0] 27 (0, 0))) ∧ Aside0 (w'.heap[gb129]? = some (.cells #[.int .i64 x130000_1, .int .i64 x130001_1] 27 (0, 0))) ∧ Aside0 (Below w.heap.size w w'))
 case atStart => exact ⟨(0), (a0_3), (a0_4), zq, H', ⟨Nat.le_refl _⟩, ⟨zv BK126⟩, ⟨zv BK127⟩, ⟨zv BK128⟩, ⟨by refine zQ ?_; refine blk_put (cs := #[.int .i64 a0_3, .int .i64 0]) ?_ 1 _ rfl; refine zQ ?_; refine blk_put (cs := #[.int .i64 0, .int .i64 0]) ?_ 0 _ rfl; (with_reducible repeat (first | refine blk_drewN ?_ _ | refine blk_drew ?_ | refine blk_alloc ?_ _)); exact BK129.out⟩, ⟨zw HB⟩⟩
 case round =>
  clear H'; try clear c1; try clear p2; try clear c3; try clear c6; try clear c7; try clear c10; try clear c11; try clear c12; try clear hcz13_0 hcz13_1; try clear hcz14_0 hcz14_1 hcz14_2 hcz14_3 hcz14_4 hcz14_5; try clear hcz8_0 hcz8_1 hcz8_2 hcz8_3 hcz8_4 hcz8_5; try clear hfz13_0 hfz13_1; try clear hfz14_0 hfz14_1 hfz14_2 hfz14_3 hfz14_4 hfz14_5; try clear hfz8_0 hfz8_1 hfz8_2 hfz8_3 hfz8_4 hfz8_5
  obtain ⟨x14_1, x130000_1, x130001_1, rfl, HA, HK1, BK126, BK127, BK128, BK129, HB⟩ := hrel
  cases gk with
  | zero => exact absurd HA.out (by simp [wear_bounds.l0])
  | succ k1 =>
   have H := HA.out
   clear HA
   simp only [wear_bounds.l0] at H
   by_cases c15 : x14_1 < (l0_5.length : Int)
   ·rw [if_pos c15] at H
    have c15b0 : decide (x14_1 < (l0_5.length : Int)) = true := decide_eq_true c15
    clear c15
    by_cases c16 : 0 ≤ x14_1
    ·rw [if_pos c16] at H
     have c16b0 : decide (0 ≤ x14_1) = true := decide_eq_true c16
     clear c16
     by_cases c17 : x14_1 < (l0_5.length : Int)
     ·rw [if_pos c17] at H
      have c17b0 : decide (x14_1 < (l0_5.length : Int)) = true := decide_eq_true c17
      clear c17
      replace H := Option.bind_eq_some_iff.mp H
      obtain ⟨t132, A180, H⟩ := H
      replace H : (wear_bounds.l0 k1 l0_5 (l0_5.length : Int) (wrap64 (x14_1 + 1)) l0_0 l0_1 a0_2 a0_3 a0_4 l0_5 a1_0 a1_1 (mx x130000_1 (wrap64 (((rd_T67 l0_5 x14_1).f1.f0) - (wrap64 (a0_2 * t132))))) (mn x130001_1 (wrap64 (((rd_T67 l0_5 x14_1).f1.f1) + (wrap64 (a0_2 * t132)))))) = some (r1, r2) := H
      have A18 := Aside0.mk A180
      clear A180
      obtain ⟨ji19, hji19⟩ : ∃ j_ : Int, (mx x130000_1 (wrap64 (((rd_T67 l0_5 x14_1).f1.f0) - (wrap64 (a0_2 * t132))))) = j_ := ⟨_, rfl⟩
      replace H : (wear_bounds.l0 k1 l0_5 (l0_5.length : Int) (wrap64 (x14_1 + 1)) l0_0 l0_1 a0_2 a0_3 a0_4 l0_5 a1_0 a1_1 ji19 (mn x130001_1 (wrap64 (((rd_T67 l0_5 x14_1).f1.f1) + (wrap64 (a0_2 * t132)))))) = some (r1, r2) := by first | (rw [hji19] at H; exact H) | (simp only [hji19] at H ⊢; exact H)
      (try rw [hji19] at A18)
      have hji19_ : (if x130000_1 < (wrap64 (((rd_T67 l0_5 x14_1).f1.f0) - (wrap64 (a0_2 * t132)))) then (wrap64 (((rd_T67 l0_5 x14_1).f1.f0) - (wrap64 (a0_2 * t132)))) else x130000_1) = ji19 := hji19
      obtain ⟨ji20, hji20⟩ : ∃ j_ : Int, (mn x130001_1 (wrap64 (((rd_T67 l0_5 x14_1).f1.f1) + (wrap64 (a0_2 * t132))))) = j_ := ⟨_, rfl⟩
      replace H : (wear_bounds.l0 k1 l0_5 (l0_5.length : Int) (wrap64 (x14_1 + 1)) l0_0 l0_1 a0_2 a0_3 a0_4 l0_5 a1_0 a1_1 ji19 ji20) = some (r1, r2) := by first | (rw [hji20] at H; exact H) | (simp only [hji20] at H ⊢; exact H)
      (try rw [hji20] at A18)
      have hji20_ : (if (wrap64 (((rd_T67 l0_5 x14_1).f1.f1) + (wrap64 (a0_2 * t132)))) < x130001_1 then (wrap64 (((rd_T67 l0_5 x14_1).f1.f1) + (wrap64 (a0_2 * t132)))) else x130001_1) = ji20 := hji20
      have H' := Aside0.mk H
      clear H
      have p130 : 0 ≤ (x14_1 : Int) := of_decide_eq_true zj
      have q130 : x14_1 < (l0_5.length : Int) := of_decide_eq_true zj
      obtain ⟨ad130, e130, hx130_0, hx130_1, hx130_2, hx130_3⟩ := at_T67 HR0_5.out x14_1 p130 q130
      cases e130
      replace hx130_0 := zu hx130_0 HB
      replace hx130_1 := zu hx130_1 HB
      replace hx130_2 := zu hx130_2 HB
      replace hx130_3 := zu hx130_3 HB
      replace p130 := eq_true p130
      replace q130 := eq_true q130
      try go_wp2_with (first | ((with_reducible refine gate_dst (N := 7) rfl ?_); refine zx 7 #[.int .i64 0, .int .i64 0, .int .i64 0, .int .i64 0] 67 ?_; intro gb131 hg w21 hbox hb; have n0_ := zD BK126 hb; have n1_ := zD BK127 hb; have n2_ := zD BK128 hb; have n3_ := zD BK129 hb; have n4_ := zY HB hb; have n5_ := Aside0.mk (hbox); have n6_ := zS hg HB; have n7_ := zS hg HB; have n8_ := zN hg BK126; have n9_ := zM hg BK126; have n10_ := zN hg BK127; have n11_ := zM hg BK127; have n12_ := zN hg BK128; have n13_ := zM hg BK128; have n14_ := zN hg BK129; have n15_ := zM hg BK129; clear BK126; clear BK127; clear BK128; clear BK129; clear HB; have BK126 := n0_; have BK127 := n1_; have BK128 := n2_; have BK129 := n3_; have HB := n4_; have BK131 := n5_; have GW131 := n6_; have GE131 := n7_; have NB126_131 := n8_; have NB131_126 := n9_; have NB127_131 := n10_; have NB131_127 := n11_; have NB128_131 := n12_; have NB131_128 := n13_; have NB129_131 := n14_; have NB131_129 := n15_; clear n0_ n1_ n2_ n3_ n4_ n5_ n6_ n7_ n8_ n9_ n10_ n11_ n12_ n13_ n14_ n15_; clear hb hbox hg; have hnb22 := NB131_126.out; have hnc22 := NB126_131.out; have hnb23 := NB131_127.out; have hnc23 := NB127_131.out; have hnb24 := NB131_128.out; have hnc24 := NB128_131.out; have hnb25 := NB131_129.out; have hnc25 := NB129_131.out; obtain ⟨hcz26_0, hcz26_1, hcz26_2, hcz26_3, hfz26_0, hfz26_1, hfz26_2, hfz26_3⟩ := zk4 BK131))
      have n0_ : Aside0 (((((w21.setCell ⟨gb131, 0, none⟩ (.int .i64 ((rd_T67 l0_5 x14_1).f0.f0))).setCell ⟨gb131, 1, none⟩ (.int .i64 ((rd_T67 l0_5 x14_1).f0.f1))).setCell ⟨gb131, 2, none⟩ (.int .i64 ((rd_T67 l0_5 x14_1).f1.f0))).setCell ⟨gb131, 3, none⟩ (.int .i64 ((rd_T67 l0_5 x14_1).f1.f1))).heap[gb126]? = some (.cells #[.slice A0_0 l0_0.length c0_0, .slice A0_1 l0_1.length c0_1, .int .i64 a0_2, .int .i64 a0_3, .int .i64 a0_4, .slice (some ad130) l0_5.length c0_5] 30 (0, 0))) := ⟨zv BK126⟩
      have n1_ : Aside0 (((((w21.setCell ⟨gb131, 0, none⟩ (.int .i64 ((rd_T67 l0_5 x14_1).f0.f0))).setCell ⟨gb131, 1, none⟩ (.int .i64 ((rd_T67 l0_5 x14_1).f0.f1))).setCell ⟨gb131, 2, none⟩ (.int .i64 ((rd_T67 l0_5 x14_1).f1.f0))).setCell ⟨gb131, 3, none⟩ (.int .i64 ((rd_T67 l0_5 x14_1).f1.f1))).heap[gb127]? = some (.cells #[.int .i64 a1_0, .int .i64 a1_1] 32 (0, 0))) := ⟨zv BK127⟩
      have n2_ : Aside0 (((((w21.setCell ⟨gb131, 0, none⟩ (.int .i64 ((rd_T67 l0_5 x14_1).f0.f0))).setCell ⟨gb131, 1, none⟩ (.int .i64 ((rd_T67 l0_5 x14_1).f0.f1))).setCell ⟨gb131, 2, none⟩ (.int .i64 ((rd_T67 l0_5 x14_1).f1.f0))).setCell ⟨gb131, 3, none⟩ (.int .i64 ((rd_T67 l0_5 x14_1).f1.f1))).heap[gb128]? = some (.cells #[.int .i64 0, .int .i64 0] 27 (0, 0))) := ⟨zv BK128⟩
      have n3_ : Aside0 (((((w21.setCell ⟨gb131, 0, none⟩ (.int .i64 ((rd_T67 l0_5 x14_1).f0.f0))).setCell ⟨gb131, 1, none⟩ (.int .i64 ((rd_T67 l0_5 x14_1).f0.f1))).setCell ⟨gb131, 2, none⟩ (.int .i64 ((rd_T67 l0_5 x14_1).f1.f0))).setCell ⟨gb131, 3, none⟩ (.int .i64 ((rd_T67 l0_5 x14_1).f1.f1))).heap[gb129]? = some (.cells #[.int .i64 x130000_1, .int .i64 x130001_1] 27 (0, 0))) := ⟨zv BK129⟩
      have n4_ : Aside0 (((((w21.setCell ⟨gb131, 0, none⟩ (.int .i64 ((rd_T67 l0_5 x14_1).f0.f0))).setCell ⟨gb131, 1, none⟩ (.int .i64 ((rd_T67 l0_5 x14_1).f0.f1))).setCell ⟨gb131, 2, none⟩ (.int .i64 ((rd_T67 l0_5 x14_1).f1.f0))).setCell ⟨gb131, 3, none⟩ (.int .i64 ((rd_T67 l0_5 x14_1).f1.f1))).heap[gb131]? = some (.cells #[.int .i64 ((rd_T67 l0_5 x14_1).f0.f0), .int .i64 ((rd_T67 l0_5 x14_1).f0.f1), .int .i64 ((rd_T67 l0_5 x14_1).f1.f0), .int .i64 ((rd_T67 l0_5 x14_1).f1.f1)] 67 (0, 0))) := ⟨by refine zQ ?_; refine blk_put (cs := #[.int .i64 ((rd_T67 l0_5 x14_1).f0.f0), .int .i64 ((rd_T67 l0_5 x14_1).f0.f1), .int .i64 ((rd_T67 l0_5 x14_1).f1.f0), .int .i64 0]) ?_ 3 _ rfl; refine zQ ?_; refine blk_put (cs := #[.int .i64 ((rd_T67 l0_5 x14_1).f0.f0), .int .i64 ((rd_T67 l0_5 x14_1).f0.f1), .int .i64 0, .int .i64 0]) ?_ 2 _ rfl; refine zQ ?_; refine blk_put (cs := #[.int .i64 ((rd_T67 l0_5 x14_1).f0.f0), .int .i64 0, .int .i64 0, .int .i64 0]) ?_ 1 _ rfl; refine zQ ?_; refine blk_put (cs := #[.int .i64 0, .int .i64 0, .int .i64 0, .int .i64 0]) ?_ 0 _ rfl; (with_reducible repeat (first | refine blk_drewN ?_ _ | refine blk_drew ?_ | refine blk_alloc ?_ _)); exact BK131.out⟩
      have n5_ : Aside0 (Below w.heap.size w ((((w21.setCell ⟨gb131, 0, none⟩ (.int .i64 ((rd_T67 l0_5 x14_1).f0.f0))).setCell ⟨gb131, 1, none⟩ (.int .i64 ((rd_T67 l0_5 x14_1).f0.f1))).setCell ⟨gb131, 2, none⟩ (.int .i64 ((rd_T67 l0_5 x14_1).f1.f0))).setCell ⟨gb131, 3, none⟩ (.int .i64 ((rd_T67 l0_5 x14_1).f1.f1)))) := ⟨zw HB⟩
      (try clear BK126)
      (try clear BK127)
      (try clear BK128)
      (try clear BK129)
      (try clear BK131)
      (try clear HB)
      generalize ((((w21.setCell ⟨gb131, 0, none⟩ (.int .i64 ((rd_T67 l0_5 x14_1).f0.f0))).setCell ⟨gb131, 1, none⟩ (.int .i64 ((rd_T67 l0_5 x14_1).f0.f1))).setCell ⟨gb131, 2, none⟩ (.int .i64 ((rd_T67 l0_5 x14_1).f1.f0))).setCell ⟨gb131, 3, none⟩ (.int .i64 ((rd_T67 l0_5 x14_1).f1.f1))) = w27 at n0_ n1_ n2_ n3_ n4_ n5_ ⊢
      have BK126 := n0_
      have BK127 := n1_
      have BK128 := n2_
      have BK129 := n3_
      have BK131 := n4_
      have HB := n5_
      clear n0_ n1_ n2_ n3_ n4_ n5_
      have n0_ := Aside0.mk (blk_drew BK126.out)
      have n1_ := Aside0.mk (blk_drew BK127.out)
      have n2_ := Aside0.mk (blk_drew BK128.out)
      have n3_ := Aside0.mk (blk_drew BK129.out)
      have n4_ := Aside0.mk (blk_drew BK131.out)
      have n5_ := Aside0.mk (below_drew1 HB.out)
      clear BK126; clear BK127; clear BK128; clear BK129; clear BK131; clear HB
      have BK126 := n0_
      have BK127 := n1_
      have BK128 := n2_
      have BK129 := n3_
      have BK131 := n4_
      have HB := n5_
      clear n0_ n1_ n2_ n3_ n4_ n5_
      refine start_ (n := 8) (S := fun w' => w'.cell? ⟨gb126, 0, none⟩ = some (.slice A0_0 l0_0.length c0_0) ∧ w'.cell? ⟨gb126, 1, none⟩ = some (.slice A0_1 l0_1.length c0_1) ∧ w'.cell? ⟨gb126, 2, none⟩ = some (.int .i64 a0_2) ∧ w'.cell? ⟨gb126, 3, none⟩ = some (.int .i64 a0_3) ∧ w'.cell? ⟨gb126, 4, none⟩ = some (.int .i64 a0_4) ∧ w'.cell? ⟨gb126, 5, none⟩ = some (.slice (some ad130) l0_5.length c0_5) ∧ w'.cell? ⟨gb127, 0, none⟩ = some (.int .i64 a1_0) ∧ w'.cell? ⟨gb127, 1, none⟩ = some (.int .i64 a1_1) ∧ w'.cell? ⟨gb131, 0, none⟩ = some (.int .i64 ((rd_T67 l0_5 x14_1).f0.f0)) ∧ w'.cell? ⟨gb131, 1, none⟩ = some (.int .i64 ((rd_T67 l0_5 x14_1).f0.f1)) ∧ w'.cell? ⟨gb131, 2, none⟩ = some (.int .i64 ((rd_T67 l0_5 x14_1).f1.f0)) ∧ w'.cell? ⟨gb131, 3, none⟩ = some (.int .i64 ((rd_T67 l0_5 x14_1).f1.f1))) (ds := []) #[Z0, Z0, Z0, Z0, Z0, Z0, Z0, Z0] (by kernel_rfl) rfl rfl ⟨(blk_cell BK126.out 0).trans rfl, (blk_cell BK126.out 1).trans rfl, (blk_cell BK126.out 2).trans rfl, (blk_cell BK126.out 3).trans rfl, (blk_cell BK126.out 4).trans rfl, (blk_cell BK126.out 5).trans rfl, (blk_cell BK127.out 0).trans rfl, (blk_cell BK127.out 1).trans rfl, (blk_cell BK131.out 0).trans rfl, (blk_cell BK131.out 1).trans rfl, (blk_cell BK131.out 2).trans rfl, (blk_cell BK131.out 3).trans rfl⟩ (fun hHeld => ?_); refine with_tabW wear_bounds.tab5 wear_bounds.bits5 (fun HT_ HW_ => ?_)
      generalize w27.drew = w28 at BK126 BK127 BK128 BK129 BK131 HB hHeld ⊢
      refine zp 0 (some 18) #[Z1, Z0, Z0, Z0, Z0, Z0, Z0, Z0] rfl rfl (any_of HT_.out (by kernel_rfl)) ?_
      refine zp 3 (some 21) #[Z1, Z0, Z0, Z1, Z0, Z0, Z0, Z0] rfl rfl (any_of HT_.out (by kernel_rfl)) ?_
      refine take_ (i := 1) (N := some 19) (v := ?_) (a' := ?_) #[Z1, Z1, Z0, Z1, Z0, Z0, Z0, Z0] rfl rfl (take_ofW HT_.out HW_.out (by kernel_rfl)) (fun _ _ _ h => h) (Or.inl ⟨by rfl, ?_⟩) hHeld ?_ ?_
      rotate_left; · rintro w' ⟨s0, s1, s2, s3, s4, s5, s6, s7, s8, s9, s10, s11⟩; go_simp; with_reducible rfl
      rotate_left; · simp only [Act.put, List.setIfInBounds_toArray, List.set_cons_zero, List.set_cons_succ, i64_w, i32_w]; rfl
      refine take_ (i := 2) (N := some 20) (v := ?_) (a' := ?_) #[Z1, Z1, Z1, Z1, Z0, Z0, Z0, Z0] rfl rfl (take_ofW HT_.out HW_.out (by kernel_rfl)) (fun _ _ _ h => h) (Or.inl ⟨by rfl, ?_⟩) hHeld ?_ ?_
      rotate_left; · rintro w' ⟨s0, s1, s2, s3, s4, s5, s6, s7, s8, s9, s10, s11⟩; go_simp; with_reducible rfl
      rotate_left; · simp only [Act.put, List.setIfInBounds_toArray, List.set_cons_zero, List.set_cons_succ, i64_w, i32_w]; rfl
      refine take_ (i := 4) (N := some 22) (v := ?_) (a' := ?_) #[Z1, Z1, Z1, Z1, Z1, Z0, Z0, Z0] rfl rfl (take_ofW HT_.out HW_.out (by kernel_rfl)) (fun _ _ _ h => h) (Or.inl ⟨by rfl, ?_⟩) hHeld ?_ ?_
      rotate_left; · rintro w' ⟨s0, s1, s2, s3, s4, s5, s6, s7, s8, s9, s10, s11⟩; go_simp; with_reducible rfl
      rotate_left; · simp only [Act.put, List.setIfInBounds_toArray, List.set_cons_zero, List.set_cons_succ, i64_w, i32_w]; rfl
      refine one_ (i := 5) (N := some 23) #[Z1, Z1, Z1, Z1, Z1, Z1, Z0, Z0] rfl rfl (one_of HT_.out (by kernel_rfl)) (by decide) (fun K hK => ?_)
      refine goes_ Try.func55 (by kernel_rfl) rfl #[.agg #[.int .i64 a1_0, .int .i64 a1_1], .agg #[.int .i64 ((rd_T67 l0_5 x14_1).f0.f0), .int .i64 ((rd_T67 l0_5 x14_1).f0.f1)]] (by rfl) rfl rfl za ?_
      with_reducible refine (wear_far.calls a1_0 a1_1 ((rd_T67 l0_5 x14_1).f0.f0) ((rd_T67 l0_5 x14_1).f0.f1) t132 _ A18.out).mono ?_
      rintro e w29 ⟨rfl, hb⟩
      refine ⟨_, rfl, ?_⟩
      have n0_ := zD BK126 hb
      have n1_ := zD BK127 hb
      have n2_ := zD BK128 hb
      have n3_ := zD BK129 hb
      have n4_ := zD BK131 hb
      have n5_ := zY HB hb
      clear BK126; clear BK127; clear BK128; clear BK129; clear BK131; clear HB
      have BK126 := n0_
      have BK127 := n1_
      have BK128 := n2_
      have BK129 := n3_
      have BK131 := n4_
      have HB := n5_
      clear n0_ n1_ n2_ n3_ n4_ n5_
      (try clear hb)
      (try clear hb2)
      (try clear hk)
      (try clear hi)
      refine hK.out _ _ ⟨(blk_cell BK126.out 0).trans rfl, (blk_cell BK126.out 1).trans rfl, (blk_cell BK126.out 2).trans rfl, (blk_cell BK126.out 3).trans rfl, (blk_cell BK126.out 4).trans rfl, (blk_cell BK126.out 5).trans rfl, (blk_cell BK127.out 0).trans rfl, (blk_cell BK127.out 1).trans rfl, (blk_cell BK131.out 0).trans rfl, (blk_cell BK131.out 1).trans rfl, (blk_cell BK131.out 2).trans rfl, (blk_cell BK131.out 3).trans rfl⟩ (fun hHeld => ?_)
      clear hK K
      refine norm_ (a' := ?_) ?_ ?_
      rotate_left
      ·show Act.put _ (some 23) _ = _
       simp only [Act.put, List.setIfInBounds_toArray, List.set_cons_zero, List.set_cons_succ, i64_w, i32_w]
       rfl
      refine zp 6 (some 24) #[Z1, Z1, Z1, Z1, Z1, Z1, Z1, Z0] rfl rfl (any_of HT_.out (by kernel_rfl)) ?_
      refine zp 7 (some 8) #[Z1, Z1, Z1, Z1, Z1, Z1, Z1, Z1] rfl rfl (any_of HT_.out (by kernel_rfl)) ?_
      refine done_ (done_of HT_.out (by kernel_rfl)) ?_
      have hnb30 := NB129_126.out
      have hnc30 := NB126_129.out
      have hnb31 := NB129_127.out
      have hnc31 := NB127_129.out
      have hnb32 := NB129_128.out
      have hnc32 := NB128_129.out
      obtain ⟨hcz33_0, hcz33_1, hfz33_0, hfz33_1⟩ := zk2 BK129
      obtain ⟨hcz34_0, hcz34_1, hcz34_2, hcz34_3, hfz34_0, hfz34_1, hfz34_2, hfz34_3⟩ := zk4 BK131
      try go_wp2
      go_roundg k1
      case measure => have := HK1.out; omega
      case rel => exact ⟨(wrap64 (x14_1 + 1)), (ji19), (ji20), zq, H', ⟨by have := HK1.out; omega⟩, ⟨zv BK126⟩, ⟨zv BK127⟩, ⟨zv BK128⟩, ⟨by refine zQ ?_; refine blk_put (cs := #[.int .i64 ji19, .int .i64 x130001_1]) ?_ 1 _ rfl; refine zQ ?_; refine blk_put (cs := #[.int .i64 x130000_1, .int .i64 x130001_1]) ?_ 0 _ rfl; (with_reducible repeat (first | refine blk_drewN ?_ _ | refine blk_drew ?_ | refine blk_alloc ?_ _)); exact BK129.out⟩, ⟨zw HB⟩⟩
     rw [if_neg c17] at H
     exact absurd H (by simp)
    rw [if_neg c16] at H
    exact absurd H (by simp)
   rw [if_neg c15] at H
   have c15b0 : decide (x14_1 < (l0_5.length : Int)) = false := decide_eq_false c15
   clear c15
   simp only [Option.some.injEq, Prod.mk.injEq] at H
   obtain ⟨rfl, rfl⟩ := H
   have hnb35 := NB129_126.out
   have hnc35 := NB126_129.out
   have hnb36 := NB129_127.out
   have hnc36 := NB127_129.out
   have hnb37 := NB129_128.out
   have hnc37 := NB128_129.out
   obtain ⟨hcz38_0, hcz38_1, hfz38_0, hfz38_1⟩ := zk2 BK129
   have hnb39 := NB128_126.out
   have hnc39 := NB126_128.out
   have hnb40 := NB128_127.out
   have hnc40 := NB127_128.out
   obtain ⟨hcz41_0, hcz41_1, hfz41_0, hfz41_1⟩ := zk2 BK128
   go_wp2
   refine bodyPost_ret (results_cell_row rfl _ _ gb128 27 #[.int .i64 x130000_1, .int .i64 x130001_1] (0, 0) _ rfl (by refine zQ ?_; refine blk_put (cs := #[.int .i64 x130000_1, .int .i64 0]) ?_ 1 _ rfl; refine zQ ?_; refine blk_put (cs := #[.int .i64 0, .int .i64 0]) ?_ 0 _ rfl; (with_reducible repeat (first | refine blk_drewN ?_ _ | refine blk_drew ?_ | refine blk_alloc ?_ _)); exact BK128.out) Try.underlying27 rfl (by kernel_rfl)) rfl ?_
   exact ⟨ze, zw HB⟩
end Go.Proofs.Ytcfpclehogdmbaa.Q
end
section
namespace Go.Proofs.Ytcfpclehogdmbaa.Q
open Go.RowKit Go.Proofs.YtcfpclehogdmbaaW.PrintWords Go.Proofs.YtcfpclehogdmbaaW.PrintLast Go.Proofs.YtcfpclehogdmbaaW.PrintMore
attribute [local go_sem] max2_int min2_int max_two min_two max_three min_three max_four min_four   -- for this text's walks alone
set_option linter.unusedVariables false
set_option linter.unusedSimpArgs false
def wear_spans.f (a0_0 : Int) (a0_1 : Int) (a1 : Int) : Option (Bool) := if 0 ≤ a0_0 then (if a0_0 ≤ a0_1 then (some (decide (a0_1 ≤ a1))) else (some false)) else (some false)
set_option maxHeartbeats 8000000 in
set_option maxRecDepth 100000 in
theorem wear_spans.calls (a0_0 : Int) (a0_1 : Int) (a1 : Int) (r : Bool) (w : World) (h : wear_spans.f a0_0 a0_1 a1 = some r) :
  Calls Try.prog 37 #[.agg #[.int .i64 a0_0, .int .i64 a0_1], .int .i64 a1] w fun e w' => e = .returned (.bool r) ∧ Below w.heap.size w w' := by
 have hu27 := Try.underlying27
 have HB := Aside0.mk (Below.refl w.heap.size w)
 have H : (if 0 ≤ a0_0 then (if a0_0 ≤ a0_1 then (some (decide (a0_1 ≤ a1))) else (some false)) else (some false)) = some r := h
 clear h
 by_cases c3 : 0 ≤ a0_0
 ·rw [if_pos c3] at H
  have c3b0 : decide (0 ≤ a0_0) = true := decide_eq_true c3
  clear c3
  by_cases c4 : a0_0 ≤ a0_1
  ·rw [if_pos c4] at H
   have c4b0 : decide (a0_0 ≤ a0_1) = true := decide_eq_true c4
   clear c4
   obtain rfl := Option.some.inj H
   go_enter Try.func37, Try.ntmps37
   go_wp2_with (first | ((with_reducible refine gate_dst (N := 2) rfl ?_); refine zx 2 #[.int .i64 a0_0, .int .i64 a0_1] 27 ?_; intro gb137 hg w5 hbox hb; have n0_ := zY HB hb; have n1_ := Aside0.mk (hbox); have n2_ := zS hg HB; have n3_ := zS hg HB; clear HB; have HB := n0_; have BK137 := n1_; have GW137 := n2_; have GE137 := n3_; clear n0_ n1_ n2_ n3_; clear hb hbox hg; obtain ⟨hcz6_0, hcz6_1, hfz6_0, hfz6_1⟩ := zk2 BK137))
   go_ret
   exact ⟨ze, zw HB⟩
  rw [if_neg c4] at H
  have c4b0 : decide (a0_0 ≤ a0_1) = false := decide_eq_false c4
  clear c4
  obtain rfl := Option.some.inj H
  go_enter Try.func37, Try.ntmps37
  go_wp2_with (first | ((with_reducible refine gate_dst (N := 2) rfl ?_); refine zx 2 #[.int .i64 a0_0, .int .i64 a0_1] 27 ?_; intro gb137 hg w7 hbox hb; have n0_ := zY HB hb; have n1_ := Aside0.mk (hbox); have n2_ := zS hg HB; have n3_ := zS hg HB; clear HB; have HB := n0_; have BK137 := n1_; have GW137 := n2_; have GE137 := n3_; clear n0_ n1_ n2_ n3_; clear hb hbox hg; obtain ⟨hcz8_0, hcz8_1, hfz8_0, hfz8_1⟩ := zk2 BK137))
  go_ret
  exact ⟨ze, zw HB⟩
 rw [if_neg c3] at H
 have c3b0 : decide (0 ≤ a0_0) = false := decide_eq_false c3
 clear c3
 obtain rfl := Option.some.inj H
 go_enter Try.func37, Try.ntmps37
 go_wp2_with (first | ((with_reducible refine gate_dst (N := 2) rfl ?_); refine zx 2 #[.int .i64 a0_0, .int .i64 a0_1] 27 ?_; intro gb137 hg w9 hbox hb; have n0_ := zY HB hb; have n1_ := Aside0.mk (hbox); have n2_ := zS hg HB; have n3_ := zS hg HB; clear HB; have HB := n0_; have BK137 := n1_; have GW137 := n2_; have GE137 := n3_; clear n0_ n1_ n2_ n3_; clear hb hbox hg; obtain ⟨hcz10_0, hcz10_1, hfz10_0, hfz10_1⟩ := zk2 BK137))
 go_ret
 exact ⟨ze, zw HB⟩
end Go.Proofs.Ytcfpclehogdmbaa.Q
end
section
namespace Go.Proofs.Ytcfpclehogdmbaa.Q
open Go.RowKit Go.Proofs.YtcfpclehogdmbaaW.PrintWords Go.Proofs.YtcfpclehogdmbaaW.PrintLast Go.Proofs.YtcfpclehogdmbaaW.PrintMore
attribute [local go_sem] max2_int min2_int max_two min_two max_three min_three max_four min_four   -- for this text's walks alone
set_option linter.unusedVariables false
set_option linter.unusedSimpArgs false
mutual
def wear_Check.j0 : Nat → Bool → List (S32) → List (S55) → Int → Int → Int → List (S67) → Option (Int)
 | 0, _, _, _, _, _, _, _ => none
 | k + 1, x29, x139000, x139001, x139002, x139003, x139004, x139005 => if x29 = true then (some 1) else (if (x139005.length : Int) > 40 then (some 3) else (wear_Check.l0 k x139005 (x139005.length : Int) 0 x139000 x139001 x139002 x139003 x139004 x139005))
def wear_Check.l0 : Nat → List (S67) → Int → Int → List (S32) → List (S55) → Int → Int → Int → List (S67) → Option (Int)
 | 0, _, _, _, _, _, _, _, _, _ => none
 | k + 1, x46, x47, x48, x139000, x139001, x139002, x139003, x139004, x139005 => if x48 < x47 then (if 0 ≤ x48 then (if x48 < (x46.length : Int) then ((wear_has.f x139000 x139001 ((rd_T67 x46 x48).f0.f0) ((rd_T67 x46 x48).f0.f1)).bind fun t145 => (if t145 = true then ((wear_spans.f ((rd_T67 x46 x48).f1.f0) ((rd_T67 x46 x48).f1.f1) 2000).bind fun t146 => (if t146 = true then (wear_Check.l0 k x46 x47 (wrap64 (x48 + 1)) x139000 x139001 x139002 x139003 x139004 x139005) else (some 1))) else (some 7))) else (none)) else (none)) else (wear_Check.l1 k x139005 (x139005.length : Int) 0 x139000 x139001 x139002 x139003 x139004 x139005)
def wear_Check.l1 : Nat → List (S67) → Int → Int → List (S32) → List (S55) → Int → Int → Int → List (S67) → Option (Int)
 | 0, _, _, _, _, _, _, _, _, _ => none
 | k + 1, x66, x67, x68, x139000, x139001, x139002, x139003, x139004, x139005 => if x68 < x67 then (if 0 ≤ x68 then (if x68 < (x66.length : Int) then (if x68 > 0 then (if 0 ≤ (wrap64 (x68 - 1)) then (if (wrap64 (x68 - 1)) < (x139005.length : Int) then ((wear_order.f k ((rd_T67 x139005 (wrap64 (x68 - 1))).f0.f0) ((rd_T67 x139005 (wrap64 (x68 - 1))).f0.f1) ((rd_T67 x66 x68).f0.f0) ((rd_T67 x66 x68).f0.f1)).bind fun t150 => (if t150 ≥ 0 then (some 8) else (wear_Check.l1 k x66 x67 (wrap64 (x68 + 1)) x139000 x139001 x139002 x139003 x139004 x139005))) else (none)) else (none)) else (wear_Check.l1 k x66 x67 (wrap64 (x68 + 1)) x139000 x139001 x139002 x139003 x139004 x139005)) else (none)) else (none)) else (wear_Check.l2 k x139005 (x139005.length : Int) 0 x139000 x139001 x139002 x139003 x139004 x139005)
def wear_Check.l2 : Nat → List (S67) → Int → Int → List (S32) → List (S55) → Int → Int → Int → List (S67) → Option (Int)
 | 0, _, _, _, _, _, _, _, _, _ => none
 | k + 1, x90, x91, x92, x139000, x139001, x139002, x139003, x139004, x139005 => if x92 < x91 then (if 0 ≤ x92 then (if x92 < (x90.length : Int) then ((wear_bounds.f k x139000 x139001 x139002 x139003 x139004 x139005 ((rd_T67 x90 x92).f0.f0) ((rd_T67 x90 x92).f0.f1)).bind fun bt153 => (if bt153.1 > bt153.2 then (some 10) else (wear_Check.l2 k x90 x91 (wrap64 (x92 + 1)) x139000 x139001 x139002 x139003 x139004 x139005))) else (none)) else (none)) else (some 0)
end
def wear_Check.f (k : Nat) (l0_0 : List (S32)) (l0_1 : List (S55)) (a0_2 : Int) (a0_3 : Int) (a0_4 : Int) (l0_5 : List (S67)) : Option (Int) := (wear_checkOutline.f l0_0).bind fun t139 => (if t139 = 0 then (if (l0_1.length : Int) > 6 then (some 3) else ((api_Box_wear_Check_1.f l0_1).bind fun t140 => (if t140 = true then (some 1) else ((wear_in.f a0_2 0 1000).bind fun t141 => (if t141 = true then ((wear_spans.f a0_3 a0_4 2000).bind fun t142 => (wear_Check.j0 k (!t142) l0_0 l0_1 a0_2 a0_3 a0_4 l0_5)) else (wear_Check.j0 k true l0_0 l0_1 a0_2 a0_3 a0_4 l0_5)))))) else (some t139))
theorem wear_Check.mono_l : ∀ k, (∀ y0 y1 y2 y3 y4 y5 y6, LeO (wear_Check.j0 k y0 y1 y2 y3 y4 y5 y6) (wear_Check.j0 (k + 1) y0 y1 y2 y3 y4 y5 y6)) ∧ (∀ y0 y1 y2 y3 y4 y5 y6 y7 y8, LeO (wear_Check.l0 k y0 y1 y2 y3 y4 y5 y6 y7 y8) (wear_Check.l0 (k + 1) y0 y1 y2 y3 y4 y5 y6 y7 y8)) ∧ (∀ y0 y1 y2 y3 y4 y5 y6 y7 y8, LeO (wear_Check.l1 k y0 y1 y2 y3 y4 y5 y6 y7 y8) (wear_Check.l1 (k + 1) y0 y1 y2 y3 y4 y5 y6 y7 y8)) ∧ (∀ y0 y1 y2 y3 y4 y5 y6 y7 y8, LeO (wear_Check.l2 k y0 y1 y2 y3 y4 y5 y6 y7 y8) (wear_Check.l2 (k + 1) y0 y1 y2 y3 y4 y5 y6 y7 y8))
 | 0 => ⟨fun _ _ _ _ _ _ _ r h => by simp [wear_Check.j0] at h, fun _ _ _ _ _ _ _ _ _ r h => by simp [wear_Check.l0] at h, fun _ _ _ _ _ _ _ _ _ r h => by simp [wear_Check.l1] at h, fun _ _ _ _ _ _ _ _ _ r h => by simp [wear_Check.l2] at h⟩
 | k + 1 => by
  obtain ⟨ih0, ih1, ih2, ih3⟩ := wear_Check.mono_l k
  refine ⟨?_, ?_, ?_, ?_⟩
  ·intro y0 y1 y2 y3 y4 y5 y6
   unfold wear_Check.j0
   repeat' first
   | (with_reducible exact ih0 _ _ _ _ _ _ _)
   | (with_reducible exact ih1 _ _ _ _ _ _ _ _ _)
   | (with_reducible exact ih2 _ _ _ _ _ _ _ _ _)
   | (with_reducible exact ih3 _ _ _ _ _ _ _ _ _)
   | (with_reducible exact wear_bounds.mono _ _ _ _ _ _ _ _ _)
   | (with_reducible exact wear_order.mono _ _ _ _ _)
   | (with_reducible exact LeO.refl _)
   | (with_reducible exact LeO.none _)
   | (with_reducible refine LeO.ite ?_ ?_)
   | (with_reducible refine LeO.bind ?_ (fun _ => ?_))
   | exact ih0 _ _ _ _ _ _ _
   | exact ih1 _ _ _ _ _ _ _ _ _
   | exact ih2 _ _ _ _ _ _ _ _ _
   | exact ih3 _ _ _ _ _ _ _ _ _
   | exact wear_bounds.mono _ _ _ _ _ _ _ _ _
   | exact wear_order.mono _ _ _ _ _
   | exact LeO.none _
   | refine LeO.ite ?_ ?_
   | refine LeO.bind ?_ (fun _ => ?_)
  ·intro y0 y1 y2 y3 y4 y5 y6 y7 y8
   unfold wear_Check.l0
   repeat' first
   | (with_reducible exact ih0 _ _ _ _ _ _ _)
   | (with_reducible exact ih1 _ _ _ _ _ _ _ _ _)
   | (with_reducible exact ih2 _ _ _ _ _ _ _ _ _)
   | (with_reducible exact ih3 _ _ _ _ _ _ _ _ _)
   | (with_reducible exact wear_bounds.mono _ _ _ _ _ _ _ _ _)
   | (with_reducible exact wear_order.mono _ _ _ _ _)
   | (with_reducible exact LeO.refl _)
   | (with_reducible exact LeO.none _)
   | (with_reducible refine LeO.ite ?_ ?_)
   | (with_reducible refine LeO.bind ?_ (fun _ => ?_))
   | exact ih0 _ _ _ _ _ _ _
   | exact ih1 _ _ _ _ _ _ _ _ _
   | exact ih2 _ _ _ _ _ _ _ _ _
   | exact ih3 _ _ _ _ _ _ _ _ _
   | exact wear_bounds.mono _ _ _ _ _ _ _ _ _
   | exact wear_order.mono _ _ _ _ _
   | exact LeO.none _
   | refine LeO.ite ?_ ?_
   | refine LeO.bind ?_ (fun _ => ?_)
  ·intro y0 y1 y2 y3 y4 y5 y6 y7 y8
   unfold wear_Check.l1
   repeat' first
   | (with_reducible exact ih0 _ _ _ _ _ _ _)
   | (with_reducible exact ih1 _ _ _ _ _ _ _ _ _)
   | (with_reducible exact ih2 _ _ _ _ _ _ _ _ _)
   | (with_reducible exact ih3 _ _ _ _ _ _ _ _ _)
   | (with_reducible exact wear_bounds.mono _ _ _ _ _ _ _ _ _)
   | (with_reducible exact wear_order.mono _ _ _ _ _)
   | (with_reducible exact LeO.refl _)
   | (with_reducible exact LeO.none _)
   | (with_reducible refine LeO.ite ?_ ?_)
   | (with_reducible refine LeO.bind ?_ (fun _ => ?_))
   | exact ih0 _ _ _ _ _ _ _
   | exact ih1 _ _ _ _ _ _ _ _ _
   | exact ih2 _ _ _ _ _ _ _ _ _
   | exact ih3 _ _ _ _ _ _ _ _ _
   | exact wear_bounds.mono _ _ _ _ _ _ _ _ _
   | exact wear_order.mono _ _ _ _ _
   | exact LeO.none _
   | refine LeO.ite ?_ ?_
   | refine LeO.bind ?_ (fun _ => ?_)
  intro y0 y1 y2 y3 y4 y5 y6 y7 y8
  unfold wear_Check.l2
  repeat' first
  | (with_reducible exact ih0 _ _ _ _ _ _ _)
  | (with_reducible exact ih1 _ _ _ _ _ _ _ _ _)
  | (with_reducible exact ih2 _ _ _ _ _ _ _ _ _)
  | (with_reducible exact ih3 _ _ _ _ _ _ _ _ _)
  | (with_reducible exact wear_bounds.mono _ _ _ _ _ _ _ _ _)
  | (with_reducible exact wear_order.mono _ _ _ _ _)
  | (with_reducible exact LeO.refl _)
  | (with_reducible exact LeO.none _)
  | (with_reducible refine LeO.ite ?_ ?_)
  | (with_reducible refine LeO.bind ?_ (fun _ => ?_))
  | exact ih0 _ _ _ _ _ _ _
  | exact ih1 _ _ _ _ _ _ _ _ _
  | exact ih2 _ _ _ _ _ _ _ _ _
  | exact ih3 _ _ _ _ _ _ _ _ _
  | exact wear_bounds.mono _ _ _ _ _ _ _ _ _
  | exact wear_order.mono _ _ _ _ _
  | exact LeO.none _
  | refine LeO.ite ?_ ?_
  | refine LeO.bind ?_ (fun _ => ?_)
theorem wear_Check.mono : ∀ a0 a1 a2 a3 a4 a5 k, LeO (wear_Check.f k a0 a1 a2 a3 a4 a5) (wear_Check.f (k + 1) a0 a1 a2 a3 a4 a5) := by
 intro a0 a1 a2 a3 a4 a5 k
 obtain ⟨ih0, ih1, ih2, ih3⟩ := wear_Check.mono_l k
 unfold wear_Check.f
 repeat' first
   | (with_reducible exact ih0 _ _ _ _ _ _ _)
   | (with_reducible exact ih1 _ _ _ _ _ _ _ _ _)
   | (with_reducible exact ih2 _ _ _ _ _ _ _ _ _)
   | (with_reducible exact ih3 _ _ _ _ _ _ _ _ _)
   | (with_reducible exact wear_bounds.mono _ _ _ _ _ _ _ _ _)
   | (with_reducible exact wear_order.mono _ _ _ _ _)
   | (with_reducible exact LeO.refl _)
   | (with_reducible exact LeO.none _)
   | (with_reducible refine LeO.ite ?_ ?_)
   | (with_reducible refine LeO.bind ?_ (fun _ => ?_))
   | exact ih0 _ _ _ _ _ _ _
   | exact ih1 _ _ _ _ _ _ _ _ _
   | exact ih2 _ _ _ _ _ _ _ _ _
   | exact ih3 _ _ _ _ _ _ _ _ _
   | exact wear_bounds.mono _ _ _ _ _ _ _ _ _
   | exact wear_order.mono _ _ _ _ _
   | exact LeO.none _
   | refine LeO.ite ?_ ?_
   | refine LeO.bind ?_ (fun _ => ?_)
def wear_Check.T23 : Bool × List (List Nat × List Nat) := (true, [([], []), ([0], [0]), ([1], [1]), ([2], [2]), ([3, 2], [2, 3]), ([2], [2]), ([5, 2], [2, 5]), ([4, 6, 2], [2, 4, 6]), ([7, 2], [2, 7]), ([8, 2], [2, 8]), ([2], [2]), ([10, 2], [2, 10]), ([9, 11, 2, 2], [2, 9, 11]), ([12, 2], [2, 12]), ([2, 13], [2, 13])])
def wear_Check.B23 : List Nat := [0, 1, 3, 7, 15, 7, 39, 127, 255, 511, 7, 1031, 4095, 8191, 16383]
theorem wear_Check.tab23 : rtab .any (opsOf Try.f15 23) = wear_Check.T23 := by kernel_rfl
theorem wear_Check.bits23 : waitsOk wear_Check.T23.2 wear_Check.B23 = true := by kernel_rfl
set_option maxHeartbeats 8000000 in
set_option maxRecDepth 100000 in
theorem wear_Check.calls (k : Nat) (A0_0 : Option Addr) (c0_0 : Nat) (l0_0 : List (S32)) (A0_1 : Option Addr) (c0_1 : Nat) (l0_1 : List (S55)) (a0_2 : Int) (a0_3 : Int) (a0_4 : Int) (A0_5 : Option Addr) (c0_5 : Nat) (l0_5 : List (S67)) (r : Int) (w : World) (hr0_0 : Kd.C k32 w A0_0 l0_0.length l0_0) (hc0_0 : l0_0.length ≤ c0_0) (hr0_1 : Kd.C k55 w A0_1 l0_1.length l0_1) (hc0_1 : l0_1.length ≤ c0_1) (hr0_5 : Kd.C k67 w A0_5 l0_5.length l0_5) (hc0_5 : l0_5.length ≤ c0_5) (h : wear_Check.f k l0_0 l0_1 a0_2 a0_3 a0_4 l0_5 = some r) :
  Calls Try.prog 15 #[.agg #[.slice A0_0 l0_0.length c0_0, .slice A0_1 l0_1.length c0_1, .int .i64 a0_2, .int .i64 a0_3, .int .i64 a0_4, .slice A0_5 l0_5.length c0_5]] w fun e w' => e = .returned (.int .i64 r) ∧ Below w.heap.size w w' := by
 have hu30 := Try.underlying30
 have hu27 := Try.underlying27
 have hu67 := Try.underlying67
 have hu25 := Try.underlying25
 have hu32 := Try.underlying32
 have HR0_0 := Aside0.mk hr0_0
 have HC0_0 := Aside0.mk hc0_0
 clear hr0_0 hc0_0
 have HR0_1 := Aside0.mk hr0_1
 have HC0_1 := Aside0.mk hc0_1
 clear hr0_1 hc0_1
 have HR0_5 := Aside0.mk hr0_5
 have HC0_5 := Aside0.mk hc0_5
 clear hr0_5 hc0_5
 have HB := Aside0.mk (Below.refl w.heap.size w)
 have H : ((wear_checkOutline.f l0_0).bind fun t139 => (if t139 = 0 then (if (l0_1.length : Int) > 6 then (some 3) else ((api_Box_wear_Check_1.f l0_1).bind fun t140 => (if t140 = true then (some 1) else ((wear_in.f a0_2 0 1000).bind fun t141 => (if t141 = true then ((wear_spans.f a0_3 a0_4 2000).bind fun t142 => (wear_Check.j0 k (!t142) l0_0 l0_1 a0_2 a0_3 a0_4 l0_5)) else (wear_Check.j0 k true l0_0 l0_1 a0_2 a0_3 a0_4 l0_5)))))) else (some t139))) = some r := h
 clear h
 replace H := Option.bind_eq_some_iff.mp H
 obtain ⟨t139, A20, H⟩ := H
 replace H : (if t139 = 0 then (if (l0_1.length : Int) > 6 then (some 3) else ((api_Box_wear_Check_1.f l0_1).bind fun t140 => (if t140 = true then (some 1) else ((wear_in.f a0_2 0 1000).bind fun t141 => (if t141 = true then ((wear_spans.f a0_3 a0_4 2000).bind fun t142 => (wear_Check.j0 k (!t142) l0_0 l0_1 a0_2 a0_3 a0_4 l0_5)) else (wear_Check.j0 k true l0_0 l0_1 a0_2 a0_3 a0_4 l0_5)))))) else (some t139)) = some r := H
 have A2 := Aside0.mk A20
 clear A20
 by_cases c3 : t139 = 0
 ·rw [if_pos c3] at H
  have c3b0 : (t139 == 0) = true := beq_iff_eq.mpr c3
  have c3b1 : (t139 != 0) = false := bne_eq_false_iff_eq.mpr c3
  clear c3
  by_cases c4 : (l0_1.length : Int) > 6
  ·rw [if_pos c4] at H
   have c4b0 : decide (6 < (l0_1.length : Int)) = true := decide_eq_true c4
   have c4b1 : decide (6 < l0_1.length) = true := decide_eq_true (by omega)
   clear c4
   obtain rfl := Option.some.inj H
   go_enter Try.func15, Try.ntmps15
   go_wp2_with (first | ((with_reducible refine gate_dst (N := 1) rfl ?_); refine zx 1 #[.slice A0_0 l0_0.length c0_0, .slice A0_1 l0_1.length c0_1, .int .i64 a0_2, .int .i64 a0_3, .int .i64 a0_4, .slice A0_5 l0_5.length c0_5] 30 ?_; intro gb138 hg w5 hbox hb; have n0_ := zY HB hb; have n1_ := Aside0.mk (hbox); have n2_ := zS hg HB; have n3_ := zS hg HB; clear HB; have HB := n0_; have BK138 := n1_; have GW138 := n2_; have GE138 := n3_; clear n0_ n1_ n2_ n3_; clear hb hbox hg; obtain ⟨hcz6_0, hcz6_1, hcz6_2, hcz6_3, hcz6_4, hcz6_5, hfz6_0, hfz6_1, hfz6_2, hfz6_3, hfz6_4, hfz6_5⟩ := zk6 BK138) | ((with_reducible refine gate_callee (f := 34) rfl ?_); refine goesL_ (some 14) rfl rfl Try.func34 (by kernel_rfl) rfl #[.slice A0_0 l0_0.length c0_0] rfl za ?_; (with_reducible refine (wear_checkOutline.calls _ _ l0_0 t139 _ ?side1 ?side2 A2.out).mono ?_); (case side1 => exact zl HR0_0 HB); (case side2 => exact HC0_0.out); rintro e w7 ⟨rfl, hb⟩; refine ⟨_, rfl, ?_⟩; have n0_ := zD BK138 hb; have n1_ := zY HB hb; clear BK138; clear HB; have BK138 := n0_; have HB := n1_; clear n0_ n1_; (try clear hb); (try clear hb2); (try clear hk); (try clear hi); obtain ⟨hcz8_0, hcz8_1, hcz8_2, hcz8_3, hcz8_4, hcz8_5, hfz8_0, hfz8_1, hfz8_2, hfz8_3, hfz8_4, hfz8_5⟩ := zk6 BK138))
   go_ret
   exact ⟨ze, zw HB⟩
  rw [if_neg c4] at H
  have c4b0 : decide (6 < (l0_1.length : Int)) = false := decide_eq_false c4
  have c4b1 : decide (6 < l0_1.length) = false := decide_eq_false (by omega)
  clear c4
  replace H := Option.bind_eq_some_iff.mp H
  obtain ⟨t140, A90, H⟩ := H
  replace H : (if t140 = true then (some 1) else ((wear_in.f a0_2 0 1000).bind fun t141 => (if t141 = true then ((wear_spans.f a0_3 a0_4 2000).bind fun t142 => (wear_Check.j0 k (!t142) l0_0 l0_1 a0_2 a0_3 a0_4 l0_5)) else (wear_Check.j0 k true l0_0 l0_1 a0_2 a0_3 a0_4 l0_5)))) = some r := H
  have A9 := Aside0.mk A90
  clear A90
  by_cases c10 : t140 = true
  ·subst c10
   have H1 : (some 1) = some r := by rw [if_pos rfl] at H; exact H
   clear H
   have H := H1
   clear H1
   obtain rfl := Option.some.inj H
   go_enter Try.func15, Try.ntmps15
   go_wp2_with (first | ((with_reducible refine gate_dst (N := 1) rfl ?_); refine zx 1 #[.slice A0_0 l0_0.length c0_0, .slice A0_1 l0_1.length c0_1, .int .i64 a0_2, .int .i64 a0_3, .int .i64 a0_4, .slice A0_5 l0_5.length c0_5] 30 ?_; intro gb138 hg w11 hbox hb; have n0_ := zY HB hb; have n1_ := Aside0.mk (hbox); have n2_ := zS hg HB; have n3_ := zS hg HB; clear HB; have HB := n0_; have BK138 := n1_; have GW138 := n2_; have GE138 := n3_; clear n0_ n1_ n2_ n3_; clear hb hbox hg; obtain ⟨hcz12_0, hcz12_1, hcz12_2, hcz12_3, hcz12_4, hcz12_5, hfz12_0, hfz12_1, hfz12_2, hfz12_3, hfz12_4, hfz12_5⟩ := zk6 BK138) | ((with_reducible refine gate_callee (f := 34) rfl ?_); refine goesL_ (some 14) rfl rfl Try.func34 (by kernel_rfl) rfl #[.slice A0_0 l0_0.length c0_0] rfl za ?_; (with_reducible refine (wear_checkOutline.calls _ _ l0_0 t139 _ ?side1 ?side2 A2.out).mono ?_); (case side1 => exact zl HR0_0 HB); (case side2 => exact HC0_0.out); rintro e w13 ⟨rfl, hb⟩; refine ⟨_, rfl, ?_⟩; have n0_ := zD BK138 hb; have n1_ := zY HB hb; clear BK138; clear HB; have BK138 := n0_; have HB := n1_; clear n0_ n1_; (try clear hb); (try clear hb2); (try clear hk); (try clear hi); obtain ⟨hcz14_0, hcz14_1, hcz14_2, hcz14_3, hcz14_4, hcz14_5, hfz14_0, hfz14_1, hfz14_2, hfz14_3, hfz14_4, hfz14_5⟩ := zk6 BK138) | ((with_reducible refine gate_callee (f := 35) rfl ?_); refine goesL_ (some 28) rfl rfl Try.func35 (by kernel_rfl) rfl #[.slice A0_1 l0_1.length c0_1, .func (.func 36) #[] #[]] rfl za ?_; (with_reducible refine (api_Box_wear_Check_1.calls _ _ l0_1 true _ ?side1 ?side2 A9.out).mono ?_); (case side1 => exact zl HR0_1 HB); (case side2 => exact HC0_1.out); rintro e w15 ⟨rfl, hb⟩; refine ⟨_, rfl, ?_⟩; have n0_ := zD BK138 hb; have n1_ := zY HB hb; clear BK138; clear HB; have BK138 := n0_; have HB := n1_; clear n0_ n1_; (try clear hb); (try clear hb2); (try clear hk); (try clear hi)))
   go_ret
   exact ⟨ze, zw HB⟩
  replace c10 := Bool.eq_false_iff.mpr c10
  subst c10
  have H1 : ((wear_in.f a0_2 0 1000).bind fun t141 => (if t141 = true then ((wear_spans.f a0_3 a0_4 2000).bind fun t142 => (wear_Check.j0 k (!t142) l0_0 l0_1 a0_2 a0_3 a0_4 l0_5)) else (wear_Check.j0 k true l0_0 l0_1 a0_2 a0_3 a0_4 l0_5))) = some r := by rw [if_neg (show ¬ (false = true) by decide)] at H; exact H
  clear H
  have H := H1
  clear H1
  have HC16 := Aside0.mk H
  clear H
  go_enter Try.func15, Try.ntmps15
  go_upto_region 8 with (first | ((with_reducible refine gate_dst (N := 1) rfl ?_); refine zx 1 #[.slice A0_0 l0_0.length c0_0, .slice A0_1 l0_1.length c0_1, .int .i64 a0_2, .int .i64 a0_3, .int .i64 a0_4, .slice A0_5 l0_5.length c0_5] 30 ?_; intro gb138 hg w17 hbox hb; have n0_ := zY HB hb; have n1_ := Aside0.mk (hbox); have n2_ := zS hg HB; have n3_ := zS hg HB; clear HB; have HB := n0_; have BK138 := n1_; have GW138 := n2_; have GE138 := n3_; clear n0_ n1_ n2_ n3_; clear hb hbox hg; obtain ⟨hcz18_0, hcz18_1, hcz18_2, hcz18_3, hcz18_4, hcz18_5, hfz18_0, hfz18_1, hfz18_2, hfz18_3, hfz18_4, hfz18_5⟩ := zk6 BK138) | ((with_reducible refine gate_callee (f := 34) rfl ?_); refine goesL_ (some 14) rfl rfl Try.func34 (by kernel_rfl) rfl #[.slice A0_0 l0_0.length c0_0] rfl za ?_; (with_reducible refine (wear_checkOutline.calls _ _ l0_0 t139 _ ?side1 ?side2 A2.out).mono ?_); (case side1 => exact zl HR0_0 HB); (case side2 => exact HC0_0.out); rintro e w19 ⟨rfl, hb⟩; refine ⟨_, rfl, ?_⟩; have n0_ := zD BK138 hb; have n1_ := zY HB hb; clear BK138; clear HB; have BK138 := n0_; have HB := n1_; clear n0_ n1_; (try clear hb); (try clear hb2); (try clear hk); (try clear hi); obtain ⟨hcz20_0, hcz20_1, hcz20_2, hcz20_3, hcz20_4, hcz20_5, hfz20_0, hfz20_1, hfz20_2, hfz20_3, hfz20_4, hfz20_5⟩ := zk6 BK138) | ((with_reducible refine gate_callee (f := 35) rfl ?_); refine goesL_ (some 28) rfl rfl Try.func35 (by kernel_rfl) rfl #[.slice A0_1 l0_1.length c0_1, .func (.func 36) #[] #[]] rfl za ?_; (with_reducible refine (api_Box_wear_Check_1.calls _ _ l0_1 false _ ?side1 ?side2 A9.out).mono ?_); (case side1 => exact zl HR0_1 HB); (case side2 => exact HC0_1.out); rintro e w21 ⟨rfl, hb⟩; refine ⟨_, rfl, ?_⟩; have n0_ := zD BK138 hb; have n1_ := zY HB hb; clear BK138; clear HB; have BK138 := n0_; have HB := n1_; clear n0_ n1_; (try clear hb); (try clear hb2); (try clear hk); (try clear hi)))
  (try simp only [Act.put, List.setIfInBounds_toArray, List.set_cons_zero, List.set_cons_succ])
  go_cut [29] (fun v29 wc => ∃ (kq : Nat) (x29_15 : Bool), v29 = .bool x29_15 ∧ Aside0 (wear_Check.j0 kq x29_15 l0_0 l0_1 a0_2 a0_3 a0_4 l0_5 = some r) ∧ Aside0 (kq ≤ k) ∧ Aside0 (wc.heap[gb138]? = some (.cells #[(.slice A0_0 l0_0.length c0_0), (.slice A0_1 l0_1.length c0_1), .int .i64 a0_2, .int .i64 a0_3, .int .i64 a0_4, (.slice A0_5 l0_5.length c0_5)] 30 (0, 0))) ∧ Aside0 (Below w.heap.size w wc))
  case first =>
   have H := HC16.out
   clear HC16
   replace H := Option.bind_eq_some_iff.mp H
   obtain ⟨t141, A220, H⟩ := H
   replace H : (if t141 = true then ((wear_spans.f a0_3 a0_4 2000).bind fun t142 => (wear_Check.j0 k (!t142) l0_0 l0_1 a0_2 a0_3 a0_4 l0_5)) else (wear_Check.j0 k true l0_0 l0_1 a0_2 a0_3 a0_4 l0_5)) = some r := H
   have A22 := Aside0.mk A220
   clear A220
   by_cases c23 : t141 = true
   ·subst c23
    have H1 : ((wear_spans.f a0_3 a0_4 2000).bind fun t142 => (wear_Check.j0 k (!t142) l0_0 l0_1 a0_2 a0_3 a0_4 l0_5)) = some r := by rw [if_pos rfl] at H; exact H
    clear H
    have H := H1
    clear H1
    replace H := Option.bind_eq_some_iff.mp H
    obtain ⟨t142, A240, H⟩ := H
    replace H : (wear_Check.j0 k (!t142) l0_0 l0_1 a0_2 a0_3 a0_4 l0_5) = some r := H
    have A24 := Aside0.mk A240
    clear A240
    have H' := Aside0.mk H
    clear H
    obtain ⟨hcz25_0, hcz25_1, hcz25_2, hcz25_3, hcz25_4, hcz25_5, hfz25_0, hfz25_1, hfz25_2, hfz25_3, hfz25_4, hfz25_5⟩ := zk6 BK138
    go_wp2_with (first | ((with_reducible refine gate_callee (f := 22) rfl ?_); refine goesL_ (some 32) rfl rfl Try.func22 (by kernel_rfl) rfl #[.int .i64 a0_2, .int .i64 0, .int .i64 1000] rfl za ?_; (with_reducible refine (wear_in.calls a0_2 0 1000 true _ A22.out).mono ?_); rintro e w' ⟨rfl, ⟨nd, rfl⟩⟩; refine ⟨_, rfl, ?_⟩) | (go_at_call 37; (with_reducible refine (wear_spans.calls a0_3 a0_4 2000 t142 _ A24.out).mono ?_); rintro e w26 ⟨rfl, hb⟩; have n0_ := zD BK138 hb; have n1_ := zY HB hb; clear BK138; clear HB; have BK138 := n0_; have HB := n1_; clear n0_ n1_; (try clear hb); (try clear hb2); (try clear hk); (try clear hi)))
    go_meet
    case rel => exact ⟨_, (!t142), zq, H', ⟨by first | omega | exact Nat.le_refl _⟩, ⟨zb BK138⟩, ⟨zw HB⟩⟩
   replace c23 := Bool.eq_false_iff.mpr c23
   subst c23
   have H1 : (wear_Check.j0 k true l0_0 l0_1 a0_2 a0_3 a0_4 l0_5) = some r := by rw [if_neg (show ¬ (false = true) by decide)] at H; exact H
   clear H
   have H := H1
   clear H1
   have H' := Aside0.mk H
   clear H
   obtain ⟨hcz27_0, hcz27_1, hcz27_2, hcz27_3, hcz27_4, hcz27_5, hfz27_0, hfz27_1, hfz27_2, hfz27_3, hfz27_4, hfz27_5⟩ := zk6 BK138
   go_wp2_with (first | ((with_reducible refine gate_callee (f := 22) rfl ?_); refine goesL_ (some 32) rfl rfl Try.func22 (by kernel_rfl) rfl #[.int .i64 a0_2, .int .i64 0, .int .i64 1000] rfl za ?_; (with_reducible refine (wear_in.calls a0_2 0 1000 false _ A22.out).mono ?_); rintro e w' ⟨rfl, ⟨nd, rfl⟩⟩; refine ⟨_, rfl, ?_⟩))
   go_meet
   case rel => exact ⟨_, (true), zq, H', ⟨by first | omega | exact Nat.le_refl _⟩, ⟨zb BK138⟩, ⟨zw HB⟩⟩
  case rest =>
   clear HC16; try clear c1; try clear c2; try clear p2; try clear c3; try clear c3b0; try clear c3b1; try clear c4; try clear c4b0; try clear c4b1; try clear c10; try clear c15; try clear c22; try clear c23; try clear hcz12_0 hcz12_1 hcz12_2 hcz12_3 hcz12_4 hcz12_5; try clear hcz14_0 hcz14_1 hcz14_2 hcz14_3 hcz14_4 hcz14_5; try clear hcz18_0 hcz18_1 hcz18_2 hcz18_3 hcz18_4 hcz18_5; try clear hcz20_0 hcz20_1 hcz20_2 hcz20_3 hcz20_4 hcz20_5; try clear hcz25_0 hcz25_1 hcz25_2 hcz25_3 hcz25_4 hcz25_5; try clear hcz27_0 hcz27_1 hcz27_2 hcz27_3 hcz27_4 hcz27_5; try clear hcz6_0 hcz6_1 hcz6_2 hcz6_3 hcz6_4 hcz6_5; try clear hcz8_0 hcz8_1 hcz8_2 hcz8_3 hcz8_4 hcz8_5; try clear hfz12_0 hfz12_1 hfz12_2 hfz12_3 hfz12_4 hfz12_5; try clear hfz14_0 hfz14_1 hfz14_2 hfz14_3 hfz14_4 hfz14_5; try clear hfz18_0 hfz18_1 hfz18_2 hfz18_3 hfz18_4 hfz18_5; try clear hfz20_0 hfz20_1 hfz20_2 hfz20_3 hfz20_4 hfz20_5; try clear hfz25_0 hfz25_1 hfz25_2 hfz25_3 hfz25_4 hfz25_5; try clear hfz27_0 hfz27_1 hfz27_2 hfz27_3 hfz27_4 hfz27_5; try clear hfz6_0 hfz6_1 hfz6_2 hfz6_3 hfz6_4 hfz6_5; try clear hfz8_0 hfz8_1 hfz8_2 hfz8_3 hfz8_4 hfz8_5
   obtain ⟨kq, x29_15, rfl, HA, HJ15, BK138, HB⟩ := hcut
   cases kq with
   | zero => exact absurd HA.out (by simp [wear_Check.j0])
   | succ kj15 =>
    have H := HA.out
    clear HA
    simp only [wear_Check.j0] at H
    by_cases c28 : x29_15 = true
    ·subst c28
     have H1 : (some 1) = some r := by rw [if_pos rfl] at H; exact H
     clear H
     have H := H1
     clear H1
     obtain rfl := Option.some.inj H
     go_wp2
     go_ret
     exact ⟨ze, zw HB⟩
    replace c28 := Bool.eq_false_iff.mpr c28
    subst c28
    have H1 : (if (l0_5.length : Int) > 40 then (some 3) else (wear_Check.l0 kj15 l0_5 (l0_5.length : Int) 0 l0_0 l0_1 a0_2 a0_3 a0_4 l0_5)) = some r := by rw [if_neg (show ¬ (false = true) by decide)] at H; exact H
    clear H
    have H := H1
    clear H1
    by_cases c29 : (l0_5.length : Int) > 40
    ·rw [if_pos c29] at H
     have c29b0 : decide (40 < (l0_5.length : Int)) = true := decide_eq_true c29
     have c29b1 : decide (40 < l0_5.length) = true := decide_eq_true (by omega)
     clear c29
     obtain rfl := Option.some.inj H
     obtain ⟨hcz30_0, hcz30_1, hcz30_2, hcz30_3, hcz30_4, hcz30_5, hfz30_0, hfz30_1, hfz30_2, hfz30_3, hfz30_4, hfz30_5⟩ := zk6 BK138
     go_wp2
     go_ret
     exact ⟨ze, zw HB⟩
    rw [if_neg c29] at H
    have c29b0 : decide (40 < (l0_5.length : Int)) = false := decide_eq_false c29
    have c29b1 : decide (40 < l0_5.length) = false := decide_eq_false (by omega)
    clear c29
    have H' := Aside0.mk H
    clear H
    obtain ⟨hcz31_0, hcz31_1, hcz31_2, hcz31_3, hcz31_4, hcz31_5, hfz31_0, hfz31_1, hfz31_2, hfz31_3, hfz31_4, hfz31_5⟩ := zk6 BK138
    go_wp2
    go_loopg [48] kj15 (fun kq v48 w' => ∃ (x48_2 : Int), v48 = .int .i64 x48_2 ∧ Aside0 (wear_Check.l0 kq l0_5 (l0_5.length : Int) x48_2 l0_0 l0_1 a0_2 a0_3 a0_4 l0_5 = some r) ∧ Aside0 (kq ≤ kj15) ∧ Aside0 (w'.heap[gb138]? = some (.cells #[(.slice A0_0 l0_0.length c0_0), (.slice A0_1 l0_1.length c0_1), .int .i64 a0_2, .int .i64 a0_3, .int .i64 a0_4, (.slice A0_5 l0_5.length c0_5)] 30 (0, 0))) ∧ Aside0 (Below w.heap.size w w'))
    case atStart => exact ⟨(0), zq, H', ⟨Nat.le_refl _⟩, ⟨zb BK138⟩, ⟨zw HB⟩⟩
    case round =>
     clear H'; try clear c1; try clear c2; try clear p2; try clear c3; try clear c3b0; try clear c3b1; try clear c4; try clear c4b0; try clear c4b1; try clear c10; try clear c15; try clear c22; try clear c23; try clear c28; try clear c29; try clear c29b0; try clear c29b1; try clear hcz12_0 hcz12_1 hcz12_2 hcz12_3 hcz12_4 hcz12_5; try clear hcz14_0 hcz14_1 hcz14_2 hcz14_3 hcz14_4 hcz14_5; try clear hcz18_0 hcz18_1 hcz18_2 hcz18_3 hcz18_4 hcz18_5; try clear hcz20_0 hcz20_1 hcz20_2 hcz20_3 hcz20_4 hcz20_5; try clear hcz25_0 hcz25_1 hcz25_2 hcz25_3 hcz25_4 hcz25_5; try clear hcz27_0 hcz27_1 hcz27_2 hcz27_3 hcz27_4 hcz27_5; try clear hcz30_0 hcz30_1 hcz30_2 hcz30_3 hcz30_4 hcz30_5; try clear hcz31_0 hcz31_1 hcz31_2 hcz31_3 hcz31_4 hcz31_5; try clear hcz6_0 hcz6_1 hcz6_2 hcz6_3 hcz6_4 hcz6_5; try clear hcz8_0 hcz8_1 hcz8_2 hcz8_3 hcz8_4 hcz8_5; try clear hfz12_0 hfz12_1 hfz12_2 hfz12_3 hfz12_4 hfz12_5; try clear hfz14_0 hfz14_1 hfz14_2 hfz14_3 hfz14_4 hfz14_5; try clear hfz18_0 hfz18_1 hfz18_2 hfz18_3 hfz18_4 hfz18_5; try clear hfz20_0 hfz20_1 hfz20_2 hfz20_3 hfz20_4 hfz20_5; try clear hfz25_0 hfz25_1 hfz25_2 hfz25_3 hfz25_4 hfz25_5; try clear hfz27_0 hfz27_1 hfz27_2 hfz27_3 hfz27_4 hfz27_5; try clear hfz30_0 hfz30_1 hfz30_2 hfz30_3 hfz30_4 hfz30_5; try clear hfz31_0 hfz31_1 hfz31_2 hfz31_3 hfz31_4 hfz31_5; try clear hfz6_0 hfz6_1 hfz6_2 hfz6_3 hfz6_4 hfz6_5; try clear hfz8_0 hfz8_1 hfz8_2 hfz8_3 hfz8_4 hfz8_5; try clear p2
     obtain ⟨x48_2, rfl, HA, HK2, BK138, HB⟩ := hrel
     cases gk with
     | zero => exact absurd HA.out (by simp [wear_Check.l0])
     | succ k2 =>
      have H := HA.out
      clear HA
      simp only [wear_Check.l0] at H
      by_cases c32 : x48_2 < (l0_5.length : Int)
      ·rw [if_pos c32] at H
       have c32b0 : decide (x48_2 < (l0_5.length : Int)) = true := decide_eq_true c32
       clear c32
       by_cases c33 : 0 ≤ x48_2
       ·rw [if_pos c33] at H
        have c33b0 : decide (0 ≤ x48_2) = true := decide_eq_true c33
        clear c33
        by_cases c34 : x48_2 < (l0_5.length : Int)
        ·rw [if_pos c34] at H
         have c34b0 : decide (x48_2 < (l0_5.length : Int)) = true := decide_eq_true c34
         clear c34
         replace H := Option.bind_eq_some_iff.mp H
         obtain ⟨t145, A350, H⟩ := H
         replace H : (if t145 = true then ((wear_spans.f ((rd_T67 l0_5 x48_2).f1.f0) ((rd_T67 l0_5 x48_2).f1.f1) 2000).bind fun t146 => (if t146 = true then (wear_Check.l0 k2 l0_5 (l0_5.length : Int) (wrap64 (x48_2 + 1)) l0_0 l0_1 a0_2 a0_3 a0_4 l0_5) else (some 1))) else (some 7)) = some r := H
         have A35 := Aside0.mk A350
         clear A350
         by_cases c36 : t145 = true
         ·subst c36
          have H1 : ((wear_spans.f ((rd_T67 l0_5 x48_2).f1.f0) ((rd_T67 l0_5 x48_2).f1.f1) 2000).bind fun t146 => (if t146 = true then (wear_Check.l0 k2 l0_5 (l0_5.length : Int) (wrap64 (x48_2 + 1)) l0_0 l0_1 a0_2 a0_3 a0_4 l0_5) else (some 1))) = some r := by rw [if_pos rfl] at H; exact H
          clear H
          have H := H1
          clear H1
          replace H := Option.bind_eq_some_iff.mp H
          obtain ⟨t146, A370, H⟩ := H
          replace H : (if t146 = true then (wear_Check.l0 k2 l0_5 (l0_5.length : Int) (wrap64 (x48_2 + 1)) l0_0 l0_1 a0_2 a0_3 a0_4 l0_5) else (some 1)) = some r := H
          have A37 := Aside0.mk A370
          clear A370
          by_cases c38 : t146 = true
          ·subst c38
           have H1 : (wear_Check.l0 k2 l0_5 (l0_5.length : Int) (wrap64 (x48_2 + 1)) l0_0 l0_1 a0_2 a0_3 a0_4 l0_5) = some r := by rw [if_pos rfl] at H; exact H
           clear H
           have H := H1
           clear H1
           have H' := Aside0.mk H
           clear H
           have p143 : 0 ≤ (x48_2 : Int) := of_decide_eq_true zj
           have q143 : x48_2 < (l0_5.length : Int) := of_decide_eq_true zj
           obtain ⟨ad143, e143, hx143_0, hx143_1, hx143_2, hx143_3⟩ := at_T67 HR0_5.out x48_2 p143 q143
           cases e143
           replace hx143_0 := zu hx143_0 HB
           replace hx143_1 := zu hx143_1 HB
           replace hx143_2 := zu hx143_2 HB
           replace hx143_3 := zu hx143_3 HB
           replace p143 := eq_true p143
           replace q143 := eq_true q143
           go_wp2_with (first | ((with_reducible refine gate_dst (N := 5) rfl ?_); refine zx 5 #[.int .i64 0, .int .i64 0, .int .i64 0, .int .i64 0] 67 ?_; intro gb144 hg w39 hbox hb; have n0_ := zD BK138 hb; have n1_ := zY HB hb; have n2_ := Aside0.mk (hbox); have n3_ := zS hg HB; have n4_ := zS hg HB; have n5_ := zN hg BK138; have n6_ := zM hg BK138; clear BK138; clear HB; have BK138 := n0_; have HB := n1_; have BK144 := n2_; have GW144 := n3_; have GE144 := n4_; have NB138_144 := n5_; have NB144_138 := n6_; clear n0_ n1_ n2_ n3_ n4_ n5_ n6_; clear hb hbox hg; have hnb40 := NB144_138.out; have hnc40 := NB138_144.out; obtain ⟨hcz41_0, hcz41_1, hcz41_2, hcz41_3, hfz41_0, hfz41_1, hfz41_2, hfz41_3⟩ := zk4 BK144; obtain ⟨hcz42_0, hcz42_1, hcz42_2, hcz42_3, hcz42_4, hcz42_5, hfz42_0, hfz42_1, hfz42_2, hfz42_3, hfz42_4, hfz42_5⟩ := zk6 BK138) | ((with_reducible refine gate_callee (f := 21) rfl ?_); refine goesL_ (some 57) rfl rfl Try.func21 (by kernel_rfl) rfl #[.agg #[.slice A0_0 l0_0.length c0_0, .slice A0_1 l0_1.length c0_1], .agg #[.int .i64 ((rd_T67 l0_5 x48_2).f0.f0), .int .i64 ((rd_T67 l0_5 x48_2).f0.f1)]] rfl za ?_; (with_reducible refine (wear_has.calls _ _ l0_0 _ _ l0_1 ((rd_T67 l0_5 x48_2).f0.f0) ((rd_T67 l0_5 x48_2).f0.f1) true _ ?side1 ?side2 ?side3 ?side4 A35.out).mono ?_); (case side1 => exact Kd.C_below HR0_0.out (zw HB)); (case side2 => exact HC0_0.out); (case side3 => exact Kd.C_below HR0_1.out (zw HB)); (case side4 => exact HC0_1.out); rintro e w43 ⟨rfl, hb⟩; refine ⟨_, rfl, ?_⟩; have n0_ := Aside0.mk (blk_below (g := gb138) (o := .cells #[.slice A0_0 l0_0.length c0_0, .slice A0_1 l0_1.length c0_1, .int .i64 a0_2, .int .i64 a0_3, .int .i64 a0_4, .slice (some ad143) l0_5.length c0_5] 30 (0, 0)) (zv BK138) hb); have n1_ := Aside0.mk (blk_below (g := gb144) (o := .cells #[.int .i64 ((rd_T67 l0_5 x48_2).f0.f0), .int .i64 ((rd_T67 l0_5 x48_2).f0.f1), .int .i64 ((rd_T67 l0_5 x48_2).f1.f0), .int .i64 ((rd_T67 l0_5 x48_2).f1.f1)] 67 (0, 0)) (by refine zQ ?_; refine blk_put (cs := #[.int .i64 ((rd_T67 l0_5 x48_2).f0.f0), .int .i64 ((rd_T67 l0_5 x48_2).f0.f1), .int .i64 ((rd_T67 l0_5 x48_2).f1.f0), .int .i64 0]) ?_ 3 _ rfl; refine zQ ?_; refine blk_put (cs := #[.int .i64 ((rd_T67 l0_5 x48_2).f0.f0), .int .i64 ((rd_T67 l0_5 x48_2).f0.f1), .int .i64 0, .int .i64 0]) ?_ 2 _ rfl; refine zQ ?_; refine blk_put (cs := #[.int .i64 ((rd_T67 l0_5 x48_2).f0.f0), .int .i64 0, .int .i64 0, .int .i64 0]) ?_ 1 _ rfl; refine zQ ?_; refine blk_put (cs := #[.int .i64 0, .int .i64 0, .int .i64 0, .int .i64 0]) ?_ 0 _ rfl; (with_reducible repeat (first | refine blk_drewN ?_ _ | refine blk_drew ?_ | refine blk_alloc ?_ _)); exact BK144.out) hb); have n2_ := zY HB hb; clear BK138; clear BK144; clear HB; have BK138 := n0_; have BK144 := n1_; have HB := n2_; clear n0_ n1_ n2_; (try clear hb); (try clear hb2); (try clear hk); (try clear hi); obtain ⟨hcz44_0, hcz44_1, hcz44_2, hcz44_3, hfz44_0, hfz44_1, hfz44_2, hfz44_3⟩ := zk4 BK144) | ((with_reducible refine gate_callee (f := 37) rfl ?_); refine goesL_ (some 62) rfl rfl Try.func37 (by kernel_rfl) rfl #[.agg #[.int .i64 ((rd_T67 l0_5 x48_2).f1.f0), .int .i64 ((rd_T67 l0_5 x48_2).f1.f1)], .int .i64 2000] rfl za ?_; (with_reducible refine (wear_spans.calls ((rd_T67 l0_5 x48_2).f1.f0) ((rd_T67 l0_5 x48_2).f1.f1) 2000 true _ A37.out).mono ?_); rintro e w45 ⟨rfl, hb⟩; refine ⟨_, rfl, ?_⟩; have n0_ := zD BK138 hb; have n1_ := zD BK144 hb; have n2_ := zY HB hb; clear BK138; clear BK144; clear HB; have BK138 := n0_; have BK144 := n1_; have HB := n2_; clear n0_ n1_ n2_; (try clear hb); (try clear hb2); (try clear hk); (try clear hi)))
           go_roundg k2
           case measure => have := HJ15.out; have := HK2.out; omega
           case rel => exact ⟨(wrap64 (x48_2 + 1)), zq, H', ⟨by have := HJ15.out; have := HK2.out; omega⟩, ⟨zb BK138⟩, ⟨zw HB⟩⟩
          replace c38 := Bool.eq_false_iff.mpr c38
          subst c38
          have H1 : (some 1) = some r := by rw [if_neg (show ¬ (false = true) by decide)] at H; exact H
          clear H
          have H := H1
          clear H1
          obtain rfl := Option.some.inj H
          have p143 : 0 ≤ (x48_2 : Int) := of_decide_eq_true zj
          have q143 : x48_2 < (l0_5.length : Int) := of_decide_eq_true zj
          obtain ⟨ad143, e143, hx143_0, hx143_1, hx143_2, hx143_3⟩ := at_T67 HR0_5.out x48_2 p143 q143
          cases e143
          replace hx143_0 := zu hx143_0 HB
          replace hx143_1 := zu hx143_1 HB
          replace hx143_2 := zu hx143_2 HB
          replace hx143_3 := zu hx143_3 HB
          replace p143 := eq_true p143
          replace q143 := eq_true q143
          go_wp2_with (first | ((with_reducible refine gate_dst (N := 5) rfl ?_); refine zx 5 #[.int .i64 0, .int .i64 0, .int .i64 0, .int .i64 0] 67 ?_; intro gb144 hg w46 hbox hb; have n0_ := zD BK138 hb; have n1_ := zY HB hb; have n2_ := Aside0.mk (hbox); have n3_ := zS hg HB; have n4_ := zS hg HB; have n5_ := zN hg BK138; have n6_ := zM hg BK138; clear BK138; clear HB; have BK138 := n0_; have HB := n1_; have BK144 := n2_; have GW144 := n3_; have GE144 := n4_; have NB138_144 := n5_; have NB144_138 := n6_; clear n0_ n1_ n2_ n3_ n4_ n5_ n6_; clear hb hbox hg; have hnb47 := NB144_138.out; have hnc47 := NB138_144.out; obtain ⟨hcz48_0, hcz48_1, hcz48_2, hcz48_3, hfz48_0, hfz48_1, hfz48_2, hfz48_3⟩ := zk4 BK144; obtain ⟨hcz49_0, hcz49_1, hcz49_2, hcz49_3, hcz49_4, hcz49_5, hfz49_0, hfz49_1, hfz49_2, hfz49_3, hfz49_4, hfz49_5⟩ := zk6 BK138) | ((with_reducible refine gate_callee (f := 21) rfl ?_); refine goesL_ (some 57) rfl rfl Try.func21 (by kernel_rfl) rfl #[.agg #[.slice A0_0 l0_0.length c0_0, .slice A0_1 l0_1.length c0_1], .agg #[.int .i64 ((rd_T67 l0_5 x48_2).f0.f0), .int .i64 ((rd_T67 l0_5 x48_2).f0.f1)]] rfl za ?_; (with_reducible refine (wear_has.calls _ _ l0_0 _ _ l0_1 ((rd_T67 l0_5 x48_2).f0.f0) ((rd_T67 l0_5 x48_2).f0.f1) true _ ?side1 ?side2 ?side3 ?side4 A35.out).mono ?_); (case side1 => exact Kd.C_below HR0_0.out (zw HB)); (case side2 => exact HC0_0.out); (case side3 => exact Kd.C_below HR0_1.out (zw HB)); (case side4 => exact HC0_1.out); rintro e w50 ⟨rfl, hb⟩; refine ⟨_, rfl, ?_⟩; have n0_ := Aside0.mk (blk_below (g := gb138) (o := .cells #[.slice A0_0 l0_0.length c0_0, .slice A0_1 l0_1.length c0_1, .int .i64 a0_2, .int .i64 a0_3, .int .i64 a0_4, .slice (some ad143) l0_5.length c0_5] 30 (0, 0)) (zv BK138) hb); have n1_ := Aside0.mk (blk_below (g := gb144) (o := .cells #[.int .i64 ((rd_T67 l0_5 x48_2).f0.f0), .int .i64 ((rd_T67 l0_5 x48_2).f0.f1), .int .i64 ((rd_T67 l0_5 x48_2).f1.f0), .int .i64 ((rd_T67 l0_5 x48_2).f1.f1)] 67 (0, 0)) (by refine zQ ?_; refine blk_put (cs := #[.int .i64 ((rd_T67 l0_5 x48_2).f0.f0), .int .i64 ((rd_T67 l0_5 x48_2).f0.f1), .int .i64 ((rd_T67 l0_5 x48_2).f1.f0), .int .i64 0]) ?_ 3 _ rfl; refine zQ ?_; refine blk_put (cs := #[.int .i64 ((rd_T67 l0_5 x48_2).f0.f0), .int .i64 ((rd_T67 l0_5 x48_2).f0.f1), .int .i64 0, .int .i64 0]) ?_ 2 _ rfl; refine zQ ?_; refine blk_put (cs := #[.int .i64 ((rd_T67 l0_5 x48_2).f0.f0), .int .i64 0, .int .i64 0, .int .i64 0]) ?_ 1 _ rfl; refine zQ ?_; refine blk_put (cs := #[.int .i64 0, .int .i64 0, .int .i64 0, .int .i64 0]) ?_ 0 _ rfl; (with_reducible repeat (first | refine blk_drewN ?_ _ | refine blk_drew ?_ | refine blk_alloc ?_ _)); exact BK144.out) hb); have n2_ := zY HB hb; clear BK138; clear BK144; clear HB; have BK138 := n0_; have BK144 := n1_; have HB := n2_; clear n0_ n1_ n2_; (try clear hb); (try clear hb2); (try clear hk); (try clear hi); obtain ⟨hcz51_0, hcz51_1, hcz51_2, hcz51_3, hfz51_0, hfz51_1, hfz51_2, hfz51_3⟩ := zk4 BK144) | ((with_reducible refine gate_callee (f := 37) rfl ?_); refine goesL_ (some 62) rfl rfl Try.func37 (by kernel_rfl) rfl #[.agg #[.int .i64 ((rd_T67 l0_5 x48_2).f1.f0), .int .i64 ((rd_T67 l0_5 x48_2).f1.f1)], .int .i64 2000] rfl za ?_; (with_reducible refine (wear_spans.calls ((rd_T67 l0_5 x48_2).f1.f0) ((rd_T67 l0_5 x48_2).f1.f1) 2000 false _ A37.out).mono ?_); rintro e w52 ⟨rfl, hb⟩; refine ⟨_, rfl, ?_⟩; have n0_ := zD BK138 hb; have n1_ := zD BK144 hb; have n2_ := zY HB hb; clear BK138; clear BK144; clear HB; have BK138 := n0_; have BK144 := n1_; have HB := n2_; clear n0_ n1_ n2_; (try clear hb); (try clear hb2); (try clear hk); (try clear hi)))
          go_ret
          exact ⟨ze, zw HB⟩
         replace c36 := Bool.eq_false_iff.mpr c36
         subst c36
         have H1 : (some 7) = some r := by rw [if_neg (show ¬ (false = true) by decide)] at H; exact H
         clear H
         have H := H1
         clear H1
         obtain rfl := Option.some.inj H
         have p143 : 0 ≤ (x48_2 : Int) := of_decide_eq_true zj
         have q143 : x48_2 < (l0_5.length : Int) := of_decide_eq_true zj
         obtain ⟨ad143, e143, hx143_0, hx143_1, hx143_2, hx143_3⟩ := at_T67 HR0_5.out x48_2 p143 q143
         cases e143
         replace hx143_0 := zu hx143_0 HB
         replace hx143_1 := zu hx143_1 HB
         replace hx143_2 := zu hx143_2 HB
         replace hx143_3 := zu hx143_3 HB
         replace p143 := eq_true p143
         replace q143 := eq_true q143
         go_wp2_with (first | ((with_reducible refine gate_dst (N := 5) rfl ?_); refine zx 5 #[.int .i64 0, .int .i64 0, .int .i64 0, .int .i64 0] 67 ?_; intro gb144 hg w53 hbox hb; have n0_ := zD BK138 hb; have n1_ := zY HB hb; have n2_ := Aside0.mk (hbox); have n3_ := zS hg HB; have n4_ := zS hg HB; have n5_ := zN hg BK138; have n6_ := zM hg BK138; clear BK138; clear HB; have BK138 := n0_; have HB := n1_; have BK144 := n2_; have GW144 := n3_; have GE144 := n4_; have NB138_144 := n5_; have NB144_138 := n6_; clear n0_ n1_ n2_ n3_ n4_ n5_ n6_; clear hb hbox hg; have hnb54 := NB144_138.out; have hnc54 := NB138_144.out; obtain ⟨hcz55_0, hcz55_1, hcz55_2, hcz55_3, hfz55_0, hfz55_1, hfz55_2, hfz55_3⟩ := zk4 BK144; obtain ⟨hcz56_0, hcz56_1, hcz56_2, hcz56_3, hcz56_4, hcz56_5, hfz56_0, hfz56_1, hfz56_2, hfz56_3, hfz56_4, hfz56_5⟩ := zk6 BK138) | ((with_reducible refine gate_callee (f := 21) rfl ?_); refine goesL_ (some 57) rfl rfl Try.func21 (by kernel_rfl) rfl #[.agg #[.slice A0_0 l0_0.length c0_0, .slice A0_1 l0_1.length c0_1], .agg #[.int .i64 ((rd_T67 l0_5 x48_2).f0.f0), .int .i64 ((rd_T67 l0_5 x48_2).f0.f1)]] rfl za ?_; (with_reducible refine (wear_has.calls _ _ l0_0 _ _ l0_1 ((rd_T67 l0_5 x48_2).f0.f0) ((rd_T67 l0_5 x48_2).f0.f1) false _ ?side1 ?side2 ?side3 ?side4 A35.out).mono ?_); (case side1 => exact Kd.C_below HR0_0.out (zw HB)); (case side2 => exact HC0_0.out); (case side3 => exact Kd.C_below HR0_1.out (zw HB)); (case side4 => exact HC0_1.out); rintro e w57 ⟨rfl, hb⟩; refine ⟨_, rfl, ?_⟩; have n0_ := Aside0.mk (blk_below (g := gb138) (o := .cells #[.slice A0_0 l0_0.length c0_0, .slice A0_1 l0_1.length c0_1, .int .i64 a0_2, .int .i64 a0_3, .int .i64 a0_4, .slice (some ad143) l0_5.length c0_5] 30 (0, 0)) (zv BK138) hb); have n1_ := Aside0.mk (blk_below (g := gb144) (o := .cells #[.int .i64 ((rd_T67 l0_5 x48_2).f0.f0), .int .i64 ((rd_T67 l0_5 x48_2).f0.f1), .int .i64 ((rd_T67 l0_5 x48_2).f1.f0), .int .i64 ((rd_T67 l0_5 x48_2).f1.f1)] 67 (0, 0)) (by refine zQ ?_; refine blk_put (cs := #[.int .i64 ((rd_T67 l0_5 x48_2).f0.f0), .int .i64 ((rd_T67 l0_5 x48_2).f0.f1), .int .i64 ((rd_T67 l0_5 x48_2).f1.f0), .int .i64 0]) ?_ 3 _ rfl; refine zQ ?_; refine blk_put (cs := #[.int .i64 ((rd_T67 l0_5 x48_2).f0.f0), .int .i64 ((rd_T67 l0_5 x48_2).f0.f1), .int .i64 0, .int .i64 0]) ?_ 2 _ rfl; refine zQ ?_; refine blk_put (cs := #[.int .i64 ((rd_T67 l0_5 x48_2).f0.f0), .int .i64 0, .int .i64 0, .int .i64 0]) ?_ 1 _ rfl; refine zQ ?_; refine blk_put (cs := #[.int .i64 0, .int .i64 0, .int .i64 0, .int .i64 0]) ?_ 0 _ rfl; (with_reducible repeat (first | refine blk_drewN ?_ _ | refine blk_drew ?_ | refine blk_alloc ?_ _)); exact BK144.out) hb); have n2_ := zY HB hb; clear BK138; clear BK144; clear HB; have BK138 := n0_; have BK144 := n1_; have HB := n2_; clear n0_ n1_ n2_; (try clear hb); (try clear hb2); (try clear hk); (try clear hi)))
         go_ret
         exact ⟨ze, zw HB⟩
        rw [if_neg c34] at H
        exact absurd H (by simp)
       rw [if_neg c33] at H
       exact absurd H (by simp)
      rw [if_neg c32] at H
      have c32b0 : decide (x48_2 < (l0_5.length : Int)) = false := decide_eq_false c32
      clear c32
      have H' := Aside0.mk H
      clear H
      obtain ⟨hcz58_0, hcz58_1, hcz58_2, hcz58_3, hcz58_4, hcz58_5, hfz58_0, hfz58_1, hfz58_2, hfz58_3, hfz58_4, hfz58_5⟩ := zk6 BK138
      go_wp2
      go_loopg [68] k2 (fun kq v68 w' => ∃ (x68_3 : Int), v68 = .int .i64 x68_3 ∧ Aside0 (wear_Check.l1 kq l0_5 (l0_5.length : Int) x68_3 l0_0 l0_1 a0_2 a0_3 a0_4 l0_5 = some r) ∧ Aside0 (kq ≤ k2) ∧ Aside0 (w'.heap[gb138]? = some (.cells #[(.slice A0_0 l0_0.length c0_0), (.slice A0_1 l0_1.length c0_1), .int .i64 a0_2, .int .i64 a0_3, .int .i64 a0_4, (.slice A0_5 l0_5.length c0_5)] 30 (0, 0))) ∧ Aside0 (Below w.heap.size w w'))
      case atStart => exact ⟨(0), zq, H', ⟨Nat.le_refl _⟩, ⟨zb BK138⟩, ⟨zw HB⟩⟩
      case round =>
       clear H'; try clear c1; try clear p1; try clear q1; try clear hx1; try clear c2; try clear p2; try clear c3; try clear c3b0; try clear c3b1; try clear c4; try clear c4b0; try clear c4b1; try clear c5; try clear p6; try clear c10; try clear p14; try clear q14; try clear hx14; try clear c15; try clear c21; try clear c22; try clear c23; try clear c28; try clear c29; try clear c29b0; try clear c29b1; try clear c32; try clear c32b0; try clear c33; try clear c33b0; try clear c34; try clear c34b0; try clear c35; try clear c36; try clear c37; try clear c38; try clear c40; try clear c47; try clear c54; try clear hcz12_0 hcz12_1 hcz12_2 hcz12_3 hcz12_4 hcz12_5; try clear hcz14_0 hcz14_1 hcz14_2 hcz14_3 hcz14_4 hcz14_5; try clear hcz18_0 hcz18_1 hcz18_2 hcz18_3 hcz18_4 hcz18_5; try clear hcz20_0 hcz20_1 hcz20_2 hcz20_3 hcz20_4 hcz20_5; try clear hcz25_0 hcz25_1 hcz25_2 hcz25_3 hcz25_4 hcz25_5; try clear hcz27_0 hcz27_1 hcz27_2 hcz27_3 hcz27_4 hcz27_5; try clear hcz30_0 hcz30_1 hcz30_2 hcz30_3 hcz30_4 hcz30_5; try clear hcz31_0 hcz31_1 hcz31_2 hcz31_3 hcz31_4 hcz31_5; try clear hcz41_0 hcz41_1 hcz41_2 hcz41_3; try clear hcz42_0 hcz42_1 hcz42_2 hcz42_3 hcz42_4 hcz42_5; try clear hcz44_0 hcz44_1 hcz44_2 hcz44_3; try clear hcz48_0 hcz48_1 hcz48_2 hcz48_3; try clear hcz49_0 hcz49_1 hcz49_2 hcz49_3 hcz49_4 hcz49_5; try clear hcz51_0 hcz51_1 hcz51_2 hcz51_3; try clear hcz55_0 hcz55_1 hcz55_2 hcz55_3; try clear hcz56_0 hcz56_1 hcz56_2 hcz56_3 hcz56_4 hcz56_5; try clear hcz58_0 hcz58_1 hcz58_2 hcz58_3 hcz58_4 hcz58_5; try clear hcz6_0 hcz6_1 hcz6_2 hcz6_3 hcz6_4 hcz6_5; try clear hcz8_0 hcz8_1 hcz8_2 hcz8_3 hcz8_4 hcz8_5; try clear hfz12_0 hfz12_1 hfz12_2 hfz12_3 hfz12_4 hfz12_5; try clear hfz14_0 hfz14_1 hfz14_2 hfz14_3 hfz14_4 hfz14_5; try clear hfz18_0 hfz18_1 hfz18_2 hfz18_3 hfz18_4 hfz18_5; try clear hfz20_0 hfz20_1 hfz20_2 hfz20_3 hfz20_4 hfz20_5; try clear hfz25_0 hfz25_1 hfz25_2 hfz25_3 hfz25_4 hfz25_5; try clear hfz27_0 hfz27_1 hfz27_2 hfz27_3 hfz27_4 hfz27_5; try clear hfz30_0 hfz30_1 hfz30_2 hfz30_3 hfz30_4 hfz30_5; try clear hfz31_0 hfz31_1 hfz31_2 hfz31_3 hfz31_4 hfz31_5; try clear hfz41_0 hfz41_1 hfz41_2 hfz41_3; try clear hfz42_0 hfz42_1 hfz42_2 hfz42_3 hfz42_4 hfz42_5; try clear hfz44_0 hfz44_1 hfz44_2 hfz44_3; try clear hfz48_0 hfz48_1 hfz48_2 hfz48_3; try clear hfz49_0 hfz49_1 hfz49_2 hfz49_3 hfz49_4 hfz49_5; try clear hfz51_0 hfz51_1 hfz51_2 hfz51_3; try clear hfz55_0 hfz55_1 hfz55_2 hfz55_3; try clear hfz56_0 hfz56_1 hfz56_2 hfz56_3 hfz56_4 hfz56_5; try clear hfz58_0 hfz58_1 hfz58_2 hfz58_3 hfz58_4 hfz58_5; try clear hfz6_0 hfz6_1 hfz6_2 hfz6_3 hfz6_4 hfz6_5; try clear hfz8_0 hfz8_1 hfz8_2 hfz8_3 hfz8_4 hfz8_5; try clear hx143_0; try clear hx143_1; try clear hx143_2; try clear hx143_3; try clear p143; try clear p2; try clear q143
       obtain ⟨x68_3, rfl, HA, HK3, BK138, HB⟩ := hrel
       cases gk with
       | zero => exact absurd HA.out (by simp [wear_Check.l1])
       | succ k3 =>
        have H := HA.out
        clear HA
        simp only [wear_Check.l1] at H
        by_cases c59 : x68_3 < (l0_5.length : Int)
        ·rw [if_pos c59] at H
         have c59b0 : decide (x68_3 < (l0_5.length : Int)) = true := decide_eq_true c59
         clear c59
         by_cases c60 : 0 ≤ x68_3
         ·rw [if_pos c60] at H
          have c60b0 : decide (0 ≤ x68_3) = true := decide_eq_true c60
          clear c60
          by_cases c61 : x68_3 < (l0_5.length : Int)
          ·rw [if_pos c61] at H
           have c61b0 : decide (x68_3 < (l0_5.length : Int)) = true := decide_eq_true c61
           clear c61
           by_cases c62 : x68_3 > 0
           ·rw [if_pos c62] at H
            have c62b0 : decide (0 < x68_3) = true := decide_eq_true c62
            clear c62
            obtain ⟨ji63, hji63⟩ : ∃ j_ : Int, (wrap64 (x68_3 - 1)) = j_ := ⟨_, rfl⟩
            replace H : (if 0 ≤ (ji63) then (if (ji63) < (l0_5.length : Int) then ((wear_order.f k3 ((rd_T67 l0_5 (ji63)).f0.f0) ((rd_T67 l0_5 (ji63)).f0.f1) ((rd_T67 l0_5 x68_3).f0.f0) ((rd_T67 l0_5 x68_3).f0.f1)).bind fun t150 => (if t150 ≥ 0 then (some 8) else (wear_Check.l1 k3 l0_5 (l0_5.length : Int) (wrap64 (x68_3 + 1)) l0_0 l0_1 a0_2 a0_3 a0_4 l0_5))) else (none)) else (none)) = some r := by first | (rw [hji63] at H; exact H) | (simp only [hji63] at H ⊢; exact H)
            have hji63w : (IntKind.i64.wrap (x68_3 - 1)) = ji63 := (i64_w _).trans hji63
            by_cases c64 : 0 ≤ (ji63)
            ·rw [if_pos c64] at H
             have c64b0 : decide (0 ≤ (ji63)) = true := decide_eq_true c64
             clear c64
             by_cases c65 : (ji63) < (l0_5.length : Int)
             ·rw [if_pos c65] at H
              have c65b0 : decide ((ji63) < (l0_5.length : Int)) = true := decide_eq_true c65
              clear c65
              replace H := Option.bind_eq_some_iff.mp H
              obtain ⟨t150, A660, H⟩ := H
              replace H : (if t150 ≥ 0 then (some 8) else (wear_Check.l1 k3 l0_5 (l0_5.length : Int) (wrap64 (x68_3 + 1)) l0_0 l0_1 a0_2 a0_3 a0_4 l0_5)) = some r := H
              have A66 := Aside0.mk A660
              clear A660
              by_cases c67 : t150 ≥ 0
              ·rw [if_pos c67] at H
               have c67b0 : decide (0 ≤ t150) = true := decide_eq_true c67
               clear c67
               obtain rfl := Option.some.inj H
               have p147 : 0 ≤ (x68_3 : Int) := of_decide_eq_true zj
               have q147 : x68_3 < (l0_5.length : Int) := of_decide_eq_true zj
               obtain ⟨ad147, e147, hx147_0, hx147_1, hx147_2, hx147_3⟩ := at_T67 HR0_5.out x68_3 p147 q147
               cases e147
               replace hx147_0 := zu hx147_0 HB
               replace hx147_1 := zu hx147_1 HB
               replace hx147_2 := zu hx147_2 HB
               replace hx147_3 := zu hx147_3 HB
               replace p147 := eq_true p147
               replace q147 := eq_true q147
               try go_wp2_with (first | ((with_reducible refine gate_dst (N := 7) rfl ?_); refine zx 7 #[.int .i64 0, .int .i64 0, .int .i64 0, .int .i64 0] 67 ?_; intro gb148 hg w68 hbox hb; have n0_ := zD BK138 hb; have n1_ := zY HB hb; have n2_ := Aside0.mk (hbox); have n3_ := zS hg HB; have n4_ := zS hg HB; have n5_ := zN hg BK138; have n6_ := zM hg BK138; clear BK138; clear HB; have BK138 := n0_; have HB := n1_; have BK148 := n2_; have GW148 := n3_; have GE148 := n4_; have NB138_148 := n5_; have NB148_138 := n6_; clear n0_ n1_ n2_ n3_ n4_ n5_ n6_; clear hb hbox hg; have hnb69 := NB148_138.out; have hnc69 := NB138_148.out; obtain ⟨hcz70_0, hcz70_1, hcz70_2, hcz70_3, hfz70_0, hfz70_1, hfz70_2, hfz70_3⟩ := zk4 BK148))
               have n0_ : Aside0 (((((w68.setCell ⟨gb148, 0, none⟩ (.int .i64 ((rd_T67 l0_5 x68_3).f0.f0))).setCell ⟨gb148, 1, none⟩ (.int .i64 ((rd_T67 l0_5 x68_3).f0.f1))).setCell ⟨gb148, 2, none⟩ (.int .i64 ((rd_T67 l0_5 x68_3).f1.f0))).setCell ⟨gb148, 3, none⟩ (.int .i64 ((rd_T67 l0_5 x68_3).f1.f1))).heap[gb138]? = some (.cells #[.slice A0_0 l0_0.length c0_0, .slice A0_1 l0_1.length c0_1, .int .i64 a0_2, .int .i64 a0_3, .int .i64 a0_4, .slice (some ad147) l0_5.length c0_5] 30 (0, 0))) := ⟨zv BK138⟩
               have n1_ : Aside0 (((((w68.setCell ⟨gb148, 0, none⟩ (.int .i64 ((rd_T67 l0_5 x68_3).f0.f0))).setCell ⟨gb148, 1, none⟩ (.int .i64 ((rd_T67 l0_5 x68_3).f0.f1))).setCell ⟨gb148, 2, none⟩ (.int .i64 ((rd_T67 l0_5 x68_3).f1.f0))).setCell ⟨gb148, 3, none⟩ (.int .i64 ((rd_T67 l0_5 x68_3).f1.f1))).heap[gb148]? = some (.cells #[.int .i64 ((rd_T67 l0_5 x68_3).f0.f0), .int .i64 ((rd_T67 l0_5 x68_3).f0.f1), .int .i64 ((rd_T67 l0_5 x68_3).f1.f0), .int .i64 ((rd_T67 l0_5 x68_3).f1.f1)] 67 (0, 0))) := ⟨by refine zQ ?_; refine blk_put (cs := #[.int .i64 ((rd_T67 l0_5 x68_3).f0.f0), .int .i64 ((rd_T67 l0_5 x68_3).f0.f1), .int .i64 ((rd_T67 l0_5 x68_3).f1.f0), .int .i64 0]) ?_ 3 _ rfl; refine zQ ?_; refine blk_put (cs := #[.int .i64 ((rd_T67 l0_5 x68_3).f0.f0), .int .i64 ((rd_T67 l0_5 x68_3).f0.f1), .int .i64 0, .int .i64 0]) ?_ 2 _ rfl; refine zQ ?_; refine blk_put (cs := #[.int .i64 ((rd_T67 l0_5 x68_3).f0.f0), .int .i64 0, .int .i64 0, .int .i64 0]) ?_ 1 _ rfl; refine zQ ?_; refine blk_put (cs := #[.int .i64 0, .int .i64 0, .int .i64 0, .int .i64 0]) ?_ 0 _ rfl; (with_reducible repeat (first | refine blk_drewN ?_ _ | refine blk_drew ?_ | refine blk_alloc ?_ _)); exact BK148.out⟩
               have n2_ : Aside0 (Below w.heap.size w ((((w68.setCell ⟨gb148, 0, none⟩ (.int .i64 ((rd_T67 l0_5 x68_3).f0.f0))).setCell ⟨gb148, 1, none⟩ (.int .i64 ((rd_T67 l0_5 x68_3).f0.f1))).setCell ⟨gb148, 2, none⟩ (.int .i64 ((rd_T67 l0_5 x68_3).f1.f0))).setCell ⟨gb148, 3, none⟩ (.int .i64 ((rd_T67 l0_5 x68_3).f1.f1)))) := ⟨zw HB⟩
               (try clear BK138)
               (try clear BK148)
               (try clear HB)
               generalize ((((w68.setCell ⟨gb148, 0, none⟩ (.int .i64 ((rd_T67 l0_5 x68_3).f0.f0))).setCell ⟨gb148, 1, none⟩ (.int .i64 ((rd_T67 l0_5 x68_3).f0.f1))).setCell ⟨gb148, 2, none⟩ (.int .i64 ((rd_T67 l0_5 x68_3).f1.f0))).setCell ⟨gb148, 3, none⟩ (.int .i64 ((rd_T67 l0_5 x68_3).f1.f1))) = w71 at n0_ n1_ n2_ ⊢
               have BK138 := n0_
               have BK148 := n1_
               have HB := n2_
               clear n0_ n1_ n2_
               have n0_ := Aside0.mk (blk_drew BK138.out)
               have n1_ := Aside0.mk (blk_drew BK148.out)
               have n2_ := Aside0.mk (below_drew1 HB.out)
               clear BK138; clear BK148; clear HB
               have BK138 := n0_
               have BK148 := n1_
               have HB := n2_
               clear n0_ n1_ n2_
               have p149 : 0 ≤ ((ji63) : Int) := of_decide_eq_true zj
               have q149 : (ji63) < (l0_5.length : Int) := of_decide_eq_true zj
               obtain ⟨ad149, e149, hx149_0, hx149_1, hx149_2, hx149_3⟩ := at_T67 HR0_5.out (ji63) p149 q149
               have hw149_3 := hx149_3
               have hw149_2 := hx149_2
               have hw149_1 := hx149_1
               have hw149_0 := hx149_0
               obtain rfl : ad147 = ad149 := (by injection e149)
               replace hx149_0 := zu hx149_0 HB
               replace hx149_1 := zu hx149_1 HB
               replace hx149_2 := zu hx149_2 HB
               replace hx149_3 := zu hx149_3 HB
               replace p149 := eq_true p149
               replace q149 := eq_true q149
               refine start_ (n := 15) (S := fun w' => w'.cell? ⟨gb138, 0, none⟩ = some (.slice A0_0 l0_0.length c0_0) ∧ w'.cell? ⟨gb138, 1, none⟩ = some (.slice A0_1 l0_1.length c0_1) ∧ w'.cell? ⟨gb138, 2, none⟩ = some (.int .i64 a0_2) ∧ w'.cell? ⟨gb138, 3, none⟩ = some (.int .i64 a0_3) ∧ w'.cell? ⟨gb138, 4, none⟩ = some (.int .i64 a0_4) ∧ w'.cell? ⟨gb138, 5, none⟩ = some (.slice (some ad147) l0_5.length c0_5) ∧ w'.cell? ⟨gb148, 0, none⟩ = some (.int .i64 ((rd_T67 l0_5 x68_3).f0.f0)) ∧ w'.cell? ⟨gb148, 1, none⟩ = some (.int .i64 ((rd_T67 l0_5 x68_3).f0.f1)) ∧ w'.cell? ⟨gb148, 2, none⟩ = some (.int .i64 ((rd_T67 l0_5 x68_3).f1.f0)) ∧ w'.cell? ⟨gb148, 3, none⟩ = some (.int .i64 ((rd_T67 l0_5 x68_3).f1.f1)) ∧ w'.cell? (ad147.add (((ji63)).toNat * 4)) = some (.int .i64 ((rd_T67 l0_5 (ji63)).f0.f0)) ∧ w'.cell? ⟨(ad147.add (((ji63)).toNat * 4)).block, (ad147.add (((ji63)).toNat * 4)).off + 1, none⟩ = some (.int .i64 ((rd_T67 l0_5 (ji63)).f0.f1)) ∧ w'.cell? ⟨(ad147.add (((ji63)).toNat * 4)).block, (ad147.add (((ji63)).toNat * 4)).off + 2, none⟩ = some (.int .i64 ((rd_T67 l0_5 (ji63)).f1.f0)) ∧ w'.cell? ⟨(ad147.add (((ji63)).toNat * 4)).block, (ad147.add (((ji63)).toNat * 4)).off + 3, none⟩ = some (.int .i64 ((rd_T67 l0_5 (ji63)).f1.f1))) (ds := []) #[Z0, Z0, Z0, Z0, Z0, Z0, Z0, Z0, Z0, Z0, Z0, Z0, Z0, Z0, Z0] (by kernel_rfl) rfl rfl ⟨(blk_cell BK138.out 0).trans rfl, (blk_cell BK138.out 1).trans rfl, (blk_cell BK138.out 2).trans rfl, (blk_cell BK138.out 3).trans rfl, (blk_cell BK138.out 4).trans rfl, (blk_cell BK138.out 5).trans rfl, (blk_cell BK148.out 0).trans rfl, (blk_cell BK148.out 1).trans rfl, (blk_cell BK148.out 2).trans rfl, (blk_cell BK148.out 3).trans rfl, (zu hw149_0 HB), (zu hw149_1 HB), (zu hw149_2 HB), (zu hw149_3 HB)⟩ (fun hHeld => ?_); refine with_tabW wear_Check.tab23 wear_Check.bits23 (fun HT_ HW_ => ?_)
               generalize w71.drew = w72 at BK138 BK148 HB hx149_0 hx149_1 hx149_2 hx149_3 hHeld ⊢
               refine zp 0 (some 73) #[Z1, Z0, Z0, Z0, Z0, Z0, Z0, Z0, Z0, Z0, Z0, Z0, Z0, Z0, Z0] rfl rfl (any_of HT_.out (by kernel_rfl)) ?_
               refine zp 1 (some 74) #[Z1, Z1, Z0, Z0, Z0, Z0, Z0, Z0, Z0, Z0, Z0, Z0, Z0, Z0, Z0] rfl rfl (any_of HT_.out (by kernel_rfl)) ?_
               refine zp 2 (some 75) #[Z1, Z1, Z1, Z0, Z0, Z0, Z0, Z0, Z0, Z0, Z0, Z0, Z0, Z0, Z0] rfl rfl (any_of HT_.out (by kernel_rfl)) ?_
               refine zp 3 (some 76) #[Z1, Z1, Z1, Z1, Z0, Z0, Z0, Z0, Z0, Z0, Z0, Z0, Z0, Z0, Z0] rfl rfl (any_of HT_.out (by kernel_rfl)) ?_
               refine zp 5 (some 78) #[Z1, Z1, Z1, Z1, Z0, Z1, Z0, Z0, Z0, Z0, Z0, Z0, Z0, Z0, Z0] rfl rfl (any_of HT_.out (by kernel_rfl)) ?_
               refine zp 6 (some 79) #[Z1, Z1, Z1, Z1, Z0, Z1, Z1, Z0, Z0, Z0, Z0, Z0, Z0, Z0, Z0] rfl rfl (any_of HT_.out (by kernel_rfl)) ?_
               refine zp 10 (some 83) #[Z1, Z1, Z1, Z1, Z0, Z1, Z1, Z0, Z0, Z0, Z1, Z0, Z0, Z0, Z0] rfl rfl (any_of HT_.out (by kernel_rfl)) ?_
               refine take_ (i := 4) (N := some 77) (v := ?_) (a' := ?_) #[Z1, Z1, Z1, Z1, Z1, Z1, Z1, Z0, Z0, Z0, Z1, Z0, Z0, Z0, Z0] rfl rfl (take_ofW HT_.out HW_.out (by kernel_rfl)) (fun _ _ _ h => h) (Or.inl ⟨by rfl, ?_⟩) hHeld ?_ ?_
               rotate_left; · rintro w' ⟨s0, s1, s2, s3, s4, s5, s6, s7, s8, s9, s10, s11, s12, s13⟩; go_simp; with_reducible rfl
               rotate_left; · simp only [Act.put, List.setIfInBounds_toArray, List.set_cons_zero, List.set_cons_succ, i64_w, i32_w]; rfl
               refine zp 7 (some 80) #[Z1, Z1, Z1, Z1, Z1, Z1, Z1, Z1, Z0, Z0, Z1, Z0, Z0, Z0, Z0] rfl rfl (any_of HT_.out (by kernel_rfl)) ?_
               refine zp 8 (some 81) #[Z1, Z1, Z1, Z1, Z1, Z1, Z1, Z1, Z1, Z0, Z1, Z0, Z0, Z0, Z0] rfl rfl (any_of HT_.out (by kernel_rfl)) ?_
               refine take_ (i := 9) (N := some 82) (v := ?_) (a' := ?_) #[Z1, Z1, Z1, Z1, Z1, Z1, Z1, Z1, Z1, Z1, Z1, Z0, Z0, Z0, Z0] rfl rfl (take_ofW HT_.out HW_.out (by kernel_rfl)) (fun _ _ _ h => h) (Or.inl ⟨by rfl, ?_⟩) hHeld ?_ ?_
               rotate_left; · rintro w' ⟨s0, s1, s2, s3, s4, s5, s6, s7, s8, s9, s10, s11, s12, s13⟩; go_simp; with_reducible rfl
               rotate_left; · simp only [Act.put, List.setIfInBounds_toArray, List.set_cons_zero, List.set_cons_succ, i64_w, i32_w]; rfl
               refine take_ (i := 11) (N := some 84) (v := ?_) (a' := ?_) #[Z1, Z1, Z1, Z1, Z1, Z1, Z1, Z1, Z1, Z1, Z1, Z1, Z0, Z0, Z0] rfl rfl (take_ofW HT_.out HW_.out (by kernel_rfl)) (fun _ _ _ h => h) (Or.inl ⟨by rfl, ?_⟩) hHeld ?_ ?_
               rotate_left; · rintro w' ⟨s0, s1, s2, s3, s4, s5, s6, s7, s8, s9, s10, s11, s12, s13⟩; go_simp; with_reducible rfl
               rotate_left; · simp only [Act.put, List.setIfInBounds_toArray, List.set_cons_zero, List.set_cons_succ, i64_w, i32_w]; rfl
               refine one_ (i := 12) (N := some 85) #[Z1, Z1, Z1, Z1, Z1, Z1, Z1, Z1, Z1, Z1, Z1, Z1, Z1, Z0, Z0] rfl rfl (one_of HT_.out (by kernel_rfl)) (by decide) (fun K hK => ?_)
               refine goes_ Try.func26 (by kernel_rfl) rfl #[.agg #[.int .i64 ((rd_T67 l0_5 (ji63)).f0.f0), .int .i64 ((rd_T67 l0_5 (ji63)).f0.f1)], .agg #[.int .i64 ((rd_T67 l0_5 x68_3).f0.f0), .int .i64 ((rd_T67 l0_5 x68_3).f0.f1)]] (by rfl) rfl rfl (by (try simp only [List.map_toArray, List.map_cons, List.map_nil]); first | done | (simp only [hji63]; rfl) | rfl | (simp only [List.length_drop, List.length_take]; rfl)) ?_
               with_reducible refine (wear_order.calls k3 ((rd_T67 l0_5 (ji63)).f0.f0) ((rd_T67 l0_5 (ji63)).f0.f1) ((rd_T67 l0_5 x68_3).f0.f0) ((rd_T67 l0_5 x68_3).f0.f1) t150 _ A66.out).mono ?_
               rintro e w73 ⟨rfl, hb⟩
               refine ⟨_, rfl, ?_⟩
               have n0_ := zD BK138 hb
               have n1_ := zD BK148 hb
               have n2_ := zY HB hb
               clear BK138; clear BK148; clear HB
               have BK138 := n0_
               have BK148 := n1_
               have HB := n2_
               clear n0_ n1_ n2_
               (try clear hb)
               (try clear hb2)
               (try clear hk)
               (try clear hi)
               refine hK.out _ _ ⟨(blk_cell BK138.out 0).trans rfl, (blk_cell BK138.out 1).trans rfl, (blk_cell BK138.out 2).trans rfl, (blk_cell BK138.out 3).trans rfl, (blk_cell BK138.out 4).trans rfl, (blk_cell BK138.out 5).trans rfl, (blk_cell BK148.out 0).trans rfl, (blk_cell BK148.out 1).trans rfl, (blk_cell BK148.out 2).trans rfl, (blk_cell BK148.out 3).trans rfl, (zu hw149_0 HB), (zu hw149_1 HB), (zu hw149_2 HB), (zu hw149_3 HB)⟩ (fun hHeld => ?_)
               clear hK K
               refine norm_ (a' := ?_) ?_ ?_
               rotate_left
               ·show Act.put _ (some 85) _ = _
                simp only [Act.put, List.setIfInBounds_toArray, List.set_cons_zero, List.set_cons_succ, i64_w, i32_w]
                rfl
               refine zp 13 (some 86) #[Z1, Z1, Z1, Z1, Z1, Z1, Z1, Z1, Z1, Z1, Z1, Z1, Z1, Z1, Z0] rfl rfl (any_of HT_.out (by kernel_rfl)) ?_
               refine zp 14 (some 87) #[Z1, Z1, Z1, Z1, Z1, Z1, Z1, Z1, Z1, Z1, Z1, Z1, Z1, Z1, Z1] rfl rfl (any_of HT_.out (by kernel_rfl)) ?_
               refine done_ (done_of HT_.out (by kernel_rfl)) ?_
               try go_wp2
               go_ret
               exact ⟨by first | rfl | (simp [errW_none, errW_some] <;> rfl) | (simp only [← hji63]; first | rfl | (simp [errW_none, errW_some] <;> rfl)) | (simp [*, errW_none, errW_some] <;> rfl), zw HB⟩
              rw [if_neg c67] at H
              have c67b0 : decide (0 ≤ t150) = false := decide_eq_false c67
              clear c67
              have H' := Aside0.mk H
              clear H
              have p147 : 0 ≤ (x68_3 : Int) := of_decide_eq_true zj
              have q147 : x68_3 < (l0_5.length : Int) := of_decide_eq_true zj
              obtain ⟨ad147, e147, hx147_0, hx147_1, hx147_2, hx147_3⟩ := at_T67 HR0_5.out x68_3 p147 q147
              cases e147
              replace hx147_0 := zu hx147_0 HB
              replace hx147_1 := zu hx147_1 HB
              replace hx147_2 := zu hx147_2 HB
              replace hx147_3 := zu hx147_3 HB
              replace p147 := eq_true p147
              replace q147 := eq_true q147
              try go_wp2_with (first | ((with_reducible refine gate_dst (N := 7) rfl ?_); refine zx 7 #[.int .i64 0, .int .i64 0, .int .i64 0, .int .i64 0] 67 ?_; intro gb148 hg w74 hbox hb; have n0_ := zD BK138 hb; have n1_ := zY HB hb; have n2_ := Aside0.mk (hbox); have n3_ := zS hg HB; have n4_ := zS hg HB; have n5_ := zN hg BK138; have n6_ := zM hg BK138; clear BK138; clear HB; have BK138 := n0_; have HB := n1_; have BK148 := n2_; have GW148 := n3_; have GE148 := n4_; have NB138_148 := n5_; have NB148_138 := n6_; clear n0_ n1_ n2_ n3_ n4_ n5_ n6_; clear hb hbox hg; have hnb75 := NB148_138.out; have hnc75 := NB138_148.out; obtain ⟨hcz76_0, hcz76_1, hcz76_2, hcz76_3, hfz76_0, hfz76_1, hfz76_2, hfz76_3⟩ := zk4 BK148))
              have n0_ : Aside0 (((((w74.setCell ⟨gb148, 0, none⟩ (.int .i64 ((rd_T67 l0_5 x68_3).f0.f0))).setCell ⟨gb148, 1, none⟩ (.int .i64 ((rd_T67 l0_5 x68_3).f0.f1))).setCell ⟨gb148, 2, none⟩ (.int .i64 ((rd_T67 l0_5 x68_3).f1.f0))).setCell ⟨gb148, 3, none⟩ (.int .i64 ((rd_T67 l0_5 x68_3).f1.f1))).heap[gb138]? = some (.cells #[.slice A0_0 l0_0.length c0_0, .slice A0_1 l0_1.length c0_1, .int .i64 a0_2, .int .i64 a0_3, .int .i64 a0_4, .slice (some ad147) l0_5.length c0_5] 30 (0, 0))) := ⟨zv BK138⟩
              have n1_ : Aside0 (((((w74.setCell ⟨gb148, 0, none⟩ (.int .i64 ((rd_T67 l0_5 x68_3).f0.f0))).setCell ⟨gb148, 1, none⟩ (.int .i64 ((rd_T67 l0_5 x68_3).f0.f1))).setCell ⟨gb148, 2, none⟩ (.int .i64 ((rd_T67 l0_5 x68_3).f1.f0))).setCell ⟨gb148, 3, none⟩ (.int .i64 ((rd_T67 l0_5 x68_3).f1.f1))).heap[gb148]? = some (.cells #[.int .i64 ((rd_T67 l0_5 x68_3).f0.f0), .int .i64 ((rd_T67 l0_5 x68_3).f0.f1), .int .i64 ((rd_T67 l0_5 x68_3).f1.f0), .int .i64 ((rd_T67 l0_5 x68_3).f1.f1)] 67 (0, 0))) := ⟨by refine zQ ?_; refine blk_put (cs := #[.int .i64 ((rd_T67 l0_5 x68_3).f0.f0), .int .i64 ((rd_T67 l0_5 x68_3).f0.f1), .int .i64 ((rd_T67 l0_5 x68_3).f1.f0), .int .i64 0]) ?_ 3 _ rfl; refine zQ ?_; refine blk_put (cs := #[.int .i64 ((rd_T67 l0_5 x68_3).f0.f0), .int .i64 ((rd_T67 l0_5 x68_3).f0.f1), .int .i64 0, .int .i64 0]) ?_ 2 _ rfl; refine zQ ?_; refine blk_put (cs := #[.int .i64 ((rd_T67 l0_5 x68_3).f0.f0), .int .i64 0, .int .i64 0, .int .i64 0]) ?_ 1 _ rfl; refine zQ ?_; refine blk_put (cs := #[.int .i64 0, .int .i64 0, .int .i64 0, .int .i64 0]) ?_ 0 _ rfl; (with_reducible repeat (first | refine blk_drewN ?_ _ | refine blk_drew ?_ | refine blk_alloc ?_ _)); exact BK148.out⟩
              have n2_ : Aside0 (Below w.heap.size w ((((w74.setCell ⟨gb148, 0, none⟩ (.int .i64 ((rd_T67 l0_5 x68_3).f0.f0))).setCell ⟨gb148, 1, none⟩ (.int .i64 ((rd_T67 l0_5 x68_3).f0.f1))).setCell ⟨gb148, 2, none⟩ (.int .i64 ((rd_T67 l0_5 x68_3).f1.f0))).setCell ⟨gb148, 3, none⟩ (.int .i64 ((rd_T67 l0_5 x68_3).f1.f1)))) := ⟨zw HB⟩
              (try clear BK138)
              (try clear BK148)
              (try clear HB)
              generalize ((((w74.setCell ⟨gb148, 0, none⟩ (.int .i64 ((rd_T67 l0_5 x68_3).f0.f0))).setCell ⟨gb148, 1, none⟩ (.int .i64 ((rd_T67 l0_5 x68_3).f0.f1))).setCell ⟨gb148, 2, none⟩ (.int .i64 ((rd_T67 l0_5 x68_3).f1.f0))).setCell ⟨gb148, 3, none⟩ (.int .i64 ((rd_T67 l0_5 x68_3).f1.f1))) = w77 at n0_ n1_ n2_ ⊢
              have BK138 := n0_
              have BK148 := n1_
              have HB := n2_
              clear n0_ n1_ n2_
              have n0_ := Aside0.mk (blk_drew BK138.out)
              have n1_ := Aside0.mk (blk_drew BK148.out)
              have n2_ := Aside0.mk (below_drew1 HB.out)
              clear BK138; clear BK148; clear HB
              have BK138 := n0_
              have BK148 := n1_
              have HB := n2_
              clear n0_ n1_ n2_
              have p149 : 0 ≤ ((ji63) : Int) := of_decide_eq_true zj
              have q149 : (ji63) < (l0_5.length : Int) := of_decide_eq_true zj
              obtain ⟨ad149, e149, hx149_0, hx149_1, hx149_2, hx149_3⟩ := at_T67 HR0_5.out (ji63) p149 q149
              have hw149_3 := hx149_3
              have hw149_2 := hx149_2
              have hw149_1 := hx149_1
              have hw149_0 := hx149_0
              obtain rfl : ad147 = ad149 := (by injection e149)
              replace hx149_0 := zu hx149_0 HB
              replace hx149_1 := zu hx149_1 HB
              replace hx149_2 := zu hx149_2 HB
              replace hx149_3 := zu hx149_3 HB
              replace p149 := eq_true p149
              replace q149 := eq_true q149
              refine start_ (n := 15) (S := fun w' => w'.cell? ⟨gb138, 0, none⟩ = some (.slice A0_0 l0_0.length c0_0) ∧ w'.cell? ⟨gb138, 1, none⟩ = some (.slice A0_1 l0_1.length c0_1) ∧ w'.cell? ⟨gb138, 2, none⟩ = some (.int .i64 a0_2) ∧ w'.cell? ⟨gb138, 3, none⟩ = some (.int .i64 a0_3) ∧ w'.cell? ⟨gb138, 4, none⟩ = some (.int .i64 a0_4) ∧ w'.cell? ⟨gb138, 5, none⟩ = some (.slice (some ad147) l0_5.length c0_5) ∧ w'.cell? ⟨gb148, 0, none⟩ = some (.int .i64 ((rd_T67 l0_5 x68_3).f0.f0)) ∧ w'.cell? ⟨gb148, 1, none⟩ = some (.int .i64 ((rd_T67 l0_5 x68_3).f0.f1)) ∧ w'.cell? ⟨gb148, 2, none⟩ = some (.int .i64 ((rd_T67 l0_5 x68_3).f1.f0)) ∧ w'.cell? ⟨gb148, 3, none⟩ = some (.int .i64 ((rd_T67 l0_5 x68_3).f1.f1)) ∧ w'.cell? (ad147.add (((ji63)).toNat * 4)) = some (.int .i64 ((rd_T67 l0_5 (ji63)).f0.f0)) ∧ w'.cell? ⟨(ad147.add (((ji63)).toNat * 4)).block, (ad147.add (((ji63)).toNat * 4)).off + 1, none⟩ = some (.int .i64 ((rd_T67 l0_5 (ji63)).f0.f1)) ∧ w'.cell? ⟨(ad147.add (((ji63)).toNat * 4)).block, (ad147.add (((ji63)).toNat * 4)).off + 2, none⟩ = some (.int .i64 ((rd_T67 l0_5 (ji63)).f1.f0)) ∧ w'.cell? ⟨(ad147.add (((ji63)).toNat * 4)).block, (ad147.add (((ji63)).toNat * 4)).off + 3, none⟩ = some (.int .i64 ((rd_T67 l0_5 (ji63)).f1.f1))) (ds := []) #[Z0, Z0, Z0, Z0, Z0, Z0, Z0, Z0, Z0, Z0, Z0, Z0, Z0, Z0, Z0] (by kernel_rfl) rfl rfl ⟨(blk_cell BK138.out 0).trans rfl, (blk_cell BK138.out 1).trans rfl, (blk_cell BK138.out 2).trans rfl, (blk_cell BK138.out 3).trans rfl, (blk_cell BK138.out 4).trans rfl, (blk_cell BK138.out 5).trans rfl, (blk_cell BK148.out 0).trans rfl, (blk_cell BK148.out 1).trans rfl, (blk_cell BK148.out 2).trans rfl, (blk_cell BK148.out 3).trans rfl, (zu hw149_0 HB), (zu hw149_1 HB), (zu hw149_2 HB), (zu hw149_3 HB)⟩ (fun hHeld => ?_); refine with_tabW wear_Check.tab23 wear_Check.bits23 (fun HT_ HW_ => ?_)
              generalize w77.drew = w78 at BK138 BK148 HB hx149_0 hx149_1 hx149_2 hx149_3 hHeld ⊢
              refine zp 0 (some 73) #[Z1, Z0, Z0, Z0, Z0, Z0, Z0, Z0, Z0, Z0, Z0, Z0, Z0, Z0, Z0] rfl rfl (any_of HT_.out (by kernel_rfl)) ?_
              refine zp 1 (some 74) #[Z1, Z1, Z0, Z0, Z0, Z0, Z0, Z0, Z0, Z0, Z0, Z0, Z0, Z0, Z0] rfl rfl (any_of HT_.out (by kernel_rfl)) ?_
              refine zp 2 (some 75) #[Z1, Z1, Z1, Z0, Z0, Z0, Z0, Z0, Z0, Z0, Z0, Z0, Z0, Z0, Z0] rfl rfl (any_of HT_.out (by kernel_rfl)) ?_
              refine zp 3 (some 76) #[Z1, Z1, Z1, Z1, Z0, Z0, Z0, Z0, Z0, Z0, Z0, Z0, Z0, Z0, Z0] rfl rfl (any_of HT_.out (by kernel_rfl)) ?_
              refine zp 5 (some 78) #[Z1, Z1, Z1, Z1, Z0, Z1, Z0, Z0, Z0, Z0, Z0, Z0, Z0, Z0, Z0] rfl rfl (any_of HT_.out (by kernel_rfl)) ?_
              refine zp 6 (some 79) #[Z1, Z1, Z1, Z1, Z0, Z1, Z1, Z0, Z0, Z0, Z0, Z0, Z0, Z0, Z0] rfl rfl (any_of HT_.out (by kernel_rfl)) ?_
              refine zp 10 (some 83) #[Z1, Z1, Z1, Z1, Z0, Z1, Z1, Z0, Z0, Z0, Z1, Z0, Z0, Z0, Z0] rfl rfl (any_of HT_.out (by kernel_rfl)) ?_
              refine take_ (i := 4) (N := some 77) (v := ?_) (a' := ?_) #[Z1, Z1, Z1, Z1, Z1, Z1, Z1, Z0, Z0, Z0, Z1, Z0, Z0, Z0, Z0] rfl rfl (take_ofW HT_.out HW_.out (by kernel_rfl)) (fun _ _ _ h => h) (Or.inl ⟨by rfl, ?_⟩) hHeld ?_ ?_
              rotate_left; · rintro w' ⟨s0, s1, s2, s3, s4, s5, s6, s7, s8, s9, s10, s11, s12, s13⟩; go_simp; with_reducible rfl
              rotate_left; · simp only [Act.put, List.setIfInBounds_toArray, List.set_cons_zero, List.set_cons_succ, i64_w, i32_w]; rfl
              refine zp 7 (some 80) #[Z1, Z1, Z1, Z1, Z1, Z1, Z1, Z1, Z0, Z0, Z1, Z0, Z0, Z0, Z0] rfl rfl (any_of HT_.out (by kernel_rfl)) ?_
              refine zp 8 (some 81) #[Z1, Z1, Z1, Z1, Z1, Z1, Z1, Z1, Z1, Z0, Z1, Z0, Z0, Z0, Z0] rfl rfl (any_of HT_.out (by kernel_rfl)) ?_
              refine take_ (i := 9) (N := some 82) (v := ?_) (a' := ?_) #[Z1, Z1, Z1, Z1, Z1, Z1, Z1, Z1, Z1, Z1, Z1, Z0, Z0, Z0, Z0] rfl rfl (take_ofW HT_.out HW_.out (by kernel_rfl)) (fun _ _ _ h => h) (Or.inl ⟨by rfl, ?_⟩) hHeld ?_ ?_
              rotate_left; · rintro w' ⟨s0, s1, s2, s3, s4, s5, s6, s7, s8, s9, s10, s11, s12, s13⟩; go_simp; with_reducible rfl
              rotate_left; · simp only [Act.put, List.setIfInBounds_toArray, List.set_cons_zero, List.set_cons_succ, i64_w, i32_w]; rfl
              refine take_ (i := 11) (N := some 84) (v := ?_) (a' := ?_) #[Z1, Z1, Z1, Z1, Z1, Z1, Z1, Z1, Z1, Z1, Z1, Z1, Z0, Z0, Z0] rfl rfl (take_ofW HT_.out HW_.out (by kernel_rfl)) (fun _ _ _ h => h) (Or.inl ⟨by rfl, ?_⟩) hHeld ?_ ?_
              rotate_left; · rintro w' ⟨s0, s1, s2, s3, s4, s5, s6, s7, s8, s9, s10, s11, s12, s13⟩; go_simp; with_reducible rfl
              rotate_left; · simp only [Act.put, List.setIfInBounds_toArray, List.set_cons_zero, List.set_cons_succ, i64_w, i32_w]; rfl
              refine one_ (i := 12) (N := some 85) #[Z1, Z1, Z1, Z1, Z1, Z1, Z1, Z1, Z1, Z1, Z1, Z1, Z1, Z0, Z0] rfl rfl (one_of HT_.out (by kernel_rfl)) (by decide) (fun K hK => ?_)
              refine goes_ Try.func26 (by kernel_rfl) rfl #[.agg #[.int .i64 ((rd_T67 l0_5 (ji63)).f0.f0), .int .i64 ((rd_T67 l0_5 (ji63)).f0.f1)], .agg #[.int .i64 ((rd_T67 l0_5 x68_3).f0.f0), .int .i64 ((rd_T67 l0_5 x68_3).f0.f1)]] (by rfl) rfl rfl (by (try simp only [List.map_toArray, List.map_cons, List.map_nil]); first | done | (simp only [hji63]; rfl) | rfl | (simp only [List.length_drop, List.length_take]; rfl)) ?_
              with_reducible refine (wear_order.calls k3 ((rd_T67 l0_5 (ji63)).f0.f0) ((rd_T67 l0_5 (ji63)).f0.f1) ((rd_T67 l0_5 x68_3).f0.f0) ((rd_T67 l0_5 x68_3).f0.f1) t150 _ A66.out).mono ?_
              rintro e w79 ⟨rfl, hb⟩
              refine ⟨_, rfl, ?_⟩
              have n0_ := zD BK138 hb
              have n1_ := zD BK148 hb
              have n2_ := zY HB hb
              clear BK138; clear BK148; clear HB
              have BK138 := n0_
              have BK148 := n1_
              have HB := n2_
              clear n0_ n1_ n2_
              (try clear hb)
              (try clear hb2)
              (try clear hk)
              (try clear hi)
              refine hK.out _ _ ⟨(blk_cell BK138.out 0).trans rfl, (blk_cell BK138.out 1).trans rfl, (blk_cell BK138.out 2).trans rfl, (blk_cell BK138.out 3).trans rfl, (blk_cell BK138.out 4).trans rfl, (blk_cell BK138.out 5).trans rfl, (blk_cell BK148.out 0).trans rfl, (blk_cell BK148.out 1).trans rfl, (blk_cell BK148.out 2).trans rfl, (blk_cell BK148.out 3).trans rfl, (zu hw149_0 HB), (zu hw149_1 HB), (zu hw149_2 HB), (zu hw149_3 HB)⟩ (fun hHeld => ?_)
              clear hK K
              refine norm_ (a' := ?_) ?_ ?_
              rotate_left
              ·show Act.put _ (some 85) _ = _
               simp only [Act.put, List.setIfInBounds_toArray, List.set_cons_zero, List.set_cons_succ, i64_w, i32_w]
               rfl
              refine zp 13 (some 86) #[Z1, Z1, Z1, Z1, Z1, Z1, Z1, Z1, Z1, Z1, Z1, Z1, Z1, Z1, Z0] rfl rfl (any_of HT_.out (by kernel_rfl)) ?_
              refine zp 14 (some 87) #[Z1, Z1, Z1, Z1, Z1, Z1, Z1, Z1, Z1, Z1, Z1, Z1, Z1, Z1, Z1] rfl rfl (any_of HT_.out (by kernel_rfl)) ?_
              refine done_ (done_of HT_.out (by kernel_rfl)) ?_
              try go_wp2
              go_roundg k3
              case measure => have := HJ15.out; have := HK2.out; have := HK3.out; omega
              case rel => exact ⟨(wrap64 (x68_3 + 1)), zq, H', ⟨by have := HJ15.out; have := HK2.out; have := HK3.out; omega⟩, ⟨zb BK138⟩, ⟨zw HB⟩⟩
             rw [if_neg c65] at H
             exact absurd H (by simp)
            rw [if_neg c64] at H
            exact absurd H (by simp)
           rw [if_neg c62] at H
           have c62b0 : decide (0 < x68_3) = false := decide_eq_false c62
           clear c62
           have H' := Aside0.mk H
           clear H
           have p147 : 0 ≤ (x68_3 : Int) := of_decide_eq_true zj
           have q147 : x68_3 < (l0_5.length : Int) := of_decide_eq_true zj
           obtain ⟨ad147, e147, hx147_0, hx147_1, hx147_2, hx147_3⟩ := at_T67 HR0_5.out x68_3 p147 q147
           cases e147
           replace hx147_0 := zu hx147_0 HB
           replace hx147_1 := zu hx147_1 HB
           replace hx147_2 := zu hx147_2 HB
           replace hx147_3 := zu hx147_3 HB
           replace p147 := eq_true p147
           replace q147 := eq_true q147
           try go_wp2_with (first | ((with_reducible refine gate_dst (N := 7) rfl ?_); refine zx 7 #[.int .i64 0, .int .i64 0, .int .i64 0, .int .i64 0] 67 ?_; intro gb148 hg w80 hbox hb; have n0_ := zD BK138 hb; have n1_ := zY HB hb; have n2_ := Aside0.mk (hbox); have n3_ := zS hg HB; have n4_ := zS hg HB; have n5_ := zN hg BK138; have n6_ := zM hg BK138; clear BK138; clear HB; have BK138 := n0_; have HB := n1_; have BK148 := n2_; have GW148 := n3_; have GE148 := n4_; have NB138_148 := n5_; have NB148_138 := n6_; clear n0_ n1_ n2_ n3_ n4_ n5_ n6_; clear hb hbox hg; have hnb81 := NB148_138.out; have hnc81 := NB138_148.out; obtain ⟨hcz82_0, hcz82_1, hcz82_2, hcz82_3, hfz82_0, hfz82_1, hfz82_2, hfz82_3⟩ := zk4 BK148))
           have n0_ : Aside0 (((((w80.setCell ⟨gb148, 0, none⟩ (.int .i64 ((rd_T67 l0_5 x68_3).f0.f0))).setCell ⟨gb148, 1, none⟩ (.int .i64 ((rd_T67 l0_5 x68_3).f0.f1))).setCell ⟨gb148, 2, none⟩ (.int .i64 ((rd_T67 l0_5 x68_3).f1.f0))).setCell ⟨gb148, 3, none⟩ (.int .i64 ((rd_T67 l0_5 x68_3).f1.f1))).heap[gb138]? = some (.cells #[.slice A0_0 l0_0.length c0_0, .slice A0_1 l0_1.length c0_1, .int .i64 a0_2, .int .i64 a0_3, .int .i64 a0_4, .slice (some ad147) l0_5.length c0_5] 30 (0, 0))) := ⟨zv BK138⟩
           have n1_ : Aside0 (((((w80.setCell ⟨gb148, 0, none⟩ (.int .i64 ((rd_T67 l0_5 x68_3).f0.f0))).setCell ⟨gb148, 1, none⟩ (.int .i64 ((rd_T67 l0_5 x68_3).f0.f1))).setCell ⟨gb148, 2, none⟩ (.int .i64 ((rd_T67 l0_5 x68_3).f1.f0))).setCell ⟨gb148, 3, none⟩ (.int .i64 ((rd_T67 l0_5 x68_3).f1.f1))).heap[gb148]? = some (.cells #[.int .i64 ((rd_T67 l0_5 x68_3).f0.f0), .int .i64 ((rd_T67 l0_5 x68_3).f0.f1), .int .i64 ((rd_T67 l0_5 x68_3).f1.f0), .int .i64 ((rd_T67 l0_5 x68_3).f1.f1)] 67 (0, 0))) := ⟨by refine zQ ?_; refine blk_put (cs := #[.int .i64 ((rd_T67 l0_5 x68_3).f0.f0), .int .i64 ((rd_T67 l0_5 x68_3).f0.f1), .int .i64 ((rd_T67 l0_5 x68_3).f1.f0), .int .i64 0]) ?_ 3 _ rfl; refine zQ ?_; refine blk_put (cs := #[.int .i64 ((rd_T67 l0_5 x68_3).f0.f0), .int .i64 ((rd_T67 l0_5 x68_3).f0.f1), .int .i64 0, .int .i64 0]) ?_ 2 _ rfl; refine zQ ?_; refine blk_put (cs := #[.int .i64 ((rd_T67 l0_5 x68_3).f0.f0), .int .i64 0, .int .i64 0, .int .i64 0]) ?_ 1 _ rfl; refine zQ ?_; refine blk_put (cs := #[.int .i64 0, .int .i64 0, .int .i64 0, .int .i64 0]) ?_ 0 _ rfl; (with_reducible repeat (first | refine blk_drewN ?_ _ | refine blk_drew ?_ | refine blk_alloc ?_ _)); exact BK148.out⟩
           have n2_ : Aside0 (Below w.heap.size w ((((w80.setCell ⟨gb148, 0, none⟩ (.int .i64 ((rd_T67 l0_5 x68_3).f0.f0))).setCell ⟨gb148, 1, none⟩ (.int .i64 ((rd_T67 l0_5 x68_3).f0.f1))).setCell ⟨gb148, 2, none⟩ (.int .i64 ((rd_T67 l0_5 x68_3).f1.f0))).setCell ⟨gb148, 3, none⟩ (.int .i64 ((rd_T67 l0_5 x68_3).f1.f1)))) := ⟨zw HB⟩
           (try clear BK138)
           (try clear BK148)
           (try clear HB)
           generalize ((((w80.setCell ⟨gb148, 0, none⟩ (.int .i64 ((rd_T67 l0_5 x68_3).f0.f0))).setCell ⟨gb148, 1, none⟩ (.int .i64 ((rd_T67 l0_5 x68_3).f0.f1))).setCell ⟨gb148, 2, none⟩ (.int .i64 ((rd_T67 l0_5 x68_3).f1.f0))).setCell ⟨gb148, 3, none⟩ (.int .i64 ((rd_T67 l0_5 x68_3).f1.f1))) = w83 at n0_ n1_ n2_ ⊢
           have BK138 := n0_
           have BK148 := n1_
           have HB := n2_
           clear n0_ n1_ n2_
           have n0_ := Aside0.mk (blk_drew BK138.out)
           have n1_ := Aside0.mk (blk_drew BK148.out)
           have n2_ := Aside0.mk (below_drew1 HB.out)
           clear BK138; clear BK148; clear HB
           have BK138 := n0_
           have BK148 := n1_
           have HB := n2_
           clear n0_ n1_ n2_
           refine start_ (n := 15) (S := fun w' => True) (ds := []) #[Z0, Z0, Z0, Z0, Z0, Z0, Z0, Z0, Z0, Z0, Z0, Z0, Z0, Z0, Z0] (by kernel_rfl) rfl rfl trivial (fun hHeld => ?_); refine with_tabW wear_Check.tab23 wear_Check.bits23 (fun HT_ HW_ => ?_)
           generalize w83.drew = w84 at BK138 BK148 HB hHeld ⊢
           refine zp 0 (some 73) #[Z1, Z0, Z0, Z0, Z0, Z0, Z0, Z0, Z0, Z0, Z0, Z0, Z0, Z0, Z0] rfl rfl (any_of HT_.out (by kernel_rfl)) ?_
           refine zp 1 (some 74) #[Z1, Z1, Z0, Z0, Z0, Z0, Z0, Z0, Z0, Z0, Z0, Z0, Z0, Z0, Z0] rfl rfl (any_of HT_.out (by kernel_rfl)) ?_
           refine zp 2 (some 75) #[Z1, Z1, Z1, Z0, Z0, Z0, Z0, Z0, Z0, Z0, Z0, Z0, Z0, Z0, Z0] rfl rfl (any_of HT_.out (by kernel_rfl)) ?_
           refine pure_ (i := 3) (N := some 76) (v := undef) (a' := ?_) #[Z1, Z1, Z1, Z1, Z0, Z0, Z0, Z0, Z0, Z0, Z0, Z0, Z0, Z0, Z0] rfl rfl (any_of HT_.out (by kernel_rfl)) (fun _ _ _ h => h) (Or.inr ⟨by rfl, rfl⟩) ?_ ?_
           rotate_left
           ·simp only [Act.put, List.setIfInBounds_toArray, List.set_cons_zero, List.set_cons_succ, i64_w, i32_w]
            rfl
           refine pure_ (i := 4) (N := some 77) (v := undef) (a' := ?_) #[Z1, Z1, Z1, Z1, Z1, Z0, Z0, Z0, Z0, Z0, Z0, Z0, Z0, Z0, Z0] rfl rfl (any_of HT_.out (by kernel_rfl)) (fun _ _ _ h => h) (Or.inr ⟨by rfl, rfl⟩) ?_ ?_
           rotate_left
           ·simp only [Act.put, List.setIfInBounds_toArray, List.set_cons_zero, List.set_cons_succ, i64_w, i32_w]
            rfl
           refine pure_ (i := 5) (N := some 78) (v := undef) (a' := ?_) #[Z1, Z1, Z1, Z1, Z1, Z1, Z0, Z0, Z0, Z0, Z0, Z0, Z0, Z0, Z0] rfl rfl (any_of HT_.out (by kernel_rfl)) (fun _ _ _ h => h) (Or.inr ⟨by rfl, rfl⟩) ?_ ?_
           rotate_left
           ·simp only [Act.put, List.setIfInBounds_toArray, List.set_cons_zero, List.set_cons_succ, i64_w, i32_w]
            rfl
           refine pure_ (i := 6) (N := some 79) (v := undef) (a' := ?_) #[Z1, Z1, Z1, Z1, Z1, Z1, Z1, Z0, Z0, Z0, Z0, Z0, Z0, Z0, Z0] rfl rfl (any_of HT_.out (by kernel_rfl)) (fun _ _ _ h => h) (Or.inr ⟨by rfl, rfl⟩) ?_ ?_
           rotate_left
           ·simp only [Act.put, List.setIfInBounds_toArray, List.set_cons_zero, List.set_cons_succ, i64_w, i32_w]
            rfl
           refine pure_ (i := 7) (N := some 80) (v := undef) (a' := ?_) #[Z1, Z1, Z1, Z1, Z1, Z1, Z1, Z1, Z0, Z0, Z0, Z0, Z0, Z0, Z0] rfl rfl (any_of HT_.out (by kernel_rfl)) (fun _ _ _ h => h) (Or.inr ⟨by rfl, rfl⟩) ?_ ?_
           rotate_left
           ·simp only [Act.put, List.setIfInBounds_toArray, List.set_cons_zero, List.set_cons_succ, i64_w, i32_w]
            rfl
           refine pure_ (i := 8) (N := some 81) (v := undef) (a' := ?_) #[Z1, Z1, Z1, Z1, Z1, Z1, Z1, Z1, Z1, Z0, Z0, Z0, Z0, Z0, Z0] rfl rfl (any_of HT_.out (by kernel_rfl)) (fun _ _ _ h => h) (Or.inr ⟨by rfl, rfl⟩) ?_ ?_
           rotate_left
           ·simp only [Act.put, List.setIfInBounds_toArray, List.set_cons_zero, List.set_cons_succ, i64_w, i32_w]
            rfl
           refine pure_ (i := 9) (N := some 82) (v := undef) (a' := ?_) #[Z1, Z1, Z1, Z1, Z1, Z1, Z1, Z1, Z1, Z1, Z0, Z0, Z0, Z0, Z0] rfl rfl (any_of HT_.out (by kernel_rfl)) (fun _ _ _ h => h) (Or.inr ⟨by rfl, rfl⟩) ?_ ?_
           rotate_left
           ·simp only [Act.put, List.setIfInBounds_toArray, List.set_cons_zero, List.set_cons_succ, i64_w, i32_w]
            rfl
           refine pure_ (i := 10) (N := some 83) (v := undef) (a' := ?_) #[Z1, Z1, Z1, Z1, Z1, Z1, Z1, Z1, Z1, Z1, Z1, Z0, Z0, Z0, Z0] rfl rfl (any_of HT_.out (by kernel_rfl)) (fun _ _ _ h => h) (Or.inr ⟨by rfl, rfl⟩) ?_ ?_
           rotate_left
           ·simp only [Act.put, List.setIfInBounds_toArray, List.set_cons_zero, List.set_cons_succ, i64_w, i32_w]
            rfl
           refine pure_ (i := 11) (N := some 84) (v := undef) (a' := ?_) #[Z1, Z1, Z1, Z1, Z1, Z1, Z1, Z1, Z1, Z1, Z1, Z1, Z0, Z0, Z0] rfl rfl (any_of HT_.out (by kernel_rfl)) (fun _ _ _ h => h) (Or.inr ⟨by rfl, rfl⟩) ?_ ?_
           rotate_left
           ·simp only [Act.put, List.setIfInBounds_toArray, List.set_cons_zero, List.set_cons_succ, i64_w, i32_w]
            rfl
           refine pure_ (i := 12) (N := some 85) (v := undef) (a' := ?_) #[Z1, Z1, Z1, Z1, Z1, Z1, Z1, Z1, Z1, Z1, Z1, Z1, Z1, Z0, Z0] rfl rfl (any_of HT_.out (by kernel_rfl)) (fun _ _ _ h => h) (Or.inr ⟨by rfl, rfl⟩) ?_ ?_
           rotate_left
           ·simp only [Act.put, List.setIfInBounds_toArray, List.set_cons_zero, List.set_cons_succ, i64_w, i32_w]
            rfl
           refine pure_ (i := 13) (N := some 86) (v := undef) (a' := ?_) #[Z1, Z1, Z1, Z1, Z1, Z1, Z1, Z1, Z1, Z1, Z1, Z1, Z1, Z1, Z0] rfl rfl (any_of HT_.out (by kernel_rfl)) (fun _ _ _ h => h) (Or.inr ⟨by rfl, rfl⟩) ?_ ?_
           rotate_left
           ·simp only [Act.put, List.setIfInBounds_toArray, List.set_cons_zero, List.set_cons_succ, i64_w, i32_w]
            rfl
           refine zp 14 (some 87) #[Z1, Z1, Z1, Z1, Z1, Z1, Z1, Z1, Z1, Z1, Z1, Z1, Z1, Z1, Z1] rfl rfl (any_of HT_.out (by kernel_rfl)) ?_
           refine done_ (done_of HT_.out (by kernel_rfl)) ?_
           try go_wp2
           go_roundg k3
           case measure => have := HJ15.out; have := HK2.out; have := HK3.out; omega
           case rel => exact ⟨(wrap64 (x68_3 + 1)), zq, H', ⟨by have := HJ15.out; have := HK2.out; have := HK3.out; omega⟩, ⟨zb BK138⟩, ⟨zw HB⟩⟩
          rw [if_neg c61] at H
          exact absurd H (by simp)
         rw [if_neg c60] at H
         exact absurd H (by simp)
        rw [if_neg c59] at H
        have c59b0 : decide (x68_3 < (l0_5.length : Int)) = false := decide_eq_false c59
        clear c59
        have H' := Aside0.mk H
        clear H
        obtain ⟨hcz85_0, hcz85_1, hcz85_2, hcz85_3, hcz85_4, hcz85_5, hfz85_0, hfz85_1, hfz85_2, hfz85_3, hfz85_4, hfz85_5⟩ := zk6 BK138
        go_wp2
        go_loopg [92] k3 (fun kq v92 w' => ∃ (x92_4 : Int), v92 = .int .i64 x92_4 ∧ Aside0 (wear_Check.l2 kq l0_5 (l0_5.length : Int) x92_4 l0_0 l0_1 a0_2 a0_3 a0_4 l0_5 = some r) ∧ Aside0 (kq ≤ k3) ∧ Aside0 (w'.heap[gb138]? = some (.cells #[(.slice A0_0 l0_0.length c0_0), (.slice A0_1 l0_1.length c0_1), .int .i64 a0_2, .int .i64 a0_3, .int .i64 a0_4, (.slice A0_5 l0_5.length c0_5)] 30 (0, 0))) ∧ Aside0 (Below w.heap.size w w'))
        case atStart => exact ⟨(0), zq, H', ⟨Nat.le_refl _⟩, ⟨zb BK138⟩, ⟨zw HB⟩⟩
        case round =>
         clear H'; try clear p1; try clear q1; try clear hx1; try clear c2; try clear p2; try clear c5; try clear c6; try clear p6; try clear c7; try clear c8; try clear p14; try clear q14; try clear hx14; try clear c26; try clear c59; try clear c59b0; try clear c60; try clear c60b0; try clear c61; try clear c61b0; try clear c62; try clear c62b0; try clear c64; try clear c64b0; try clear p64; try clear c65; try clear c65b0; try clear c67; try clear c67b0; try clear c69; try clear c75; try clear c81; try clear hcz70_0 hcz70_1 hcz70_2 hcz70_3; try clear hcz76_0 hcz76_1 hcz76_2 hcz76_3; try clear hcz82_0 hcz82_1 hcz82_2 hcz82_3; try clear hcz85_0 hcz85_1 hcz85_2 hcz85_3 hcz85_4 hcz85_5; try clear hfz58_5; try clear hfz6_0 hfz6_1 hfz6_2 hfz6_3 hfz6_4 hfz6_5; try clear hfz70_0 hfz70_1 hfz70_2 hfz70_3; try clear hfz76_0 hfz76_1 hfz76_2 hfz76_3; try clear hfz82_0 hfz82_1 hfz82_2 hfz82_3; try clear hfz85_0 hfz85_1 hfz85_2 hfz85_3 hfz85_4 hfz85_5; try clear hfz8_0 hfz8_1 hfz8_2 hfz8_3 hfz8_4 hfz8_5; try clear hx143_0; try clear hx143_1; try clear hx143_2; try clear hx143_3; try clear hx147_0; try clear hx147_1; try clear hx147_2; try clear hx147_3; try clear hx149_0; try clear hx149_1; try clear hx149_2; try clear hx149_3; try clear p143; try clear p147; try clear p149; try clear p2; try clear q143; try clear q147; try clear q149
         obtain ⟨x92_4, rfl, HA, HK4, BK138, HB⟩ := hrel
         cases gk with
         | zero => exact absurd HA.out (by simp [wear_Check.l2])
         | succ k4 =>
          have H := HA.out
          clear HA
          simp only [wear_Check.l2] at H
          by_cases c86 : x92_4 < (l0_5.length : Int)
          ·rw [if_pos c86] at H
           have c86b0 : decide (x92_4 < (l0_5.length : Int)) = true := decide_eq_true c86
           clear c86
           by_cases c87 : 0 ≤ x92_4
           ·rw [if_pos c87] at H
            have c87b0 : decide (0 ≤ x92_4) = true := decide_eq_true c87
            clear c87
            by_cases c88 : x92_4 < (l0_5.length : Int)
            ·rw [if_pos c88] at H
             have c88b0 : decide (x92_4 < (l0_5.length : Int)) = true := decide_eq_true c88
             clear c88
             replace H := Option.bind_eq_some_iff.mp H
             obtain ⟨⟨t153, t154⟩, A890, H⟩ := H
             replace H : (if t153 > t154 then (some 10) else (wear_Check.l2 k4 l0_5 (l0_5.length : Int) (wrap64 (x92_4 + 1)) l0_0 l0_1 a0_2 a0_3 a0_4 l0_5)) = some r := H
             have A89 := Aside0.mk A890
             clear A890
             by_cases c90 : t153 > t154
             ·rw [if_pos c90] at H
              have c90b0 : decide (t154 < t153) = true := decide_eq_true c90
              clear c90
              obtain rfl := Option.some.inj H
              have p151 : 0 ≤ (x92_4 : Int) := of_decide_eq_true zj
              have q151 : x92_4 < (l0_5.length : Int) := of_decide_eq_true zj
              obtain ⟨ad151, e151, hx151_0, hx151_1, hx151_2, hx151_3⟩ := at_T67 HR0_5.out x92_4 p151 q151
              cases e151
              replace hx151_0 := zu hx151_0 HB
              replace hx151_1 := zu hx151_1 HB
              replace hx151_2 := zu hx151_2 HB
              replace hx151_3 := zu hx151_3 HB
              replace p151 := eq_true p151
              replace q151 := eq_true q151
              go_wp2_with (first | ((with_reducible refine gate_dst (N := 9) rfl ?_); refine zx 9 #[.int .i64 0, .int .i64 0, .int .i64 0, .int .i64 0] 67 ?_; intro gb152 hg w91 hbox hb; have n0_ := zD BK138 hb; have n1_ := zY HB hb; have n2_ := Aside0.mk (hbox); have n3_ := zS hg HB; have n4_ := zS hg HB; have n5_ := zN hg BK138; have n6_ := zM hg BK138; clear BK138; clear HB; have BK138 := n0_; have HB := n1_; have BK152 := n2_; have GW152 := n3_; have GE152 := n4_; have NB138_152 := n5_; have NB152_138 := n6_; clear n0_ n1_ n2_ n3_ n4_ n5_ n6_; clear hb hbox hg; have hnb92 := NB152_138.out; have hnc92 := NB138_152.out; obtain ⟨hcz93_0, hcz93_1, hcz93_2, hcz93_3, hfz93_0, hfz93_1, hfz93_2, hfz93_3⟩ := zk4 BK152; obtain ⟨hcz94_0, hcz94_1, hcz94_2, hcz94_3, hcz94_4, hcz94_5, hfz94_0, hfz94_1, hfz94_2, hfz94_3, hfz94_4, hfz94_5⟩ := zk6 BK138) | ((with_reducible refine gate_callee (f := 33) rfl ?_); refine goesL_ (some 99) rfl rfl Try.func33 (by kernel_rfl) rfl #[.agg #[.slice A0_0 l0_0.length c0_0, .slice A0_1 l0_1.length c0_1, .int .i64 a0_2, .int .i64 a0_3, .int .i64 a0_4, .slice (some ad151) l0_5.length c0_5], .agg #[.int .i64 ((rd_T67 l0_5 x92_4).f0.f0), .int .i64 ((rd_T67 l0_5 x92_4).f0.f1)]] rfl za ?_; (with_reducible refine (wear_bounds.calls k4 _ _ l0_0 _ _ l0_1 a0_2 a0_3 a0_4 _ _ l0_5 ((rd_T67 l0_5 x92_4).f0.f0) ((rd_T67 l0_5 x92_4).f0.f1) t153 t154 _ ?side1 ?side2 ?side3 ?side4 ?side5 ?side6 A89.out).mono ?_); (case side1 => exact Kd.C_below HR0_0.out (zw HB)); (case side2 => exact HC0_0.out); (case side3 => exact Kd.C_below HR0_1.out (zw HB)); (case side4 => exact HC0_1.out); (case side5 => exact Kd.C_below HR0_5.out (zw HB)); (case side6 => exact HC0_5.out); rintro e w95 ⟨rfl, hb⟩; refine ⟨_, rfl, ?_⟩; have n0_ := Aside0.mk (blk_below (g := gb138) (o := .cells #[.slice A0_0 l0_0.length c0_0, .slice A0_1 l0_1.length c0_1, .int .i64 a0_2, .int .i64 a0_3, .int .i64 a0_4, .slice (some ad151) l0_5.length c0_5] 30 (0, 0)) (zv BK138) hb); have n1_ := Aside0.mk (blk_below (g := gb152) (o := .cells #[.int .i64 ((rd_T67 l0_5 x92_4).f0.f0), .int .i64 ((rd_T67 l0_5 x92_4).f0.f1), .int .i64 ((rd_T67 l0_5 x92_4).f1.f0), .int .i64 ((rd_T67 l0_5 x92_4).f1.f1)] 67 (0, 0)) (by refine zQ ?_; refine blk_put (cs := #[.int .i64 ((rd_T67 l0_5 x92_4).f0.f0), .int .i64 ((rd_T67 l0_5 x92_4).f0.f1), .int .i64 ((rd_T67 l0_5 x92_4).f1.f0), .int .i64 0]) ?_ 3 _ rfl; refine zQ ?_; refine blk_put (cs := #[.int .i64 ((rd_T67 l0_5 x92_4).f0.f0), .int .i64 ((rd_T67 l0_5 x92_4).f0.f1), .int .i64 0, .int .i64 0]) ?_ 2 _ rfl; refine zQ ?_; refine blk_put (cs := #[.int .i64 ((rd_T67 l0_5 x92_4).f0.f0), .int .i64 0, .int .i64 0, .int .i64 0]) ?_ 1 _ rfl; refine zQ ?_; refine blk_put (cs := #[.int .i64 0, .int .i64 0, .int .i64 0, .int .i64 0]) ?_ 0 _ rfl; (with_reducible repeat (first | refine blk_drewN ?_ _ | refine blk_drew ?_ | refine blk_alloc ?_ _)); exact BK152.out) hb); have n2_ := zY HB hb; clear BK138; clear BK152; clear HB; have BK138 := n0_; have BK152 := n1_; have HB := n2_; clear n0_ n1_ n2_; (try clear hb); (try clear hb2); (try clear hk); (try clear hi)) | ((with_reducible refine gate_dst (N := 10) rfl ?_); refine zx 10 #[.int .i64 0, .int .i64 0] 27 ?_; intro gb155 hg w96 hbox hb; have n0_ := zD BK138 hb; have n1_ := zD BK152 hb; have n2_ := zY HB hb; have n3_ := Aside0.mk (hbox); have n4_ := zS hg HB; have n5_ := zS hg HB; have n6_ := zN hg BK138; have n7_ := zM hg BK138; have n8_ := zN hg BK152; have n9_ := zM hg BK152; clear BK138; clear BK152; clear HB; have BK138 := n0_; have BK152 := n1_; have HB := n2_; have BK155 := n3_; have GW155 := n4_; have GE155 := n5_; have NB138_155 := n6_; have NB155_138 := n7_; have NB152_155 := n8_; have NB155_152 := n9_; clear n0_ n1_ n2_ n3_ n4_ n5_ n6_ n7_ n8_ n9_; clear hb hbox hg; have hnb97 := NB155_138.out; have hnc97 := NB138_155.out; have hnb98 := NB155_152.out; have hnc98 := NB152_155.out; obtain ⟨hcz99_0, hcz99_1, hfz99_0, hfz99_1⟩ := zk2 BK155))
              go_ret
              exact ⟨ze, zw HB⟩
             rw [if_neg c90] at H
             have c90b0 : decide (t154 < t153) = false := decide_eq_false c90
             clear c90
             have H' := Aside0.mk H
             clear H
             have p151 : 0 ≤ (x92_4 : Int) := of_decide_eq_true zj
             have q151 : x92_4 < (l0_5.length : Int) := of_decide_eq_true zj
             obtain ⟨ad151, e151, hx151_0, hx151_1, hx151_2, hx151_3⟩ := at_T67 HR0_5.out x92_4 p151 q151
             cases e151
             replace hx151_0 := zu hx151_0 HB
             replace hx151_1 := zu hx151_1 HB
             replace hx151_2 := zu hx151_2 HB
             replace hx151_3 := zu hx151_3 HB
             replace p151 := eq_true p151
             replace q151 := eq_true q151
             go_wp2_with (first | ((with_reducible refine gate_dst (N := 9) rfl ?_); refine zx 9 #[.int .i64 0, .int .i64 0, .int .i64 0, .int .i64 0] 67 ?_; intro gb152 hg w100 hbox hb; have n0_ := zD BK138 hb; have n1_ := zY HB hb; have n2_ := Aside0.mk (hbox); have n3_ := zS hg HB; have n4_ := zS hg HB; have n5_ := zN hg BK138; have n6_ := zM hg BK138; clear BK138; clear HB; have BK138 := n0_; have HB := n1_; have BK152 := n2_; have GW152 := n3_; have GE152 := n4_; have NB138_152 := n5_; have NB152_138 := n6_; clear n0_ n1_ n2_ n3_ n4_ n5_ n6_; clear hb hbox hg; have hnb101 := NB152_138.out; have hnc101 := NB138_152.out; obtain ⟨hcz102_0, hcz102_1, hcz102_2, hcz102_3, hfz102_0, hfz102_1, hfz102_2, hfz102_3⟩ := zk4 BK152; obtain ⟨hcz103_0, hcz103_1, hcz103_2, hcz103_3, hcz103_4, hcz103_5, hfz103_0, hfz103_1, hfz103_2, hfz103_3, hfz103_4, hfz103_5⟩ := zk6 BK138) | ((with_reducible refine gate_callee (f := 33) rfl ?_); refine goesL_ (some 99) rfl rfl Try.func33 (by kernel_rfl) rfl #[.agg #[.slice A0_0 l0_0.length c0_0, .slice A0_1 l0_1.length c0_1, .int .i64 a0_2, .int .i64 a0_3, .int .i64 a0_4, .slice (some ad151) l0_5.length c0_5], .agg #[.int .i64 ((rd_T67 l0_5 x92_4).f0.f0), .int .i64 ((rd_T67 l0_5 x92_4).f0.f1)]] rfl za ?_; (with_reducible refine (wear_bounds.calls k4 _ _ l0_0 _ _ l0_1 a0_2 a0_3 a0_4 _ _ l0_5 ((rd_T67 l0_5 x92_4).f0.f0) ((rd_T67 l0_5 x92_4).f0.f1) t153 t154 _ ?side1 ?side2 ?side3 ?side4 ?side5 ?side6 A89.out).mono ?_); (case side1 => exact Kd.C_below HR0_0.out (zw HB)); (case side2 => exact HC0_0.out); (case side3 => exact Kd.C_below HR0_1.out (zw HB)); (case side4 => exact HC0_1.out); (case side5 => exact Kd.C_below HR0_5.out (zw HB)); (case side6 => exact HC0_5.out); rintro e w104 ⟨rfl, hb⟩; refine ⟨_, rfl, ?_⟩; have n0_ := Aside0.mk (blk_below (g := gb138) (o := .cells #[.slice A0_0 l0_0.length c0_0, .slice A0_1 l0_1.length c0_1, .int .i64 a0_2, .int .i64 a0_3, .int .i64 a0_4, .slice (some ad151) l0_5.length c0_5] 30 (0, 0)) (zv BK138) hb); have n1_ := Aside0.mk (blk_below (g := gb152) (o := .cells #[.int .i64 ((rd_T67 l0_5 x92_4).f0.f0), .int .i64 ((rd_T67 l0_5 x92_4).f0.f1), .int .i64 ((rd_T67 l0_5 x92_4).f1.f0), .int .i64 ((rd_T67 l0_5 x92_4).f1.f1)] 67 (0, 0)) (by refine zQ ?_; refine blk_put (cs := #[.int .i64 ((rd_T67 l0_5 x92_4).f0.f0), .int .i64 ((rd_T67 l0_5 x92_4).f0.f1), .int .i64 ((rd_T67 l0_5 x92_4).f1.f0), .int .i64 0]) ?_ 3 _ rfl; refine zQ ?_; refine blk_put (cs := #[.int .i64 ((rd_T67 l0_5 x92_4).f0.f0), .int .i64 ((rd_T67 l0_5 x92_4).f0.f1), .int .i64 0, .int .i64 0]) ?_ 2 _ rfl; refine zQ ?_; refine blk_put (cs := #[.int .i64 ((rd_T67 l0_5 x92_4).f0.f0), .int .i64 0, .int .i64 0, .int .i64 0]) ?_ 1 _ rfl; refine zQ ?_; refine blk_put (cs := #[.int .i64 0, .int .i64 0, .int .i64 0, .int .i64 0]) ?_ 0 _ rfl; (with_reducible repeat (first | refine blk_drewN ?_ _ | refine blk_drew ?_ | refine blk_alloc ?_ _)); exact BK152.out) hb); have n2_ := zY HB hb; clear BK138; clear BK152; clear HB; have BK138 := n0_; have BK152 := n1_; have HB := n2_; clear n0_ n1_ n2_; (try clear hb); (try clear hb2); (try clear hk); (try clear hi)) | ((with_reducible refine gate_dst (N := 10) rfl ?_); refine zx 10 #[.int .i64 0, .int .i64 0] 27 ?_; intro gb155 hg w105 hbox hb; have n0_ := zD BK138 hb; have n1_ := zD BK152 hb; have n2_ := zY HB hb; have n3_ := Aside0.mk (hbox); have n4_ := zS hg HB; have n5_ := zS hg HB; have n6_ := zN hg BK138; have n7_ := zM hg BK138; have n8_ := zN hg BK152; have n9_ := zM hg BK152; clear BK138; clear BK152; clear HB; have BK138 := n0_; have BK152 := n1_; have HB := n2_; have BK155 := n3_; have GW155 := n4_; have GE155 := n5_; have NB138_155 := n6_; have NB155_138 := n7_; have NB152_155 := n8_; have NB155_152 := n9_; clear n0_ n1_ n2_ n3_ n4_ n5_ n6_ n7_ n8_ n9_; clear hb hbox hg; have hnb106 := NB155_138.out; have hnc106 := NB138_155.out; have hnb107 := NB155_152.out; have hnc107 := NB152_155.out; obtain ⟨hcz108_0, hcz108_1, hfz108_0, hfz108_1⟩ := zk2 BK155))
             go_roundg k4
             case measure => have := HJ15.out; have := HK2.out; have := HK3.out; have := HK4.out; omega
             case rel => exact ⟨(wrap64 (x92_4 + 1)), zq, H', ⟨by have := HJ15.out; have := HK2.out; have := HK3.out; have := HK4.out; omega⟩, ⟨zv BK138⟩, ⟨zw HB⟩⟩
            rw [if_neg c88] at H
            exact absurd H (by simp)
           rw [if_neg c87] at H
           exact absurd H (by simp)
          rw [if_neg c86] at H
          have c86b0 : decide (x92_4 < (l0_5.length : Int)) = false := decide_eq_false c86
          clear c86
          obtain rfl := Option.some.inj H
          go_wp2
          go_ret
          exact ⟨ze, zw HB⟩
 rw [if_neg c3] at H
 have c3b0 : (t139 == 0) = false := beq_eq_false_iff_ne.mpr c3
 have c3b1 : (t139 != 0) = true := bne_iff_ne.mpr c3
 obtain rfl := Option.some.inj H
 go_enter Try.func15, Try.ntmps15
 go_wp2_with (first | ((with_reducible refine gate_dst (N := 1) rfl ?_); refine zx 1 #[.slice A0_0 l0_0.length c0_0, .slice A0_1 l0_1.length c0_1, .int .i64 a0_2, .int .i64 a0_3, .int .i64 a0_4, .slice A0_5 l0_5.length c0_5] 30 ?_; intro gb138 hg w109 hbox hb; have n0_ := zY HB hb; have n1_ := Aside0.mk (hbox); have n2_ := zS hg HB; have n3_ := zS hg HB; clear HB; have HB := n0_; have BK138 := n1_; have GW138 := n2_; have GE138 := n3_; clear n0_ n1_ n2_ n3_; clear hb hbox hg; obtain ⟨hcz110_0, hcz110_1, hcz110_2, hcz110_3, hcz110_4, hcz110_5, hfz110_0, hfz110_1, hfz110_2, hfz110_3, hfz110_4, hfz110_5⟩ := zk6 BK138) | ((with_reducible refine gate_callee (f := 34) rfl ?_); refine goesL_ (some 14) rfl rfl Try.func34 (by kernel_rfl) rfl #[.slice A0_0 l0_0.length c0_0] rfl za ?_; (with_reducible refine (wear_checkOutline.calls _ _ l0_0 t139 _ ?side1 ?side2 A2.out).mono ?_); (case side1 => exact zl HR0_0 HB); (case side2 => exact HC0_0.out); rintro e w111 ⟨rfl, hb⟩; refine ⟨_, rfl, ?_⟩; have n0_ := zD BK138 hb; have n1_ := zY HB hb; clear BK138; clear HB; have BK138 := n0_; have HB := n1_; clear n0_ n1_; (try clear hb); (try clear hb2); (try clear hk); (try clear hi)))
 go_ret
 exact ⟨ze, zw HB⟩
end Go.Proofs.Ytcfpclehogdmbaa.Q
end
section
namespace Go.Proofs.Ytcfpclehogdmbaa.Q
open Go.RowKit Go.Proofs.YtcfpclehogdmbaaW.PrintWords Go.Proofs.YtcfpclehogdmbaaW.PrintLast Go.Proofs.YtcfpclehogdmbaaW.PrintMore
set_option linter.unusedVariables false
set_option linter.unusedSimpArgs false
def bstep (st p0 p1 : Int) (b : Int × Int) (m : S67) : Int × Int := (mx b.1 (wrap64 (m.f1.f0 - wrap64 (st * farV ⟨p0, p1⟩ m.f0))), mn b.2 (wrap64 (m.f1.f1 + wrap64 (st * farV ⟨p0, p1⟩ m.f0))))
def boundsV (st lo hi p0 p1 : Int) (l : List S67) : Int × Int := l.foldl (bstep st p0 p1) (lo, hi)
theorem bounds_l0 (l0 : List S32) (l1 : List S55) (st lo hi p0 p1 : Int) (l : List S67) (hl : l.length < 1000000) : ∀ (d i : Nat) (b : Int × Int), l.length - i = d → i ≤ l.length →
    Tells (fun k => wear_bounds.l0 k l (l.length : Int) (i : Int) l0 l1 st lo hi l p0 p1 b.1 b.2) ((l.drop i).foldl (bstep st p0 p1) b) := by
  intro d
  induction d with
  | zero =>
    intro i b hd hi2
    obtain rfl : i = l.length := by omega
    rw [List.drop_length, List.foldl_nil]
    exact Tells.succ (h := fun _ => some b) (Tells.const fun _ => rfl) (fun k => by rw [wear_bounds.l0, if_neg (by omega)])
  | succ d ih =>
    intro i b hd hi2
    have hlt : i < l.length := by omega
    rw [List.drop_eq_getElem_cons hlt, List.foldl_cons]
    exact Tells.succ (ih (i + 1) (bstep st p0 p1 b l[i]) (by omega) (by omega)) (fun k => by
      rw [wear_bounds.l0, if_pos (by omega), if_pos (by omega), if_pos (by omega), wrap_nat hlt hl, rd_get67 l hlt]
      rfl)
theorem bounds_tells (l0 : List S32) (l1 : List S55) (st lo hi p0 p1 : Int) (l : List S67) (hl : l.length < 1000000) : Tells (fun k => wear_bounds.f k l0 l1 st lo hi l p0 p1) (boundsV st lo hi p0 p1 l) :=
  bounds_l0 l0 l1 st lo hi p0 p1 l hl l.length 0 (lo, hi) (by omega) (by omega)
def spanB (a b most : Int) : Bool := decide (0 ≤ a ∧ a ≤ b ∧ b ≤ most)
theorem spans_tells (a b m : Int) : wear_spans.f a b m = some (spanB a b m) := by
  unfold wear_spans.f spanB
  by_cases h : 0 ≤ a
  · rw [if_pos h]
    by_cases h2 : a ≤ b
    · rw [if_pos h2]; simp [h, h2]
    · rw [if_neg h2]; simp [h2]
  · rw [if_neg h]; simp [h]
theorem span07_tells (a b m : Int) : thatchref07_span.f a b m = some (spanB a b m) := by
  unfold thatchref07_span.f spanB
  by_cases h : 0 ≤ a
  · rw [if_pos h]
    by_cases h2 : a ≤ b
    · rw [if_pos h2]; simp [h, h2]
    · rw [if_neg h2]; simp [h2]
  · rw [if_neg h]; simp [h]
def markE (l0 : List S32) (l1 : List S55) (V : Int) : List S67 → Int
  | [] => V
  | m :: ms => if wear_has.b l0 l1 m.f0.f0 m.f0.f1 = true then (if spanB m.f1.f0 m.f1.f1 2000 = true then markE l0 l1 V ms else 1) else 7
theorem check_l1_ref (l0 : List S32) (l1 : List S55) (st lo hi : Int) (l : List S67) (h0 : l0.length < 1000000) (h1 : l1.length < 1000000) (hl : l.length < 1000000) (V : Int) (hV : Tells (fun k => thatchref07_Check.l2 k 1 l0 l1 st lo hi l) V) : ∀ (d i : Nat), l.length - i = d → i ≤ l.length →
    Tells (fun k => thatchref07_Check.l1 k (i : Int) l0 l1 st lo hi l) (markE l0 l1 V (l.drop i)) := by
  intro d
  induction d with
  | zero =>
    intro i hd hi2
    obtain rfl : i = l.length := by omega
    rw [List.drop_length]
    exact Tells.succ hV (fun k => by rw [thatchref07_Check.l1, if_neg (by omega)])
  | succ d ih =>
    intro i hd hi2
    have hlt : i < l.length := by omega
    have hih := ih (i + 1) (by omega) (by omega)
    rw [List.drop_eq_getElem_cons hlt]
    refine Tells.succ (Tells.bind (b := fun k t => if t = true then ((thatchref07_span.f l[i].f1.f0 l[i].f1.f1 2000).bind fun t270 => if t270 = true then thatchref07_Check.l1 k ((i + 1 : Nat) : Int) l0 l1 st lo hi l else some 1) else some 7) (on_tells l0 l1 l[i].f0.f0 l[i].f0.f1 h0 h1) ?_) (fun k => by
      rw [thatchref07_Check.l1, if_pos (by omega), if_pos (by omega), wrap_nat hlt hl, rd_get67 l hlt])
    unfold markE
    by_cases c0 : wear_has.b l0 l1 l[i].f0.f0 l[i].f0.f1 = true
    · rw [if_pos c0]
      simp only [if_pos c0, span07_tells, Option.bind_some]
      by_cases c1 : spanB l[i].f1.f0 l[i].f1.f1 2000 = true
      · simp only [if_pos c1]; exact hih
      · simp only [if_neg c1]; exact Tells.const fun _ => rfl
    · rw [if_neg c0]
      simp only [if_neg c0]
      exact Tells.const fun _ => rfl
theorem check_l0_wear (l0 : List S32) (l1 : List S55) (st lo hi : Int) (l : List S67) (hl : l.length < 1000000) (V : Int) (hV : Tells (fun k => wear_Check.l1 k l (l.length : Int) 0 l0 l1 st lo hi l) V) : ∀ (d i : Nat), l.length - i = d → i ≤ l.length →
    Tells (fun k => wear_Check.l0 k l (l.length : Int) (i : Int) l0 l1 st lo hi l) (markE l0 l1 V (l.drop i)) := by
  intro d
  induction d with
  | zero =>
    intro i hd hi2
    obtain rfl : i = l.length := by omega
    rw [List.drop_length]
    exact Tells.succ hV (fun k => by rw [wear_Check.l0, if_neg (by omega)])
  | succ d ih =>
    intro i hd hi2
    have hlt : i < l.length := by omega
    have hih := ih (i + 1) (by omega) (by omega)
    rw [List.drop_eq_getElem_cons hlt]
    refine Tells.succ (h := fun k => if wear_has.b l0 l1 l[i].f0.f0 l[i].f0.f1 = true then (if spanB l[i].f1.f0 l[i].f1.f1 2000 = true then wear_Check.l0 k l (l.length : Int) ((i + 1 : Nat) : Int) l0 l1 st lo hi l else some 1) else some 7) ?_ (fun k => by
      rw [wear_Check.l0, if_pos (by omega), if_pos (by omega), if_pos (by omega), wrap_nat hlt hl, rd_get67 l hlt]
      simp only [wear_has.f, spans_tells, Option.bind_some])
    unfold markE
    by_cases c0 : wear_has.b l0 l1 l[i].f0.f0 l[i].f0.f1 = true
    · simp only [if_pos c0]
      by_cases c1 : spanB l[i].f1.f0 l[i].f1.f1 2000 = true
      · simp only [if_pos c1]; exact hih
      · simp only [if_neg c1]; exact Tells.const fun _ => rfl
    · simp only [if_neg c0]; exact Tells.const fun _ => rfl
end Go.Proofs.Ytcfpclehogdmbaa.Q
end
