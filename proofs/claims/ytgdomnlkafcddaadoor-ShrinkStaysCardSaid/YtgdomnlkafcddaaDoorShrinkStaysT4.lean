/- Part 4 of the proof for ShrinkStays: contracts of functions, step by step over the code; ShrinkStays (function 13): the walk, where all is as the plain law has it. ShrinkStays' plain law: lesser tapes are lesser numbers; of none but noughts there is none that is less. From a row's list to what expr.takes holds. ShrinkStays: the contract of the law.. -/
import Derived.Test.YtgdomnlkafcddaaDoorShrinkStaysT1
import Derived.Test.YtgdomnlkafcddaaDoorShrinkStaysT3
import Derived.Test.YtgdomnlkafcddaaDoorShrinkStaysT2
namespace Go.Proofs.YtgdomnlkafcddaaDoor.Q
open Go.RowKit Go.Proofs.YtgdomnlkafcddaaDoorW.PrintWords Go.Proofs.YtgdomnlkafcddaaDoorW.PrintLast Go.Proofs.YtgdomnlkafcddaaDoorW.PrintMore
attribute [local go_sem] max2_int min2_int max_two min_two max_three min_three max_four min_four   -- for this text's walks alone
set_option linter.unusedVariables false
set_option linter.unusedSimpArgs false

/-! ### gen_count: function 84 -/
mutual
def gen_count.l0 : Nat → Int → List (S63) → Int → Int → Option (Int)
 | 0, _, _, _, _ => none
 | k + 1, x3, x23, x24, x25 => if x25 < x24 then (if 0 ≤ x25 then (if x25 < (x23.length : Int) then ((gen_count.f k ((rd_T63 x23 x25).f0) ((rd_T63 x23 x25).f1) ((rd_T63 x23 x25).f2) ((rd_T63 x23 x25).f3)).bind fun t289 => ((gen_capped.f (wrap64 (x3 * t289))).bind fun t290 => (gen_count.l0 k t290 x23 x24 (wrap64 (x25 + 1))))) else (none)) else (none)) else (some x3)
def gen_count.l1 : Nat → Int → Int → Int → Int → Int → Option (Int)
 | 0, _, _, _, _, _ => none
 | k + 1, x3, x6, x7, x43, x44 => if x44 < x43 then ((gen_capped.f (wrap64 (x7 * x6))).bind fun t293 => ((gen_capped.f (wrap64 (x3 + t293))).bind fun t294 => (gen_count.l1 k t294 x6 t293 x43 (wrap64 (x44 + 1))))) else (some x3)
def gen_count.l2 : Nat → Int → List (S63) → Int → Int → Option (Int)
 | 0, _, _, _, _ => none
 | k + 1, x3, x58, x59, x60 => if x60 < x59 then (if 0 ≤ x60 then (if x60 < (x58.length : Int) then ((gen_count.f k ((rd_T63 x58 x60).f0) ((rd_T63 x58 x60).f1) ((rd_T63 x58 x60).f2) ((rd_T63 x58 x60).f3)).bind fun t297 => ((gen_capped.f (wrap64 (x3 + t297))).bind fun t298 => (gen_count.l2 k t298 x58 x59 (wrap64 (x60 + 1))))) else (none)) else (none)) else (some x3)
def gen_count.f : Nat → Int → Int → Int → List (S63) → Option (Int)
 | 0, _, _, _, _ => none
 | k + 1, a0_0, a0_1, a0_2, l0_3 => if a0_0 = 2 then (some (wrap64 ((wrap64 (a0_2 - a0_1)) + 1))) else (if a0_0 = 3 then (gen_count.l0 k 1 l0_3 (l0_3.length : Int) 0) else (if a0_0 = 4 then (if 0 < (l0_3.length : Int) then ((gen_count.f k ((rd_T63 l0_3 0).f0) ((rd_T63 l0_3 0).f1) ((rd_T63 l0_3 0).f2) ((rd_T63 l0_3 0).f3)).bind fun t292 => (gen_count.l1 k 1 t292 1 a0_1 0)) else (none)) else (if a0_0 = 5 then (gen_count.l2 k 0 l0_3 (l0_3.length : Int) 0) else (some 1))))
end
theorem gen_count.mono_l : ∀ k, (∀ y0 y1 y2 y3, LeO (gen_count.f k y0 y1 y2 y3) (gen_count.f (k + 1) y0 y1 y2 y3)) ∧ (∀ y0 y1 y2 y3, LeO (gen_count.l0 k y0 y1 y2 y3) (gen_count.l0 (k + 1) y0 y1 y2 y3)) ∧ (∀ y0 y1 y2 y3 y4, LeO (gen_count.l1 k y0 y1 y2 y3 y4) (gen_count.l1 (k + 1) y0 y1 y2 y3 y4)) ∧ (∀ y0 y1 y2 y3, LeO (gen_count.l2 k y0 y1 y2 y3) (gen_count.l2 (k + 1) y0 y1 y2 y3))
 | 0 => ⟨fun _ _ _ _ r h => by simp [gen_count.f] at h, fun _ _ _ _ r h => by simp [gen_count.l0] at h, fun _ _ _ _ _ r h => by simp [gen_count.l1] at h, fun _ _ _ _ r h => by simp [gen_count.l2] at h⟩
 | k + 1 => by
  obtain ⟨ih0, ih1, ih2, ih3⟩ := gen_count.mono_l k
  refine ⟨?_, ?_, ?_, ?_⟩
  ·intro y0 y1 y2 y3
   unfold gen_count.f
   repeat' first
   | (with_reducible exact ih0 _ _ _ _)
   | (with_reducible exact ih1 _ _ _ _)
   | (with_reducible exact ih2 _ _ _ _ _)
   | (with_reducible exact ih3 _ _ _ _)
   | (with_reducible exact LeO.refl _)
   | (with_reducible exact LeO.none _)
   | (with_reducible refine LeO.ite ?_ ?_)
   | (with_reducible refine LeO.bind ?_ (fun _ => ?_))
   | exact ih0 _ _ _ _
   | exact ih1 _ _ _ _
   | exact ih2 _ _ _ _ _
   | exact ih3 _ _ _ _
   | exact LeO.none _
   | refine LeO.ite ?_ ?_
   | refine LeO.bind ?_ (fun _ => ?_)
  ·intro y0 y1 y2 y3
   unfold gen_count.l0
   repeat' first
   | (with_reducible exact ih0 _ _ _ _)
   | (with_reducible exact ih1 _ _ _ _)
   | (with_reducible exact ih2 _ _ _ _ _)
   | (with_reducible exact ih3 _ _ _ _)
   | (with_reducible exact LeO.refl _)
   | (with_reducible exact LeO.none _)
   | (with_reducible refine LeO.ite ?_ ?_)
   | (with_reducible refine LeO.bind ?_ (fun _ => ?_))
   | exact ih0 _ _ _ _
   | exact ih1 _ _ _ _
   | exact ih2 _ _ _ _ _
   | exact ih3 _ _ _ _
   | exact LeO.none _
   | refine LeO.ite ?_ ?_
   | refine LeO.bind ?_ (fun _ => ?_)
  ·intro y0 y1 y2 y3 y4
   unfold gen_count.l1
   repeat' first
   | (with_reducible exact ih0 _ _ _ _)
   | (with_reducible exact ih1 _ _ _ _)
   | (with_reducible exact ih2 _ _ _ _ _)
   | (with_reducible exact ih3 _ _ _ _)
   | (with_reducible exact LeO.refl _)
   | (with_reducible exact LeO.none _)
   | (with_reducible refine LeO.ite ?_ ?_)
   | (with_reducible refine LeO.bind ?_ (fun _ => ?_))
   | exact ih0 _ _ _ _
   | exact ih1 _ _ _ _
   | exact ih2 _ _ _ _ _
   | exact ih3 _ _ _ _
   | exact LeO.none _
   | refine LeO.ite ?_ ?_
   | refine LeO.bind ?_ (fun _ => ?_)
  ·intro y0 y1 y2 y3
   unfold gen_count.l2
   repeat' first
   | (with_reducible exact ih0 _ _ _ _)
   | (with_reducible exact ih1 _ _ _ _)
   | (with_reducible exact ih2 _ _ _ _ _)
   | (with_reducible exact ih3 _ _ _ _)
   | (with_reducible exact LeO.refl _)
   | (with_reducible exact LeO.none _)
   | (with_reducible refine LeO.ite ?_ ?_)
   | (with_reducible refine LeO.bind ?_ (fun _ => ?_))
   | exact ih0 _ _ _ _
   | exact ih1 _ _ _ _
   | exact ih2 _ _ _ _ _
   | exact ih3 _ _ _ _
   | exact LeO.none _
   | refine LeO.ite ?_ ?_
   | refine LeO.bind ?_ (fun _ => ?_)
theorem gen_count.mono : ∀ a0 a1 a2 a3 k, LeO (gen_count.f k a0 a1 a2 a3) (gen_count.f (k + 1) a0 a1 a2 a3) := by
 intro a0 a1 a2 a3 k
 obtain ⟨ih0, ih1, ih2, ih3⟩ := gen_count.mono_l k
 exact ih0 a0 a1 a2 a3
set_option maxHeartbeats 8000000 in
set_option maxRecDepth 100000 in
theorem gen_count.calls (k : Nat) : ∀ (a0_0 : Int) (a0_1 : Int) (a0_2 : Int) (A0_3 : Option Addr) (c0_3 : Nat) (l0_3 : List (S63)) (r : Int) (w : World) (hr0_3 : Kd.C k63 w A0_3 l0_3.length l0_3) (hc0_3 : l0_3.length ≤ c0_3) (h : gen_count.f k a0_0 a0_1 a0_2 l0_3 = some r),
  Calls Tryd.prog 84 #[.agg #[.int .i64 a0_0, .int .i64 a0_1, .int .i64 a0_2, .slice A0_3 l0_3.length c0_3]] w fun e w' => e = .returned (.int .i64 r) ∧ Below w.heap.size w w' := by
 induction k using Nat.strongRecOn with
 | _ k ih =>
 intro a0_0 a0_1 a0_2 A0_3 c0_3 l0_3 r w hr0_3 hc0_3 h
 cases k with
 | zero => exact absurd h (by simp [gen_count.f])
 | succ k =>
 simp only [gen_count.f] at h
 have hu63 := Tryd.underlying63
 have HR0_3 := Aside0.mk hr0_3
 have HC0_3 := Aside0.mk hc0_3
 clear hr0_3 hc0_3
 have HB := Aside0.mk (Below.refl w.heap.size w)
 have H : (if a0_0 = 2 then (some (wrap64 ((wrap64 (a0_2 - a0_1)) + 1))) else (if a0_0 = 3 then (gen_count.l0 k 1 l0_3 (l0_3.length : Int) 0) else (if a0_0 = 4 then (if 0 < (l0_3.length : Int) then ((gen_count.f k ((rd_T63 l0_3 0).f0) ((rd_T63 l0_3 0).f1) ((rd_T63 l0_3 0).f2) ((rd_T63 l0_3 0).f3)).bind fun t292 => (gen_count.l1 k 1 t292 1 a0_1 0)) else (none)) else (if a0_0 = 5 then (gen_count.l2 k 0 l0_3 (l0_3.length : Int) 0) else (some 1))))) = some r := h
 clear h
 by_cases c2 : a0_0 = 2
 ·rw [if_pos c2] at H
  have c2b0 : (a0_0 == 2) = true := beq_iff_eq.mpr c2
  have c2b1 : (a0_0 != 2) = false := bne_eq_false_iff_eq.mpr c2
  clear c2
  obtain rfl := Option.some.inj H
  go_enter Tryd.func84, Tryd.ntmps84
  go_wp2_with (first | ((with_reducible refine gate_dst (N := 1) rfl ?_); refine box_event ?hg (N := 1) ?hd (cs := #[.int .i64 a0_0, .int .i64 a0_1, .int .i64 a0_2, .slice A0_3 l0_3.length c0_3]) (t := 63) ?hr ?_; (case hd => rfl); (case hg => rfl); (case hr => first | (go_simp; done) | (go_simp; rfl)); intro gb286 hg w3 hbox hb; have n0_ := Aside0.mk (below_step (by repeat (first | (with_reducible first | exact HB.out | apply below_alloc | apply pw_below_drewN | apply below_drew1) | exact HB.out)) hb); have n1_ := Aside0.mk (hbox); have n2_ := Aside0.mk ((by rw [hg]; exact (below_size (by repeat (first | (with_reducible first | exact HB.out | apply below_alloc | apply pw_below_drewN | apply below_drew1) | exact HB.out))) : w.heap.size ≤ gb286)); have n3_ := Aside0.mk ((by rw [hg]; exact (below_size (by repeat (first | (with_reducible first | exact HB.out | apply below_alloc | apply pw_below_drewN | apply below_drew1) | exact HB.out))) : w.heap.size ≤ gb286)); clear HB; have HB := n0_; have BK286 := n1_; have GW286 := n2_; have GE286 := n3_; clear n0_ n1_ n2_ n3_; clear hb hbox hg; have hcz4_0 : w3.cell? ⟨gb286, 0, none⟩ = some (.int .i64 a0_0) := (blk_cell BK286.out 0).trans rfl; have hcz4_1 : w3.cell? ⟨gb286, 1, none⟩ = some (.int .i64 a0_1) := (blk_cell BK286.out 1).trans rfl; have hcz4_2 : w3.cell? ⟨gb286, 2, none⟩ = some (.int .i64 a0_2) := (blk_cell BK286.out 2).trans rfl; have hcz4_3 : w3.cell? ⟨gb286, 3, none⟩ = some (.slice A0_3 l0_3.length c0_3) := (blk_cell BK286.out 3).trans rfl; have hfz4_0 := blk_frozen BK286.out 0; have hfz4_1 := blk_frozen BK286.out 1; have hfz4_2 := blk_frozen BK286.out 2; have hfz4_3 := blk_frozen BK286.out 3))
  go_ret
  exact ⟨by first | rfl | (simp [errW_none, errW_some] <;> rfl) | (simp [*, errW_none, errW_some] <;> rfl), by repeat (first | (with_reducible first | exact HB.out | apply below_alloc | apply pw_below_drewN | apply below_drew1 | refine below_set ?_ GE286.out) | exact HB.out)⟩
 ·rw [if_neg c2] at H
  have c2b0 : (a0_0 == 2) = false := beq_eq_false_iff_ne.mpr c2
  have c2b1 : (a0_0 != 2) = true := bne_iff_ne.mpr c2
  by_cases c5 : a0_0 = 3
  ·rw [if_pos c5] at H
   have c5b0 : (a0_0 == 3) = true := beq_iff_eq.mpr c5
   have c5b1 : (a0_0 != 3) = false := bne_eq_false_iff_eq.mpr c5
   clear c5
   have H' := Aside0.mk H
   clear H
   go_enter Tryd.func84, Tryd.ntmps84
   go_wp2_with (first | ((with_reducible refine gate_dst (N := 1) rfl ?_); refine box_event ?hg (N := 1) ?hd (cs := #[.int .i64 a0_0, .int .i64 a0_1, .int .i64 a0_2, .slice A0_3 l0_3.length c0_3]) (t := 63) ?hr ?_; (case hd => rfl); (case hg => rfl); (case hr => first | (go_simp; done) | (go_simp; rfl)); intro gb286 hg w6 hbox hb; have n0_ := Aside0.mk (below_step (by repeat (first | (with_reducible first | exact HB.out | apply below_alloc | apply pw_below_drewN | apply below_drew1) | exact HB.out)) hb); have n1_ := Aside0.mk (hbox); have n2_ := Aside0.mk ((by rw [hg]; exact (below_size (by repeat (first | (with_reducible first | exact HB.out | apply below_alloc | apply pw_below_drewN | apply below_drew1) | exact HB.out))) : w.heap.size ≤ gb286)); have n3_ := Aside0.mk ((by rw [hg]; exact (below_size (by repeat (first | (with_reducible first | exact HB.out | apply below_alloc | apply pw_below_drewN | apply below_drew1) | exact HB.out))) : w.heap.size ≤ gb286)); clear HB; have HB := n0_; have BK286 := n1_; have GW286 := n2_; have GE286 := n3_; clear n0_ n1_ n2_ n3_; clear hb hbox hg; have hcz7_0 : w6.cell? ⟨gb286, 0, none⟩ = some (.int .i64 a0_0) := (blk_cell BK286.out 0).trans rfl; have hcz7_1 : w6.cell? ⟨gb286, 1, none⟩ = some (.int .i64 a0_1) := (blk_cell BK286.out 1).trans rfl; have hcz7_2 : w6.cell? ⟨gb286, 2, none⟩ = some (.int .i64 a0_2) := (blk_cell BK286.out 2).trans rfl; have hcz7_3 : w6.cell? ⟨gb286, 3, none⟩ = some (.slice A0_3 l0_3.length c0_3) := (blk_cell BK286.out 3).trans rfl; have hfz7_0 := blk_frozen BK286.out 0; have hfz7_1 := blk_frozen BK286.out 1; have hfz7_2 := blk_frozen BK286.out 2; have hfz7_3 := blk_frozen BK286.out 3))
   go_loopg [3, 25] k (fun kq v3 v25 w' => ∃ (x3_1 : Int) (x25_1 : Int), v3 = .int .i64 x3_1 ∧ v25 = .int .i64 x25_1 ∧ Aside0 (gen_count.l0 kq x3_1 l0_3 (l0_3.length : Int) x25_1 = some r) ∧ Aside0 (kq ≤ k) ∧ Aside0 (w'.heap[gb286]? = some (.cells #[.int .i64 a0_0, .int .i64 a0_1, .int .i64 a0_2, (.slice A0_3 l0_3.length c0_3)] 63 (0, 0))) ∧ Aside0 (Below w.heap.size w w'))
   case atStart => exact ⟨(1), (0), (by first | rfl | (simp; done) | (simp [*]; done)), (by first | rfl | (simp; done) | (simp [*]; done)), H', ⟨Nat.le_refl _⟩, ⟨by (with_reducible repeat (first | refine blk_drewN ?_ _ | refine blk_drew ?_ | refine blk_alloc ?_ _)); exact BK286.out⟩, ⟨by repeat (first | (with_reducible first | exact HB.out | apply below_alloc | apply pw_below_drewN | apply below_drew1 | refine below_set ?_ GE286.out) | exact HB.out)⟩⟩
   case round =>
    clear H'
    try clear c2
    try clear c2b0
    try clear c2b1
    try clear p2
    try clear c5
    try clear c5b0
    try clear c5b1
    try clear p6
    try clear hcz4_0
    try clear hcz4_1
    try clear hcz4_2
    try clear hcz4_3
    try clear hcz7_0
    try clear hcz7_1
    try clear hcz7_2
    try clear hcz7_3
    try clear hfz4_0
    try clear hfz4_1
    try clear hfz4_2
    try clear hfz4_3
    try clear hfz7_0
    try clear hfz7_1
    try clear hfz7_2
    try clear hfz7_3
    obtain ⟨x3_1, x25_1, rfl, rfl, HA, HK1, BK286, HB⟩ := hrel
    cases gk with
    | zero => exact absurd HA.out (by simp [gen_count.l0])
    | succ k1 =>
     have H := HA.out
     clear HA
     simp only [gen_count.l0] at H
     by_cases c8 : x25_1 < (l0_3.length : Int)
     ·rw [if_pos c8] at H
      have c8b0 : decide (x25_1 < (l0_3.length : Int)) = true := decide_eq_true c8
      clear c8
      by_cases c9 : 0 ≤ x25_1
      ·rw [if_pos c9] at H
       have c9b0 : decide (0 ≤ x25_1) = true := decide_eq_true c9
       clear c9
       by_cases c10 : x25_1 < (l0_3.length : Int)
       ·rw [if_pos c10] at H
        have c10b0 : decide (x25_1 < (l0_3.length : Int)) = true := decide_eq_true c10
        clear c10
        replace H := Option.bind_eq_some_iff.mp H
        obtain ⟨t289, A110, H⟩ := H
        replace H : ((gen_capped.f (wrap64 (x3_1 * t289))).bind fun t290 => (gen_count.l0 k1 t290 l0_3 (l0_3.length : Int) (wrap64 (x25_1 + 1)))) = some r := H
        have A11 := Aside0.mk A110
        clear A110
        replace H := Option.bind_eq_some_iff.mp H
        obtain ⟨t290, A120, H⟩ := H
        replace H : (gen_count.l0 k1 t290 l0_3 (l0_3.length : Int) (wrap64 (x25_1 + 1))) = some r := H
        have A12 := Aside0.mk A120
        clear A120
        have H' := Aside0.mk H
        clear H
        have p287 : 0 ≤ (x25_1 : Int) := of_decide_eq_true (by first | (with_reducible assumption) | assumption)
        have q287 : x25_1 < (l0_3.length : Int) := of_decide_eq_true (by first | (with_reducible assumption) | assumption)
        obtain ⟨ad287, A287_3, c287_3, e287, hx287_0, hx287_1, hx287_2, hx287_3, hl287_3, hi287_3⟩ := at_T63 HR0_3.out x25_1 p287 q287
        cases e287
        replace hx287_0 := (HB.out.cell (World.block_lt_of_cell? w _ hx287_0)).trans hx287_0
        replace hx287_1 := (HB.out.cell (World.block_lt_of_cell? w _ hx287_1)).trans hx287_1
        replace hx287_2 := (HB.out.cell (World.block_lt_of_cell? w _ hx287_2)).trans hx287_2
        replace hx287_3 := (HB.out.cell (World.block_lt_of_cell? w _ hx287_3)).trans hx287_3
        have HR287_3 := Aside0.mk hi287_3
        have HC287_3 := Aside0.mk hl287_3
        clear hi287_3 hl287_3
        replace p287 := eq_true p287
        replace q287 := eq_true q287
        go_wp2_with (first | ((with_reducible refine gate_dst (N := 5) rfl ?_); refine box_event ?hg (N := 5) ?hd (cs := #[.int .i64 0, .int .i64 0, .int .i64 0, .slice none 0 0]) (t := 63) ?hr ?_; (case hd => rfl); (case hg => rfl); (case hr => first | (go_simp; done) | (go_simp; rfl)); intro gb288 hg w13 hbox hb; have n0_ := Aside0.mk (blk_below (g := gb286) (o := .cells #[.int .i64 a0_0, .int .i64 a0_1, .int .i64 a0_2, .slice (some ad287) l0_3.length c0_3] 63 (0, 0)) (by (with_reducible repeat (first | refine blk_drewN ?_ _ | refine blk_drew ?_ | refine blk_alloc ?_ _)); exact BK286.out) hb); have n1_ := Aside0.mk (below_step (by repeat (first | (with_reducible first | exact HB.out | apply below_alloc | apply pw_below_drewN | apply below_drew1 | refine below_set ?_ GE286.out) | exact HB.out)) hb); have n2_ := Aside0.mk (hbox); have n3_ := Aside0.mk ((by rw [hg]; exact (below_size (by repeat (first | (with_reducible first | exact HB.out | apply below_alloc | apply pw_below_drewN | apply below_drew1 | refine below_set ?_ GE286.out) | exact HB.out))) : w.heap.size ≤ gb288)); have n4_ := Aside0.mk ((by rw [hg]; exact (below_size (by repeat (first | (with_reducible first | exact HB.out | apply below_alloc | apply pw_below_drewN | apply below_drew1 | refine below_set ?_ GE286.out) | exact HB.out))) : w.heap.size ≤ gb288)); have n5_ := Aside0.mk ((by rw [hg]; exact Nat.ne_of_lt (blk_lt (g := gb286) (o := .cells #[.int .i64 a0_0, .int .i64 a0_1, .int .i64 a0_2, .slice (some ad287) l0_3.length c0_3] 63 (0, 0)) (by (with_reducible repeat (first | refine blk_drewN ?_ _ | refine blk_drew ?_ | refine blk_alloc ?_ _)); exact BK286.out)) : gb286 ≠ gb288)); have n6_ := Aside0.mk ((by rw [hg]; exact Nat.ne_of_gt (blk_lt (g := gb286) (o := .cells #[.int .i64 a0_0, .int .i64 a0_1, .int .i64 a0_2, .slice (some ad287) l0_3.length c0_3] 63 (0, 0)) (by (with_reducible repeat (first | refine blk_drewN ?_ _ | refine blk_drew ?_ | refine blk_alloc ?_ _)); exact BK286.out)) : gb288 ≠ gb286)); clear BK286; clear HB; have BK286 := n0_; have HB := n1_; have BK288 := n2_; have GW288 := n3_; have GE288 := n4_; have NB286_288 := n5_; have NB288_286 := n6_; clear n0_ n1_ n2_ n3_ n4_ n5_ n6_; clear hb hbox hg; have hnb14 := NB288_286.out; have hnc14 := NB286_288.out; have hcz15_0 : w13.cell? ⟨gb288, 0, none⟩ = some (.int .i64 0) := (blk_cell BK288.out 0).trans rfl; have hcz15_1 : w13.cell? ⟨gb288, 1, none⟩ = some (.int .i64 0) := (blk_cell BK288.out 1).trans rfl; have hcz15_2 : w13.cell? ⟨gb288, 2, none⟩ = some (.int .i64 0) := (blk_cell BK288.out 2).trans rfl; have hcz15_3 : w13.cell? ⟨gb288, 3, none⟩ = some (.slice none 0 0) := (blk_cell BK288.out 3).trans rfl; have hfz15_0 := blk_frozen BK288.out 0; have hfz15_1 := blk_frozen BK288.out 1; have hfz15_2 := blk_frozen BK288.out 2; have hfz15_3 := blk_frozen BK288.out 3) | ((with_reducible refine gate_callee (f := 84) rfl ?_); refine goesL_ (some 31) rfl rfl Tryd.func84 (by kernel_rfl) rfl #[.agg #[.int .i64 ((rd_T63 l0_3 x25_1).f0), .int .i64 ((rd_T63 l0_3 x25_1).f1), .int .i64 ((rd_T63 l0_3 x25_1).f2), .slice A287_3 ((rd_T63 l0_3 x25_1).f3).length c287_3]] rfl (by (try simp only [List.map_toArray, List.map_cons, List.map_nil]); first | done | rfl | (simp only [List.length_drop, List.length_take]; rfl)) ?_; (with_reducible refine (ih k1 (by have := HK1.out; omega) ((rd_T63 l0_3 x25_1).f0) ((rd_T63 l0_3 x25_1).f1) ((rd_T63 l0_3 x25_1).f2) _ _ ((rd_T63 l0_3 x25_1).f3) t289 _ ?side1 ?side2 A11.out).mono ?_); (case side1 => exact Kd.C_below HR287_3.out (by repeat (first | (with_reducible first | exact HB.out | apply below_alloc | apply pw_below_drewN | apply below_drew1 | refine below_set ?_ GE286.out | refine below_set ?_ GE288.out) | exact HB.out))); (case side2 => exact HC287_3.out); rintro e w16 ⟨rfl, hb⟩; refine ⟨_, rfl, ?_⟩; have n0_ := Aside0.mk (blk_below (g := gb286) (o := .cells #[.int .i64 a0_0, .int .i64 a0_1, .int .i64 a0_2, .slice (some ad287) l0_3.length c0_3] 63 (0, 0)) (by (with_reducible repeat (first | refine blk_drewN ?_ _ | refine blk_drew ?_ | refine blk_alloc ?_ _)); refine blk_far ?_ NB286_288.out _; (with_reducible repeat (first | refine blk_drewN ?_ _ | refine blk_drew ?_ | refine blk_alloc ?_ _)); refine blk_far ?_ NB286_288.out _; (with_reducible repeat (first | refine blk_drewN ?_ _ | refine blk_drew ?_ | refine blk_alloc ?_ _)); refine blk_far ?_ NB286_288.out _; (with_reducible repeat (first | refine blk_drewN ?_ _ | refine blk_drew ?_ | refine blk_alloc ?_ _)); refine blk_far ?_ NB286_288.out _; (with_reducible repeat (first | refine blk_drewN ?_ _ | refine blk_drew ?_ | refine blk_alloc ?_ _)); exact BK286.out) hb); have n1_ := Aside0.mk (blk_below (g := gb288) (o := .cells #[.int .i64 ((rd_T63 l0_3 x25_1).f0), .int .i64 ((rd_T63 l0_3 x25_1).f1), .int .i64 ((rd_T63 l0_3 x25_1).f2), .slice A287_3 ((rd_T63 l0_3 x25_1).f3).length c287_3] 63 (0, 0)) (by (with_reducible repeat (first | refine blk_drewN ?_ _ | refine blk_drew ?_ | refine blk_alloc ?_ _)); refine blk_put (cs := #[.int .i64 ((rd_T63 l0_3 x25_1).f0), .int .i64 ((rd_T63 l0_3 x25_1).f1), .int .i64 ((rd_T63 l0_3 x25_1).f2), .slice none 0 0]) ?_ 3 _ rfl; (with_reducible repeat (first | refine blk_drewN ?_ _ | refine blk_drew ?_ | refine blk_alloc ?_ _)); refine blk_put (cs := #[.int .i64 ((rd_T63 l0_3 x25_1).f0), .int .i64 ((rd_T63 l0_3 x25_1).f1), .int .i64 0, .slice none 0 0]) ?_ 2 _ rfl; (with_reducible repeat (first | refine blk_drewN ?_ _ | refine blk_drew ?_ | refine blk_alloc ?_ _)); refine blk_put (cs := #[.int .i64 ((rd_T63 l0_3 x25_1).f0), .int .i64 0, .int .i64 0, .slice none 0 0]) ?_ 1 _ rfl; (with_reducible repeat (first | refine blk_drewN ?_ _ | refine blk_drew ?_ | refine blk_alloc ?_ _)); refine blk_put (cs := #[.int .i64 0, .int .i64 0, .int .i64 0, .slice none 0 0]) ?_ 0 _ rfl; (with_reducible repeat (first | refine blk_drewN ?_ _ | refine blk_drew ?_ | refine blk_alloc ?_ _)); exact BK288.out) hb); have n2_ := Aside0.mk (below_step (by repeat (first | (with_reducible first | exact HB.out | apply below_alloc | apply pw_below_drewN | apply below_drew1 | refine below_set ?_ GE286.out | refine below_set ?_ GE288.out) | exact HB.out)) hb); clear BK286; clear BK288; clear HB; have BK286 := n0_; have BK288 := n1_; have HB := n2_; clear n0_ n1_ n2_; (try clear hb); (try clear hb2); (try clear hk); (try clear hi)) | ((with_reducible refine gate_callee (f := 125) rfl ?_); refine goesL_ (some 33) rfl rfl Tryd.func125 (by kernel_rfl) rfl #[.int .i64 (wrap64 (x3_1 * t289))] rfl (by (try simp only [List.map_toArray, List.map_cons, List.map_nil]); first | done | rfl | (simp only [List.length_drop, List.length_take]; rfl)) ?_; (with_reducible refine (gen_capped.calls (wrap64 (x3_1 * t289)) t290 _ A12.out).mono ?_); rintro e w17 ⟨rfl, hb⟩; refine ⟨_, rfl, ?_⟩; have n0_ := Aside0.mk (blk_below (g := gb286) (o := .cells #[.int .i64 a0_0, .int .i64 a0_1, .int .i64 a0_2, .slice (some ad287) l0_3.length c0_3] 63 (0, 0)) (by (with_reducible repeat (first | refine blk_drewN ?_ _ | refine blk_drew ?_ | refine blk_alloc ?_ _)); exact BK286.out) hb); have n1_ := Aside0.mk (blk_below (g := gb288) (o := .cells #[.int .i64 ((rd_T63 l0_3 x25_1).f0), .int .i64 ((rd_T63 l0_3 x25_1).f1), .int .i64 ((rd_T63 l0_3 x25_1).f2), .slice A287_3 ((rd_T63 l0_3 x25_1).f3).length c287_3] 63 (0, 0)) (by (with_reducible repeat (first | refine blk_drewN ?_ _ | refine blk_drew ?_ | refine blk_alloc ?_ _)); exact BK288.out) hb); have n2_ := Aside0.mk (below_step (by repeat (first | (with_reducible first | exact HB.out | apply below_alloc | apply pw_below_drewN | apply below_drew1 | refine below_set ?_ GE286.out | refine below_set ?_ GE288.out) | exact HB.out)) hb); clear BK286; clear BK288; clear HB; have BK286 := n0_; have BK288 := n1_; have HB := n2_; clear n0_ n1_ n2_; (try clear hb); (try clear hb2); (try clear hk); (try clear hi)))
        go_roundg k1
        case measure => have := HK1.out; omega
        case rel => exact ⟨(t290), (wrap64 (x25_1 + 1)), (by first | rfl | (simp; done) | (simp [*]; done)), (by first | rfl | (simp; done) | (simp [*]; done)), H', ⟨by have := HK1.out; omega⟩, ⟨by (with_reducible repeat (first | refine blk_drewN ?_ _ | refine blk_drew ?_ | refine blk_alloc ?_ _)); exact BK286.out⟩, ⟨by repeat (first | (with_reducible first | exact HB.out | apply below_alloc | apply pw_below_drewN | apply below_drew1 | refine below_set ?_ GE286.out | refine below_set ?_ GE288.out) | exact HB.out)⟩⟩
       ·rw [if_neg c10] at H
        exact absurd H (by simp)
      ·rw [if_neg c9] at H
       exact absurd H (by simp)
     ·rw [if_neg c8] at H
      have c8b0 : decide (x25_1 < (l0_3.length : Int)) = false := decide_eq_false c8
      clear c8
      obtain rfl := Option.some.inj H
      go_wp2
      go_ret
      exact ⟨by first | rfl | (simp [errW_none, errW_some] <;> rfl) | (simp [*, errW_none, errW_some] <;> rfl), by repeat (first | (with_reducible first | exact HB.out | apply below_alloc | apply pw_below_drewN | apply below_drew1 | refine below_set ?_ GE286.out) | exact HB.out)⟩
  ·rw [if_neg c5] at H
   have c5b0 : (a0_0 == 3) = false := beq_eq_false_iff_ne.mpr c5
   have c5b1 : (a0_0 != 3) = true := bne_iff_ne.mpr c5
   by_cases c18 : a0_0 = 4
   ·rw [if_pos c18] at H
    have c18b0 : (a0_0 == 4) = true := beq_iff_eq.mpr c18
    have c18b1 : (a0_0 != 4) = false := bne_eq_false_iff_eq.mpr c18
    clear c18
    by_cases c19 : 0 < (l0_3.length : Int)
    ·rw [if_pos c19] at H
     have c19b0 : decide (0 < (l0_3.length : Int)) = true := decide_eq_true c19
     have c19b1 : decide (0 < l0_3.length) = true := decide_eq_true (by omega)
     clear c19
     replace H := Option.bind_eq_some_iff.mp H
     obtain ⟨t292, A200, H⟩ := H
     replace H : (gen_count.l1 k 1 t292 1 a0_1 0) = some r := H
     have A20 := Aside0.mk A200
     clear A200
     have H' := Aside0.mk H
     clear H
     go_enter Tryd.func84, Tryd.ntmps84
     go_wp2_with (first | ((with_reducible refine gate_dst (N := 1) rfl ?_); refine box_event ?hg (N := 1) ?hd (cs := #[.int .i64 a0_0, .int .i64 a0_1, .int .i64 a0_2, .slice A0_3 l0_3.length c0_3]) (t := 63) ?hr ?_; (case hd => rfl); (case hg => rfl); (case hr => first | (go_simp; done) | (go_simp; rfl)); intro gb286 hg w21 hbox hb; have n0_ := Aside0.mk (below_step (by repeat (first | (with_reducible first | exact HB.out | apply below_alloc | apply pw_below_drewN | apply below_drew1) | exact HB.out)) hb); have n1_ := Aside0.mk (hbox); have n2_ := Aside0.mk ((by rw [hg]; exact (below_size (by repeat (first | (with_reducible first | exact HB.out | apply below_alloc | apply pw_below_drewN | apply below_drew1) | exact HB.out))) : w.heap.size ≤ gb286)); have n3_ := Aside0.mk ((by rw [hg]; exact (below_size (by repeat (first | (with_reducible first | exact HB.out | apply below_alloc | apply pw_below_drewN | apply below_drew1) | exact HB.out))) : w.heap.size ≤ gb286)); clear HB; have HB := n0_; have BK286 := n1_; have GW286 := n2_; have GE286 := n3_; clear n0_ n1_ n2_ n3_; clear hb hbox hg; have hcz22_0 : w21.cell? ⟨gb286, 0, none⟩ = some (.int .i64 a0_0) := (blk_cell BK286.out 0).trans rfl; have hcz22_1 : w21.cell? ⟨gb286, 1, none⟩ = some (.int .i64 a0_1) := (blk_cell BK286.out 1).trans rfl; have hcz22_2 : w21.cell? ⟨gb286, 2, none⟩ = some (.int .i64 a0_2) := (blk_cell BK286.out 2).trans rfl; have hcz22_3 : w21.cell? ⟨gb286, 3, none⟩ = some (.slice A0_3 l0_3.length c0_3) := (blk_cell BK286.out 3).trans rfl; have hfz22_0 := blk_frozen BK286.out 0; have hfz22_1 := blk_frozen BK286.out 1; have hfz22_2 := blk_frozen BK286.out 2; have hfz22_3 := blk_frozen BK286.out 3; have p291 : 0 ≤ (0 : Int) := (by omega); have q291 : 0 < (l0_3.length : Int) := of_decide_eq_true (by first | (with_reducible assumption) | assumption); obtain ⟨ad291, A291_3, c291_3, e291, hx291_0, hx291_1, hx291_2, hx291_3, hl291_3, hi291_3⟩ := at_T63 HR0_3.out 0 p291 q291; cases e291; have qi291 : (0 < l0_3.length) = True := eq_true (by omega); (try rw [show ((0 : Int)).toNat = 0 from rfl] at hx291_0); (try rw [show 0 * 4 = 0 from rfl] at hx291_0); (try rw [Addr.add_zero'] at hx291_0); (try rw [show ((0 : Int)).toNat = 0 from rfl] at hx291_1); (try rw [show 0 * 4 = 0 from rfl] at hx291_1); (try rw [Addr.add_zero'] at hx291_1); (try rw [show ((0 : Int)).toNat = 0 from rfl] at hx291_2); (try rw [show 0 * 4 = 0 from rfl] at hx291_2); (try rw [Addr.add_zero'] at hx291_2); (try rw [show ((0 : Int)).toNat = 0 from rfl] at hx291_3); (try rw [show 0 * 4 = 0 from rfl] at hx291_3); (try rw [Addr.add_zero'] at hx291_3); replace hx291_0 := (HB.out.cell (World.block_lt_of_cell? w _ hx291_0)).trans hx291_0; replace hx291_1 := (HB.out.cell (World.block_lt_of_cell? w _ hx291_1)).trans hx291_1; replace hx291_2 := (HB.out.cell (World.block_lt_of_cell? w _ hx291_2)).trans hx291_2; replace hx291_3 := (HB.out.cell (World.block_lt_of_cell? w _ hx291_3)).trans hx291_3; have HR291_3 := Aside0.mk hi291_3; have HC291_3 := Aside0.mk hl291_3; clear hi291_3 hl291_3; replace p291 := eq_true p291; replace q291 := eq_true q291) | ((with_reducible refine gate_callee (f := 84) rfl ?_); refine goesL_ (some 41) rfl rfl Tryd.func84 (by kernel_rfl) rfl #[.agg #[.int .i64 ((rd_T63 l0_3 0).f0), .int .i64 ((rd_T63 l0_3 0).f1), .int .i64 ((rd_T63 l0_3 0).f2), .slice A291_3 ((rd_T63 l0_3 0).f3).length c291_3]] rfl (by (try simp only [List.map_toArray, List.map_cons, List.map_nil]); first | done | rfl | (simp only [List.length_drop, List.length_take]; rfl)) ?_; (with_reducible refine (ih k (by omega) ((rd_T63 l0_3 0).f0) ((rd_T63 l0_3 0).f1) ((rd_T63 l0_3 0).f2) _ _ ((rd_T63 l0_3 0).f3) t292 _ ?side1 ?side2 A20.out).mono ?_); (case side1 => repeat (first | exact (Kd.C_below HR291_3.out HB.out) | (with_reducible refine Kd.C_alloc ?_ _) | (with_reducible refine Kd.C_drewN ?_ _) | (with_reducible refine Kd.C_drew ?_))); (case side2 => exact HC291_3.out); rintro e w23 ⟨rfl, hb⟩; refine ⟨_, rfl, ?_⟩; have n0_ := Aside0.mk (blk_below (g := gb286) (o := .cells #[.int .i64 a0_0, .int .i64 a0_1, .int .i64 a0_2, .slice (some ad291) l0_3.length c0_3] 63 (0, 0)) (by (with_reducible repeat (first | refine blk_drewN ?_ _ | refine blk_drew ?_ | refine blk_alloc ?_ _)); exact BK286.out) hb); have n1_ := Aside0.mk (below_step (by repeat (first | (with_reducible first | exact HB.out | apply below_alloc | apply pw_below_drewN | apply below_drew1 | refine below_set ?_ GE286.out) | exact HB.out)) hb); clear BK286; clear HB; have BK286 := n0_; have HB := n1_; clear n0_ n1_; (try clear hb); (try clear hb2); (try clear hk); (try clear hi); have hcz24_0 : w23.cell? ⟨gb286, 0, none⟩ = some (.int .i64 a0_0) := (blk_cell BK286.out 0).trans rfl; have hcz24_1 : w23.cell? ⟨gb286, 1, none⟩ = some (.int .i64 a0_1) := (blk_cell BK286.out 1).trans rfl; have hcz24_2 : w23.cell? ⟨gb286, 2, none⟩ = some (.int .i64 a0_2) := (blk_cell BK286.out 2).trans rfl; have hcz24_3 : w23.cell? ⟨gb286, 3, none⟩ = some (.slice (some ad291) l0_3.length c0_3) := (blk_cell BK286.out 3).trans rfl; have hfz24_0 := blk_frozen BK286.out 0; have hfz24_1 := blk_frozen BK286.out 1; have hfz24_2 := blk_frozen BK286.out 2; have hfz24_3 := blk_frozen BK286.out 3))
     go_loopg [3, 7, 44] k (fun kq v3 v7 v44 w' => ∃ (x3_1 : Int) (x7_1 : Int) (x44_1 : Int), v3 = .int .i64 x3_1 ∧ v7 = .int .i64 x7_1 ∧ v44 = .int .i64 x44_1 ∧ Aside0 (gen_count.l1 kq x3_1 t292 x7_1 a0_1 x44_1 = some r) ∧ Aside0 (kq ≤ k) ∧ Aside0 (w'.heap[gb286]? = some (.cells #[.int .i64 a0_0, .int .i64 a0_1, .int .i64 a0_2, (.slice (some ad291) l0_3.length c0_3)] 63 (0, 0))) ∧ Aside0 (Below w.heap.size w w'))
     case atStart => exact ⟨(1), (1), (0), (by first | rfl | (simp; done) | (simp [*]; done)), (by first | rfl | (simp; done) | (simp [*]; done)), (by first | rfl | (simp; done) | (simp [*]; done)), H', ⟨Nat.le_refl _⟩, ⟨by (with_reducible repeat (first | refine blk_drewN ?_ _ | refine blk_drew ?_ | refine blk_alloc ?_ _)); exact BK286.out⟩, ⟨by repeat (first | (with_reducible first | exact HB.out | apply below_alloc | apply pw_below_drewN | apply below_drew1 | refine below_set ?_ GE286.out) | exact HB.out)⟩⟩
     case round =>
      clear H'
      try clear c1
      try clear c2
      try clear c2b0
      try clear c2b1
      try clear p2
      try clear q2
      try clear hx2
      try clear qi2
      try clear c5
      try clear c5b0
      try clear c5b1
      try clear p6
      try clear c8
      try clear c8b0
      try clear c9
      try clear c9b0
      try clear c10
      try clear c10b0
      try clear c12
      try clear c14
      try clear c18
      try clear c18b0
      try clear c18b1
      try clear c19
      try clear c19b0
      try clear c19b1
      try clear hcz15_0
      try clear hcz15_1
      try clear hcz15_2
      try clear hcz15_3
      try clear hcz22_0
      try clear hcz22_1
      try clear hcz22_2
      try clear hcz22_3
      try clear hcz24_0
      try clear hcz24_1
      try clear hcz24_2
      try clear hcz24_3
      try clear hcz4_0
      try clear hcz4_1
      try clear hcz4_2
      try clear hcz4_3
      try clear hcz7_0
      try clear hcz7_1
      try clear hcz7_2
      try clear hcz7_3
      try clear hfz15_0
      try clear hfz15_1
      try clear hfz15_2
      try clear hfz15_3
      try clear hfz22_0
      try clear hfz22_1
      try clear hfz22_2
      try clear hfz22_3
      try clear hfz24_0
      try clear hfz24_1
      try clear hfz24_2
      try clear hfz24_3
      try clear hfz4_0
      try clear hfz4_1
      try clear hfz4_2
      try clear hfz4_3
      try clear hfz7_0
      try clear hfz7_1
      try clear hfz7_2
      try clear hfz7_3
      try clear hx287_0
      try clear hx287_1
      try clear hx287_2
      try clear hx287_3
      try clear hx291_0
      try clear hx291_1
      try clear hx291_2
      try clear hx291_3
      try clear p2
      try clear p287
      try clear p291
      try clear p6
      try clear q287
      try clear q291
      obtain ⟨x3_1, x7_1, x44_1, rfl, rfl, rfl, HA, HK1, BK286, HB⟩ := hrel
      cases gk with
      | zero => exact absurd HA.out (by simp [gen_count.l1])
      | succ k1 =>
       have H := HA.out
       clear HA
       simp only [gen_count.l1] at H
       by_cases c25 : x44_1 < a0_1
       ·rw [if_pos c25] at H
        have c25b0 : decide (x44_1 < a0_1) = true := decide_eq_true c25
        clear c25
        replace H := Option.bind_eq_some_iff.mp H
        obtain ⟨t293, A260, H⟩ := H
        replace H : ((gen_capped.f (wrap64 (x3_1 + t293))).bind fun t294 => (gen_count.l1 k1 t294 t292 t293 a0_1 (wrap64 (x44_1 + 1)))) = some r := H
        have A26 := Aside0.mk A260
        clear A260
        replace H := Option.bind_eq_some_iff.mp H
        obtain ⟨t294, A270, H⟩ := H
        replace H : (gen_count.l1 k1 t294 t292 t293 a0_1 (wrap64 (x44_1 + 1))) = some r := H
        have A27 := Aside0.mk A270
        clear A270
        have H' := Aside0.mk H
        clear H
        go_wp2_with (first | ((with_reducible refine gate_callee (f := 125) rfl ?_); refine goesL_ (some 49) rfl rfl Tryd.func125 (by kernel_rfl) rfl #[.int .i64 (wrap64 (x7_1 * t292))] rfl (by (try simp only [List.map_toArray, List.map_cons, List.map_nil]); first | done | rfl | (simp only [List.length_drop, List.length_take]; rfl)) ?_; (with_reducible refine (gen_capped.calls (wrap64 (x7_1 * t292)) t293 _ A26.out).mono ?_); rintro e w28 ⟨rfl, hb⟩; refine ⟨_, rfl, ?_⟩; have n0_ := Aside0.mk (blk_below (g := gb286) (o := .cells #[.int .i64 a0_0, .int .i64 a0_1, .int .i64 a0_2, .slice (some ad291) l0_3.length c0_3] 63 (0, 0)) (by (with_reducible repeat (first | refine blk_drewN ?_ _ | refine blk_drew ?_ | refine blk_alloc ?_ _)); exact BK286.out) hb); have n1_ := Aside0.mk (below_step (by repeat (first | (with_reducible first | exact HB.out | apply below_alloc | apply pw_below_drewN | apply below_drew1 | refine below_set ?_ GE286.out) | exact HB.out)) hb); clear BK286; clear HB; have BK286 := n0_; have HB := n1_; clear n0_ n1_; (try clear hb); (try clear hb2); (try clear hk); (try clear hi)) | ((with_reducible refine gate_callee (f := 125) rfl ?_); refine goesL_ (some 53) rfl rfl Tryd.func125 (by kernel_rfl) rfl #[.int .i64 (wrap64 (x3_1 + t293))] rfl (by (try simp only [List.map_toArray, List.map_cons, List.map_nil]); first | done | rfl | (simp only [List.length_drop, List.length_take]; rfl)) ?_; (with_reducible refine (gen_capped.calls (wrap64 (x3_1 + t293)) t294 _ A27.out).mono ?_); rintro e w29 ⟨rfl, hb⟩; refine ⟨_, rfl, ?_⟩; have n0_ := Aside0.mk (blk_below (g := gb286) (o := .cells #[.int .i64 a0_0, .int .i64 a0_1, .int .i64 a0_2, .slice (some ad291) l0_3.length c0_3] 63 (0, 0)) (by (with_reducible repeat (first | refine blk_drewN ?_ _ | refine blk_drew ?_ | refine blk_alloc ?_ _)); exact BK286.out) hb); have n1_ := Aside0.mk (below_step (by repeat (first | (with_reducible first | exact HB.out | apply below_alloc | apply pw_below_drewN | apply below_drew1 | refine below_set ?_ GE286.out) | exact HB.out)) hb); clear BK286; clear HB; have BK286 := n0_; have HB := n1_; clear n0_ n1_; (try clear hb); (try clear hb2); (try clear hk); (try clear hi)))
        go_roundg k1
        case measure => have := HK1.out; omega
        case rel => exact ⟨(t294), (t293), (wrap64 (x44_1 + 1)), (by first | rfl | (simp; done) | (simp [*]; done)), (by first | rfl | (simp; done) | (simp [*]; done)), (by first | rfl | (simp; done) | (simp [*]; done)), H', ⟨by have := HK1.out; omega⟩, ⟨by (with_reducible repeat (first | refine blk_drewN ?_ _ | refine blk_drew ?_ | refine blk_alloc ?_ _)); exact BK286.out⟩, ⟨by repeat (first | (with_reducible first | exact HB.out | apply below_alloc | apply pw_below_drewN | apply below_drew1 | refine below_set ?_ GE286.out) | exact HB.out)⟩⟩
       ·rw [if_neg c25] at H
        have c25b0 : decide (x44_1 < a0_1) = false := decide_eq_false c25
        clear c25
        obtain rfl := Option.some.inj H
        go_wp2
        go_ret
        exact ⟨by first | rfl | (simp [errW_none, errW_some] <;> rfl) | (simp [*, errW_none, errW_some] <;> rfl), by repeat (first | (with_reducible first | exact HB.out | apply below_alloc | apply pw_below_drewN | apply below_drew1 | refine below_set ?_ GE286.out) | exact HB.out)⟩
    ·rw [if_neg c19] at H
     exact absurd H (by simp)
   ·rw [if_neg c18] at H
    have c18b0 : (a0_0 == 4) = false := beq_eq_false_iff_ne.mpr c18
    have c18b1 : (a0_0 != 4) = true := bne_iff_ne.mpr c18
    by_cases c30 : a0_0 = 5
    ·rw [if_pos c30] at H
     have c30b0 : (a0_0 == 5) = true := beq_iff_eq.mpr c30
     have c30b1 : (a0_0 != 5) = false := bne_eq_false_iff_eq.mpr c30
     clear c30
     have H' := Aside0.mk H
     clear H
     go_enter Tryd.func84, Tryd.ntmps84
     go_wp2_with (first | ((with_reducible refine gate_dst (N := 1) rfl ?_); refine box_event ?hg (N := 1) ?hd (cs := #[.int .i64 a0_0, .int .i64 a0_1, .int .i64 a0_2, .slice A0_3 l0_3.length c0_3]) (t := 63) ?hr ?_; (case hd => rfl); (case hg => rfl); (case hr => first | (go_simp; done) | (go_simp; rfl)); intro gb286 hg w31 hbox hb; have n0_ := Aside0.mk (below_step (by repeat (first | (with_reducible first | exact HB.out | apply below_alloc | apply pw_below_drewN | apply below_drew1) | exact HB.out)) hb); have n1_ := Aside0.mk (hbox); have n2_ := Aside0.mk ((by rw [hg]; exact (below_size (by repeat (first | (with_reducible first | exact HB.out | apply below_alloc | apply pw_below_drewN | apply below_drew1) | exact HB.out))) : w.heap.size ≤ gb286)); have n3_ := Aside0.mk ((by rw [hg]; exact (below_size (by repeat (first | (with_reducible first | exact HB.out | apply below_alloc | apply pw_below_drewN | apply below_drew1) | exact HB.out))) : w.heap.size ≤ gb286)); clear HB; have HB := n0_; have BK286 := n1_; have GW286 := n2_; have GE286 := n3_; clear n0_ n1_ n2_ n3_; clear hb hbox hg; have hcz32_0 : w31.cell? ⟨gb286, 0, none⟩ = some (.int .i64 a0_0) := (blk_cell BK286.out 0).trans rfl; have hcz32_1 : w31.cell? ⟨gb286, 1, none⟩ = some (.int .i64 a0_1) := (blk_cell BK286.out 1).trans rfl; have hcz32_2 : w31.cell? ⟨gb286, 2, none⟩ = some (.int .i64 a0_2) := (blk_cell BK286.out 2).trans rfl; have hcz32_3 : w31.cell? ⟨gb286, 3, none⟩ = some (.slice A0_3 l0_3.length c0_3) := (blk_cell BK286.out 3).trans rfl; have hfz32_0 := blk_frozen BK286.out 0; have hfz32_1 := blk_frozen BK286.out 1; have hfz32_2 := blk_frozen BK286.out 2; have hfz32_3 := blk_frozen BK286.out 3))
     go_loopg [3, 60] k (fun kq v3 v60 w' => ∃ (x3_1 : Int) (x60_1 : Int), v3 = .int .i64 x3_1 ∧ v60 = .int .i64 x60_1 ∧ Aside0 (gen_count.l2 kq x3_1 l0_3 (l0_3.length : Int) x60_1 = some r) ∧ Aside0 (kq ≤ k) ∧ Aside0 (w'.heap[gb286]? = some (.cells #[.int .i64 a0_0, .int .i64 a0_1, .int .i64 a0_2, (.slice A0_3 l0_3.length c0_3)] 63 (0, 0))) ∧ Aside0 (Below w.heap.size w w'))
     case atStart => exact ⟨(0), (0), (by first | rfl | (simp; done) | (simp [*]; done)), (by first | rfl | (simp; done) | (simp [*]; done)), H', ⟨Nat.le_refl _⟩, ⟨by (with_reducible repeat (first | refine blk_drewN ?_ _ | refine blk_drew ?_ | refine blk_alloc ?_ _)); exact BK286.out⟩, ⟨by repeat (first | (with_reducible first | exact HB.out | apply below_alloc | apply pw_below_drewN | apply below_drew1 | refine below_set ?_ GE286.out) | exact HB.out)⟩⟩
     case round =>
      clear H'
      try clear c1
      try clear c2
      try clear c2b0
      try clear c2b1
      try clear p2
      try clear q2
      try clear hx2
      try clear qi2
      try clear c3
      try clear c5
      try clear c5b0
      try clear c5b1
      try clear p6
      try clear c8
      try clear c8b0
      try clear c9
      try clear c9b0
      try clear c10
      try clear c10b0
      try clear c12
      try clear c14
      try clear c18
      try clear c18b0
      try clear c18b1
      try clear c19
      try clear c19b0
      try clear c19b1
      try clear c25
      try clear c25b0
      try clear c28
      try clear p28
      try clear q28
      try clear hx28
      try clear c29
      try clear p29
      try clear q29
      try clear hx29
      try clear qi29
      try clear c30
      try clear c30b0
      try clear c30b1
      try clear hcz15_0
      try clear hcz15_1
      try clear hcz15_2
      try clear hcz15_3
      try clear hcz22_0
      try clear hcz22_1
      try clear hcz22_2
      try clear hcz22_3
      try clear hcz24_0
      try clear hcz24_1
      try clear hcz24_2
      try clear hcz24_3
      try clear hcz32_0
      try clear hcz32_1
      try clear hcz32_2
      try clear hcz32_3
      try clear hcz4_0
      try clear hcz4_1
      try clear hcz4_2
      try clear hcz4_3
      try clear hcz7_0
      try clear hcz7_1
      try clear hcz7_2
      try clear hcz7_3
      try clear hfz15_0
      try clear hfz15_1
      try clear hfz15_2
      try clear hfz15_3
      try clear hfz22_0
      try clear hfz22_1
      try clear hfz22_2
      try clear hfz22_3
      try clear hfz24_0
      try clear hfz24_1
      try clear hfz24_2
      try clear hfz24_3
      try clear hfz32_0
      try clear hfz32_1
      try clear hfz32_2
      try clear hfz32_3
      try clear hfz4_0
      try clear hfz4_1
      try clear hfz4_2
      try clear hfz4_3
      try clear hfz7_0
      try clear hfz7_1
      try clear hfz7_2
      try clear hfz7_3
      try clear hx287_0
      try clear hx287_1
      try clear hx287_2
      try clear hx287_3
      try clear hx291_0
      try clear hx291_1
      try clear hx291_2
      try clear hx291_3
      try clear p2
      try clear p287
      try clear p291
      try clear p6
      try clear q2
      try clear q287
      try clear q291
      obtain ⟨x3_1, x60_1, rfl, rfl, HA, HK1, BK286, HB⟩ := hrel
      cases gk with
      | zero => exact absurd HA.out (by simp [gen_count.l2])
      | succ k1 =>
       have H := HA.out
       clear HA
       simp only [gen_count.l2] at H
       by_cases c33 : x60_1 < (l0_3.length : Int)
       ·rw [if_pos c33] at H
        have c33b0 : decide (x60_1 < (l0_3.length : Int)) = true := decide_eq_true c33
        clear c33
        by_cases c34 : 0 ≤ x60_1
        ·rw [if_pos c34] at H
         have c34b0 : decide (0 ≤ x60_1) = true := decide_eq_true c34
         clear c34
         by_cases c35 : x60_1 < (l0_3.length : Int)
         ·rw [if_pos c35] at H
          have c35b0 : decide (x60_1 < (l0_3.length : Int)) = true := decide_eq_true c35
          clear c35
          replace H := Option.bind_eq_some_iff.mp H
          obtain ⟨t297, A360, H⟩ := H
          replace H : ((gen_capped.f (wrap64 (x3_1 + t297))).bind fun t298 => (gen_count.l2 k1 t298 l0_3 (l0_3.length : Int) (wrap64 (x60_1 + 1)))) = some r := H
          have A36 := Aside0.mk A360
          clear A360
          replace H := Option.bind_eq_some_iff.mp H
          obtain ⟨t298, A370, H⟩ := H
          replace H : (gen_count.l2 k1 t298 l0_3 (l0_3.length : Int) (wrap64 (x60_1 + 1))) = some r := H
          have A37 := Aside0.mk A370
          clear A370
          have H' := Aside0.mk H
          clear H
          have p295 : 0 ≤ (x60_1 : Int) := of_decide_eq_true (by first | (with_reducible assumption) | assumption)
          have q295 : x60_1 < (l0_3.length : Int) := of_decide_eq_true (by first | (with_reducible assumption) | assumption)
          obtain ⟨ad295, A295_3, c295_3, e295, hx295_0, hx295_1, hx295_2, hx295_3, hl295_3, hi295_3⟩ := at_T63 HR0_3.out x60_1 p295 q295
          cases e295
          replace hx295_0 := (HB.out.cell (World.block_lt_of_cell? w _ hx295_0)).trans hx295_0
          replace hx295_1 := (HB.out.cell (World.block_lt_of_cell? w _ hx295_1)).trans hx295_1
          replace hx295_2 := (HB.out.cell (World.block_lt_of_cell? w _ hx295_2)).trans hx295_2
          replace hx295_3 := (HB.out.cell (World.block_lt_of_cell? w _ hx295_3)).trans hx295_3
          have HR295_3 := Aside0.mk hi295_3
          have HC295_3 := Aside0.mk hl295_3
          clear hi295_3 hl295_3
          replace p295 := eq_true p295
          replace q295 := eq_true q295
          go_wp2_with (first | ((with_reducible refine gate_dst (N := 9) rfl ?_); refine box_event ?hg (N := 9) ?hd (cs := #[.int .i64 0, .int .i64 0, .int .i64 0, .slice none 0 0]) (t := 63) ?hr ?_; (case hd => rfl); (case hg => rfl); (case hr => first | (go_simp; done) | (go_simp; rfl)); intro gb296 hg w38 hbox hb; have n0_ := Aside0.mk (blk_below (g := gb286) (o := .cells #[.int .i64 a0_0, .int .i64 a0_1, .int .i64 a0_2, .slice (some ad295) l0_3.length c0_3] 63 (0, 0)) (by (with_reducible repeat (first | refine blk_drewN ?_ _ | refine blk_drew ?_ | refine blk_alloc ?_ _)); exact BK286.out) hb); have n1_ := Aside0.mk (below_step (by repeat (first | (with_reducible first | exact HB.out | apply below_alloc | apply pw_below_drewN | apply below_drew1 | refine below_set ?_ GE286.out) | exact HB.out)) hb); have n2_ := Aside0.mk (hbox); have n3_ := Aside0.mk ((by rw [hg]; exact (below_size (by repeat (first | (with_reducible first | exact HB.out | apply below_alloc | apply pw_below_drewN | apply below_drew1 | refine below_set ?_ GE286.out) | exact HB.out))) : w.heap.size ≤ gb296)); have n4_ := Aside0.mk ((by rw [hg]; exact (below_size (by repeat (first | (with_reducible first | exact HB.out | apply below_alloc | apply pw_below_drewN | apply below_drew1 | refine below_set ?_ GE286.out) | exact HB.out))) : w.heap.size ≤ gb296)); have n5_ := Aside0.mk ((by rw [hg]; exact Nat.ne_of_lt (blk_lt (g := gb286) (o := .cells #[.int .i64 a0_0, .int .i64 a0_1, .int .i64 a0_2, .slice (some ad295) l0_3.length c0_3] 63 (0, 0)) (by (with_reducible repeat (first | refine blk_drewN ?_ _ | refine blk_drew ?_ | refine blk_alloc ?_ _)); exact BK286.out)) : gb286 ≠ gb296)); have n6_ := Aside0.mk ((by rw [hg]; exact Nat.ne_of_gt (blk_lt (g := gb286) (o := .cells #[.int .i64 a0_0, .int .i64 a0_1, .int .i64 a0_2, .slice (some ad295) l0_3.length c0_3] 63 (0, 0)) (by (with_reducible repeat (first | refine blk_drewN ?_ _ | refine blk_drew ?_ | refine blk_alloc ?_ _)); exact BK286.out)) : gb296 ≠ gb286)); clear BK286; clear HB; have BK286 := n0_; have HB := n1_; have BK296 := n2_; have GW296 := n3_; have GE296 := n4_; have NB286_296 := n5_; have NB296_286 := n6_; clear n0_ n1_ n2_ n3_ n4_ n5_ n6_; clear hb hbox hg; have hnb39 := NB296_286.out; have hnc39 := NB286_296.out; have hcz40_0 : w38.cell? ⟨gb296, 0, none⟩ = some (.int .i64 0) := (blk_cell BK296.out 0).trans rfl; have hcz40_1 : w38.cell? ⟨gb296, 1, none⟩ = some (.int .i64 0) := (blk_cell BK296.out 1).trans rfl; have hcz40_2 : w38.cell? ⟨gb296, 2, none⟩ = some (.int .i64 0) := (blk_cell BK296.out 2).trans rfl; have hcz40_3 : w38.cell? ⟨gb296, 3, none⟩ = some (.slice none 0 0) := (blk_cell BK296.out 3).trans rfl; have hfz40_0 := blk_frozen BK296.out 0; have hfz40_1 := blk_frozen BK296.out 1; have hfz40_2 := blk_frozen BK296.out 2; have hfz40_3 := blk_frozen BK296.out 3) | ((with_reducible refine gate_callee (f := 84) rfl ?_); refine goesL_ (some 66) rfl rfl Tryd.func84 (by kernel_rfl) rfl #[.agg #[.int .i64 ((rd_T63 l0_3 x60_1).f0), .int .i64 ((rd_T63 l0_3 x60_1).f1), .int .i64 ((rd_T63 l0_3 x60_1).f2), .slice A295_3 ((rd_T63 l0_3 x60_1).f3).length c295_3]] rfl (by (try simp only [List.map_toArray, List.map_cons, List.map_nil]); first | done | rfl | (simp only [List.length_drop, List.length_take]; rfl)) ?_; (with_reducible refine (ih k1 (by have := HK1.out; omega) ((rd_T63 l0_3 x60_1).f0) ((rd_T63 l0_3 x60_1).f1) ((rd_T63 l0_3 x60_1).f2) _ _ ((rd_T63 l0_3 x60_1).f3) t297 _ ?side1 ?side2 A36.out).mono ?_); (case side1 => exact Kd.C_below HR295_3.out (by repeat (first | (with_reducible first | exact HB.out | apply below_alloc | apply pw_below_drewN | apply below_drew1 | refine below_set ?_ GE286.out | refine below_set ?_ GE296.out) | exact HB.out))); (case side2 => exact HC295_3.out); rintro e w41 ⟨rfl, hb⟩; refine ⟨_, rfl, ?_⟩; have n0_ := Aside0.mk (blk_below (g := gb286) (o := .cells #[.int .i64 a0_0, .int .i64 a0_1, .int .i64 a0_2, .slice (some ad295) l0_3.length c0_3] 63 (0, 0)) (by (with_reducible repeat (first | refine blk_drewN ?_ _ | refine blk_drew ?_ | refine blk_alloc ?_ _)); refine blk_far ?_ NB286_296.out _; (with_reducible repeat (first | refine blk_drewN ?_ _ | refine blk_drew ?_ | refine blk_alloc ?_ _)); refine blk_far ?_ NB286_296.out _; (with_reducible repeat (first | refine blk_drewN ?_ _ | refine blk_drew ?_ | refine blk_alloc ?_ _)); refine blk_far ?_ NB286_296.out _; (with_reducible repeat (first | refine blk_drewN ?_ _ | refine blk_drew ?_ | refine blk_alloc ?_ _)); refine blk_far ?_ NB286_296.out _; (with_reducible repeat (first | refine blk_drewN ?_ _ | refine blk_drew ?_ | refine blk_alloc ?_ _)); exact BK286.out) hb); have n1_ := Aside0.mk (blk_below (g := gb296) (o := .cells #[.int .i64 ((rd_T63 l0_3 x60_1).f0), .int .i64 ((rd_T63 l0_3 x60_1).f1), .int .i64 ((rd_T63 l0_3 x60_1).f2), .slice A295_3 ((rd_T63 l0_3 x60_1).f3).length c295_3] 63 (0, 0)) (by (with_reducible repeat (first | refine blk_drewN ?_ _ | refine blk_drew ?_ | refine blk_alloc ?_ _)); refine blk_put (cs := #[.int .i64 ((rd_T63 l0_3 x60_1).f0), .int .i64 ((rd_T63 l0_3 x60_1).f1), .int .i64 ((rd_T63 l0_3 x60_1).f2), .slice none 0 0]) ?_ 3 _ rfl; (with_reducible repeat (first | refine blk_drewN ?_ _ | refine blk_drew ?_ | refine blk_alloc ?_ _)); refine blk_put (cs := #[.int .i64 ((rd_T63 l0_3 x60_1).f0), .int .i64 ((rd_T63 l0_3 x60_1).f1), .int .i64 0, .slice none 0 0]) ?_ 2 _ rfl; (with_reducible repeat (first | refine blk_drewN ?_ _ | refine blk_drew ?_ | refine blk_alloc ?_ _)); refine blk_put (cs := #[.int .i64 ((rd_T63 l0_3 x60_1).f0), .int .i64 0, .int .i64 0, .slice none 0 0]) ?_ 1 _ rfl; (with_reducible repeat (first | refine blk_drewN ?_ _ | refine blk_drew ?_ | refine blk_alloc ?_ _)); refine blk_put (cs := #[.int .i64 0, .int .i64 0, .int .i64 0, .slice none 0 0]) ?_ 0 _ rfl; (with_reducible repeat (first | refine blk_drewN ?_ _ | refine blk_drew ?_ | refine blk_alloc ?_ _)); exact BK296.out) hb); have n2_ := Aside0.mk (below_step (by repeat (first | (with_reducible first | exact HB.out | apply below_alloc | apply pw_below_drewN | apply below_drew1 | refine below_set ?_ GE286.out | refine below_set ?_ GE296.out) | exact HB.out)) hb); clear BK286; clear BK296; clear HB; have BK286 := n0_; have BK296 := n1_; have HB := n2_; clear n0_ n1_ n2_; (try clear hb); (try clear hb2); (try clear hk); (try clear hi)) | ((with_reducible refine gate_callee (f := 125) rfl ?_); refine goesL_ (some 68) rfl rfl Tryd.func125 (by kernel_rfl) rfl #[.int .i64 (wrap64 (x3_1 + t297))] rfl (by (try simp only [List.map_toArray, List.map_cons, List.map_nil]); first | done | rfl | (simp only [List.length_drop, List.length_take]; rfl)) ?_; (with_reducible refine (gen_capped.calls (wrap64 (x3_1 + t297)) t298 _ A37.out).mono ?_); rintro e w42 ⟨rfl, hb⟩; refine ⟨_, rfl, ?_⟩; have n0_ := Aside0.mk (blk_below (g := gb286) (o := .cells #[.int .i64 a0_0, .int .i64 a0_1, .int .i64 a0_2, .slice (some ad295) l0_3.length c0_3] 63 (0, 0)) (by (with_reducible repeat (first | refine blk_drewN ?_ _ | refine blk_drew ?_ | refine blk_alloc ?_ _)); exact BK286.out) hb); have n1_ := Aside0.mk (blk_below (g := gb296) (o := .cells #[.int .i64 ((rd_T63 l0_3 x60_1).f0), .int .i64 ((rd_T63 l0_3 x60_1).f1), .int .i64 ((rd_T63 l0_3 x60_1).f2), .slice A295_3 ((rd_T63 l0_3 x60_1).f3).length c295_3] 63 (0, 0)) (by (with_reducible repeat (first | refine blk_drewN ?_ _ | refine blk_drew ?_ | refine blk_alloc ?_ _)); exact BK296.out) hb); have n2_ := Aside0.mk (below_step (by repeat (first | (with_reducible first | exact HB.out | apply below_alloc | apply pw_below_drewN | apply below_drew1 | refine below_set ?_ GE286.out | refine below_set ?_ GE296.out) | exact HB.out)) hb); clear BK286; clear BK296; clear HB; have BK286 := n0_; have BK296 := n1_; have HB := n2_; clear n0_ n1_ n2_; (try clear hb); (try clear hb2); (try clear hk); (try clear hi)))
          go_roundg k1
          case measure => have := HK1.out; omega
          case rel => exact ⟨(t298), (wrap64 (x60_1 + 1)), (by first | rfl | (simp; done) | (simp [*]; done)), (by first | rfl | (simp; done) | (simp [*]; done)), H', ⟨by have := HK1.out; omega⟩, ⟨by (with_reducible repeat (first | refine blk_drewN ?_ _ | refine blk_drew ?_ | refine blk_alloc ?_ _)); exact BK286.out⟩, ⟨by repeat (first | (with_reducible first | exact HB.out | apply below_alloc | apply pw_below_drewN | apply below_drew1 | refine below_set ?_ GE286.out | refine below_set ?_ GE296.out) | exact HB.out)⟩⟩
         ·rw [if_neg c35] at H
          exact absurd H (by simp)
        ·rw [if_neg c34] at H
         exact absurd H (by simp)
       ·rw [if_neg c33] at H
        have c33b0 : decide (x60_1 < (l0_3.length : Int)) = false := decide_eq_false c33
        clear c33
        obtain rfl := Option.some.inj H
        go_wp2
        go_ret
        exact ⟨by first | rfl | (simp [errW_none, errW_some] <;> rfl) | (simp [*, errW_none, errW_some] <;> rfl), by repeat (first | (with_reducible first | exact HB.out | apply below_alloc | apply pw_below_drewN | apply below_drew1 | refine below_set ?_ GE286.out) | exact HB.out)⟩
    ·rw [if_neg c30] at H
     have c30b0 : (a0_0 == 5) = false := beq_eq_false_iff_ne.mpr c30
     have c30b1 : (a0_0 != 5) = true := bne_iff_ne.mpr c30
     obtain rfl := Option.some.inj H
     go_enter Tryd.func84, Tryd.ntmps84
     go_wp2_with (first | ((with_reducible refine gate_dst (N := 1) rfl ?_); refine box_event ?hg (N := 1) ?hd (cs := #[.int .i64 a0_0, .int .i64 a0_1, .int .i64 a0_2, .slice A0_3 l0_3.length c0_3]) (t := 63) ?hr ?_; (case hd => rfl); (case hg => rfl); (case hr => first | (go_simp; done) | (go_simp; rfl)); intro gb286 hg w43 hbox hb; have n0_ := Aside0.mk (below_step (by repeat (first | (with_reducible first | exact HB.out | apply below_alloc | apply pw_below_drewN | apply below_drew1) | exact HB.out)) hb); have n1_ := Aside0.mk (hbox); have n2_ := Aside0.mk ((by rw [hg]; exact (below_size (by repeat (first | (with_reducible first | exact HB.out | apply below_alloc | apply pw_below_drewN | apply below_drew1) | exact HB.out))) : w.heap.size ≤ gb286)); have n3_ := Aside0.mk ((by rw [hg]; exact (below_size (by repeat (first | (with_reducible first | exact HB.out | apply below_alloc | apply pw_below_drewN | apply below_drew1) | exact HB.out))) : w.heap.size ≤ gb286)); clear HB; have HB := n0_; have BK286 := n1_; have GW286 := n2_; have GE286 := n3_; clear n0_ n1_ n2_ n3_; clear hb hbox hg; have hcz44_0 : w43.cell? ⟨gb286, 0, none⟩ = some (.int .i64 a0_0) := (blk_cell BK286.out 0).trans rfl; have hcz44_1 : w43.cell? ⟨gb286, 1, none⟩ = some (.int .i64 a0_1) := (blk_cell BK286.out 1).trans rfl; have hcz44_2 : w43.cell? ⟨gb286, 2, none⟩ = some (.int .i64 a0_2) := (blk_cell BK286.out 2).trans rfl; have hcz44_3 : w43.cell? ⟨gb286, 3, none⟩ = some (.slice A0_3 l0_3.length c0_3) := (blk_cell BK286.out 3).trans rfl; have hfz44_0 := blk_frozen BK286.out 0; have hfz44_1 := blk_frozen BK286.out 1; have hfz44_2 := blk_frozen BK286.out 2; have hfz44_3 := blk_frozen BK286.out 3))
     go_ret
     exact ⟨by first | rfl | (simp [errW_none, errW_some] <;> rfl) | (simp [*, errW_none, errW_some] <;> rfl), by repeat (first | (with_reducible first | exact HB.out | apply below_alloc | apply pw_below_drewN | apply below_drew1 | refine below_set ?_ GE286.out) | exact HB.out)⟩

end Go.Proofs.YtgdomnlkafcddaaDoor.Q
namespace Go.Proofs.YtgdomnlkafcddaaDoor.Q
open Go.RowKit Go.Proofs.YtgdomnlkafcddaaDoorW.PrintWords Go.Proofs.YtgdomnlkafcddaaDoorW.PrintLast Go.Proofs.YtgdomnlkafcddaaDoorW.PrintMore
attribute [local go_sem] max2_int min2_int max_two min_two max_three min_three max_four min_four   -- for this text's walks alone
set_option linter.unusedVariables false
set_option linter.unusedSimpArgs false

/-! ### gen_Count: function 42 -/
def gen_Count.f (k : Nat) (a0_0 : Int) (a0_1 : Int) (a0_2 : Int) (l0_3 : List (S63)) : Option (Int × Option Int) := (gen_Check.f k a0_0 a0_1 a0_2 l0_3).bind fun t300 => (if t300.isNone = true then ((gen_count.f k a0_0 a0_1 a0_2 l0_3).bind fun t302 => (if t302 > 1048576 then (some (0, some 4)) else (some (t302, none)))) else (some (0, some (t300.getD 0))))
theorem gen_Count.mono : ∀ a0 a1 a2 a3 k, LeO (gen_Count.f k a0 a1 a2 a3) (gen_Count.f (k + 1) a0 a1 a2 a3) := by
 intro a0 a1 a2 a3 k
 unfold gen_Count.f
 repeat' first
   | (with_reducible exact gen_Check.mono _ _ _ _ _)
   | (with_reducible exact gen_count.mono _ _ _ _ _)
   | (with_reducible exact LeO.refl _)
   | (with_reducible exact LeO.none _)
   | (with_reducible refine LeO.ite ?_ ?_)
   | (with_reducible refine LeO.bind ?_ (fun _ => ?_))
   | exact gen_Check.mono _ _ _ _ _
   | exact gen_count.mono _ _ _ _ _
   | exact LeO.none _
   | refine LeO.ite ?_ ?_
   | refine LeO.bind ?_ (fun _ => ?_)
set_option maxHeartbeats 8000000 in
set_option maxRecDepth 100000 in
theorem gen_Count.calls (k : Nat) (a0_0 : Int) (a0_1 : Int) (a0_2 : Int) (A0_3 : Option Addr) (c0_3 : Nat) (l0_3 : List (S63)) (r1 : Int) (r2 : Option Int) (w : World) (hr0_3 : Kd.C k63 w A0_3 l0_3.length l0_3) (hc0_3 : l0_3.length ≤ c0_3) (h : gen_Count.f k a0_0 a0_1 a0_2 l0_3 = some (r1, r2)) :
  Calls Tryd.prog 42 #[.agg #[.int .i64 a0_0, .int .i64 a0_1, .int .i64 a0_2, .slice A0_3 l0_3.length c0_3]] w fun e w' => e = .returned (.tuple #[.int .i64 r1, errW r2]) ∧ Below w.heap.size w w' := by
 have hu63 := Tryd.underlying63
 have hu30 := Tryd.underlying30
 have hu66 := Tryd.underlying66
 have HR0_3 := Aside0.mk hr0_3
 have HC0_3 := Aside0.mk hc0_3
 clear hr0_3 hc0_3
 have HB := Aside0.mk (Below.refl w.heap.size w)
 have H : ((gen_Check.f k a0_0 a0_1 a0_2 l0_3).bind fun t300 => (if t300.isNone = true then ((gen_count.f k a0_0 a0_1 a0_2 l0_3).bind fun t302 => (if t302 > 1048576 then (some (0, some 4)) else (some (t302, none)))) else (some (0, some (t300.getD 0))))) = some (r1, r2) := h
 clear h
 replace H := Option.bind_eq_some_iff.mp H
 obtain ⟨t300, A20, H⟩ := H
 replace H : (if t300.isNone = true then ((gen_count.f k a0_0 a0_1 a0_2 l0_3).bind fun t302 => (if t302 > 1048576 then (some (0, some 4)) else (some (t302, none)))) else (some (0, some (t300.getD 0)))) = some (r1, r2) := H
 have A2 := Aside0.mk A20
 clear A20
 rcases t300 with _ | q301
 ·have H1 : ((gen_count.f k a0_0 a0_1 a0_2 l0_3).bind fun t302 => (if t302 > 1048576 then (some (0, some 4)) else (some (t302, none)))) = some (r1, r2) := by rw [if_pos (show (none : Option Int).isNone = true by rfl)] at H; exact H
  clear H
  have H := H1
  clear H1
  try simp only [errW_none, errW_some]
  replace H := Option.bind_eq_some_iff.mp H
  obtain ⟨t302, A30, H⟩ := H
  replace H : (if t302 > 1048576 then (some (0, some 4)) else (some (t302, none))) = some (r1, r2) := H
  have A3 := Aside0.mk A30
  clear A30
  by_cases c4 : t302 > 1048576
  ·rw [if_pos c4] at H
   have c4b0 : decide (1048576 < t302) = true := decide_eq_true c4
   clear c4
   simp only [Option.some.injEq, Prod.mk.injEq] at H
   obtain ⟨rfl, rfl⟩ := H
   go_enter Tryd.func42, Tryd.ntmps42
   go_wp2_with (first | ((with_reducible refine gate_dst (N := 1) rfl ?_); refine box_event ?hg (N := 1) ?hd (cs := #[.int .i64 a0_0, .int .i64 a0_1, .int .i64 a0_2, .slice A0_3 l0_3.length c0_3]) (t := 63) ?hr ?_; (case hd => rfl); (case hg => rfl); (case hr => first | (go_simp; done) | (go_simp; rfl)); intro gb299 hg w5 hbox hb; have n0_ := Aside0.mk (below_step (by repeat (first | (with_reducible first | exact HB.out | apply below_alloc | apply pw_below_drewN | apply below_drew1) | exact HB.out)) hb); have n1_ := Aside0.mk (hbox); have n2_ := Aside0.mk ((by rw [hg]; exact (below_size (by repeat (first | (with_reducible first | exact HB.out | apply below_alloc | apply pw_below_drewN | apply below_drew1) | exact HB.out))) : w.heap.size ≤ gb299)); have n3_ := Aside0.mk ((by rw [hg]; exact (below_size (by repeat (first | (with_reducible first | exact HB.out | apply below_alloc | apply pw_below_drewN | apply below_drew1) | exact HB.out))) : w.heap.size ≤ gb299)); clear HB; have HB := n0_; have BK299 := n1_; have GW299 := n2_; have GE299 := n3_; clear n0_ n1_ n2_ n3_; clear hb hbox hg; have hcz6_0 : w5.cell? ⟨gb299, 0, none⟩ = some (.int .i64 a0_0) := (blk_cell BK299.out 0).trans rfl; have hcz6_1 : w5.cell? ⟨gb299, 1, none⟩ = some (.int .i64 a0_1) := (blk_cell BK299.out 1).trans rfl; have hcz6_2 : w5.cell? ⟨gb299, 2, none⟩ = some (.int .i64 a0_2) := (blk_cell BK299.out 2).trans rfl; have hcz6_3 : w5.cell? ⟨gb299, 3, none⟩ = some (.slice A0_3 l0_3.length c0_3) := (blk_cell BK299.out 3).trans rfl; have hfz6_0 := blk_frozen BK299.out 0; have hfz6_1 := blk_frozen BK299.out 1; have hfz6_2 := blk_frozen BK299.out 2; have hfz6_3 := blk_frozen BK299.out 3) | ((with_reducible refine gate_callee (f := 83) rfl ?_); refine goesL_ (some 7) rfl rfl Tryd.func83 (by kernel_rfl) rfl #[.agg #[.int .i64 a0_0, .int .i64 a0_1, .int .i64 a0_2, .slice A0_3 l0_3.length c0_3]] rfl (by (try simp only [List.map_toArray, List.map_cons, List.map_nil]); first | done | rfl | (simp only [List.length_drop, List.length_take]; rfl)) ?_; (with_reducible refine (gen_Check.calls k a0_0 a0_1 a0_2 _ _ l0_3 none _ ?side1 ?side2 A2.out).mono ?_); (case side1 => repeat (first | exact (Kd.C_below HR0_3.out HB.out) | (with_reducible refine Kd.C_alloc ?_ _) | (with_reducible refine Kd.C_drewN ?_ _) | (with_reducible refine Kd.C_drew ?_))); (case side2 => exact HC0_3.out); rintro e w7 ⟨rfl, hb⟩; refine ⟨_, rfl, ?_⟩; have n0_ := Aside0.mk (blk_below (g := gb299) (o := .cells #[.int .i64 a0_0, .int .i64 a0_1, .int .i64 a0_2, .slice A0_3 l0_3.length c0_3] 63 (0, 0)) (by (with_reducible repeat (first | refine blk_drewN ?_ _ | refine blk_drew ?_ | refine blk_alloc ?_ _)); exact BK299.out) hb); have n1_ := Aside0.mk (below_step (by repeat (first | (with_reducible first | exact HB.out | apply below_alloc | apply pw_below_drewN | apply below_drew1 | refine below_set ?_ GE299.out) | exact HB.out)) hb); clear BK299; clear HB; have BK299 := n0_; have HB := n1_; clear n0_ n1_; (try clear hb); (try clear hb2); (try clear hk); (try clear hi); (try simp only [errW_none, errW_some]); have hcz8_0 : w7.cell? ⟨gb299, 0, none⟩ = some (.int .i64 a0_0) := (blk_cell BK299.out 0).trans rfl; have hcz8_1 : w7.cell? ⟨gb299, 1, none⟩ = some (.int .i64 a0_1) := (blk_cell BK299.out 1).trans rfl; have hcz8_2 : w7.cell? ⟨gb299, 2, none⟩ = some (.int .i64 a0_2) := (blk_cell BK299.out 2).trans rfl; have hcz8_3 : w7.cell? ⟨gb299, 3, none⟩ = some (.slice A0_3 l0_3.length c0_3) := (blk_cell BK299.out 3).trans rfl; have hfz8_0 := blk_frozen BK299.out 0; have hfz8_1 := blk_frozen BK299.out 1; have hfz8_2 := blk_frozen BK299.out 2; have hfz8_3 := blk_frozen BK299.out 3) | ((with_reducible refine gate_callee (f := 84) rfl ?_); refine goesL_ (some 12) rfl rfl Tryd.func84 (by kernel_rfl) rfl #[.agg #[.int .i64 a0_0, .int .i64 a0_1, .int .i64 a0_2, .slice A0_3 l0_3.length c0_3]] rfl (by (try simp only [List.map_toArray, List.map_cons, List.map_nil]); first | done | rfl | (simp only [List.length_drop, List.length_take]; rfl)) ?_; (with_reducible refine (gen_count.calls k a0_0 a0_1 a0_2 _ _ l0_3 t302 _ ?side1 ?side2 A3.out).mono ?_); (case side1 => repeat (first | exact (Kd.C_below HR0_3.out HB.out) | (with_reducible refine Kd.C_alloc ?_ _) | (with_reducible refine Kd.C_drewN ?_ _) | (with_reducible refine Kd.C_drew ?_))); (case side2 => exact HC0_3.out); rintro e w9 ⟨rfl, hb⟩; refine ⟨_, rfl, ?_⟩; have n0_ := Aside0.mk (blk_below (g := gb299) (o := .cells #[.int .i64 a0_0, .int .i64 a0_1, .int .i64 a0_2, .slice A0_3 l0_3.length c0_3] 63 (0, 0)) (by (with_reducible repeat (first | refine blk_drewN ?_ _ | refine blk_drew ?_ | refine blk_alloc ?_ _)); exact BK299.out) hb); have n1_ := Aside0.mk (below_step (by repeat (first | (with_reducible first | exact HB.out | apply below_alloc | apply pw_below_drewN | apply below_drew1 | refine below_set ?_ GE299.out) | exact HB.out)) hb); clear BK299; clear HB; have BK299 := n0_; have HB := n1_; clear n0_ n1_; (try clear hb); (try clear hb2); (try clear hk); (try clear hi)))
   go_ret2
   exact ⟨by first | rfl | (simp [errW_none, errW_some] <;> rfl) | (simp [*, errW_none, errW_some] <;> rfl), by repeat (first | (with_reducible first | exact HB.out | apply below_alloc | apply pw_below_drewN | apply below_drew1 | refine below_set ?_ GE299.out) | exact HB.out)⟩
  ·rw [if_neg c4] at H
   have c4b0 : decide (1048576 < t302) = false := decide_eq_false c4
   clear c4
   simp only [Option.some.injEq, Prod.mk.injEq] at H
   obtain ⟨rfl, rfl⟩ := H
   go_enter Tryd.func42, Tryd.ntmps42
   go_wp2_with (first | ((with_reducible refine gate_dst (N := 1) rfl ?_); refine box_event ?hg (N := 1) ?hd (cs := #[.int .i64 a0_0, .int .i64 a0_1, .int .i64 a0_2, .slice A0_3 l0_3.length c0_3]) (t := 63) ?hr ?_; (case hd => rfl); (case hg => rfl); (case hr => first | (go_simp; done) | (go_simp; rfl)); intro gb299 hg w10 hbox hb; have n0_ := Aside0.mk (below_step (by repeat (first | (with_reducible first | exact HB.out | apply below_alloc | apply pw_below_drewN | apply below_drew1) | exact HB.out)) hb); have n1_ := Aside0.mk (hbox); have n2_ := Aside0.mk ((by rw [hg]; exact (below_size (by repeat (first | (with_reducible first | exact HB.out | apply below_alloc | apply pw_below_drewN | apply below_drew1) | exact HB.out))) : w.heap.size ≤ gb299)); have n3_ := Aside0.mk ((by rw [hg]; exact (below_size (by repeat (first | (with_reducible first | exact HB.out | apply below_alloc | apply pw_below_drewN | apply below_drew1) | exact HB.out))) : w.heap.size ≤ gb299)); clear HB; have HB := n0_; have BK299 := n1_; have GW299 := n2_; have GE299 := n3_; clear n0_ n1_ n2_ n3_; clear hb hbox hg; have hcz11_0 : w10.cell? ⟨gb299, 0, none⟩ = some (.int .i64 a0_0) := (blk_cell BK299.out 0).trans rfl; have hcz11_1 : w10.cell? ⟨gb299, 1, none⟩ = some (.int .i64 a0_1) := (blk_cell BK299.out 1).trans rfl; have hcz11_2 : w10.cell? ⟨gb299, 2, none⟩ = some (.int .i64 a0_2) := (blk_cell BK299.out 2).trans rfl; have hcz11_3 : w10.cell? ⟨gb299, 3, none⟩ = some (.slice A0_3 l0_3.length c0_3) := (blk_cell BK299.out 3).trans rfl; have hfz11_0 := blk_frozen BK299.out 0; have hfz11_1 := blk_frozen BK299.out 1; have hfz11_2 := blk_frozen BK299.out 2; have hfz11_3 := blk_frozen BK299.out 3) | ((with_reducible refine gate_callee (f := 83) rfl ?_); refine goesL_ (some 7) rfl rfl Tryd.func83 (by kernel_rfl) rfl #[.agg #[.int .i64 a0_0, .int .i64 a0_1, .int .i64 a0_2, .slice A0_3 l0_3.length c0_3]] rfl (by (try simp only [List.map_toArray, List.map_cons, List.map_nil]); first | done | rfl | (simp only [List.length_drop, List.length_take]; rfl)) ?_; (with_reducible refine (gen_Check.calls k a0_0 a0_1 a0_2 _ _ l0_3 none _ ?side1 ?side2 A2.out).mono ?_); (case side1 => repeat (first | exact (Kd.C_below HR0_3.out HB.out) | (with_reducible refine Kd.C_alloc ?_ _) | (with_reducible refine Kd.C_drewN ?_ _) | (with_reducible refine Kd.C_drew ?_))); (case side2 => exact HC0_3.out); rintro e w12 ⟨rfl, hb⟩; refine ⟨_, rfl, ?_⟩; have n0_ := Aside0.mk (blk_below (g := gb299) (o := .cells #[.int .i64 a0_0, .int .i64 a0_1, .int .i64 a0_2, .slice A0_3 l0_3.length c0_3] 63 (0, 0)) (by (with_reducible repeat (first | refine blk_drewN ?_ _ | refine blk_drew ?_ | refine blk_alloc ?_ _)); exact BK299.out) hb); have n1_ := Aside0.mk (below_step (by repeat (first | (with_reducible first | exact HB.out | apply below_alloc | apply pw_below_drewN | apply below_drew1 | refine below_set ?_ GE299.out) | exact HB.out)) hb); clear BK299; clear HB; have BK299 := n0_; have HB := n1_; clear n0_ n1_; (try clear hb); (try clear hb2); (try clear hk); (try clear hi); (try simp only [errW_none, errW_some]); have hcz13_0 : w12.cell? ⟨gb299, 0, none⟩ = some (.int .i64 a0_0) := (blk_cell BK299.out 0).trans rfl; have hcz13_1 : w12.cell? ⟨gb299, 1, none⟩ = some (.int .i64 a0_1) := (blk_cell BK299.out 1).trans rfl; have hcz13_2 : w12.cell? ⟨gb299, 2, none⟩ = some (.int .i64 a0_2) := (blk_cell BK299.out 2).trans rfl; have hcz13_3 : w12.cell? ⟨gb299, 3, none⟩ = some (.slice A0_3 l0_3.length c0_3) := (blk_cell BK299.out 3).trans rfl; have hfz13_0 := blk_frozen BK299.out 0; have hfz13_1 := blk_frozen BK299.out 1; have hfz13_2 := blk_frozen BK299.out 2; have hfz13_3 := blk_frozen BK299.out 3) | ((with_reducible refine gate_callee (f := 84) rfl ?_); refine goesL_ (some 12) rfl rfl Tryd.func84 (by kernel_rfl) rfl #[.agg #[.int .i64 a0_0, .int .i64 a0_1, .int .i64 a0_2, .slice A0_3 l0_3.length c0_3]] rfl (by (try simp only [List.map_toArray, List.map_cons, List.map_nil]); first | done | rfl | (simp only [List.length_drop, List.length_take]; rfl)) ?_; (with_reducible refine (gen_count.calls k a0_0 a0_1 a0_2 _ _ l0_3 t302 _ ?side1 ?side2 A3.out).mono ?_); (case side1 => repeat (first | exact (Kd.C_below HR0_3.out HB.out) | (with_reducible refine Kd.C_alloc ?_ _) | (with_reducible refine Kd.C_drewN ?_ _) | (with_reducible refine Kd.C_drew ?_))); (case side2 => exact HC0_3.out); rintro e w14 ⟨rfl, hb⟩; refine ⟨_, rfl, ?_⟩; have n0_ := Aside0.mk (blk_below (g := gb299) (o := .cells #[.int .i64 a0_0, .int .i64 a0_1, .int .i64 a0_2, .slice A0_3 l0_3.length c0_3] 63 (0, 0)) (by (with_reducible repeat (first | refine blk_drewN ?_ _ | refine blk_drew ?_ | refine blk_alloc ?_ _)); exact BK299.out) hb); have n1_ := Aside0.mk (below_step (by repeat (first | (with_reducible first | exact HB.out | apply below_alloc | apply pw_below_drewN | apply below_drew1 | refine below_set ?_ GE299.out) | exact HB.out)) hb); clear BK299; clear HB; have BK299 := n0_; have HB := n1_; clear n0_ n1_; (try clear hb); (try clear hb2); (try clear hk); (try clear hi)))
   go_ret2
   exact ⟨by first | rfl | (simp [errW_none, errW_some] <;> rfl) | (simp [*, errW_none, errW_some] <;> rfl), by repeat (first | (with_reducible first | exact HB.out | apply below_alloc | apply pw_below_drewN | apply below_drew1 | refine below_set ?_ GE299.out) | exact HB.out)⟩
 ·have H1 : (some (0, some q301)) = some (r1, r2) := by rw [if_neg (show ¬ (some q301).isNone = true by simp)] at H; exact H
  clear H
  have H := H1
  clear H1
  try simp only [errW_none, errW_some]
  simp only [Option.some.injEq, Prod.mk.injEq] at H
  obtain ⟨rfl, rfl⟩ := H
  go_enter Tryd.func42, Tryd.ntmps42
  go_wp2_with (first | ((with_reducible refine gate_dst (N := 1) rfl ?_); refine box_event ?hg (N := 1) ?hd (cs := #[.int .i64 a0_0, .int .i64 a0_1, .int .i64 a0_2, .slice A0_3 l0_3.length c0_3]) (t := 63) ?hr ?_; (case hd => rfl); (case hg => rfl); (case hr => first | (go_simp; done) | (go_simp; rfl)); intro gb299 hg w15 hbox hb; have n0_ := Aside0.mk (below_step (by repeat (first | (with_reducible first | exact HB.out | apply below_alloc | apply pw_below_drewN | apply below_drew1) | exact HB.out)) hb); have n1_ := Aside0.mk (hbox); have n2_ := Aside0.mk ((by rw [hg]; exact (below_size (by repeat (first | (with_reducible first | exact HB.out | apply below_alloc | apply pw_below_drewN | apply below_drew1) | exact HB.out))) : w.heap.size ≤ gb299)); have n3_ := Aside0.mk ((by rw [hg]; exact (below_size (by repeat (first | (with_reducible first | exact HB.out | apply below_alloc | apply pw_below_drewN | apply below_drew1) | exact HB.out))) : w.heap.size ≤ gb299)); clear HB; have HB := n0_; have BK299 := n1_; have GW299 := n2_; have GE299 := n3_; clear n0_ n1_ n2_ n3_; clear hb hbox hg; have hcz16_0 : w15.cell? ⟨gb299, 0, none⟩ = some (.int .i64 a0_0) := (blk_cell BK299.out 0).trans rfl; have hcz16_1 : w15.cell? ⟨gb299, 1, none⟩ = some (.int .i64 a0_1) := (blk_cell BK299.out 1).trans rfl; have hcz16_2 : w15.cell? ⟨gb299, 2, none⟩ = some (.int .i64 a0_2) := (blk_cell BK299.out 2).trans rfl; have hcz16_3 : w15.cell? ⟨gb299, 3, none⟩ = some (.slice A0_3 l0_3.length c0_3) := (blk_cell BK299.out 3).trans rfl; have hfz16_0 := blk_frozen BK299.out 0; have hfz16_1 := blk_frozen BK299.out 1; have hfz16_2 := blk_frozen BK299.out 2; have hfz16_3 := blk_frozen BK299.out 3) | ((with_reducible refine gate_callee (f := 83) rfl ?_); refine goesL_ (some 7) rfl rfl Tryd.func83 (by kernel_rfl) rfl #[.agg #[.int .i64 a0_0, .int .i64 a0_1, .int .i64 a0_2, .slice A0_3 l0_3.length c0_3]] rfl (by (try simp only [List.map_toArray, List.map_cons, List.map_nil]); first | done | rfl | (simp only [List.length_drop, List.length_take]; rfl)) ?_; (with_reducible refine (gen_Check.calls k a0_0 a0_1 a0_2 _ _ l0_3 (some q301) _ ?side1 ?side2 A2.out).mono ?_); (case side1 => repeat (first | exact (Kd.C_below HR0_3.out HB.out) | (with_reducible refine Kd.C_alloc ?_ _) | (with_reducible refine Kd.C_drewN ?_ _) | (with_reducible refine Kd.C_drew ?_))); (case side2 => exact HC0_3.out); rintro e w17 ⟨rfl, hb⟩; refine ⟨_, rfl, ?_⟩; have n0_ := Aside0.mk (blk_below (g := gb299) (o := .cells #[.int .i64 a0_0, .int .i64 a0_1, .int .i64 a0_2, .slice A0_3 l0_3.length c0_3] 63 (0, 0)) (by (with_reducible repeat (first | refine blk_drewN ?_ _ | refine blk_drew ?_ | refine blk_alloc ?_ _)); exact BK299.out) hb); have n1_ := Aside0.mk (below_step (by repeat (first | (with_reducible first | exact HB.out | apply below_alloc | apply pw_below_drewN | apply below_drew1 | refine below_set ?_ GE299.out) | exact HB.out)) hb); clear BK299; clear HB; have BK299 := n0_; have HB := n1_; clear n0_ n1_; (try clear hb); (try clear hb2); (try clear hk); (try clear hi); (try simp only [errW_none, errW_some])))
  go_ret2
  exact ⟨by first | rfl | (simp [errW_none, errW_some] <;> rfl) | (simp [*, errW_none, errW_some] <;> rfl), by repeat (first | (with_reducible first | exact HB.out | apply below_alloc | apply pw_below_drewN | apply below_drew1 | refine below_set ?_ GE299.out) | exact HB.out)⟩

end Go.Proofs.YtgdomnlkafcddaaDoor.Q
namespace Go.Proofs.YtgdomnlkafcddaaDoor.Q
open Go.RowKit Go.Proofs.YtgdomnlkafcddaaDoorW.PrintWords Go.Proofs.YtgdomnlkafcddaaDoorW.PrintLast Go.Proofs.YtgdomnlkafcddaaDoorW.PrintMore
attribute [local go_sem] max2_int min2_int max_two min_two max_three min_three max_four min_four   -- for this text's walks alone
set_option linter.unusedVariables false
set_option linter.unusedSimpArgs false

/-! ### assayerlaw6_just: function 48 -/
def assayerlaw6_just.f (k : Nat)  : Option (Bool) := (gen_Count.f k 1 0 0 ([] : List (S63))).bind fun bt828 => (if bt828.2.isNone = true then (some (bt828.1 == 1)) else (some false))
theorem assayerlaw6_just.mono : ∀ k, LeO (assayerlaw6_just.f k ) (assayerlaw6_just.f (k + 1) ) := by
 intro  k
 unfold assayerlaw6_just.f
 repeat' first
   | (with_reducible exact gen_Count.mono _ _ _ _ _)
   | (with_reducible exact LeO.refl _)
   | (with_reducible exact LeO.none _)
   | (with_reducible refine LeO.ite ?_ ?_)
   | (with_reducible refine LeO.bind ?_ (fun _ => ?_))
   | exact gen_Count.mono _ _ _ _ _
   | exact LeO.none _
   | refine LeO.ite ?_ ?_
   | refine LeO.bind ?_ (fun _ => ?_)
set_option maxHeartbeats 8000000 in
set_option maxRecDepth 100000 in
theorem assayerlaw6_just.calls (k : Nat)  (r : Bool) (w : World) (h : assayerlaw6_just.f k  = some r) :
  Calls Tryd.prog 48 #[] w fun e w' => e = .returned (.bool r) ∧ Below w.heap.size w w' := by
 have hu63 := Tryd.underlying63
 have hu30 := Tryd.underlying30
 have hu66 := Tryd.underlying66
 have HB := Aside0.mk (Below.refl w.heap.size w)
 have H : ((gen_Count.f k 1 0 0 ([] : List (S63))).bind fun bt828 => (if bt828.2.isNone = true then (some (bt828.1 == 1)) else (some false))) = some r := h
 clear h
 replace H := Option.bind_eq_some_iff.mp H
 obtain ⟨⟨t828, t829⟩, A10, H⟩ := H
 replace H : (if t829.isNone = true then (some (t828 == 1)) else (some false)) = some r := H
 have A1 := Aside0.mk A10
 clear A10
 rcases t829 with _ | q830
 ·have H1 : (some (t828 == 1)) = some r := by rw [if_pos (show (none : Option Int).isNone = true by rfl)] at H; exact H
  clear H
  have H := H1
  clear H1
  try simp only [errW_none, errW_some]
  obtain rfl := Option.some.inj H
  go_enter Tryd.func48, Tryd.ntmps48
  go_wp2_with (first | ((with_reducible refine gate_callee (f := 42) rfl ?_); refine goesL_ (some 5) rfl rfl Tryd.func42 (by kernel_rfl) rfl #[.agg #[.int .i64 1, .int .i64 0, .int .i64 0, .slice none 0 0]] rfl (by (try simp only [List.map_toArray, List.map_cons, List.map_nil]); first | done | rfl | (simp only [List.length_drop, List.length_take]; rfl)) ?_; (refine (gen_Count.calls k 1 0 0 _ _ ([] : List (S63)) t828 none _ ?side1 ?side2 A1.out).mono ?_); (case side1 => exact Kd.C_nil _ _); (case side2 => exact Nat.le_refl _); rintro e w2 ⟨rfl, hb⟩; refine ⟨_, rfl, ?_⟩; have n0_ := Aside0.mk (below_step (by repeat (first | (with_reducible first | exact HB.out | apply below_alloc | apply pw_below_drewN | apply below_drew1) | exact HB.out)) hb); clear HB; have HB := n0_; clear n0_; (try clear hb); (try clear hb2); (try clear hk); (try clear hi); (try simp only [errW_none, errW_some])))
  go_ret
  exact ⟨by first | rfl | (simp [errW_none, errW_some] <;> rfl) | (simp [*, errW_none, errW_some] <;> rfl), by repeat (first | (with_reducible first | exact HB.out | apply below_alloc | apply pw_below_drewN | apply below_drew1) | exact HB.out)⟩
 ·have H1 : (some false) = some r := by rw [if_neg (show ¬ (some q830).isNone = true by simp)] at H; exact H
  clear H
  have H := H1
  clear H1
  try simp only [errW_none, errW_some]
  obtain rfl := Option.some.inj H
  go_enter Tryd.func48, Tryd.ntmps48
  go_wp2_with (first | ((with_reducible refine gate_callee (f := 42) rfl ?_); refine goesL_ (some 5) rfl rfl Tryd.func42 (by kernel_rfl) rfl #[.agg #[.int .i64 1, .int .i64 0, .int .i64 0, .slice none 0 0]] rfl (by (try simp only [List.map_toArray, List.map_cons, List.map_nil]); first | done | rfl | (simp only [List.length_drop, List.length_take]; rfl)) ?_; (refine (gen_Count.calls k 1 0 0 _ _ ([] : List (S63)) t828 (some q830) _ ?side1 ?side2 A1.out).mono ?_); (case side1 => exact Kd.C_nil _ _); (case side2 => exact Nat.le_refl _); rintro e w3 ⟨rfl, hb⟩; refine ⟨_, rfl, ?_⟩; have n0_ := Aside0.mk (below_step (by repeat (first | (with_reducible first | exact HB.out | apply below_alloc | apply pw_below_drewN | apply below_drew1) | exact HB.out)) hb); clear HB; have HB := n0_; clear n0_; (try clear hb); (try clear hb2); (try clear hk); (try clear hi); (try simp only [errW_none, errW_some])))
  go_ret
  exact ⟨by first | rfl | (simp [errW_none, errW_some] <;> rfl) | (simp [*, errW_none, errW_some] <;> rfl), by repeat (first | (with_reducible first | exact HB.out | apply below_alloc | apply pw_below_drewN | apply below_drew1) | exact HB.out)⟩

end Go.Proofs.YtgdomnlkafcddaaDoor.Q
namespace Go.Proofs.YtgdomnlkafcddaaDoor.Q
open Go.RowKit Go.Proofs.YtgdomnlkafcddaaDoorW.PrintWords Go.Proofs.YtgdomnlkafcddaaDoorW.PrintLast Go.Proofs.YtgdomnlkafcddaaDoorW.PrintMore
attribute [local go_sem] max2_int min2_int max_two min_two max_three min_three max_four min_four   -- for this text's walks alone
set_option linter.unusedVariables false
set_option linter.unusedSimpArgs false

/-! ### assayersame_Error: function 38 -/
def assayersame_Error.f (a0 : Option Int) (a1 : Int) : Option (Bool) := (plain_Told.f a0).bind fun t827 => (some (t827 == a1))
set_option maxHeartbeats 8000000 in
set_option maxRecDepth 100000 in
theorem assayersame_Error.calls (a0 : Option Int) (a1 : Int) (r : Bool) (w : World) (h : assayersame_Error.f a0 a1 = some r) (hGErr : GErr w) :
  Calls Tryd.prog 38 #[errW a0, .int .i64 a1] w fun e w' => e = .returned (.bool r) ∧ Below w.heap.size w w' := by
 have HGErr := Aside0.mk hGErr
 clear hGErr
 have HB := Aside0.mk (Below.refl w.heap.size w)
 have H : ((plain_Told.f a0).bind fun t827 => (some (t827 == a1))) = some r := h
 clear h
 replace H := Option.bind_eq_some_iff.mp H
 obtain ⟨t827, A30, H⟩ := H
 replace H : (some (t827 == a1)) = some r := H
 have A3 := Aside0.mk A30
 clear A30
 obtain rfl := Option.some.inj H
 have CA3 := fun W G0_ => plain_Told.calls a0 t827 W A3.out G0_
 try simp only [errW_none, errW_some] at CA3
 go_enter Tryd.func38, Tryd.ntmps38
 go_wp2_with (first | (go_at_call 72; (with_reducible refine (CA3 _ ?gGErr).mono ?_); (case gGErr => exact (HGErr.out.below (by repeat (first | (with_reducible first | exact HB.out | apply below_alloc | apply pw_below_drewN | apply below_drew1) | exact HB.out)))); rintro e w4 ⟨rfl, hb⟩; have n0_ := Aside0.mk (below_step (by repeat (first | (with_reducible first | exact HB.out | apply below_alloc | apply pw_below_drewN | apply below_drew1) | exact HB.out)) hb); clear HB; have HB := n0_; clear n0_; (try clear hb); (try clear hb2); (try clear hk); (try clear hi)))
 go_ret
 exact ⟨by first | rfl | (simp [errW_none, errW_some] <;> rfl) | (simp [*, errW_none, errW_some] <;> rfl), by repeat (first | (with_reducible first | exact HB.out | apply below_alloc | apply pw_below_drewN | apply below_drew1) | exact HB.out)⟩

end Go.Proofs.YtgdomnlkafcddaaDoor.Q
namespace Go.Proofs.YtgdomnlkafcddaaDoor.Q
open Go.RowKit Go.Proofs.YtgdomnlkafcddaaDoorW.PrintWords Go.Proofs.YtgdomnlkafcddaaDoorW.PrintLast Go.Proofs.YtgdomnlkafcddaaDoorW.PrintMore
set_option linter.unusedVariables false
set_option linter.unusedSimpArgs false
structure StFacts (k kg K1 K2 : Nat) (x : S63) (l t m r : List Int) (s : Int) : Prop where
 just : assayerlaw6_just.f k = some true
 mend : gen_Mend.f x.f0 x.f1 x.f2 x.f3 l = some (t, none)
 zero : gen_Mend.f x.f0 x.f1 x.f2 x.f3 [] = some (m, none)
 check : gen_Check.f kg x.f0 x.f1 x.f2 x.f3 = some none
 goodm : Good x m
 goodt : Good x t
 step : ∀ T' ls, Good x T' → rose_Less.f x.f0 x.f1 x.f2 x.f3 T' = some (ls, none) → ∀ y ∈ ls, Good x y
 chm : chain x K1 m 0 = some (m, 0)
 cht : chain x K2 t 0 = some (r, s)
 less : rose_Less.f x.f0 x.f1 x.f2 x.f3 r = some ([], none)
 same : assayersame_Ints.f k m m = some true
 told : assayersame_Error.f (some 2) 2 = some true
set_option maxHeartbeats 8000000 in
set_option maxRecDepth 100000 in
theorem assayerlaw6_ShrinkStays2.bad (k : Nat) (x : S63) (A3 : Option Addr) (c3 : Nat) (A : Option Addr) (c : Nat) (l t : List Int) (er : Int) (w : World)
  (hr3 : Kd.C k63 w A3 x.f3.length x.f3) (hc3 : x.f3.length ≤ c3) (hr : Kd.C (Kd.int .i64) w A l.length l) (hc : l.length ≤ c) (hj : assayerlaw6_just.f k = some true) (hm : gen_Mend.f x.f0 x.f1 x.f2 x.f3 l = some (t, some er)) :
  Calls Tryd.prog 13 #[.agg #[.int .i64 x.f0, .int .i64 x.f1, .int .i64 x.f2, .slice A3 x.f3.length c3], .slice A l.length c] w fun e w' => e = .returned (.bool true) ∧ Below w.heap.size w w' := by
 have hu63 := Tryd.underlying63
 have hu24 := Tryd.underlying24
 have hu30 := Tryd.underlying30
 have hu66 := Tryd.underlying66
 have HC3 := Aside0.mk hr3
 have HL3 := Aside0.mk hc3
 have HC := Aside0.mk hr
 have HL := Aside0.mk hc
 have HJ := Aside0.mk hj
 have HM := Aside0.mk hm
 clear hr3 hc3 hr hc hj hm
 go_enter Tryd.func13, Tryd.ntmps13
 go_wp2_with (first
  | ((with_reducible refine gate_dst (N := 2) rfl ?_); refine box_event ?hg (N := 2) ?hd (cs := #[.int .i64 x.f0, .int .i64 x.f1, .int .i64 x.f2, .slice A3 x.f3.length c3]) (t := 63) ?hr ?_; (case hd => rfl); (case hg => rfl); (case hr => first | (go_simp; done) | (go_simp; rfl)); intro g2 hg w1 hbox hb; have BG := Aside0.mk hbox; have HB := Aside0.mk hb; clear hbox hb hg)
  | ((with_reducible refine gate_dst (N := 24) rfl ?_); refine goesL_ (some 24) rfl rfl Tryd.func48 (by kernel_rfl) rfl #[] rfl (by (try simp only [List.map_toArray, List.map_cons, List.map_nil]); first | done | rfl) ?_; (refine (assayerlaw6_just.calls k true _ HJ.out).mono ?_); rintro e w2 ⟨rfl, hb⟩; refine ⟨_, rfl, ?_⟩; replace HB := Aside0.mk (below_step HB.out hb); replace BG := Aside0.mk (blk_below BG.out hb); have ha0 : w2.cell? ⟨g2, 0, none⟩ = some (.int .i64 x.f0) := (blk_cell BG.out 0).trans rfl; have ha1 : w2.cell? ⟨g2, 1, none⟩ = some (.int .i64 x.f1) := (blk_cell BG.out 1).trans rfl; have ha2 : w2.cell? ⟨g2, 2, none⟩ = some (.int .i64 x.f2) := (blk_cell BG.out 2).trans rfl; have ha3 : w2.cell? ⟨g2, 3, none⟩ = some (.slice A3 x.f3.length c3) := (blk_cell BG.out 3).trans rfl; clear hb)
  | ((with_reducible refine gate_dst (N := 28) rfl ?_); refine goesL_ (some 28) rfl rfl Tryd.func43 (by kernel_rfl) rfl #[.agg #[.int .i64 x.f0, .int .i64 x.f1, .int .i64 x.f2, .slice A3 x.f3.length c3], .slice A l.length c] rfl (by (try simp only [List.map_toArray, List.map_cons, List.map_nil]); first | done | rfl) ?_; (refine (gen_Mend.calls x.f0 x.f1 x.f2 A3 c3 x.f3 A c l t (some er) _ (Kd.C_below HC3.out HB.out) HL3.out (Kd.C_below HC.out HB.out) HL.out HM.out).mono ?_); rintro e w3 ⟨v3, he, ho, hb⟩; rw [errW_some] at he; subst he; refine ⟨_, rfl, ?_⟩; replace HB := Aside0.mk (below_step HB.out hb); clear hb ho))
 go_ret
 exact ⟨rfl, HB.out⟩
set_option maxHeartbeats 8000000 in
set_option maxRecDepth 100000 in
theorem assayerlaw6_ShrinkStays2.walk (k kg K1 K2 : Nat) (x : S63) (A3 : Option Addr) (c3 : Nat) (A : Option Addr) (c : Nat) (l t m r : List Int) (s : Int) (w : World)
  (hr3 : Kd.C k63 w A3 x.f3.length x.f3) (hc3 : x.f3.length ≤ c3) (hr : Kd.C (Kd.int .i64) w A l.length l) (hc : l.length ≤ c) (hf : StFacts k kg K1 K2 x l t m r s) (hG : GErr w) (hT : GTak w) :
  Calls Tryd.prog 13 #[.agg #[.int .i64 x.f0, .int .i64 x.f1, .int .i64 x.f2, .slice A3 x.f3.length c3], .slice A l.length c] w fun e w' => e = .returned (.bool true) ∧ Below w.heap.size w w' := by
 have hu63 := Tryd.underlying63
 have hu24 := Tryd.underlying24
 have hu30 := Tryd.underlying30
 have hu66 := Tryd.underlying66
 have HC3 := Aside0.mk hr3
 have HL3 := Aside0.mk hc3
 have HC := Aside0.mk hr
 have HL := Aside0.mk hc
 have HF := Aside0.mk hf
 have HG := Aside0.mk hG
 have HT := Aside0.mk hT
 clear hr3 hc3 hr hc hf hG hT
 go_enter Tryd.func13, Tryd.ntmps13
 go_wp2_with (first
  | ((with_reducible refine gate_dst (N := 2) rfl ?_); refine box_event ?hg (N := 2) ?hd (cs := #[.int .i64 x.f0, .int .i64 x.f1, .int .i64 x.f2, .slice A3 x.f3.length c3]) (t := 63) ?hr ?_; (case hd => rfl); (case hg => rfl); (case hr => first | (go_simp; done) | (go_simp; rfl)); intro g2 hg w1 hbox hb; have BG := Aside0.mk hbox; have HB := Aside0.mk hb; clear hbox hb hg)
  | ((with_reducible refine gate_dst (N := 24) rfl ?_); refine goesL_ (some 24) rfl rfl Tryd.func48 (by kernel_rfl) rfl #[] rfl (by (try simp only [List.map_toArray, List.map_cons, List.map_nil]); first | done | rfl) ?_; (refine (assayerlaw6_just.calls k true _ HF.out.just).mono ?_); rintro e w2 ⟨rfl, hb⟩; refine ⟨_, rfl, ?_⟩; replace HB := Aside0.mk (below_step HB.out hb); replace BG := Aside0.mk (blk_below BG.out hb); have ha0 : w2.cell? ⟨g2, 0, none⟩ = some (.int .i64 x.f0) := (blk_cell BG.out 0).trans rfl; have ha1 : w2.cell? ⟨g2, 1, none⟩ = some (.int .i64 x.f1) := (blk_cell BG.out 1).trans rfl; have ha2 : w2.cell? ⟨g2, 2, none⟩ = some (.int .i64 x.f2) := (blk_cell BG.out 2).trans rfl; have ha3 : w2.cell? ⟨g2, 3, none⟩ = some (.slice A3 x.f3.length c3) := (blk_cell BG.out 3).trans rfl; clear hb)
  | ((with_reducible refine gate_dst (N := 28) rfl ?_); refine goesL_ (some 28) rfl rfl Tryd.func43 (by kernel_rfl) rfl #[.agg #[.int .i64 x.f0, .int .i64 x.f1, .int .i64 x.f2, .slice A3 x.f3.length c3], .slice A l.length c] rfl (by (try simp only [List.map_toArray, List.map_cons, List.map_nil]); first | done | rfl) ?_; (refine (gen_Mend.calls x.f0 x.f1 x.f2 A3 c3 x.f3 A c l t none _ (Kd.C_below HC3.out HB.out) HL3.out (Kd.C_below HC.out HB.out) HL.out HF.out.mend).mono ?_); rintro e w3 ⟨v3, he, ho, hb⟩; rw [errW_none] at he; subst he; refine ⟨_, rfl, ?_⟩; obtain ⟨At, ct, et⟩ := Kd.R_slice ho; subst et; have Rt := Aside0.mk (Kd.R_lower ho HB.out.size); replace HB := Aside0.mk (below_step HB.out hb); replace BG := Aside0.mk (blk_below BG.out hb); have ha0 : w3.cell? ⟨g2, 0, none⟩ = some (.int .i64 x.f0) := (blk_cell BG.out 0).trans rfl; have ha1 : w3.cell? ⟨g2, 1, none⟩ = some (.int .i64 x.f1) := (blk_cell BG.out 1).trans rfl; have ha2 : w3.cell? ⟨g2, 2, none⟩ = some (.int .i64 x.f2) := (blk_cell BG.out 2).trans rfl; have ha3 : w3.cell? ⟨g2, 3, none⟩ = some (.slice A3 x.f3.length c3) := (blk_cell BG.out 3).trans rfl; clear hb ho)
  | ((with_reducible refine gate_dst (N := 40) rfl ?_); refine goesL_ (some 40) rfl rfl Tryd.func43 (by kernel_rfl) rfl #[.agg #[.int .i64 x.f0, .int .i64 x.f1, .int .i64 x.f2, .slice A3 x.f3.length c3], .slice none 0 0] rfl (by (try simp only [List.map_toArray, List.map_cons, List.map_nil]); first | done | rfl) ?_; (refine (gen_Mend.calls x.f0 x.f1 x.f2 A3 c3 x.f3 none 0 [] m none _ (Kd.C_below HC3.out HB.out) HL3.out (Kd.C_nil _ _) (Nat.le_refl _) HF.out.zero).mono ?_); rintro e w4 ⟨v4, he, ho, hb⟩; rw [errW_none] at he; subst he; refine ⟨_, rfl, ?_⟩; obtain ⟨Am, cm, em⟩ := Kd.R_slice ho; subst em; have Rm := Aside0.mk (Kd.R_lower ho HB.out.size); replace HB := Aside0.mk (below_step HB.out hb); replace BG := Aside0.mk (blk_below BG.out hb); replace Rt := Aside0.mk (Kd.R_below Rt.out hb); have ha0 : w4.cell? ⟨g2, 0, none⟩ = some (.int .i64 x.f0) := (blk_cell BG.out 0).trans rfl; have ha1 : w4.cell? ⟨g2, 1, none⟩ = some (.int .i64 x.f1) := (blk_cell BG.out 1).trans rfl; have ha2 : w4.cell? ⟨g2, 2, none⟩ = some (.int .i64 x.f2) := (blk_cell BG.out 2).trans rfl; have ha3 : w4.cell? ⟨g2, 3, none⟩ = some (.slice A3 x.f3.length c3) := (blk_cell BG.out 3).trans rfl; clear hb ho)
  | ((with_reducible refine gate_dst (N := 10) rfl ?_); refine box_event ?hg (N := 10) ?hd (cs := #[.int .i64 0, .int .i64 0, .slice none 0 0]) (t := 24) ?hr ?_; (case hd => rfl); (case hg => rfl); (case hr => first | (go_simp; done) | (go_simp; rfl)); intro g10 hg w5 hbox hb; have B5 := Aside0.mk hb; have BX := Aside0.mk hbox; have GX := Aside0.mk (Nat.le_of_eq hg.symm : w4.heap.size ≤ g10); have hf0 := blk_frozen hbox 0; have hf1 := blk_frozen hbox 1; have hf2 := blk_frozen hbox 2; have hz0 : w5.cell? ⟨g10, 0, none⟩ = some (.int .i64 0) := (blk_cell hbox 0).trans rfl; have hz1 : w5.cell? ⟨g10, 1, none⟩ = some (.int .i64 0) := (blk_cell hbox 1).trans rfl; have hz2 : w5.cell? ⟨g10, 2, none⟩ = some (.slice none 0 0) := (blk_cell hbox 2).trans rfl; have NX := Aside0.mk (blk_ne (blk_below BG.out hb) hbox (by decide)); have hnx := NX.out; have hnx2 := Ne.symm NX.out; have ha0 : w5.cell? ⟨g2, 0, none⟩ = some (.int .i64 x.f0) := (blk_cell (blk_below BG.out hb) 0).trans rfl; have ha1 : w5.cell? ⟨g2, 1, none⟩ = some (.int .i64 x.f1) := (blk_cell (blk_below BG.out hb) 1).trans rfl; have ha2 : w5.cell? ⟨g2, 2, none⟩ = some (.int .i64 x.f2) := (blk_cell (blk_below BG.out hb) 2).trans rfl; have ha3 : w5.cell? ⟨g2, 3, none⟩ = some (.slice A3 x.f3.length c3) := (blk_cell (blk_below BG.out hb) 3).trans rfl; skip; clear hbox hb hg)
  | ((with_reducible refine gate_dst (N := 48) rfl ?_); have hbd := below_set (below_set (below_set B5.out GX.out (j := 0) (v := .int .i64 1)) GX.out (j := 1) (v := .int .i64 0)) GX.out (j := 2) (v := .slice none 0 0); have hbx := blk_put (cs := #[.int .i64 1, .int .i64 0, .slice none 0 0]) (cs' := #[.int .i64 1, .int .i64 0, .slice none 0 0]) (blk_put (cs := #[.int .i64 1, .int .i64 0, .slice none 0 0]) (cs' := #[.int .i64 1, .int .i64 0, .slice none 0 0]) (blk_put (cs := #[.int .i64 0, .int .i64 0, .slice none 0 0]) (cs' := #[.int .i64 1, .int .i64 0, .slice none 0 0]) BX.out 0 (.int .i64 1) rfl) 1 (.int .i64 0) rfl) 2 (.slice none 0 0) rfl; replace BX := Aside0.mk hbx; replace HB := Aside0.mk (below_step HB.out hbd); replace BG := Aside0.mk (blk_below BG.out hbd); replace Rt := Aside0.mk (Kd.R_below Rt.out hbd); replace Rm := Aside0.mk (Kd.R_below Rm.out hbd); clear hbd hbx; refine goesL_ (some 48) rfl rfl Tryd.func46 (by kernel_rfl) rfl #[.agg #[.int .i64 x.f0, .int .i64 x.f1, .int .i64 x.f2, .slice A3 x.f3.length c3], .agg #[.int .i64 1, .int .i64 0, .slice none 0 0], .slice Am m.length cm] rfl (by (try simp only [List.map_toArray, List.map_cons, List.map_nil]); first | done | rfl) ?_; (refine (swalk_never x A3 c3 m Am cm _ (HT.out.below HB.out) (Kd.C_below HC3.out HB.out) HL3.out (Kd.R_reads' Rm.out).2.2 (Kd.R_reads' Rm.out).2.1 kg HF.out.check HF.out.goodm HF.out.step K1 m 0 HF.out.chm).mono ?_); rintro e w6 ⟨v6, he, ho, hb⟩; rw [errW_none] at he; subst he; refine ⟨_, rfl, ?_⟩; obtain ⟨Aa, ca, ea⟩ := Kd.R_slice ho; subst ea; have Ra := Aside0.mk (Kd.R_lower ho HB.out.size); clear hz0 hz1 hz2 hf0 hf1 hf2; replace HB := Aside0.mk (below_step HB.out hb); replace BG := Aside0.mk (blk_below BG.out hb); replace BX := Aside0.mk (blk_below BX.out hb); replace Rt := Aside0.mk (Kd.R_below Rt.out hb); replace Rm := Aside0.mk (Kd.R_below Rm.out hb); have ha0 : w6.cell? ⟨g2, 0, none⟩ = some (.int .i64 x.f0) := (blk_cell BG.out 0).trans rfl; have ha1 : w6.cell? ⟨g2, 1, none⟩ = some (.int .i64 x.f1) := (blk_cell BG.out 1).trans rfl; have ha2 : w6.cell? ⟨g2, 2, none⟩ = some (.int .i64 x.f2) := (blk_cell BG.out 2).trans rfl; have ha3 : w6.cell? ⟨g2, 3, none⟩ = some (.slice A3 x.f3.length c3) := (blk_cell BG.out 3).trans rfl; have hx0 : w6.cell? ⟨g10, 0, none⟩ = some (.int .i64 1) := (blk_cell BX.out 0).trans rfl; have hx1 : w6.cell? ⟨g10, 1, none⟩ = some (.int .i64 0) := (blk_cell BX.out 1).trans rfl; have hx2 : w6.cell? ⟨g10, 2, none⟩ = some (.slice none 0 0) := (blk_cell BX.out 2).trans rfl; clear hb ho)
  | ((with_reducible refine gate_dst (N := 54) rfl ?_); refine goesL_ (some 54) rfl rfl Tryd.func30 (by kernel_rfl) rfl #[.slice Aa m.length ca, .slice Am m.length cm] rfl (by (try simp only [List.map_toArray, List.map_cons, List.map_nil]); first | done | rfl) ?_; (refine (assayersame_Ints.calls k _ _ m _ _ m true _ (Kd.R_reads' Ra.out).2.2 (Kd.R_reads' Ra.out).2.1 (Kd.R_reads' Rm.out).2.2 (Kd.R_reads' Rm.out).2.1 HF.out.same).mono ?_); rintro e w7 ⟨rfl, hd⟩; refine ⟨_, rfl, ?_⟩; have hb := hd.below; replace HB := Aside0.mk (below_step HB.out hb); replace BG := Aside0.mk (blk_below BG.out hb); replace BX := Aside0.mk (blk_below BX.out hb); replace Rt := Aside0.mk (Kd.R_below Rt.out hb); have ha0 : w7.cell? ⟨g2, 0, none⟩ = some (.int .i64 x.f0) := (blk_cell BG.out 0).trans rfl; have ha1 : w7.cell? ⟨g2, 1, none⟩ = some (.int .i64 x.f1) := (blk_cell BG.out 1).trans rfl; have ha2 : w7.cell? ⟨g2, 2, none⟩ = some (.int .i64 x.f2) := (blk_cell BG.out 2).trans rfl; have ha3 : w7.cell? ⟨g2, 3, none⟩ = some (.slice A3 x.f3.length c3) := (blk_cell BG.out 3).trans rfl; have hx0 : w7.cell? ⟨g10, 0, none⟩ = some (.int .i64 1) := (blk_cell BX.out 0).trans rfl; have hx1 : w7.cell? ⟨g10, 1, none⟩ = some (.int .i64 0) := (blk_cell BX.out 1).trans rfl; have hx2 : w7.cell? ⟨g10, 2, none⟩ = some (.slice none 0 0) := (blk_cell BX.out 2).trans rfl; clear hb hd)
  | ((with_reducible refine gate_dst (N := 59) rfl ?_); refine goesL_ (some 59) rfl rfl Tryd.func46 (by kernel_rfl) rfl #[.agg #[.int .i64 x.f0, .int .i64 x.f1, .int .i64 x.f2, .slice A3 x.f3.length c3], .agg #[.int .i64 1, .int .i64 1, .slice none 0 0], .slice At t.length ct] rfl (by (try simp only [List.map_toArray, List.map_cons, List.map_nil]); first | done | rfl) ?_; (refine (swalk_none x A3 c3 t At ct _ (HT.out.below HB.out) (Kd.C_below HC3.out HB.out) HL3.out (Kd.R_reads' Rt.out).2.2 (Kd.R_reads' Rt.out).2.1 kg HF.out.check HF.out.goodt).mono ?_); rintro e w8 ⟨v8, rfl, ho, hb⟩; refine ⟨_, rfl, ?_⟩; replace HB := Aside0.mk (below_step HB.out hb); replace BG := Aside0.mk (blk_below BG.out hb); replace BX := Aside0.mk (blk_below BX.out hb); replace Rt := Aside0.mk (Kd.R_below Rt.out hb); have ha0 : w8.cell? ⟨g2, 0, none⟩ = some (.int .i64 x.f0) := (blk_cell BG.out 0).trans rfl; have ha1 : w8.cell? ⟨g2, 1, none⟩ = some (.int .i64 x.f1) := (blk_cell BG.out 1).trans rfl; have ha2 : w8.cell? ⟨g2, 2, none⟩ = some (.int .i64 x.f2) := (blk_cell BG.out 2).trans rfl; have ha3 : w8.cell? ⟨g2, 3, none⟩ = some (.slice A3 x.f3.length c3) := (blk_cell BG.out 3).trans rfl; have hx0 : w8.cell? ⟨g10, 0, none⟩ = some (.int .i64 1) := (blk_cell BX.out 0).trans rfl; have hx1 : w8.cell? ⟨g10, 1, none⟩ = some (.int .i64 0) := (blk_cell BX.out 1).trans rfl; have hx2 : w8.cell? ⟨g10, 2, none⟩ = some (.slice none 0 0) := (blk_cell BX.out 2).trans rfl; clear hb ho)
  | ((with_reducible refine gate_dst (N := 64) rfl ?_); refine goesL_ (some 64) rfl rfl Tryd.func38 (by kernel_rfl) rfl #[errW (some 2), .int .i64 2] rfl (by (try simp only [List.map_toArray, List.map_cons, List.map_nil]); first | done | rfl) ?_; (refine (assayersame_Error.calls (some 2) 2 true _ HF.out.told (HG.out.below HB.out)).mono ?_); rintro e w9 ⟨rfl, hb⟩; refine ⟨_, rfl, ?_⟩; replace HB := Aside0.mk (below_step HB.out hb); replace BG := Aside0.mk (blk_below BG.out hb); replace BX := Aside0.mk (blk_below BX.out hb); replace Rt := Aside0.mk (Kd.R_below Rt.out hb); have ha0 : w9.cell? ⟨g2, 0, none⟩ = some (.int .i64 x.f0) := (blk_cell BG.out 0).trans rfl; have ha1 : w9.cell? ⟨g2, 1, none⟩ = some (.int .i64 x.f1) := (blk_cell BG.out 1).trans rfl; have ha2 : w9.cell? ⟨g2, 2, none⟩ = some (.int .i64 x.f2) := (blk_cell BG.out 2).trans rfl; have ha3 : w9.cell? ⟨g2, 3, none⟩ = some (.slice A3 x.f3.length c3) := (blk_cell BG.out 3).trans rfl; have hx0 : w9.cell? ⟨g10, 0, none⟩ = some (.int .i64 1) := (blk_cell BX.out 0).trans rfl; have hx1 : w9.cell? ⟨g10, 1, none⟩ = some (.int .i64 0) := (blk_cell BX.out 1).trans rfl; have hx2 : w9.cell? ⟨g10, 2, none⟩ = some (.slice none 0 0) := (blk_cell BX.out 2).trans rfl; clear hb)
  | ((with_reducible refine gate_dst (N := 69) rfl ?_); refine goesL_ (some 69) rfl rfl Tryd.func46 (by kernel_rfl) rfl #[.agg #[.int .i64 x.f0, .int .i64 x.f1, .int .i64 x.f2, .slice A3 x.f3.length c3], .agg #[.int .i64 1, .int .i64 0, .slice none 0 0], .slice At t.length ct] rfl (by (try simp only [List.map_toArray, List.map_cons, List.map_nil]); first | done | rfl) ?_; (refine (swalk_never x A3 c3 t At ct _ (HT.out.below HB.out) (Kd.C_below HC3.out HB.out) HL3.out (Kd.R_reads' Rt.out).2.2 (Kd.R_reads' Rt.out).2.1 kg HF.out.check HF.out.goodt HF.out.step K2 r s HF.out.cht).mono ?_); rintro e w10 ⟨v10, he, ho, hb⟩; rw [errW_none] at he; subst he; refine ⟨_, rfl, ?_⟩; obtain ⟨Ar, cr, er⟩ := Kd.R_slice ho; subst er; have Rr := Aside0.mk (Kd.R_lower ho HB.out.size); replace HB := Aside0.mk (below_step HB.out hb); replace BG := Aside0.mk (blk_below BG.out hb); replace BX := Aside0.mk (blk_below BX.out hb); have ha0 : w10.cell? ⟨g2, 0, none⟩ = some (.int .i64 x.f0) := (blk_cell BG.out 0).trans rfl; have ha1 : w10.cell? ⟨g2, 1, none⟩ = some (.int .i64 x.f1) := (blk_cell BG.out 1).trans rfl; have ha2 : w10.cell? ⟨g2, 2, none⟩ = some (.int .i64 x.f2) := (blk_cell BG.out 2).trans rfl; have ha3 : w10.cell? ⟨g2, 3, none⟩ = some (.slice A3 x.f3.length c3) := (blk_cell BG.out 3).trans rfl; have hx0 : w10.cell? ⟨g10, 0, none⟩ = some (.int .i64 1) := (blk_cell BX.out 0).trans rfl; have hx1 : w10.cell? ⟨g10, 1, none⟩ = some (.int .i64 0) := (blk_cell BX.out 1).trans rfl; have hx2 : w10.cell? ⟨g10, 2, none⟩ = some (.slice none 0 0) := (blk_cell BX.out 2).trans rfl; clear hb ho)
  | ((with_reducible refine gate_dst (N := 76) rfl ?_); refine goesL_ (some 76) rfl rfl Tryd.func33 (by kernel_rfl) rfl #[.agg #[.int .i64 x.f0, .int .i64 x.f1, .int .i64 x.f2, .slice A3 x.f3.length c3], .slice Ar r.length cr] rfl (by (try simp only [List.map_toArray, List.map_cons, List.map_nil]); first | done | rfl) ?_; (refine (rose_Less.calls x.f0 x.f1 x.f2 A3 c3 x.f3 Ar cr r [] none _ (Kd.C_below HC3.out HB.out) HL3.out (Kd.R_reads' Rr.out).2.2 (Kd.R_reads' Rr.out).2.1 HF.out.less).mono ?_); rintro e w11 ⟨v11, he, ho, hb⟩; rw [errW_none] at he; subst he; refine ⟨_, rfl, ?_⟩; obtain ⟨Al, cl, el⟩ := Kd.S_slice ho; rw [List.length_nil] at el; subst el; replace HB := Aside0.mk (below_step HB.out hb); clear hb ho))
 go_ret
 exact ⟨rfl, HB.out⟩
end Go.Proofs.YtgdomnlkafcddaaDoor.Q
namespace Go.Proofs.YtgdomnlkafcddaaDoor.Q
open Go.RowKit Go.Proofs.YtgdomnlkafcddaaDoorW.PrintWords Go.Proofs.YtgdomnlkafcddaaDoorW.PrintLast Go.Proofs.YtgdomnlkafcddaaDoorW.PrintMore
set_option linter.unusedVariables false
set_option linter.unusedSimpArgs false
def numf (v : Nat) (l : List Int) : Nat := l.foldl (fun v x => v * 1001 + x.toNat) v
def Dig (l : List Int) : Prop := ∀ x ∈ l, 0 ≤ x ∧ x ≤ 1000
theorem numf_bnd : ∀ (l : List Int) (v : Nat), Dig l → v * 1001 ^ l.length ≤ numf v l ∧ numf v l < (v + 1) * 1001 ^ l.length
 | [], v, _ => by simp [numf]
 | x :: l, v, h => by
  have hx := h x (by simp)
  have ih := numf_bnd l (v * 1001 + x.toNat) (fun y hy => h y (by simp [hy]))
  have e : numf v (x :: l) = numf (v * 1001 + x.toNat) l := rfl
  rw [e, List.length_cons, Nat.pow_succ]
  have hp : 0 < 1001 ^ l.length := Nat.pow_pos (by omega)
  have h1 : x.toNat ≤ 1000 := by omega
  constructor
  ·refine Nat.le_trans ?_ ih.1
   rw [Nat.mul_comm (1001 ^ l.length), ← Nat.mul_assoc]
   exact Nat.mul_le_mul_right _ (by omega)
  ·refine Nat.lt_of_lt_of_le ih.2 ?_
   rw [Nat.mul_comm (1001 ^ l.length), ← Nat.mul_assoc]
   exact Nat.mul_le_mul_right _ (by omega)
theorem cmp_val {a b c : Int} (h : cmp_Compare_int.f a b = some c) : (c < 0 → a < b) ∧ (c = 0 → a = b) := by
 unfold cmp_Compare_int.f cmp_isNaN_int.f at h
 simp only [Option.bind_some, bne_self_eq_false, Bool.false_eq_true, if_false] at h
 split at h
 ·injection h with h; exact ⟨fun _ => by assumption, fun _ => by omega⟩
 ·split at h
  ·injection h with h; exact ⟨fun _ => by omega, fun _ => by omega⟩
  ·injection h with h; exact ⟨fun _ => by omega, fun _ => by omega⟩
theorem rd_at' {l : List Int} {i : Nat} (h : i < l.length) : rd l (i : Int) = l[i] := by simp [rd, h]
theorem cmp_num (a b : List Int) (ha : Dig a) (hb : Dig b) (hl : a.length = b.length) (hs : a.length < 4611686018427387904) : ∀ (k i : Nat) (r : Int), i ≤ a.length → slices_Compare_int_int.l0 k a b a (a.length : Int) (i : Int) = some r → r < 0 → ∀ v, numf v (a.drop i) < numf v (b.drop i) := by
 intro k
 induction k with
 | zero => intro i r _ h; simp [slices_Compare_int_int.l0] at h
 | succ k ih =>
  intro i r hi h hr v
  by_cases hlt : i < a.length
  ·have h0 : (i : Int) < (a.length : Int) := by omega
   have h1 : (0 : Int) ≤ (i : Int) := by omega
   have hib : i < b.length := by omega
   have h2 : ¬ (i : Int) ≥ (b.length : Int) := by omega
   have h3 : (i : Int) < (b.length : Int) := by omega
   have hw3 : wrap64 ((i : Int) + 1) = ((i + 1 : Nat) : Int) := by rw [wrap64_id (by omega) (by omega)]; omega
   simp only [slices_Compare_int_int.l0, if_pos h0, if_pos h1, if_neg h2, if_pos h3, rd_at' hlt, rd_at' hib, hw3] at h
   obtain ⟨c, hc, h⟩ := Option.bind_eq_some_iff.1 h
   obtain ⟨hc1, hc2⟩ := cmp_val hc
   rw [List.drop_eq_getElem_cons hlt, List.drop_eq_getElem_cons hib]
   have ea : ∀ u, numf u (a[i] :: a.drop (i + 1)) = numf (u * 1001 + a[i].toNat) (a.drop (i + 1)) := fun _ => rfl
   have eb : ∀ u, numf u (b[i] :: b.drop (i + 1)) = numf (u * 1001 + b[i].toNat) (b.drop (i + 1)) := fun _ => rfl
   rw [ea, eb]
   by_cases hz : c = 0
   ·rw [if_pos hz] at h
    rw [hc2 hz]
    exact ih (i + 1) r hlt h hr _
   ·rw [if_neg hz] at h
    injection h with h
    subst h
    have hab := hc1 hr
    have da := ha _ (List.getElem_mem hlt)
    have db := hb _ (List.getElem_mem hib)
    have na := (numf_bnd (a.drop (i + 1)) (v * 1001 + a[i].toNat) (fun y hy => ha y (List.mem_of_mem_drop hy))).2
    have nb := (numf_bnd (b.drop (i + 1)) (v * 1001 + b[i].toNat) (fun y hy => hb y (List.mem_of_mem_drop hy))).1
    have e : (a.drop (i + 1)).length = (b.drop (i + 1)).length := by rw [List.length_drop, List.length_drop, hl]
    rw [e] at na
    refine Nat.lt_of_lt_of_le na (Nat.le_trans (Nat.mul_le_mul_right _ ?_) nb)
    omega
  ·have h0 : ¬ (i : Int) < (a.length : Int) := by omega
   have h2 : ¬ (a.length : Int) < (b.length : Int) := by omega
   simp only [slices_Compare_int_int.l0, if_neg h0, if_neg h2] at h
   injection h with h
   omega
def num (l : List Int) : Nat := numf 1 l
theorem less_num {a b : List Int} (ha : Dig a) (hb : Dig b) (hs : a.length < 4611686018427387904) {k : Nat} (h : tape_Less.f k a b = some true) : num a < num b := by
 unfold tape_Less.f at h
 by_cases hl : (a.length : Int) = (b.length : Int)
 ·rw [if_pos hl] at h
  obtain ⟨r, h1, h2⟩ := Option.bind_eq_some_iff.1 h
  simp only [Option.some.injEq, decide_eq_true_eq] at h2
  exact cmp_num a b ha hb (by omega) hs k 0 r (Nat.zero_le _) h1 h2 1
 ·rw [if_neg hl] at h
  simp only [Option.some.injEq, decide_eq_true_eq] at h
  have na := (numf_bnd a 1 ha).2
  have nb := (numf_bnd b 1 hb).1
  have hle : a.length + 1 ≤ b.length := by omega
  have hp := Nat.pow_le_pow_right (n := 1001) (by omega) hle
  rw [Nat.pow_succ] at hp
  have hp0 : 0 < 1001 ^ a.length := Nat.pow_pos (by omega)
  unfold num
  omega
theorem less_self {a : List Int} (ha : Dig a) (hs : a.length < 4611686018427387904) : ∃ k, tape_Less.f k a a = some false := by
 obtain ⟨k, r, h⟩ := less_halts a a hs
 cases r with
 | false => exact ⟨k, h⟩
 | true => exact absurd (less_num ha ha hs h) (Nat.lt_irrefl _)
theorem made_inv {σ : Type} (stp : σ → Int → Except Int (Int × σ)) (P : σ → Prop) (hp : ∀ s m t, P s → stp s m = .ok t → P t.2) : ∀ k : Nat,
  (∀ s a b c l v s', gen_made.f stp k s a b c l = some (.ok (v, s')) → P s → P s') ∧
  (∀ s l c d b0 b1 b2 v s', gen_made.l0 stp k s l c d b0 b1 b2 = some (.ok (v, s')) → P s → P s') ∧
  (∀ s c d g0 g1 g2 l b0 b1 b2 v s', gen_made.l1 stp k s c d g0 g1 g2 l b0 b1 b2 = some (.ok (v, s')) → P s → P s') := by
 intro k
 induction k with
 | zero => exact ⟨fun _ _ _ _ _ _ _ h => by simp [gen_made.f] at h, fun _ _ _ _ _ _ _ _ _ h => by simp [gen_made.l0] at h, fun _ _ _ _ _ _ _ _ _ _ _ _ h => by simp [gen_made.l1] at h⟩
 | succ k ih =>
  obtain ⟨i1, i2, i3⟩ := ih
  refine ⟨fun s a b c l v s' h hs => ?_, fun s l c d b0 b1 b2 v s' h hs => ?_, fun s c d g0 g1 g2 l b0 b1 b2 v s' h hs => ?_⟩
  ·simp only [gen_made.f] at h
   split at h
   ·injection h with h; injection h with h; injection h with _ h; subst h; exact hs
   split at h
   ·obtain ⟨t, h1, h2⟩ := ebind_ok h
    injection h2 with h2; injection h2 with h2; injection h2 with _ h2; subst h2
    exact hp _ _ _ hs h1
   split at h
   ·exact i2 _ _ _ _ _ _ _ _ _ h hs
   split at h
   ·obtain ⟨t, h1, h2⟩ := ebind_ok h
    exact i3 _ _ _ _ _ _ _ _ _ _ _ _ h2 (hp _ _ _ hs h1)
   split at h
   ·obtain ⟨t, h1, h2⟩ := ebind_ok h
    split at h2
    ·split at h2
     ·obtain ⟨t2, h3, h4⟩ := obind_ok h2
      injection h4 with h4; injection h4 with h4; injection h4 with _ h4; subst h4
      exact i1 _ _ _ _ _ t2.1 t2.2 h3 (hp _ _ _ hs h1)
     ·cases h2
    ·cases h2
   ·injection h with h; injection h with h; injection h with _ h; subst h; exact hs
  ·simp only [gen_made.l0] at h
   split at h
   ·split at h
    ·split at h
     ·obtain ⟨t, h1, h2⟩ := obind_ok h
      split at h2
      ·exact i2 _ _ _ _ _ _ _ _ _ h2 (i1 _ _ _ _ _ t.1 t.2 h1 hs)
      ·cases h2
     ·cases h
    ·cases h
   ·injection h with h; injection h with h; injection h with _ h; subst h; exact hs
  ·simp only [gen_made.l1] at h
   split at h
   ·split at h
    ·obtain ⟨t, h1, h2⟩ := obind_ok h
     split at h2
     ·exact i3 _ _ _ _ _ _ _ _ _ _ _ _ h2 (i1 _ _ _ _ _ t.1 t.2 h1 hs)
     ·cases h2
    ·cases h
   ·injection h with h; injection h with h; injection h with _ h; subst h; exact hs
theorem rd_zero {l : List Int} (h : ∀ x ∈ l, x = 0) (i : Int) : rd l i = 0 := by
 unfold rd
 rw [List.getD_eq_getElem?_getD]
 cases hq : l[i.toNat]? with
 | none => rfl
 | some v => exact h v (List.mem_of_getElem? hq)
theorem mendAt_zero {l : List Int} (h : ∀ x ∈ l, x = 0) (out : List Int) (m : Int) : mendAt l out m = 0 := by
 unfold mendAt
 rw [rd_zero h]
 by_cases h1 : m < 0
 ·simp only [if_pos h1]
  have h2 : ¬ 0 < m := by omega
  simp [h2]
 ·simp [h1]
theorem mend_zero {x : S63} {l : List Int} (h : ∀ y ∈ l, y = 0) : gen_Mend.f x.f0 x.f1 x.f2 x.f3 l = gen_Mend.f x.f0 x.f1 x.f2 x.f3 [] := by
 have e : mendStp l = mendStp [] := by
  funext out m
  unfold mendStp
  rw [mendAt_zero h, mendAt_zero (l := []) (by simp)]
 unfold gen_Mend.f gen_Mend.g
 rw [e]
theorem mend_noughts {x : S63} {m : List Int} (h : gen_Mend.f x.f0 x.f1 x.f2 x.f3 [] = some (m, none)) : ∀ y ∈ m, y = 0 := by
 obtain ⟨k, h⟩ := Olim_some h
 unfold gen_Mend.g at h
 obtain ⟨e, h1, h2⟩ := Option.bind_eq_some_iff.1 h
 cases e with
 | some c => simp at h2
 | none =>
  simp only at h2
  cases hm : gen_made.f (mendStp []) k [] x.f0 x.f1 x.f2 x.f3 with
  | none => rw [hm] at h2; simp at h2
  | some r =>
   rw [hm] at h2
   cases r with
   | error c => simp at h2
   | ok v =>
    simp only [Option.some.injEq, Prod.mk.injEq] at h2
    obtain ⟨rfl, _⟩ := h2
    refine (made_inv (mendStp []) (fun out => ∀ y ∈ out, y = 0) ?_ k).1 _ _ _ _ _ v.1 v.2 hm (by simp)
    intro s m t hs h3
    unfold mendStp at h3
    split at h3
    ·injection h3 with h3
     subst h3
     intro y hy
     rcases List.mem_append.1 hy with hy | hy
     ·exact hs y hy
     ·rw [List.mem_singleton.1 hy]; exact mendAt_zero (l := []) (by simp) _ _
    ·cases h3
theorem mend_check {x : S63} {l m : List Int} (h : gen_Mend.f x.f0 x.f1 x.f2 x.f3 l = some (m, none)) : ∃ k, gen_Check.f k x.f0 x.f1 x.f2 x.f3 = some none := by
 obtain ⟨k, h⟩ := Olim_some h
 unfold gen_Mend.g at h
 obtain ⟨e, h1, h2⟩ := Option.bind_eq_some_iff.1 h
 cases e with
 | some c => simp at h2
 | none => exact ⟨k, h1⟩
section
variable (x : S63) (hok : OKg 6 x) (hall : ∀ l, ∃ m v, gen_Mend.f x.f0 x.f1 x.f2 x.f3 l = some (m, none) ∧ OKv 6 (val27 v) ∧ m.length ≤ Cn 6 ∧ gen_Replay.f x.f0 x.f1 x.f2 x.f3 m = some (v.1, v.2.1, v.2.2, none))
include hok hall
theorem good_mended {l m : List Int} (h : gen_Mend.f x.f0 x.f1 x.f2 x.f3 l = some (m, none)) : Good x m ∧ Dig m ∧ m.length ≤ Cn 6 := by
 have hC : Cn 6 = 25137931 := by decide
 obtain ⟨m', v, h1, _, h2, h3⟩ := hall l
 rw [h] at h1
 simp only [Option.some.injEq, Prod.mk.injEq] at h1
 obtain ⟨rfl, _⟩ := h1
 obtain ⟨⟨k, hk⟩, hd⟩ := replay_form hok h3
 refine ⟨⟨_, _, _, k, h3, hk, by omega⟩, fun y hy => ?_, h2⟩
 obtain ⟨i, hi, rfl⟩ := List.getElem_of_mem hy
 have := hd i hi
 rw [rd_at' hi] at this
 exact this
theorem good_step (T' : List Int) (ls : List (List Int)) (hg : Good x T') (h : rose_Less.f x.f0 x.f1 x.f2 x.f3 T' = some (ls, none)) : ∀ y ∈ ls, Good x y := by
 obtain ⟨b, m, xs, k, hR, _, hl⟩ := hg
 obtain ⟨r, h1, h2⟩ := rose_ok2 x hall T' hl hR
 rw [h] at h1
 simp only [Option.some.injEq, Prod.mk.injEq] at h1
 obtain ⟨rfl, _⟩ := h1
 intro y hy
 obtain ⟨_, _, m', hm⟩ := h2 y hy
 exact (good_mended x hok hall hm).1
theorem chain_ex : ∀ (N : Nat) (T : List Int) (s : Int), num T ≤ N → (∃ l, gen_Mend.f x.f0 x.f1 x.f2 x.f3 l = some (T, none)) → ∃ k r st, chain x k T s = some (r, st) ∧ rose_Less.f x.f0 x.f1 x.f2 x.f3 r = some ([], none) := by
 have hC : Cn 6 = 25137931 := by decide
 intro N
 induction N with
 | zero =>
  intro T s hN hT
  obtain ⟨l, hT⟩ := hT
  obtain ⟨_, hd, _⟩ := good_mended x hok hall hT
  have := (numf_bnd T 1 hd).1
  have hp : 0 < 1001 ^ T.length := Nat.pow_pos (by omega)
  unfold num at hN
  omega
 | succ N ih =>
  intro T s hN hT
  obtain ⟨l, hT⟩ := hT
  obtain ⟨⟨b, m, xs, kv, hR, _, _⟩, hd, hlen⟩ := good_mended x hok hall hT
  obtain ⟨ls, h1, h2⟩ := rose_ok2 x hall T (by omega) hR
  cases ls with
  | nil => exact ⟨1, T, s, by simp only [chain]; rw [h1], h1⟩
  | cons y rest =>
   obtain ⟨hyl, ⟨kl, hkl⟩, m', hm⟩ := h2 y (by simp)
   obtain ⟨_, hdy, _⟩ := good_mended x hok hall hm
   have hlt := less_num hdy hd (by omega) hkl
   obtain ⟨k, r, st, h4, h5⟩ := ih y (wrap64 (s + 1)) (by omega) ⟨m', hm⟩
   exact ⟨k + 1, r, st, by simp only [chain]; rw [h1]; exact h4, h5⟩
theorem less_noughts {m : List Int} (h : gen_Mend.f x.f0 x.f1 x.f2 x.f3 [] = some (m, none)) : rose_Less.f x.f0 x.f1 x.f2 x.f3 m = some ([], none) := by
 have hC : Cn 6 = 25137931 := by decide
 have hz := mend_noughts h
 obtain ⟨⟨b, n, xs, kv, hR, _, _⟩, hd, hlen⟩ := good_mended x hok hall h
 obtain ⟨k, hk⟩ := less_self hd (by omega)
 have htry : ∀ m' : List Int, (∀ y ∈ m', y = 0) → ∀ out, rose_try k x.f0 x.f1 x.f2 x.f3 m m' out = some (none, out) := by
  intro m' h' out
  unfold rose_try
  rw [mend_zero h', h]
  simp only [Option.bind_some]
  rw [hk]
  simp
 have hms : ∀ i : Nat, rose_ms m i = [m.take i ++ m.drop (i + 1)] := by
  intro i
  unfold rose_ms rose_tries
  rw [rd_zero hz]
  simp
 have hout : ∀ (n i : Nat) (out : List (List Int)), rose_out k x.f0 x.f1 x.f2 x.f3 m n i out = some (none, out) := by
  intro n
  induction n with
  | zero => intro i out; simp [rose_out]
  | succ n ih =>
   intro i out
   simp only [rose_out, hms, rose_in]
   rw [htry _ (fun y hy => by
    rcases List.mem_append.1 hy with hy | hy
    ·exact hz y (List.mem_of_mem_take hy)
    ·exact hz y (List.mem_of_mem_drop hy))]
   simp only [Option.bind_some]
   exact ih _ _
 refine rose_Less.of (k := k) ?_
 unfold rose_Less.g
 rw [hR]
 simp only [Option.bind_some]
 rw [if_pos (by omega), hout]
 rfl
end
theorem ShrinkStays_true (x : S63) (l : List Int) : (∃ k t er, assayerlaw6_just.f k = some true ∧ gen_Mend.f x.f0 x.f1 x.f2 x.f3 l = some (t, some er)) ∨ ∃ k kg K1 K2 t m r s, StFacts k kg K1 K2 x l t m r s := by
 have hC : Cn 6 = 25137931 := by decide
 have hj : assayerlaw6_just.f 8 = some true := by kernel_rfl
 rcases gen_law x with ⟨c, hM, _⟩ | ⟨hok, hall⟩
 ·exact .inl ⟨8, [], c, hj, hM l⟩
 ·obtain ⟨t, _, ht, _⟩ := hall l
  obtain ⟨m, _, hm, _⟩ := hall []
  obtain ⟨kg, hg⟩ := mend_check ht
  obtain ⟨gm, _, lm⟩ := good_mended x hok hall hm
  obtain ⟨gt, _, _⟩ := good_mended x hok hall ht
  obtain ⟨K2, r, s, hc, hr⟩ := chain_ex x hok hall (num t) t 0 (Nat.le_refl _) ⟨l, ht⟩
  have hn := less_noughts x hok hall hm
  refine .inr ⟨m.length + 9, kg, 1, K2, t, m, r, s, LeO.le (f := fun k => assayerlaw6_just.f k) (fun k => assayerlaw6_just.mono k) (by omega) hj, ht, hm, hg, gm, gt, good_step x hok hall, ?_, hc, hr, own_same (by omega) (by omega), ?_⟩
  ·simp only [chain]
   rw [hn]
  ·kernel_rfl
end Go.Proofs.YtgdomnlkafcddaaDoor.Q
namespace Go.Proofs.YtgdomnlkafcddaaDoor.La
open Go.ChangeShapes Go.WideShapes Go.ChangeAt Go.RowKit
open Go.Proofs.YtgdomnlkafcddaaDoor.Q Go.Proofs.YtgdomnlkafcddaaDoorW.PrintWords
set_option linter.unusedVariables false
theorem gTakes : Tryd.prog.globalNamed "assayer/expr.takes" = some 0 := by kernel_rfl
theorem gTakesType : (Tryd.prog.globals[0]?).map (·.type) = some 173 := by kernel_rfl
theorem cells173 : Tryd.prog.cellsOf 173 = 12 := by kernel_rfl
theorem cells3 : Tryd.prog.cellsOf 3 = 1 := by kernel_rfl
theorem takDatum : (Rows.laid_assayer_expr_takes : DataW Unit) = Lib.tabData .i64 takesList := by kernel_rfl
theorem takOf {W : World} {rest : List (String × DataW Unit)} {ps : List MemPlace} (h : DataW.LaidVars Tryd.prog W (("assayer/expr.takes", Rows.laid_assayer_expr_takes) :: rest) ps) : GTak W := by
 rw [takDatum] at h
 obtain ⟨g', t', cs, fuel, p, q, hg', ht', hvar, hd, _, _⟩ := h
 obtain rfl := Option.some.inj (gTakes.symm.trans hg')
 obtain rfl := Option.some.inj (gTakesType.symm.trans ht')
 have ht : Lib.TabIs Tryd.prog W "assayer/expr.takes" .i64 takesList := by
  unfold Lib.TabIs
  rw [hvar, ← Lib.cells_of_tab Tryd.underlying173 Tryd.underlying3 cells3 cells173 hd]
 exact fun j hj => ht.cell gTakes j hj
end Go.Proofs.YtgdomnlkafcddaaDoor.La
namespace Go.Proofs.YtgdomnlkafcddaaDoor.Q
open Go.RowKit Go.Proofs.YtgdomnlkafcddaaDoorW.PrintWords
set_option linter.unusedVariables false
theorem assayerlaw6_ShrinkStays2.calls (k : Nat) (a0 a1 a2 : Int) (A3 : Option Addr) (c3 : Nat) (l3 : List S63) (A : Option Addr) (c : Nat) (l : List Int) (r : Bool) (w : World)
  (hr3 : Kd.C k63 w A3 l3.length l3) (hc3 : l3.length ≤ c3) (hr : Kd.C (Kd.int .i64) w A l.length l) (hc : l.length ≤ c) (hf : r = true) (hG : GErr w) (hT : GTak w) :
  Calls Tryd.prog 13 #[.agg #[.int .i64 a0, .int .i64 a1, .int .i64 a2, .slice A3 l3.length c3], .slice A l.length c] w fun e w' => e = .returned (.bool r) ∧ Below w.heap.size w w' := by
 subst hf
 rcases ShrinkStays_true ⟨a0, a1, a2, l3⟩ l with ⟨k, t, er, hj, hm⟩ | ⟨k, kg, K1, K2, t, m, q, s, hf⟩
 ·exact assayerlaw6_ShrinkStays2.bad k ⟨a0, a1, a2, l3⟩ A3 c3 A c l t er w hr3 hc3 hr hc hj hm
 ·exact assayerlaw6_ShrinkStays2.walk k kg K1 K2 ⟨a0, a1, a2, l3⟩ A3 c3 A c l t m q s w hr3 hc3 hr hc hf hG hT
theorem ShrinkStays_pure (x : S63) (l : List Int) : ∃ k : Nat, true = true := ⟨0, rfl⟩
end Go.Proofs.YtgdomnlkafcddaaDoor.Q
