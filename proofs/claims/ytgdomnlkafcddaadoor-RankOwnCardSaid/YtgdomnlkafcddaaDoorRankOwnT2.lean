/- Part 2 of the proof for RankOwn: contracts of functions, step by step over the code; The plain law of counting: of a right generator the count is told. The plain law of rank's two walks over what is still to be chosen: products of counts, the next branch, the measure. rank.branches (function 81), over generators that lie in an elder world. rank.Nth (function 41): the road on which the number is in range. What a call of a chooser (a closure that keeps its numbers in its own memory, of types 3 and 36) turns and what it leaves.. -/
import Derived.Test.YtgdomnlkafcddaaDoorRankOwnT1
namespace Go.Proofs.YtgdomnlkafcddaaDoor.Q
open Go.RowKit Go.Proofs.YtgdomnlkafcddaaDoorW.PrintWords Go.Proofs.YtgdomnlkafcddaaDoorW.PrintLast Go.Proofs.YtgdomnlkafcddaaDoorW.PrintMore
attribute [local go_sem] max2_int min2_int max_two min_two max_three min_three max_four min_four   -- for this text's walks alone
set_option linter.unusedVariables false
set_option linter.unusedSimpArgs false

/-! ### gen_Count: function 42 -/
def gen_Count.f (k : Nat) (a0_0 : Int) (a0_1 : Int) (a0_2 : Int) (l0_3 : List (S63)) : Option (Int × Option Int) := (gen_Check.f k a0_0 a0_1 a0_2 l0_3).bind fun t300 => (if t300.isNone = true then ((gen_count.f k a0_0 a0_1 a0_2 l0_3).bind fun t302 => (if t302 > 1048576 then (some (0, some 4)) else (some (t302, none)))) else (some (0, some (t300.getD 0))))
theorem gen_Count.mono : ∀ a0 a1 a2 a3 k, LeO (gen_Count.f k a0 a1 a2 a3) (gen_Count.f (k + 1) a0 a1 a2 a3) := by
 intro a0 a1 a2 a3 k
 unfold gen_Count.f
 repeat' first
   | (with_reducible exact gen_Check.mono _ _ _ _ _)
   | (with_reducible exact gen_count.mono _ _ _ _ _)
   | (with_reducible exact LeO.refl _)
   | (with_reducible exact LeO.none _)
   | (with_reducible refine LeO.ite ?_ ?_)
   | (with_reducible refine LeO.bind ?_ (fun _ => ?_))
   | exact gen_Check.mono _ _ _ _ _
   | exact gen_count.mono _ _ _ _ _
   | exact LeO.none _
   | refine LeO.ite ?_ ?_
   | refine LeO.bind ?_ (fun _ => ?_)
set_option maxHeartbeats 8000000 in
set_option maxRecDepth 100000 in
theorem gen_Count.calls (k : Nat) (a0_0 : Int) (a0_1 : Int) (a0_2 : Int) (A0_3 : Option Addr) (c0_3 : Nat) (l0_3 : List (S63)) (r1 : Int) (r2 : Option Int) (w : World) (hr0_3 : Kd.C k63 w A0_3 l0_3.length l0_3) (hc0_3 : l0_3.length ≤ c0_3) (h : gen_Count.f k a0_0 a0_1 a0_2 l0_3 = some (r1, r2)) :
  Calls Tryd.prog 42 #[.agg #[.int .i64 a0_0, .int .i64 a0_1, .int .i64 a0_2, .slice A0_3 l0_3.length c0_3]] w fun e w' => e = .returned (.tuple #[.int .i64 r1, errW r2]) ∧ Below w.heap.size w w' := by
 have hu63 := Tryd.underlying63
 have hu30 := Tryd.underlying30
 have hu66 := Tryd.underlying66
 have HR0_3 := Aside0.mk hr0_3
 have HC0_3 := Aside0.mk hc0_3
 clear hr0_3 hc0_3
 have HB := Aside0.mk (Below.refl w.heap.size w)
 have H : ((gen_Check.f k a0_0 a0_1 a0_2 l0_3).bind fun t300 => (if t300.isNone = true then ((gen_count.f k a0_0 a0_1 a0_2 l0_3).bind fun t302 => (if t302 > 1048576 then (some (0, some 4)) else (some (t302, none)))) else (some (0, some (t300.getD 0))))) = some (r1, r2) := h
 clear h
 replace H := Option.bind_eq_some_iff.mp H
 obtain ⟨t300, A20, H⟩ := H
 replace H : (if t300.isNone = true then ((gen_count.f k a0_0 a0_1 a0_2 l0_3).bind fun t302 => (if t302 > 1048576 then (some (0, some 4)) else (some (t302, none)))) else (some (0, some (t300.getD 0)))) = some (r1, r2) := H
 have A2 := Aside0.mk A20
 clear A20
 rcases t300 with _ | q301
 ·have H1 : ((gen_count.f k a0_0 a0_1 a0_2 l0_3).bind fun t302 => (if t302 > 1048576 then (some (0, some 4)) else (some (t302, none)))) = some (r1, r2) := by rw [if_pos (show (none : Option Int).isNone = true by rfl)] at H; exact H
  clear H
  have H := H1
  clear H1
  try simp only [errW_none, errW_some]
  replace H := Option.bind_eq_some_iff.mp H
  obtain ⟨t302, A30, H⟩ := H
  replace H : (if t302 > 1048576 then (some (0, some 4)) else (some (t302, none))) = some (r1, r2) := H
  have A3 := Aside0.mk A30
  clear A30
  by_cases c4 : t302 > 1048576
  ·rw [if_pos c4] at H
   have c4b0 : decide (1048576 < t302) = true := decide_eq_true c4
   clear c4
   simp only [Option.some.injEq, Prod.mk.injEq] at H
   obtain ⟨rfl, rfl⟩ := H
   go_enter Tryd.func42, Tryd.ntmps42
   go_wp2_with (first | ((with_reducible refine gate_dst (N := 1) rfl ?_); refine box_event ?hg (N := 1) ?hd (cs := #[.int .i64 a0_0, .int .i64 a0_1, .int .i64 a0_2, .slice A0_3 l0_3.length c0_3]) (t := 63) ?hr ?_; (case hd => rfl); (case hg => rfl); (case hr => first | (go_simp; done) | (go_simp; rfl)); intro gb299 hg w5 hbox hb; have n0_ := Aside0.mk (below_step (by repeat (first | (with_reducible first | exact HB.out | apply below_alloc | apply pw_below_drewN | apply below_drew1) | exact HB.out)) hb); have n1_ := Aside0.mk (hbox); have n2_ := Aside0.mk ((by rw [hg]; exact (below_size (by repeat (first | (with_reducible first | exact HB.out | apply below_alloc | apply pw_below_drewN | apply below_drew1) | exact HB.out))) : w.heap.size ≤ gb299)); have n3_ := Aside0.mk ((by rw [hg]; exact (below_size (by repeat (first | (with_reducible first | exact HB.out | apply below_alloc | apply pw_below_drewN | apply below_drew1) | exact HB.out))) : w.heap.size ≤ gb299)); clear HB; have HB := n0_; have BK299 := n1_; have GW299 := n2_; have GE299 := n3_; clear n0_ n1_ n2_ n3_; clear hb hbox hg; have hcz6_0 : w5.cell? ⟨gb299, 0, none⟩ = some (.int .i64 a0_0) := (blk_cell BK299.out 0).trans rfl; have hcz6_1 : w5.cell? ⟨gb299, 1, none⟩ = some (.int .i64 a0_1) := (blk_cell BK299.out 1).trans rfl; have hcz6_2 : w5.cell? ⟨gb299, 2, none⟩ = some (.int .i64 a0_2) := (blk_cell BK299.out 2).trans rfl; have hcz6_3 : w5.cell? ⟨gb299, 3, none⟩ = some (.slice A0_3 l0_3.length c0_3) := (blk_cell BK299.out 3).trans rfl; have hfz6_0 := blk_frozen BK299.out 0; have hfz6_1 := blk_frozen BK299.out 1; have hfz6_2 := blk_frozen BK299.out 2; have hfz6_3 := blk_frozen BK299.out 3) | ((with_reducible refine gate_callee (f := 83) rfl ?_); refine goesL_ (some 7) rfl rfl Tryd.func83 (by kernel_rfl) rfl #[.agg #[.int .i64 a0_0, .int .i64 a0_1, .int .i64 a0_2, .slice A0_3 l0_3.length c0_3]] rfl (by (try simp only [List.map_toArray, List.map_cons, List.map_nil]); first | done | rfl | (simp only [List.length_drop, List.length_take]; rfl)) ?_; (with_reducible refine (gen_Check.calls k a0_0 a0_1 a0_2 _ _ l0_3 none _ ?side1 ?side2 A2.out).mono ?_); (case side1 => repeat (first | exact (Kd.C_below HR0_3.out HB.out) | (with_reducible refine Kd.C_alloc ?_ _) | (with_reducible refine Kd.C_drewN ?_ _) | (with_reducible refine Kd.C_drew ?_))); (case side2 => exact HC0_3.out); rintro e w7 ⟨rfl, hb⟩; refine ⟨_, rfl, ?_⟩; have n0_ := Aside0.mk (blk_below (g := gb299) (o := .cells #[.int .i64 a0_0, .int .i64 a0_1, .int .i64 a0_2, .slice A0_3 l0_3.length c0_3] 63 (0, 0)) (by (with_reducible repeat (first | refine blk_drewN ?_ _ | refine blk_drew ?_ | refine blk_alloc ?_ _)); exact BK299.out) hb); have n1_ := Aside0.mk (below_step (by repeat (first | (with_reducible first | exact HB.out | apply below_alloc | apply pw_below_drewN | apply below_drew1 | refine below_set ?_ GE299.out) | exact HB.out)) hb); clear BK299; clear HB; have BK299 := n0_; have HB := n1_; clear n0_ n1_; (try clear hb); (try clear hb2); (try clear hk); (try clear hi); (try simp only [errW_none, errW_some]); have hcz8_0 : w7.cell? ⟨gb299, 0, none⟩ = some (.int .i64 a0_0) := (blk_cell BK299.out 0).trans rfl; have hcz8_1 : w7.cell? ⟨gb299, 1, none⟩ = some (.int .i64 a0_1) := (blk_cell BK299.out 1).trans rfl; have hcz8_2 : w7.cell? ⟨gb299, 2, none⟩ = some (.int .i64 a0_2) := (blk_cell BK299.out 2).trans rfl; have hcz8_3 : w7.cell? ⟨gb299, 3, none⟩ = some (.slice A0_3 l0_3.length c0_3) := (blk_cell BK299.out 3).trans rfl; have hfz8_0 := blk_frozen BK299.out 0; have hfz8_1 := blk_frozen BK299.out 1; have hfz8_2 := blk_frozen BK299.out 2; have hfz8_3 := blk_frozen BK299.out 3) | ((with_reducible refine gate_callee (f := 84) rfl ?_); refine goesL_ (some 12) rfl rfl Tryd.func84 (by kernel_rfl) rfl #[.agg #[.int .i64 a0_0, .int .i64 a0_1, .int .i64 a0_2, .slice A0_3 l0_3.length c0_3]] rfl (by (try simp only [List.map_toArray, List.map_cons, List.map_nil]); first | done | rfl | (simp only [List.length_drop, List.length_take]; rfl)) ?_; (with_reducible refine (gen_count.calls k a0_0 a0_1 a0_2 _ _ l0_3 t302 _ ?side1 ?side2 A3.out).mono ?_); (case side1 => repeat (first | exact (Kd.C_below HR0_3.out HB.out) | (with_reducible refine Kd.C_alloc ?_ _) | (with_reducible refine Kd.C_drewN ?_ _) | (with_reducible refine Kd.C_drew ?_))); (case side2 => exact HC0_3.out); rintro e w9 ⟨rfl, hb⟩; refine ⟨_, rfl, ?_⟩; have n0_ := Aside0.mk (blk_below (g := gb299) (o := .cells #[.int .i64 a0_0, .int .i64 a0_1, .int .i64 a0_2, .slice A0_3 l0_3.length c0_3] 63 (0, 0)) (by (with_reducible repeat (first | refine blk_drewN ?_ _ | refine blk_drew ?_ | refine blk_alloc ?_ _)); exact BK299.out) hb); have n1_ := Aside0.mk (below_step (by repeat (first | (with_reducible first | exact HB.out | apply below_alloc | apply pw_below_drewN | apply below_drew1 | refine below_set ?_ GE299.out) | exact HB.out)) hb); clear BK299; clear HB; have BK299 := n0_; have HB := n1_; clear n0_ n1_; (try clear hb); (try clear hb2); (try clear hk); (try clear hi)))
   go_ret2
   exact ⟨by first | rfl | (simp [errW_none, errW_some] <;> rfl) | (simp [*, errW_none, errW_some] <;> rfl), by repeat (first | (with_reducible first | exact HB.out | apply below_alloc | apply pw_below_drewN | apply below_drew1 | refine below_set ?_ GE299.out) | exact HB.out)⟩
  ·rw [if_neg c4] at H
   have c4b0 : decide (1048576 < t302) = false := decide_eq_false c4
   clear c4
   simp only [Option.some.injEq, Prod.mk.injEq] at H
   obtain ⟨rfl, rfl⟩ := H
   go_enter Tryd.func42, Tryd.ntmps42
   go_wp2_with (first | ((with_reducible refine gate_dst (N := 1) rfl ?_); refine box_event ?hg (N := 1) ?hd (cs := #[.int .i64 a0_0, .int .i64 a0_1, .int .i64 a0_2, .slice A0_3 l0_3.length c0_3]) (t := 63) ?hr ?_; (case hd => rfl); (case hg => rfl); (case hr => first | (go_simp; done) | (go_simp; rfl)); intro gb299 hg w10 hbox hb; have n0_ := Aside0.mk (below_step (by repeat (first | (with_reducible first | exact HB.out | apply below_alloc | apply pw_below_drewN | apply below_drew1) | exact HB.out)) hb); have n1_ := Aside0.mk (hbox); have n2_ := Aside0.mk ((by rw [hg]; exact (below_size (by repeat (first | (with_reducible first | exact HB.out | apply below_alloc | apply pw_below_drewN | apply below_drew1) | exact HB.out))) : w.heap.size ≤ gb299)); have n3_ := Aside0.mk ((by rw [hg]; exact (below_size (by repeat (first | (with_reducible first | exact HB.out | apply below_alloc | apply pw_below_drewN | apply below_drew1) | exact HB.out))) : w.heap.size ≤ gb299)); clear HB; have HB := n0_; have BK299 := n1_; have GW299 := n2_; have GE299 := n3_; clear n0_ n1_ n2_ n3_; clear hb hbox hg; have hcz11_0 : w10.cell? ⟨gb299, 0, none⟩ = some (.int .i64 a0_0) := (blk_cell BK299.out 0).trans rfl; have hcz11_1 : w10.cell? ⟨gb299, 1, none⟩ = some (.int .i64 a0_1) := (blk_cell BK299.out 1).trans rfl; have hcz11_2 : w10.cell? ⟨gb299, 2, none⟩ = some (.int .i64 a0_2) := (blk_cell BK299.out 2).trans rfl; have hcz11_3 : w10.cell? ⟨gb299, 3, none⟩ = some (.slice A0_3 l0_3.length c0_3) := (blk_cell BK299.out 3).trans rfl; have hfz11_0 := blk_frozen BK299.out 0; have hfz11_1 := blk_frozen BK299.out 1; have hfz11_2 := blk_frozen BK299.out 2; have hfz11_3 := blk_frozen BK299.out 3) | ((with_reducible refine gate_callee (f := 83) rfl ?_); refine goesL_ (some 7) rfl rfl Tryd.func83 (by kernel_rfl) rfl #[.agg #[.int .i64 a0_0, .int .i64 a0_1, .int .i64 a0_2, .slice A0_3 l0_3.length c0_3]] rfl (by (try simp only [List.map_toArray, List.map_cons, List.map_nil]); first | done | rfl | (simp only [List.length_drop, List.length_take]; rfl)) ?_; (with_reducible refine (gen_Check.calls k a0_0 a0_1 a0_2 _ _ l0_3 none _ ?side1 ?side2 A2.out).mono ?_); (case side1 => repeat (first | exact (Kd.C_below HR0_3.out HB.out) | (with_reducible refine Kd.C_alloc ?_ _) | (with_reducible refine Kd.C_drewN ?_ _) | (with_reducible refine Kd.C_drew ?_))); (case side2 => exact HC0_3.out); rintro e w12 ⟨rfl, hb⟩; refine ⟨_, rfl, ?_⟩; have n0_ := Aside0.mk (blk_below (g := gb299) (o := .cells #[.int .i64 a0_0, .int .i64 a0_1, .int .i64 a0_2, .slice A0_3 l0_3.length c0_3] 63 (0, 0)) (by (with_reducible repeat (first | refine blk_drewN ?_ _ | refine blk_drew ?_ | refine blk_alloc ?_ _)); exact BK299.out) hb); have n1_ := Aside0.mk (below_step (by repeat (first | (with_reducible first | exact HB.out | apply below_alloc | apply pw_below_drewN | apply below_drew1 | refine below_set ?_ GE299.out) | exact HB.out)) hb); clear BK299; clear HB; have BK299 := n0_; have HB := n1_; clear n0_ n1_; (try clear hb); (try clear hb2); (try clear hk); (try clear hi); (try simp only [errW_none, errW_some]); have hcz13_0 : w12.cell? ⟨gb299, 0, none⟩ = some (.int .i64 a0_0) := (blk_cell BK299.out 0).trans rfl; have hcz13_1 : w12.cell? ⟨gb299, 1, none⟩ = some (.int .i64 a0_1) := (blk_cell BK299.out 1).trans rfl; have hcz13_2 : w12.cell? ⟨gb299, 2, none⟩ = some (.int .i64 a0_2) := (blk_cell BK299.out 2).trans rfl; have hcz13_3 : w12.cell? ⟨gb299, 3, none⟩ = some (.slice A0_3 l0_3.length c0_3) := (blk_cell BK299.out 3).trans rfl; have hfz13_0 := blk_frozen BK299.out 0; have hfz13_1 := blk_frozen BK299.out 1; have hfz13_2 := blk_frozen BK299.out 2; have hfz13_3 := blk_frozen BK299.out 3) | ((with_reducible refine gate_callee (f := 84) rfl ?_); refine goesL_ (some 12) rfl rfl Tryd.func84 (by kernel_rfl) rfl #[.agg #[.int .i64 a0_0, .int .i64 a0_1, .int .i64 a0_2, .slice A0_3 l0_3.length c0_3]] rfl (by (try simp only [List.map_toArray, List.map_cons, List.map_nil]); first | done | rfl | (simp only [List.length_drop, List.length_take]; rfl)) ?_; (with_reducible refine (gen_count.calls k a0_0 a0_1 a0_2 _ _ l0_3 t302 _ ?side1 ?side2 A3.out).mono ?_); (case side1 => repeat (first | exact (Kd.C_below HR0_3.out HB.out) | (with_reducible refine Kd.C_alloc ?_ _) | (with_reducible refine Kd.C_drewN ?_ _) | (with_reducible refine Kd.C_drew ?_))); (case side2 => exact HC0_3.out); rintro e w14 ⟨rfl, hb⟩; refine ⟨_, rfl, ?_⟩; have n0_ := Aside0.mk (blk_below (g := gb299) (o := .cells #[.int .i64 a0_0, .int .i64 a0_1, .int .i64 a0_2, .slice A0_3 l0_3.length c0_3] 63 (0, 0)) (by (with_reducible repeat (first | refine blk_drewN ?_ _ | refine blk_drew ?_ | refine blk_alloc ?_ _)); exact BK299.out) hb); have n1_ := Aside0.mk (below_step (by repeat (first | (with_reducible first | exact HB.out | apply below_alloc | apply pw_below_drewN | apply below_drew1 | refine below_set ?_ GE299.out) | exact HB.out)) hb); clear BK299; clear HB; have BK299 := n0_; have HB := n1_; clear n0_ n1_; (try clear hb); (try clear hb2); (try clear hk); (try clear hi)))
   go_ret2
   exact ⟨by first | rfl | (simp [errW_none, errW_some] <;> rfl) | (simp [*, errW_none, errW_some] <;> rfl), by repeat (first | (with_reducible first | exact HB.out | apply below_alloc | apply pw_below_drewN | apply below_drew1 | refine below_set ?_ GE299.out) | exact HB.out)⟩
 ·have H1 : (some (0, some q301)) = some (r1, r2) := by rw [if_neg (show ¬ (some q301).isNone = true by simp)] at H; exact H
  clear H
  have H := H1
  clear H1
  try simp only [errW_none, errW_some]
  simp only [Option.some.injEq, Prod.mk.injEq] at H
  obtain ⟨rfl, rfl⟩ := H
  go_enter Tryd.func42, Tryd.ntmps42
  go_wp2_with (first | ((with_reducible refine gate_dst (N := 1) rfl ?_); refine box_event ?hg (N := 1) ?hd (cs := #[.int .i64 a0_0, .int .i64 a0_1, .int .i64 a0_2, .slice A0_3 l0_3.length c0_3]) (t := 63) ?hr ?_; (case hd => rfl); (case hg => rfl); (case hr => first | (go_simp; done) | (go_simp; rfl)); intro gb299 hg w15 hbox hb; have n0_ := Aside0.mk (below_step (by repeat (first | (with_reducible first | exact HB.out | apply below_alloc | apply pw_below_drewN | apply below_drew1) | exact HB.out)) hb); have n1_ := Aside0.mk (hbox); have n2_ := Aside0.mk ((by rw [hg]; exact (below_size (by repeat (first | (with_reducible first | exact HB.out | apply below_alloc | apply pw_below_drewN | apply below_drew1) | exact HB.out))) : w.heap.size ≤ gb299)); have n3_ := Aside0.mk ((by rw [hg]; exact (below_size (by repeat (first | (with_reducible first | exact HB.out | apply below_alloc | apply pw_below_drewN | apply below_drew1) | exact HB.out))) : w.heap.size ≤ gb299)); clear HB; have HB := n0_; have BK299 := n1_; have GW299 := n2_; have GE299 := n3_; clear n0_ n1_ n2_ n3_; clear hb hbox hg; have hcz16_0 : w15.cell? ⟨gb299, 0, none⟩ = some (.int .i64 a0_0) := (blk_cell BK299.out 0).trans rfl; have hcz16_1 : w15.cell? ⟨gb299, 1, none⟩ = some (.int .i64 a0_1) := (blk_cell BK299.out 1).trans rfl; have hcz16_2 : w15.cell? ⟨gb299, 2, none⟩ = some (.int .i64 a0_2) := (blk_cell BK299.out 2).trans rfl; have hcz16_3 : w15.cell? ⟨gb299, 3, none⟩ = some (.slice A0_3 l0_3.length c0_3) := (blk_cell BK299.out 3).trans rfl; have hfz16_0 := blk_frozen BK299.out 0; have hfz16_1 := blk_frozen BK299.out 1; have hfz16_2 := blk_frozen BK299.out 2; have hfz16_3 := blk_frozen BK299.out 3) | ((with_reducible refine gate_callee (f := 83) rfl ?_); refine goesL_ (some 7) rfl rfl Tryd.func83 (by kernel_rfl) rfl #[.agg #[.int .i64 a0_0, .int .i64 a0_1, .int .i64 a0_2, .slice A0_3 l0_3.length c0_3]] rfl (by (try simp only [List.map_toArray, List.map_cons, List.map_nil]); first | done | rfl | (simp only [List.length_drop, List.length_take]; rfl)) ?_; (with_reducible refine (gen_Check.calls k a0_0 a0_1 a0_2 _ _ l0_3 (some q301) _ ?side1 ?side2 A2.out).mono ?_); (case side1 => repeat (first | exact (Kd.C_below HR0_3.out HB.out) | (with_reducible refine Kd.C_alloc ?_ _) | (with_reducible refine Kd.C_drewN ?_ _) | (with_reducible refine Kd.C_drew ?_))); (case side2 => exact HC0_3.out); rintro e w17 ⟨rfl, hb⟩; refine ⟨_, rfl, ?_⟩; have n0_ := Aside0.mk (blk_below (g := gb299) (o := .cells #[.int .i64 a0_0, .int .i64 a0_1, .int .i64 a0_2, .slice A0_3 l0_3.length c0_3] 63 (0, 0)) (by (with_reducible repeat (first | refine blk_drewN ?_ _ | refine blk_drew ?_ | refine blk_alloc ?_ _)); exact BK299.out) hb); have n1_ := Aside0.mk (below_step (by repeat (first | (with_reducible first | exact HB.out | apply below_alloc | apply pw_below_drewN | apply below_drew1 | refine below_set ?_ GE299.out) | exact HB.out)) hb); clear BK299; clear HB; have BK299 := n0_; have HB := n1_; clear n0_ n1_; (try clear hb); (try clear hb2); (try clear hk); (try clear hi); (try simp only [errW_none, errW_some])))
  go_ret2
  exact ⟨by first | rfl | (simp [errW_none, errW_some] <;> rfl) | (simp [*, errW_none, errW_some] <;> rfl), by repeat (first | (with_reducible first | exact HB.out | apply below_alloc | apply pw_below_drewN | apply below_drew1 | refine below_set ?_ GE299.out) | exact HB.out)⟩

end Go.Proofs.YtgdomnlkafcddaaDoor.Q
namespace Go.Proofs.YtgdomnlkafcddaaDoor.Q
open Go.RowKit Go.Proofs.YtgdomnlkafcddaaDoorW.PrintWords Go.Proofs.YtgdomnlkafcddaaDoorW.PrintLast Go.Proofs.YtgdomnlkafcddaaDoorW.PrintMore
attribute [local go_sem] max2_int min2_int max_two min_two max_three min_three max_four min_four   -- for this text's walks alone
set_option linter.unusedVariables false
set_option linter.unusedSimpArgs false

/-! ### rank_count: function 122 -/
def rank_count.f (k : Nat) (a0_0 : Int) (a0_1 : Int) (a0_2 : Int) (l0_3 : List (S63)) : Option (Int) := (gen_Count.f k a0_0 a0_1 a0_2 l0_3).bind fun bt327 => (if bt327.2.isNone = true then (some bt327.1) else (some 1048577))
theorem rank_count.mono : ∀ a0 a1 a2 a3 k, LeO (rank_count.f k a0 a1 a2 a3) (rank_count.f (k + 1) a0 a1 a2 a3) := by
 intro a0 a1 a2 a3 k
 unfold rank_count.f
 repeat' first
   | (with_reducible exact gen_Count.mono _ _ _ _ _)
   | (with_reducible exact LeO.refl _)
   | (with_reducible exact LeO.none _)
   | (with_reducible refine LeO.ite ?_ ?_)
   | (with_reducible refine LeO.bind ?_ (fun _ => ?_))
   | exact gen_Count.mono _ _ _ _ _
   | exact LeO.none _
   | refine LeO.ite ?_ ?_
   | refine LeO.bind ?_ (fun _ => ?_)
set_option maxHeartbeats 8000000 in
set_option maxRecDepth 100000 in
theorem rank_count.calls (k : Nat) (a0_0 : Int) (a0_1 : Int) (a0_2 : Int) (A0_3 : Option Addr) (c0_3 : Nat) (l0_3 : List (S63)) (r : Int) (w : World) (hr0_3 : Kd.C k63 w A0_3 l0_3.length l0_3) (hc0_3 : l0_3.length ≤ c0_3) (h : rank_count.f k a0_0 a0_1 a0_2 l0_3 = some r) :
  Calls Tryd.prog 122 #[.agg #[.int .i64 a0_0, .int .i64 a0_1, .int .i64 a0_2, .slice A0_3 l0_3.length c0_3]] w fun e w' => e = .returned (.int .i64 r) ∧ Below w.heap.size w w' := by
 have hu63 := Tryd.underlying63
 have hu30 := Tryd.underlying30
 have hu66 := Tryd.underlying66
 have HR0_3 := Aside0.mk hr0_3
 have HC0_3 := Aside0.mk hc0_3
 clear hr0_3 hc0_3
 have HB := Aside0.mk (Below.refl w.heap.size w)
 have H : ((gen_Count.f k a0_0 a0_1 a0_2 l0_3).bind fun bt327 => (if bt327.2.isNone = true then (some bt327.1) else (some 1048577))) = some r := h
 clear h
 replace H := Option.bind_eq_some_iff.mp H
 obtain ⟨⟨t327, t328⟩, A20, H⟩ := H
 replace H : (if t328.isNone = true then (some t327) else (some 1048577)) = some r := H
 have A2 := Aside0.mk A20
 clear A20
 rcases t328 with _ | q329
 ·have H1 : (some t327) = some r := by rw [if_pos (show (none : Option Int).isNone = true by rfl)] at H; exact H
  clear H
  have H := H1
  clear H1
  try simp only [errW_none, errW_some]
  obtain rfl := Option.some.inj H
  go_enter Tryd.func122, Tryd.ntmps122
  go_wp2_with (first | ((with_reducible refine gate_dst (N := 1) rfl ?_); refine box_event ?hg (N := 1) ?hd (cs := #[.int .i64 a0_0, .int .i64 a0_1, .int .i64 a0_2, .slice A0_3 l0_3.length c0_3]) (t := 63) ?hr ?_; (case hd => rfl); (case hg => rfl); (case hr => first | (go_simp; done) | (go_simp; rfl)); intro gb326 hg w3 hbox hb; have n0_ := Aside0.mk (below_step (by repeat (first | (with_reducible first | exact HB.out | apply below_alloc | apply pw_below_drewN | apply below_drew1) | exact HB.out)) hb); have n1_ := Aside0.mk (hbox); have n2_ := Aside0.mk ((by rw [hg]; exact (below_size (by repeat (first | (with_reducible first | exact HB.out | apply below_alloc | apply pw_below_drewN | apply below_drew1) | exact HB.out))) : w.heap.size ≤ gb326)); have n3_ := Aside0.mk ((by rw [hg]; exact (below_size (by repeat (first | (with_reducible first | exact HB.out | apply below_alloc | apply pw_below_drewN | apply below_drew1) | exact HB.out))) : w.heap.size ≤ gb326)); clear HB; have HB := n0_; have BK326 := n1_; have GW326 := n2_; have GE326 := n3_; clear n0_ n1_ n2_ n3_; clear hb hbox hg; have hcz4_0 : w3.cell? ⟨gb326, 0, none⟩ = some (.int .i64 a0_0) := (blk_cell BK326.out 0).trans rfl; have hcz4_1 : w3.cell? ⟨gb326, 1, none⟩ = some (.int .i64 a0_1) := (blk_cell BK326.out 1).trans rfl; have hcz4_2 : w3.cell? ⟨gb326, 2, none⟩ = some (.int .i64 a0_2) := (blk_cell BK326.out 2).trans rfl; have hcz4_3 : w3.cell? ⟨gb326, 3, none⟩ = some (.slice A0_3 l0_3.length c0_3) := (blk_cell BK326.out 3).trans rfl; have hfz4_0 := blk_frozen BK326.out 0; have hfz4_1 := blk_frozen BK326.out 1; have hfz4_2 := blk_frozen BK326.out 2; have hfz4_3 := blk_frozen BK326.out 3) | ((with_reducible refine gate_callee (f := 42) rfl ?_); refine goesL_ (some 7) rfl rfl Tryd.func42 (by kernel_rfl) rfl #[.agg #[.int .i64 a0_0, .int .i64 a0_1, .int .i64 a0_2, .slice A0_3 l0_3.length c0_3]] rfl (by (try simp only [List.map_toArray, List.map_cons, List.map_nil]); first | done | rfl | (simp only [List.length_drop, List.length_take]; rfl)) ?_; (with_reducible refine (gen_Count.calls k a0_0 a0_1 a0_2 _ _ l0_3 t327 none _ ?side1 ?side2 A2.out).mono ?_); (case side1 => repeat (first | exact (Kd.C_below HR0_3.out HB.out) | (with_reducible refine Kd.C_alloc ?_ _) | (with_reducible refine Kd.C_drewN ?_ _) | (with_reducible refine Kd.C_drew ?_))); (case side2 => exact HC0_3.out); rintro e w5 ⟨rfl, hb⟩; refine ⟨_, rfl, ?_⟩; have n0_ := Aside0.mk (blk_below (g := gb326) (o := .cells #[.int .i64 a0_0, .int .i64 a0_1, .int .i64 a0_2, .slice A0_3 l0_3.length c0_3] 63 (0, 0)) (by (with_reducible repeat (first | refine blk_drewN ?_ _ | refine blk_drew ?_ | refine blk_alloc ?_ _)); exact BK326.out) hb); have n1_ := Aside0.mk (below_step (by repeat (first | (with_reducible first | exact HB.out | apply below_alloc | apply pw_below_drewN | apply below_drew1 | refine below_set ?_ GE326.out) | exact HB.out)) hb); clear BK326; clear HB; have BK326 := n0_; have HB := n1_; clear n0_ n1_; (try clear hb); (try clear hb2); (try clear hk); (try clear hi); (try simp only [errW_none, errW_some])))
  go_ret
  exact ⟨by first | rfl | (simp [errW_none, errW_some] <;> rfl) | (simp [*, errW_none, errW_some] <;> rfl), by repeat (first | (with_reducible first | exact HB.out | apply below_alloc | apply pw_below_drewN | apply below_drew1 | refine below_set ?_ GE326.out) | exact HB.out)⟩
 ·have H1 : (some 1048577) = some r := by rw [if_neg (show ¬ (some q329).isNone = true by simp)] at H; exact H
  clear H
  have H := H1
  clear H1
  try simp only [errW_none, errW_some]
  obtain rfl := Option.some.inj H
  go_enter Tryd.func122, Tryd.ntmps122
  go_wp2_with (first | ((with_reducible refine gate_dst (N := 1) rfl ?_); refine box_event ?hg (N := 1) ?hd (cs := #[.int .i64 a0_0, .int .i64 a0_1, .int .i64 a0_2, .slice A0_3 l0_3.length c0_3]) (t := 63) ?hr ?_; (case hd => rfl); (case hg => rfl); (case hr => first | (go_simp; done) | (go_simp; rfl)); intro gb326 hg w6 hbox hb; have n0_ := Aside0.mk (below_step (by repeat (first | (with_reducible first | exact HB.out | apply below_alloc | apply pw_below_drewN | apply below_drew1) | exact HB.out)) hb); have n1_ := Aside0.mk (hbox); have n2_ := Aside0.mk ((by rw [hg]; exact (below_size (by repeat (first | (with_reducible first | exact HB.out | apply below_alloc | apply pw_below_drewN | apply below_drew1) | exact HB.out))) : w.heap.size ≤ gb326)); have n3_ := Aside0.mk ((by rw [hg]; exact (below_size (by repeat (first | (with_reducible first | exact HB.out | apply below_alloc | apply pw_below_drewN | apply below_drew1) | exact HB.out))) : w.heap.size ≤ gb326)); clear HB; have HB := n0_; have BK326 := n1_; have GW326 := n2_; have GE326 := n3_; clear n0_ n1_ n2_ n3_; clear hb hbox hg; have hcz7_0 : w6.cell? ⟨gb326, 0, none⟩ = some (.int .i64 a0_0) := (blk_cell BK326.out 0).trans rfl; have hcz7_1 : w6.cell? ⟨gb326, 1, none⟩ = some (.int .i64 a0_1) := (blk_cell BK326.out 1).trans rfl; have hcz7_2 : w6.cell? ⟨gb326, 2, none⟩ = some (.int .i64 a0_2) := (blk_cell BK326.out 2).trans rfl; have hcz7_3 : w6.cell? ⟨gb326, 3, none⟩ = some (.slice A0_3 l0_3.length c0_3) := (blk_cell BK326.out 3).trans rfl; have hfz7_0 := blk_frozen BK326.out 0; have hfz7_1 := blk_frozen BK326.out 1; have hfz7_2 := blk_frozen BK326.out 2; have hfz7_3 := blk_frozen BK326.out 3) | ((with_reducible refine gate_callee (f := 42) rfl ?_); refine goesL_ (some 7) rfl rfl Tryd.func42 (by kernel_rfl) rfl #[.agg #[.int .i64 a0_0, .int .i64 a0_1, .int .i64 a0_2, .slice A0_3 l0_3.length c0_3]] rfl (by (try simp only [List.map_toArray, List.map_cons, List.map_nil]); first | done | rfl | (simp only [List.length_drop, List.length_take]; rfl)) ?_; (with_reducible refine (gen_Count.calls k a0_0 a0_1 a0_2 _ _ l0_3 t327 (some q329) _ ?side1 ?side2 A2.out).mono ?_); (case side1 => repeat (first | exact (Kd.C_below HR0_3.out HB.out) | (with_reducible refine Kd.C_alloc ?_ _) | (with_reducible refine Kd.C_drewN ?_ _) | (with_reducible refine Kd.C_drew ?_))); (case side2 => exact HC0_3.out); rintro e w8 ⟨rfl, hb⟩; refine ⟨_, rfl, ?_⟩; have n0_ := Aside0.mk (blk_below (g := gb326) (o := .cells #[.int .i64 a0_0, .int .i64 a0_1, .int .i64 a0_2, .slice A0_3 l0_3.length c0_3] 63 (0, 0)) (by (with_reducible repeat (first | refine blk_drewN ?_ _ | refine blk_drew ?_ | refine blk_alloc ?_ _)); exact BK326.out) hb); have n1_ := Aside0.mk (below_step (by repeat (first | (with_reducible first | exact HB.out | apply below_alloc | apply pw_below_drewN | apply below_drew1 | refine below_set ?_ GE326.out) | exact HB.out)) hb); clear BK326; clear HB; have BK326 := n0_; have HB := n1_; clear n0_ n1_; (try clear hb); (try clear hb2); (try clear hk); (try clear hi); (try simp only [errW_none, errW_some])))
  go_ret
  exact ⟨by first | rfl | (simp [errW_none, errW_some] <;> rfl) | (simp [*, errW_none, errW_some] <;> rfl), by repeat (first | (with_reducible first | exact HB.out | apply below_alloc | apply pw_below_drewN | apply below_drew1 | refine below_set ?_ GE326.out) | exact HB.out)⟩

end Go.Proofs.YtgdomnlkafcddaaDoor.Q
namespace Go.Proofs.YtgdomnlkafcddaaDoor.Q
open Go.RowKit Go.Proofs.YtgdomnlkafcddaaDoorW.PrintWords Go.Proofs.YtgdomnlkafcddaaDoorW.PrintLast Go.Proofs.YtgdomnlkafcddaaDoorW.PrintMore
attribute [local go_sem] max2_int min2_int max_two min_two max_three min_three max_four min_four   -- for this text's walks alone
set_option linter.unusedVariables false
set_option linter.unusedSimpArgs false

/-! ### rank_product: function 82 -/
def rank_product.l0 : Nat → Int → List (S63) → Int → Int → Option (Int)
 | 0, _, _, _, _ => none
 | k + 1, x3, x6, x7, x8 => if x8 < x7 then (if 0 ≤ x8 then (if x8 < (x6.length : Int) then ((rank_count.f k ((rd_T63 x6 x8).f0) ((rd_T63 x6 x8).f1) ((rd_T63 x6 x8).f2) ((rd_T63 x6 x8).f3)).bind fun t332 => (rank_product.l0 k (wrap64 (x3 * t332)) x6 x7 (wrap64 (x8 + 1)))) else (none)) else (none)) else (some x3)
def rank_product.f (k : Nat) (l0 : List (S63)) : Option (Int) := rank_product.l0 k 1 l0 (l0.length : Int) 0
theorem rank_product.mono_l : ∀ k, (∀ y0 y1 y2 y3, LeO (rank_product.l0 k y0 y1 y2 y3) (rank_product.l0 (k + 1) y0 y1 y2 y3))
 | 0 => fun _ _ _ _ r h => by simp [rank_product.l0] at h
 | k + 1 => by
  have ih0 := rank_product.mono_l k
  ·intro y0 y1 y2 y3
   unfold rank_product.l0
   repeat' first
   | (with_reducible exact ih0 _ _ _ _)
   | (with_reducible exact rank_count.mono _ _ _ _ _)
   | (with_reducible exact LeO.refl _)
   | (with_reducible exact LeO.none _)
   | (with_reducible refine LeO.ite ?_ ?_)
   | (with_reducible refine LeO.bind ?_ (fun _ => ?_))
   | exact ih0 _ _ _ _
   | exact rank_count.mono _ _ _ _ _
   | exact LeO.none _
   | refine LeO.ite ?_ ?_
   | refine LeO.bind ?_ (fun _ => ?_)
theorem rank_product.mono : ∀ a0 k, LeO (rank_product.f k a0) (rank_product.f (k + 1) a0) := by
 intro a0 k
 have ih0 := rank_product.mono_l k
 unfold rank_product.f
 repeat' first
   | (with_reducible exact ih0 _ _ _ _)
   | (with_reducible exact rank_count.mono _ _ _ _ _)
   | (with_reducible exact LeO.refl _)
   | (with_reducible exact LeO.none _)
   | (with_reducible refine LeO.ite ?_ ?_)
   | (with_reducible refine LeO.bind ?_ (fun _ => ?_))
   | exact ih0 _ _ _ _
   | exact rank_count.mono _ _ _ _ _
   | exact LeO.none _
   | refine LeO.ite ?_ ?_
   | refine LeO.bind ?_ (fun _ => ?_)
set_option maxHeartbeats 8000000 in
set_option maxRecDepth 100000 in
theorem rank_product.calls (k : Nat) (A0 : Option Addr) (c0 : Nat) (l0 : List (S63)) (r : Int) (w : World) (hr0 : Kd.C k63 w A0 l0.length l0) (hc0 : l0.length ≤ c0) (h : rank_product.f k l0 = some r) :
  Calls Tryd.prog 82 #[.slice A0 l0.length c0] w fun e w' => e = .returned (.int .i64 r) ∧ Below w.heap.size w w' := by
 have hu63 := Tryd.underlying63
 have HR0 := Aside0.mk hr0
 have HC0 := Aside0.mk hc0
 clear hr0 hc0
 have HB := Aside0.mk (Below.refl w.heap.size w)
 have H : (rank_product.l0 k 1 l0 (l0.length : Int) 0) = some r := h
 clear h
 have H' := Aside0.mk H
 clear H
 go_enter Tryd.func82, Tryd.ntmps82
 go_wp2
 go_loopg [3, 8] k (fun kq v3 v8 w' => ∃ (x3_1 : Int) (x8_1 : Int), v3 = .int .i64 x3_1 ∧ v8 = .int .i64 x8_1 ∧ Aside0 (rank_product.l0 kq x3_1 l0 (l0.length : Int) x8_1 = some r) ∧ Aside0 (kq ≤ k) ∧ Aside0 (Below w.heap.size w w'))
 case atStart => exact ⟨(1), (0), (by first | rfl | (simp; done) | (simp [*]; done)), (by first | rfl | (simp; done) | (simp [*]; done)), H', ⟨Nat.le_refl _⟩, ⟨by repeat (first | (with_reducible first | exact HB.out | apply below_alloc | apply pw_below_drewN | apply below_drew1) | exact HB.out)⟩⟩
 case round =>
  clear H'
  obtain ⟨x3_1, x8_1, rfl, rfl, HA, HK1, HB⟩ := hrel
  cases gk with
  | zero => exact absurd HA.out (by simp [rank_product.l0])
  | succ k1 =>
   have H := HA.out
   clear HA
   simp only [rank_product.l0] at H
   by_cases c2 : x8_1 < (l0.length : Int)
   ·rw [if_pos c2] at H
    have c2b0 : decide (x8_1 < (l0.length : Int)) = true := decide_eq_true c2
    clear c2
    by_cases c3 : 0 ≤ x8_1
    ·rw [if_pos c3] at H
     have c3b0 : decide (0 ≤ x8_1) = true := decide_eq_true c3
     clear c3
     by_cases c4 : x8_1 < (l0.length : Int)
     ·rw [if_pos c4] at H
      have c4b0 : decide (x8_1 < (l0.length : Int)) = true := decide_eq_true c4
      clear c4
      replace H := Option.bind_eq_some_iff.mp H
      obtain ⟨t332, A50, H⟩ := H
      replace H : (rank_product.l0 k1 (wrap64 (x3_1 * t332)) l0 (l0.length : Int) (wrap64 (x8_1 + 1))) = some r := H
      have A5 := Aside0.mk A50
      clear A50
      have H' := Aside0.mk H
      clear H
      have p330 : 0 ≤ (x8_1 : Int) := of_decide_eq_true (by first | (with_reducible assumption) | assumption)
      have q330 : x8_1 < (l0.length : Int) := of_decide_eq_true (by first | (with_reducible assumption) | assumption)
      obtain ⟨ad330, A330_3, c330_3, e330, hx330_0, hx330_1, hx330_2, hx330_3, hl330_3, hi330_3⟩ := at_T63 HR0.out x8_1 p330 q330
      cases e330
      replace hx330_0 := (HB.out.cell (World.block_lt_of_cell? w _ hx330_0)).trans hx330_0
      replace hx330_1 := (HB.out.cell (World.block_lt_of_cell? w _ hx330_1)).trans hx330_1
      replace hx330_2 := (HB.out.cell (World.block_lt_of_cell? w _ hx330_2)).trans hx330_2
      replace hx330_3 := (HB.out.cell (World.block_lt_of_cell? w _ hx330_3)).trans hx330_3
      have HR330_3 := Aside0.mk hi330_3
      have HC330_3 := Aside0.mk hl330_3
      clear hi330_3 hl330_3
      replace p330 := eq_true p330
      replace q330 := eq_true q330
      go_wp2_with (first | ((with_reducible refine gate_dst (N := 5) rfl ?_); refine box_event ?hg (N := 5) ?hd (cs := #[.int .i64 0, .int .i64 0, .int .i64 0, .slice none 0 0]) (t := 63) ?hr ?_; (case hd => rfl); (case hg => rfl); (case hr => first | (go_simp; done) | (go_simp; rfl)); intro gb331 hg w6 hbox hb; have n0_ := Aside0.mk (below_step (by repeat (first | (with_reducible first | exact HB.out | apply below_alloc | apply pw_below_drewN | apply below_drew1) | exact HB.out)) hb); have n1_ := Aside0.mk (hbox); have n2_ := Aside0.mk ((by rw [hg]; exact (below_size (by repeat (first | (with_reducible first | exact HB.out | apply below_alloc | apply pw_below_drewN | apply below_drew1) | exact HB.out))) : w.heap.size ≤ gb331)); have n3_ := Aside0.mk ((by rw [hg]; exact (below_size (by repeat (first | (with_reducible first | exact HB.out | apply below_alloc | apply pw_below_drewN | apply below_drew1) | exact HB.out))) : w.heap.size ≤ gb331)); clear HB; have HB := n0_; have BK331 := n1_; have GW331 := n2_; have GE331 := n3_; clear n0_ n1_ n2_ n3_; clear hb hbox hg; have hcz7_0 : w6.cell? ⟨gb331, 0, none⟩ = some (.int .i64 0) := (blk_cell BK331.out 0).trans rfl; have hcz7_1 : w6.cell? ⟨gb331, 1, none⟩ = some (.int .i64 0) := (blk_cell BK331.out 1).trans rfl; have hcz7_2 : w6.cell? ⟨gb331, 2, none⟩ = some (.int .i64 0) := (blk_cell BK331.out 2).trans rfl; have hcz7_3 : w6.cell? ⟨gb331, 3, none⟩ = some (.slice none 0 0) := (blk_cell BK331.out 3).trans rfl; have hfz7_0 := blk_frozen BK331.out 0; have hfz7_1 := blk_frozen BK331.out 1; have hfz7_2 := blk_frozen BK331.out 2; have hfz7_3 := blk_frozen BK331.out 3) | ((with_reducible refine gate_callee (f := 122) rfl ?_); refine goesL_ (some 14) rfl rfl Tryd.func122 (by kernel_rfl) rfl #[.agg #[.int .i64 ((rd_T63 l0 x8_1).f0), .int .i64 ((rd_T63 l0 x8_1).f1), .int .i64 ((rd_T63 l0 x8_1).f2), .slice A330_3 ((rd_T63 l0 x8_1).f3).length c330_3]] rfl (by (try simp only [List.map_toArray, List.map_cons, List.map_nil]); first | done | rfl | (simp only [List.length_drop, List.length_take]; rfl)) ?_; (with_reducible refine (rank_count.calls k1 ((rd_T63 l0 x8_1).f0) ((rd_T63 l0 x8_1).f1) ((rd_T63 l0 x8_1).f2) _ _ ((rd_T63 l0 x8_1).f3) t332 _ ?side1 ?side2 A5.out).mono ?_); (case side1 => exact Kd.C_below HR330_3.out (by repeat (first | (with_reducible first | exact HB.out | apply below_alloc | apply pw_below_drewN | apply below_drew1 | refine below_set ?_ GE331.out) | exact HB.out))); (case side2 => exact HC330_3.out); rintro e w8 ⟨rfl, hb⟩; refine ⟨_, rfl, ?_⟩; have n0_ := Aside0.mk (blk_below (g := gb331) (o := .cells #[.int .i64 ((rd_T63 l0 x8_1).f0), .int .i64 ((rd_T63 l0 x8_1).f1), .int .i64 ((rd_T63 l0 x8_1).f2), .slice A330_3 ((rd_T63 l0 x8_1).f3).length c330_3] 63 (0, 0)) (by (with_reducible repeat (first | refine blk_drewN ?_ _ | refine blk_drew ?_ | refine blk_alloc ?_ _)); refine blk_put (cs := #[.int .i64 ((rd_T63 l0 x8_1).f0), .int .i64 ((rd_T63 l0 x8_1).f1), .int .i64 ((rd_T63 l0 x8_1).f2), .slice none 0 0]) ?_ 3 _ rfl; (with_reducible repeat (first | refine blk_drewN ?_ _ | refine blk_drew ?_ | refine blk_alloc ?_ _)); refine blk_put (cs := #[.int .i64 ((rd_T63 l0 x8_1).f0), .int .i64 ((rd_T63 l0 x8_1).f1), .int .i64 0, .slice none 0 0]) ?_ 2 _ rfl; (with_reducible repeat (first | refine blk_drewN ?_ _ | refine blk_drew ?_ | refine blk_alloc ?_ _)); refine blk_put (cs := #[.int .i64 ((rd_T63 l0 x8_1).f0), .int .i64 0, .int .i64 0, .slice none 0 0]) ?_ 1 _ rfl; (with_reducible repeat (first | refine blk_drewN ?_ _ | refine blk_drew ?_ | refine blk_alloc ?_ _)); refine blk_put (cs := #[.int .i64 0, .int .i64 0, .int .i64 0, .slice none 0 0]) ?_ 0 _ rfl; (with_reducible repeat (first | refine blk_drewN ?_ _ | refine blk_drew ?_ | refine blk_alloc ?_ _)); exact BK331.out) hb); have n1_ := Aside0.mk (below_step (by repeat (first | (with_reducible first | exact HB.out | apply below_alloc | apply pw_below_drewN | apply below_drew1 | refine below_set ?_ GE331.out) | exact HB.out)) hb); clear BK331; clear HB; have BK331 := n0_; have HB := n1_; clear n0_ n1_; (try clear hb); (try clear hb2); (try clear hk); (try clear hi)))
      go_roundg k1
      case measure => have := HK1.out; omega
      case rel => exact ⟨(wrap64 (x3_1 * t332)), (wrap64 (x8_1 + 1)), (by first | rfl | (simp; done) | (simp [*]; done)), (by first | rfl | (simp; done) | (simp [*]; done)), H', ⟨by have := HK1.out; omega⟩, ⟨by repeat (first | (with_reducible first | exact HB.out | apply below_alloc | apply pw_below_drewN | apply below_drew1 | refine below_set ?_ GE331.out) | exact HB.out)⟩⟩
     ·rw [if_neg c4] at H
      exact absurd H (by simp)
    ·rw [if_neg c3] at H
     exact absurd H (by simp)
   ·rw [if_neg c2] at H
    have c2b0 : decide (x8_1 < (l0.length : Int)) = false := decide_eq_false c2
    clear c2
    obtain rfl := Option.some.inj H
    go_wp2
    go_ret
    exact ⟨by first | rfl | (simp [errW_none, errW_some] <;> rfl) | (simp [*, errW_none, errW_some] <;> rfl), by repeat (first | (with_reducible first | exact HB.out | apply below_alloc | apply pw_below_drewN | apply below_drew1) | exact HB.out)⟩

end Go.Proofs.YtgdomnlkafcddaaDoor.Q
namespace Go.Proofs.YtgdomnlkafcddaaDoor.Q
open Go.RowKit Go.Proofs.YtgdomnlkafcddaaDoorW.PrintWords Go.Proofs.YtgdomnlkafcddaaDoorW.PrintLast Go.Proofs.YtgdomnlkafcddaaDoorW.PrintMore
set_option linter.unusedVariables false
set_option linter.unusedSimpArgs false
theorem capped_ok (n : Int) (h : 0 ≤ n) : ∃ c, gen_capped.f n = some c ∧ 0 ≤ c ∧ c ≤ 1048577 := by
 unfold gen_capped.f
 refine ⟨_, rfl, ?_, ?_⟩ <;> unfold mn <;> (repeat' split) <;> omega
theorem gen_count.fle {k k' : Nat} (hk : k ≤ k') {a b c : Int} {l : List S63} {r : Int} (h : gen_count.f k a b c l = some r) : gen_count.f k' a b c l = some r :=
 LeO.le (f := fun k => gen_count.f k a b c l) (fun k => (gen_count.mono_l k).1 _ _ _ _) hk h
theorem gen_count.le0 {k k' : Nat} (hk : k ≤ k') {a : Int} {l : List S63} {b c : Int} {r : Int} (h : gen_count.l0 k a l b c = some r) : gen_count.l0 k' a l b c = some r :=
 LeO.le (f := fun k => gen_count.l0 k a l b c) (fun k => (gen_count.mono_l k).2.1 _ _ _ _) hk h
theorem gen_count.le1 {k k' : Nat} (hk : k ≤ k') {a b c d e : Int} {r : Int} (h : gen_count.l1 k a b c d e = some r) : gen_count.l1 k' a b c d e = some r :=
 LeO.le (f := fun k => gen_count.l1 k a b c d e) (fun k => (gen_count.mono_l k).2.2.1 _ _ _ _ _) hk h
theorem gen_count.le2 {k k' : Nat} (hk : k ≤ k') {a : Int} {l : List S63} {b c : Int} {r : Int} (h : gen_count.l2 k a l b c = some r) : gen_count.l2 k' a l b c = some r :=
 LeO.le (f := fun k => gen_count.l2 k a l b c) (fun k => (gen_count.mono_l k).2.2.2 _ _ _ _) hk h
theorem mul_bnd {a b : Int} (h0 : 0 ≤ a) (h1 : a ≤ 1048577) (g0 : 0 ≤ b) (g1 : b ≤ 1048577) : 0 ≤ a * b ∧ a * b ≤ 1099513724929 := by
 refine ⟨Int.mul_nonneg h0 g0, ?_⟩
 have := Int.mul_le_mul h1 g1 g0 (by omega)
 omega
theorem count_loop0 (xs : List S63) (hl : xs.length ≤ 30) (ih : ∀ y ∈ xs, ∃ k c, gen_count.f k y.f0 y.f1 y.f2 y.f3 = some c ∧ 0 ≤ c ∧ c ≤ 1048577) :
  ∀ (j i : Nat), i + j = xs.length → ∀ n : Int, 0 ≤ n → n ≤ 1048577 → ∃ k c, gen_count.l0 k n xs (xs.length : Int) (i : Int) = some c ∧ 0 ≤ c ∧ c ≤ 1048577 := by
 intro j
 induction j with
 | zero =>
  intro i hi n h0 h1
  have hlt : ¬ (i : Int) < (xs.length : Int) := by omega
  exact ⟨1, n, by simp [gen_count.l0, hlt], h0, h1⟩
 | succ j ihj =>
  intro i hi n h0 h1
  have hlt : (i : Int) < (xs.length : Int) := by omega
  have hi0 : (0 : Int) ≤ (i : Int) := by omega
  have hi' : i < xs.length := by omega
  have hw3 : wrap64 ((i : Int) + 1) = ((i + 1 : Nat) : Int) := by rw [wrap64_id (by omega) (by omega)]; omega
  obtain ⟨k1, c, hc, c0, c1⟩ := ih xs[i] (List.getElem_mem hi')
  have hb := mul_bnd h0 h1 c0 c1
  have hw : wrap64 (n * c) = n * c := wrap64_id (by omega) (by omega)
  obtain ⟨d, hd, d0, d1⟩ := capped_ok (n * c) hb.1
  obtain ⟨k2, e, he, e0, e1⟩ := ihj (i + 1) (by omega) d d0 d1
  refine ⟨max k1 k2 + 1, e, ?_, e0, e1⟩
  simp only [gen_count.l0, if_pos hlt, if_pos hi0, rd_T63_at hi', hw3]
  rw [gen_count.fle (Nat.le_max_left k1 k2) hc]
  simp only [Option.bind_some, hw, hd]
  exact gen_count.le0 (Nat.le_max_right k1 k2) he
theorem count_loop2 (xs : List S63) (hl : xs.length ≤ 30) (ih : ∀ y ∈ xs, ∃ k c, gen_count.f k y.f0 y.f1 y.f2 y.f3 = some c ∧ 0 ≤ c ∧ c ≤ 1048577) :
  ∀ (j i : Nat), i + j = xs.length → ∀ n : Int, 0 ≤ n → n ≤ 1048577 → ∃ k c, gen_count.l2 k n xs (xs.length : Int) (i : Int) = some c ∧ 0 ≤ c ∧ c ≤ 1048577 := by
 intro j
 induction j with
 | zero =>
  intro i hi n h0 h1
  have hlt : ¬ (i : Int) < (xs.length : Int) := by omega
  exact ⟨1, n, by simp [gen_count.l2, hlt], h0, h1⟩
 | succ j ihj =>
  intro i hi n h0 h1
  have hlt : (i : Int) < (xs.length : Int) := by omega
  have hi0 : (0 : Int) ≤ (i : Int) := by omega
  have hi' : i < xs.length := by omega
  have hw3 : wrap64 ((i : Int) + 1) = ((i + 1 : Nat) : Int) := by rw [wrap64_id (by omega) (by omega)]; omega
  obtain ⟨k1, c, hc, c0, c1⟩ := ih xs[i] (List.getElem_mem hi')
  have hw : wrap64 (n + c) = n + c := wrap64_id (by omega) (by omega)
  obtain ⟨d, hd, d0, d1⟩ := capped_ok (n + c) (by omega)
  obtain ⟨k2, e, he, e0, e1⟩ := ihj (i + 1) (by omega) d d0 d1
  refine ⟨max k1 k2 + 1, e, ?_, e0, e1⟩
  simp only [gen_count.l2, if_pos hlt, if_pos hi0, rd_T63_at hi', hw3]
  rw [gen_count.fle (Nat.le_max_left k1 k2) hc]
  simp only [Option.bind_some, hw, hd]
  exact gen_count.le2 (Nat.le_max_right k1 k2) he
theorem count_loop1 (q : Int) (q0 : 0 ≤ q) (q1 : q ≤ 1048577) (A : Nat) (hA : A ≤ 30) :
  ∀ (j i : Nat), i + j = A → ∀ n p : Int, 0 ≤ n → n ≤ 1048577 → 0 ≤ p → p ≤ 1048577 → ∃ k c, gen_count.l1 k n q p (A : Int) (i : Int) = some c ∧ 0 ≤ c ∧ c ≤ 1048577 := by
 intro j
 induction j with
 | zero =>
  intro i hi n p h0 h1 p0 p1
  have hlt : ¬ (i : Int) < (A : Int) := by omega
  exact ⟨1, n, by simp [gen_count.l1, hlt], h0, h1⟩
 | succ j ihj =>
  intro i hi n p h0 h1 p0 p1
  have hlt : (i : Int) < (A : Int) := by omega
  have hw3 : wrap64 ((i : Int) + 1) = ((i + 1 : Nat) : Int) := by rw [wrap64_id (by omega) (by omega)]; omega
  have hb := mul_bnd p0 p1 q0 q1
  have hw : wrap64 (p * q) = p * q := wrap64_id (by omega) (by omega)
  obtain ⟨d, hd, d0, d1⟩ := capped_ok (p * q) hb.1
  have hw2 : wrap64 (n + d) = n + d := wrap64_id (by omega) (by omega)
  obtain ⟨m, hm, m0, m1⟩ := capped_ok (n + d) (by omega)
  obtain ⟨k2, e, he, e0, e1⟩ := ihj (i + 1) (by omega) m d m0 m1 d0 d1
  refine ⟨k2 + 1, e, ?_, e0, e1⟩
  simp only [gen_count.l1, if_pos hlt, hw3, hw, hd, Option.bind_some, hw2, hm]
  exact he
theorem count_ok : ∀ (n : Nat) (x : S63), OKg n x → ∃ k c, gen_count.f k x.f0 x.f1 x.f2 x.f3 = some c ∧ 0 ≤ c ∧ c ≤ 1048577 := by
 intro n
 induction n with
 | zero => intro x h; exact h.elim
 | succ n ihn =>
  intro x ⟨hl, hone, hsub⟩
  have ih := fun y hy => ihn y (hsub y hy)
  rcases hone with ⟨h1, h3, hA⟩ | ⟨h1, h3, hA⟩ | h1 | ⟨h1, hA, hA5, h3⟩ | ⟨h1, h3⟩
  ·exact ⟨1, 1, by simp [gen_count.f, h1], by omega, by omega⟩
  ·have hw : wrap64 (x.f2 - x.f1) = x.f2 - x.f1 := wrap64_id (by omega) (by omega)
   have hw2 : wrap64 (x.f2 - x.f1 + 1) = x.f2 - x.f1 + 1 := wrap64_id (by omega) (by omega)
   exact ⟨1, x.f2 - x.f1 + 1, by simp [gen_count.f, h1, hw, hw2], by omega, by omega⟩
  ·obtain ⟨k, c, hc, g⟩ := count_loop0 x.f3 hl ih x.f3.length 0 (by omega) 1 (by omega) (by omega)
   refine ⟨k + 1, c, ?_, g⟩
   simp only [gen_count.f, h1, show ¬ (3 : Int) = 2 by decide, if_false, if_true]
   exact hc
  ·have h3' : 0 < x.f3.length := by omega
   have hlt : (0 : Int) < (x.f3.length : Int) := by omega
   have hr0 : rd_T63 x.f3 0 = x.f3[0] := by simpa using rd_T63_at (n := 0) h3'
   obtain ⟨A, hA'⟩ := Int.eq_ofNat_of_zero_le hA
   obtain ⟨k1, q, hq, q0, q1⟩ := ih _ (List.getElem_mem h3')
   obtain ⟨k2, c, hc, g⟩ := count_loop1 q q0 q1 A (by omega) A 0 (by omega) 1 1 (by omega) (by omega) (by omega) (by omega)
   refine ⟨max k1 k2 + 1, c, ?_, g⟩
   simp only [gen_count.f, h1, show ¬ (4 : Int) = 2 by decide, show ¬ (4 : Int) = 3 by decide, if_false, if_true, if_pos hlt, hr0]
   rw [gen_count.fle (Nat.le_max_left k1 k2) hq]
   simp only [Option.bind_some, hA']
   exact gen_count.le1 (Nat.le_max_right k1 k2) hc
  ·obtain ⟨k, c, hc, g⟩ := count_loop2 x.f3 hl ih x.f3.length 0 (by omega) 0 (by omega) (by omega)
   refine ⟨k + 1, c, ?_, g⟩
   simp only [gen_count.f, h1, show ¬ (5 : Int) = 2 by decide, show ¬ (5 : Int) = 3 by decide, show ¬ (5 : Int) = 4 by decide, if_false, if_true]
   exact hc
theorem gen_Count.fle {k k' : Nat} (hk : k ≤ k') {a b c : Int} {l : List S63} {r : Int × Option Int} (h : gen_Count.f k a b c l = some r) : gen_Count.f k' a b c l = some r :=
 LeO.le (f := fun k => gen_Count.f k a b c l) (fun k => gen_Count.mono _ _ _ _ k) hk h
/-- Count answers, whatever the generator; where it tells no error, the generator is right and the count small. -/
theorem Count_halts (x : S63) : ∃ k c e, gen_Count.f k x.f0 x.f1 x.f2 x.f3 = some (c, e) ∧ 0 ≤ c ∧ c ≤ 1048576 ∧ (e = none → OKg 6 x) := by
 obtain ⟨k, e, hk, he⟩ := check_halts x
 cases e with
 | some c => exact ⟨k, 0, some c, by simp [gen_Count.f, hk], by omega, by omega, fun h => by simp at h⟩
 | none =>
  obtain ⟨k2, c, hc, c0, c1⟩ := count_ok 6 x (he rfl)
  by_cases hb : c > 1048576
  ·refine ⟨max k k2, 0, some 4, ?_, by omega, by omega, fun h => by simp at h⟩
   simp only [gen_Count.f, gen_Check.fle (Nat.le_max_left k k2) hk, gen_count.fle (Nat.le_max_right k k2) hc, Option.bind_some, Option.isNone_none, if_true, if_pos hb]
  ·refine ⟨max k k2, c, none, ?_, c0, by omega, fun _ => he rfl⟩
   simp only [gen_Count.f, gen_Check.fle (Nat.le_max_left k k2) hk, gen_count.fle (Nat.le_max_right k k2) hc, Option.bind_some, Option.isNone_none, if_true, if_neg hb]
end Go.Proofs.YtgdomnlkafcddaaDoor.Q
namespace Go.Proofs.YtgdomnlkafcddaaDoor.Q
open Go.RowKit Go.Proofs.YtgdomnlkafcddaaDoorW.PrintWords Go.Proofs.YtgdomnlkafcddaaDoorW.PrintLast Go.Proofs.YtgdomnlkafcddaaDoorW.PrintMore
set_option linter.unusedVariables false
set_option linter.unusedSimpArgs false
theorem rank_count_halts (x : S63) : ∃ k r, rank_count.f k x.f0 x.f1 x.f2 x.f3 = some r := by
 obtain ⟨k, c, e, h, _⟩ := Count_halts x
 cases e with
 | none => exact ⟨k, c, by simp [rank_count.f, h]⟩
 | some e => exact ⟨k, 1048577, by simp [rank_count.f, h]⟩
theorem rank_count.fle {k k' : Nat} (hk : k ≤ k') {a b c : Int} {l : List S63} {r : Int} (h : rank_count.f k a b c l = some r) : rank_count.f k' a b c l = some r :=
 LeO.le (f := fun k => rank_count.f k a b c l) (fun k => rank_count.mono _ _ _ _ k) hk h
theorem rank_product.lle {k k' : Nat} (hk : k ≤ k') {a : Int} {l : List S63} {c d r : Int} (h : rank_product.l0 k a l c d = some r) : rank_product.l0 k' a l c d = some r :=
 LeO.le (f := fun k => rank_product.l0 k a l c d) (fun k => rank_product.mono_l k _ _ _ _) hk h
theorem product_loop (xs : List S63) (hl : xs.length ≤ 4611686018427387904) : ∀ (j i : Nat) (acc : Int), i + j = xs.length → ∃ k e, rank_product.l0 k acc xs (xs.length : Int) (i : Int) = some e := by
 intro j
 induction j with
 | zero =>
  intro i acc hi
  have hlt : ¬ (i : Int) < (xs.length : Int) := by omega
  exact ⟨1, acc, by simp [rank_product.l0, hlt]⟩
 | succ j ihj =>
  intro i acc hi
  have hlt : (i : Int) < (xs.length : Int) := by omega
  have hi0 : (0 : Int) ≤ (i : Int) := by omega
  have hi' : i < xs.length := by omega
  have hw3 : wrap64 ((i : Int) + 1) = ((i + 1 : Nat) : Int) := by rw [wrap64_id (by omega) (by omega)]; omega
  obtain ⟨k1, c, hc⟩ := rank_count_halts xs[i]
  obtain ⟨k2, e, he⟩ := ihj (i + 1) (wrap64 (acc * c)) (by omega)
  refine ⟨max k1 k2 + 1, e, ?_⟩
  simp only [rank_product.l0, if_pos hlt, if_pos hi0, rd_T63_at hi', hw3]
  rw [rank_count.fle (Nat.le_max_left k1 k2) hc]
  simp only [Option.bind_some]
  exact rank_product.lle (Nat.le_max_right k1 k2) he
/-- The product of a list's counts. -/
noncomputable def prod (l : List S63) : Int := (Olim (fun k => rank_product.f k l)).getD 0
theorem prod_of (l : List S63) (hl : l.length ≤ 4611686018427387904) : ∃ k, rank_product.f k l = some (prod l) := by
 obtain ⟨k, e, he⟩ := product_loop l hl l.length 0 1 (by omega)
 have h2 := Olim_of (f := fun k => rank_product.f k l) (fun k => rank_product.mono l k) (k := k) (r := e) he
 exact ⟨k, by rw [prod, h2]; exact he⟩
/-- The branch that the number falls into. -/
noncomputable def pick (each : Int) : List (List S63) → Nat → Int → Int × Option (Nat × List S63)
 | [], _, i => (i, none)
 | b :: bs, j, i => if i ≥ wrap64 (each * prod b) then pick each bs (j + 1) (wrap64 (i - wrap64 (each * prod b))) else (i, some (j, b))
noncomputable def nthGo : Nat → List S63 → Int → List Int → List Int
 | 0, _, _, out => out
 | f + 1, [], _, out => out
 | f + 1, x :: rest, i, out => if x.f0 = 3 then nthGo f (x.f3 ++ rest) i out else
  match pick (prod rest) (rank_branches2 x) 0 i with
  | (i', none) => nthGo f rest i' out
  | (i', some (j, b)) => nthGo f (b ++ rest) i' (out ++ [(j : Int)])
/-- What is still to be chosen from: right generators, and so many steps are enough. -/
def Todo : List S63 → Nat → Prop
 | [], _ => True
 | x :: r, k => ∃ n, OKg n x ∧ n ≤ 6 ∧ 31 ^ n ≤ k ∧ Todo r (k - 31 ^ n)
theorem Todo_mono : ∀ {l : List S63} {k k' : Nat}, Todo l k → k ≤ k' → Todo l k'
 | [], _, _, _, _ => trivial
 | x :: r, k, k', ⟨n, h1, h2, h3, h4⟩, hk => ⟨n, h1, h2, Nat.le_trans h3 hk, Todo_mono h4 (by omega)⟩
theorem Todo_append : ∀ {a b : List S63} {k m : Nat}, Todo a k → Todo b m → Todo (a ++ b) (k + m)
 | [], b, k, m, _, h => Todo_mono h (by omega)
 | x :: r, b, k, m, ⟨n, h1, h2, h3, h4⟩, h => ⟨n, h1, h2, by omega, by
   have h5 := Todo_append h4 h
   exact Todo_mono h5 (by omega)⟩
theorem Todo_same (n : Nat) (hn : n ≤ 6) : ∀ {l : List S63}, (∀ y ∈ l, OKg n y) → Todo l (l.length * 31 ^ n)
 | [], _ => trivial
 | x :: r, h => ⟨n, h x (by simp), hn, by rw [List.length_cons, Nat.succ_mul]; omega, by
   have h2 := Todo_same n hn (l := r) (fun y hy => h y (by simp [hy]))
   refine Todo_mono h2 ?_
   rw [List.length_cons, Nat.succ_mul]
   omega⟩
theorem Todo_length : ∀ {l : List S63} {k : Nat}, Todo l k → l.length ≤ k
 | [], _, _ => by simp
 | x :: r, k, ⟨n, h1, h2, h3, h4⟩ => by
  have h5 := Todo_length h4
  have h6 : 0 < 31 ^ n := Nat.pow_pos (by omega)
  rw [List.length_cons]
  omega
theorem OKg_one {n : Nat} {x : S63} (h : OKg n x) : One x ∧ x.f3.length ≤ 30 := by
 cases n with
 | zero => exact h.elim
 | succ n => exact ⟨h.2.1, h.1⟩
/-- Behind a generator there come few, all of them lesser. -/
theorem Todo_step {x : S63} {rest b : List S63} {k : Nat} (h : Todo (x :: rest) (k + 1)) (hb : b.length ≤ 30) (hm : ∀ y ∈ b, y ∈ x.f3) : Todo (b ++ rest) k := by
 obtain ⟨n, h1, h2, h3, h4⟩ := h
 cases n with
 | zero => exact h1.elim
 | succ n =>
  have h5 := Todo_same n (by omega) (l := b) (fun y hy => h1.2.2 y (hm y hy))
  have h6 := Todo_append h5 h4
  refine Todo_mono h6 ?_
  have h7 : b.length * 31 ^ n ≤ 30 * 31 ^ n := Nat.mul_le_mul_right _ hb
  have h8 : 0 < 31 ^ n := Nat.pow_pos (by omega)
  rw [Nat.pow_succ] at h3 ⊢
  omega
theorem Todo_head {x : S63} {rest : List S63} {k : Nat} (h : Todo (x :: rest) k) : One x ∧ x.f3.length ≤ 30 ∧ 0 < k := by
 obtain ⟨n, h1, h2, h3, h4⟩ := h
 have h8 : 0 < 31 ^ n := Nat.pow_pos (by omega)
 exact ⟨(OKg_one h1).1, (OKg_one h1).2, by omega⟩
theorem branches_mem {x : S63} (h1 : One x) {b : List S63} (hb : b ∈ rank_branches2 x) : b.length ≤ 30 ∧ ∀ y ∈ b, y ∈ x.f3 := by
 unfold rank_branches2 at hb
 split at hb
 ·obtain ⟨_, rfl⟩ := List.mem_replicate.1 hb
  simp
 ·split at hb
  ·rename_i h4
   have h5 : 0 ≤ x.f1 ∧ x.f1 ≤ 5 ∧ x.f3.length = 1 := by
    rcases h1 with h | h | h | h | h
    ·omega
    ·omega
    ·omega
    ·exact h.2
    ·omega
   obtain ⟨k, hk, rfl⟩ := List.mem_map.1 hb
   rw [List.mem_range] at hk
   refine ⟨by rw [List.length_replicate]; omega, fun y hy => ?_⟩
   obtain ⟨_, rfl⟩ := List.mem_replicate.1 hy
   have h6 : 0 < x.f3.length := by omega
   rw [List.getD_eq_getElem?_getD, List.getElem?_eq_getElem h6]
   exact List.getElem_mem h6
  ·split at hb
   ·obtain ⟨y, hy, rfl⟩ := List.mem_map.1 hb
    exact ⟨by simp, fun z hz => by rw [List.mem_singleton] at hz; subst hz; exact hy⟩
   ·cases hb
theorem branches_length {x : S63} (h1 : One x) (h30 : x.f3.length ≤ 30) : (rank_branches2 x).length ≤ 1001 := by
 unfold rank_branches2
 split
 ·rename_i h2
  rw [List.length_replicate]
  rcases h1 with h | h | h | h | h <;> omega
 ·split
  ·rename_i h4
   rw [List.length_map, List.length_range]
   rcases h1 with h | h | h | h | h <;> omega
  ·split
   ·rw [List.length_map]; omega
   ·simp
end Go.Proofs.YtgdomnlkafcddaaDoor.Q
namespace Go.Proofs.YtgdomnlkafcddaaDoor.Q
open Go.RowKit Go.Proofs.YtgdomnlkafcddaaDoorW.PrintWords Go.Proofs.YtgdomnlkafcddaaDoorW.PrintLast Go.Proofs.YtgdomnlkafcddaaDoorW.PrintMore
set_option linter.unusedVariables false
set_option linter.unusedSimpArgs false
set_option linter.unusedSectionVars false
section
variable (x : S63) (A3 : Option Addr) (c3 : Nat) (w0 w : World) (hb0 : Below w0.heap.size w0 w) (hC : Kd.C k63 w0 A3 x.f3.length x.f3) (hl : x.f3.length ≤ c3)
include hb0 hC hl
set_option maxHeartbeats 8000000 in
set_option maxRecDepth 100000 in
theorem rank_branches2.none_ (h2 : x.f0 ≠ 2) (h4 : x.f0 ≠ 4) (h5 : x.f0 ≠ 5) :
  Calls Tryd.prog 81 #[.agg #[.int .i64 x.f0, .int .i64 x.f1, .int .i64 x.f2, .slice A3 x.f3.length c3]] w fun e w' => ∃ v, e = .returned v ∧ Kd.R (Kd.slice 63 (gfix w0)) 61 w' w.heap.size (fun _ => True) v [] ∧ Below w.heap.size w w' := by
 have hu63 := Tryd.underlying63
 have b2 : (x.f0 == 2) = false := beq_false_of_ne h2
 have b4 : (x.f0 == 4) = false := beq_false_of_ne h4
 have b5 : (x.f0 == 5) = false := beq_false_of_ne h5
 go_enter Tryd.func81, Tryd.ntmps81
 go_wp2_with (first
  | ((with_reducible refine gate_dst (N := 1) rfl ?_); refine box_event ?hg (N := 1) ?hd (cs := #[.int .i64 x.f0, .int .i64 x.f1, .int .i64 x.f2, .slice A3 x.f3.length c3]) (t := 63) ?hr ?_; (case hd => rfl); (case hg => rfl); (case hr => first | (go_simp; done) | (go_simp; rfl)); intro gb hg w1 hbox hb; have HB := Aside0.mk hb; have ha0 : w1.cell? ⟨gb, 0, none⟩ = some (.int .i64 x.f0) := (blk_cell hbox 0).trans rfl; clear hbox hb hg))
 go_ret
 exact ⟨_, rfl, Kd.R_nil _ _ _ _ _, HB.out⟩
set_option maxHeartbeats 8000000 in
set_option maxRecDepth 100000 in
theorem rank_branches2.int_ (h2 : x.f0 = 2) (ha : -1073741824 ≤ x.f1) (hb : x.f1 ≤ 1073741824) (hc : -1073741824 ≤ x.f2) (hd : x.f2 ≤ 1073741824) (he : x.f1 ≤ x.f2) (hf : x.f2 - x.f1 ≤ 1000) :
  Calls Tryd.prog 81 #[.agg #[.int .i64 x.f0, .int .i64 x.f1, .int .i64 x.f2, .slice A3 x.f3.length c3]] w fun e w' => ∃ v, e = .returned v ∧ Kd.R (Kd.slice 63 (gfix w0)) 61 w' w.heap.size (fun _ => True) v (List.replicate (x.f2 - x.f1 + 1).toNat []) ∧ Below w.heap.size w w' := by
 have hu63 := Tryd.underlying63
 have b2 : (x.f0 == 2) = true := by simp [h2]
 have HF := Aside0.mk hf
 have HE := Aside0.mk he
 clear h2
 go_enter Tryd.func81, Tryd.ntmps81
 go_wp2_with (first
  | ((with_reducible refine gate_dst (N := 1) rfl ?_); refine box_event ?hg (N := 1) ?hd (cs := #[.int .i64 x.f0, .int .i64 x.f1, .int .i64 x.f2, .slice A3 x.f3.length c3]) (t := 63) ?hr ?_; (case hd => rfl); (case hg => rfl); (case hr => first | (go_simp; done) | (go_simp; rfl)); intro gb hg w1 hbox hb; have HB := Aside0.mk hb; have ha0 : w1.cell? ⟨gb, 0, none⟩ = some (.int .i64 x.f0) := (blk_cell hbox 0).trans rfl; have ha1 : w1.cell? ⟨gb, 1, none⟩ = some (.int .i64 x.f1) := (blk_cell hbox 1).trans rfl; have ha2 : w1.cell? ⟨gb, 2, none⟩ = some (.int .i64 x.f2) := (blk_cell hbox 2).trans rfl; clear hbox hb hg)
  | ((with_reducible refine gate_dst (N := 17) rfl ?_); refine Kd.R_make (Kd.slice 63 (gfix w0)) _ 61 rfl (N := 17) rfl 121 _ _ rfl (x.f2 - x.f1 + 1) rfl rfl Tryd.underlying121 (.slice none 0 0) 24 info61 rfl (by show 0 < 1; omega) (by omega) ([] : List S63) (ok := fun _ => True) (okp := fun _ => True) ⟨_, rfl, Kd.R_nil _ _ _ _ _⟩ (fun _ _ => trivial) trivial (by have := HE.out; omega) (by have := HF.out; omega) (Below.refl _ _) (Nat.le_refl _) ?_; intro v2 w2 ho hb2 hg2 hat2; have HO := Aside0.mk ho; have HB2 := Aside0.mk hb2; clear ho hb2 hg2 hat2))
 go_ret
 exact ⟨_, rfl, Kd.R_lower HO.out HB.out.size, below_step HB.out HB2.out⟩
set_option maxHeartbeats 8000000 in
set_option maxRecDepth 100000 in
theorem rank_branches2.many_ (h4 : x.f0 = 4) (ha : 0 ≤ x.f1) (hb : x.f1 ≤ 5) (h1 : x.f3.length = 1) :
  Calls Tryd.prog 81 #[.agg #[.int .i64 x.f0, .int .i64 x.f1, .int .i64 x.f2, .slice A3 x.f3.length c3]] w fun e w' => ∃ v, e = .returned v ∧ Kd.R (Kd.slice 63 (gfix w0)) 61 w' w.heap.size (fun _ => True) v ((List.range (x.f1.toNat + 1)).map (fun k => List.replicate k (x.f3.getD 0 z63))) ∧ Below w.heap.size w w' := by
 have hu63 := Tryd.underlying63
 have b2 : (x.f0 == 2) = false := by simp [h4]
 have b4 : (x.f0 == 4) = true := by simp [h4]
 have HB0 := Aside0.mk hb0
 have HC := Aside0.mk hC
 obtain ⟨y, hy⟩ : ∃ y : S63, y = x.f3.getD 0 z63 := ⟨_, rfl⟩
 have hx0 : ∀ h : 0 < x.f3.length, x.f3[0]'h = y := by intro h; rw [hy]; simp [h]
 obtain ⟨n, hn⟩ : ∃ n : Nat, x.f1 = (n : Int) := ⟨x.f1.toNat, by omega⟩
 have hnn : n ≤ 5 := by omega
 have e1 : x.f1.toNat + 1 = n + 1 := by omega
 rw [← hy, e1]
 have HX0 := Aside0.mk hx0
 have HNN := Aside0.mk hnn
 have HLN := Aside0.mk h1
 obtain ⟨f1, hf1⟩ : ∃ f1 : Int, f1 = x.f1 := ⟨_, rfl⟩
 rw [← hf1]
 have hf1n : f1 = (n : Int) := hf1.trans hn
 subst hf1n
 clear hn hy hx0 e1 ha hb hf1 hb0 hC h4 h1
 go_enter Tryd.func81, Tryd.ntmps81
 go_wp2_with (first
  | ((with_reducible refine gate_dst (N := 1) rfl ?_); refine box_event ?hg (N := 1) ?hd (cs := #[.int .i64 x.f0, .int .i64 (n : Int), .int .i64 x.f2, .slice A3 x.f3.length c3]) (t := 63) ?hr ?_; (case hd => rfl); (case hg => rfl); (case hr => first | (go_simp; done) | (go_simp; rfl)); intro gb hg w1 hbox hb; have HB := Aside0.mk hb; have BK := Aside0.mk hbox; have ha0 : w1.cell? ⟨gb, 0, none⟩ = some (.int .i64 x.f0) := (blk_cell hbox 0).trans rfl; have ha1 : w1.cell? ⟨gb, 1, none⟩ = some (.int .i64 (n : Int)) := (blk_cell hbox 1).trans rfl; clear hbox hb hg))
 go_loopg [3, 23] (n + 1) (fun kq v3 v23 w' => ∃ (i : Nat) (acc : List (List S63)), v23 = .int .i64 (i : Int) ∧ Aside0 (i + kq = n + 1) ∧ Aside0 (acc = (List.range i).map (fun k => List.replicate k y)) ∧ Aside0 (Kd.R (Kd.slice 63 (gfix w0)) 61 w' w1.heap.size (fun _ => True) v3 acc) ∧ Aside0 (Below w1.heap.size w1 w'))
 case atStart => exact ⟨0, [], rfl, ⟨Nat.zero_add _⟩, ⟨rfl⟩, ⟨Kd.R_nil _ _ _ _ _⟩, ⟨Below.refl _ _⟩⟩
 case round =>
  clear ha0 ha1
  obtain ⟨i, acc, rfl, HI, HA, HO, HB1⟩ := hrel
  cases gk with
  | zero =>
   have h1 : decide ((i : Int) < (n : Int) + 1) = false := decide_eq_false (by have := HI.out; omega)
   have h3 : ((i : Int) < (n : Int) + 1) = False := eq_false (by have := HI.out; omega)
   have h2 : decide (i < n + 1) = false := decide_eq_false (by have := HI.out; omega)
   obtain ⟨Ao, co, eo⟩ := Kd.R_slice HO.out
   subst eo
   have hin := Aside0.mk (show i = n + 1 by have := HI.out; omega)
   go_wp2
   go_ret
   exact ⟨_, rfl, by rw [← hin.out, ← HA.out]; exact Kd.R_lower HO.out HB.out.size, below_step HB.out HB1.out⟩
  | succ kn =>
   have hi' : i ≤ n := by have := HI.out; omega
   have h1 : decide ((i : Int) < (n : Int) + 1) = true := decide_eq_true (by omega)
   have h3 : ((i : Int) < (n : Int) + 1) = True := eq_true (by omega)
   have h2 : decide (i < n + 1) = true := decide_eq_true (by omega)
   have hbk := blk_below BK.out HB1.out
   have ha3 : wr.cell? ⟨gb, 3, none⟩ = some (.slice A3 x.f3.length c3) := (blk_cell hbk 3).trans rfl
   have hbw := below_step (below_step HB0.out HB.out) HB1.out
   obtain ⟨ad, A4, c4, e4, hc0, hc1, hc2, hc3, hl4, hC4⟩ := at_gfix (gfix_C hbw HC.out) 0 (by rw [HLN.out]; omega)
   cases e4
   rw [HX0.out _] at hc0 hc1 hc2 hc3 hl4 hC4
   have HL4 := Aside0.mk hl4
   have HC4 := Aside0.mk hC4
   have HBW := Aside0.mk hbw
   have HII := Aside0.mk hi'
   have hlen : (0 < x.f3.length) = True := eq_true (by rw [HLN.out]; omega)
   have hlen2 : decide ((0 : Int) < (x.f3.length : Int)) = true := decide_eq_true (by rw [HLN.out]; omega)
   have hal := Aside0.mk (show acc.length ≤ 5 by rw [HA.out]; simp; have := HNN.out; omega)
   obtain ⟨wo, rfl⟩ : ∃ wo : World, wo = wr := ⟨_, rfl⟩
   clear hbk hbw hl4 hC4
   simp only [Nat.zero_mul, show ad.add 0 = ad by simp [Addr.add]] at hc0 hc1 hc2 hc3
   go_wp2_with (first
    | ((with_reducible refine gate_callee (f := 121) rfl ?_); refine goesL_ (some 32) rfl rfl Tryd.func121 (by kernel_rfl) rfl #[.agg #[.int .i64 y.f0, .int .i64 y.f1, .int .i64 y.f2, .slice A4 y.f3.length c4], .int .i64 (i : Int)] rfl (by (try simp only [List.map_toArray, List.map_cons, List.map_nil]); first | done | rfl) ?_; (with_reducible refine (rank_times2.calls y A4 c4 i w0 _ HBW.out HC4.out HL4.out (by have := HII.out; have := HNN.out; omega)).mono ?_); rintro e w5 ⟨v5, rfl, ho, hb⟩; refine ⟨_, rfl, ?_⟩; have HR5 := Aside0.mk ho; have HB5 := Aside0.mk hb; have HO5 := Aside0.mk (Kd.R_below HO.out hb); obtain ⟨A5, c5, e5⟩ := Kd.R_slice ho; rw [List.length_replicate] at e5; subst e5; clear ho hb)
    | ((with_reducible refine gate_builtin (b := .append) (xs := #[.tmp 26, .tmp 33]) rfl ?_); at_builtin; refine Kd.R_append (Kd.slice 63 (gfix w0)) (w0 := w1) w1.heap.size rfl (.tmp 26) (.tmp 33) 121 61 (.slice none 0 0) 24 rfl Tryd.underlying121 info61 rfl (by show 0 < 1; omega) (by omega) u3 acc (List.replicate i y) [.slice A5 i c5] (fun _ => True) (fun k => some k = (Value.slice A5 i c5).ownBlock) rfl rfl ?aP ?aN ?aF ?aO ?aB ?aS ?aL ?_; (case aP => exact Kd.M_row (Kd.R_mono (Kd.R_tight rfl (Kd.R_lower HR5.out HB1.out.size)) (fun _ h_ => h_))); (case aN => exact (fun k_ hk_ => ⟨trivial, fun e_ => absurd (Kd.R_base HR5.out k_ hk_.symm) (Nat.not_le.2 (Kd.R_lt HO.out k_ e_.symm))⟩)); (case aF => exact (fun _ _ => trivial)); (case aO => exact HO5.out); (case aB => exact below_step HB1.out HB5.out); (case aS => exact Nat.le_trans HB1.out.size HB5.out.size); (case aL => have := hal.out; omega); intro v9 w9 ho hb hg hat; have HB9 := Aside0.mk hb; have HO9 := Aside0.mk ho; clear ho hb hg hat))
   go_roundg kn
   case measure => omega
   case rel => exact ⟨i + 1, acc ++ [List.replicate i y], by first | rfl | simp, ⟨by have := HI.out; omega⟩, ⟨by rw [HA.out, List.range_succ, List.map_append]; rfl⟩, HO9, HB9⟩
set_option maxHeartbeats 8000000 in
set_option maxRecDepth 100000 in
theorem rank_branches2.any_ (h5 : x.f0 = 5) (h30 : x.f3.length ≤ 30) :
  Calls Tryd.prog 81 #[.agg #[.int .i64 x.f0, .int .i64 x.f1, .int .i64 x.f2, .slice A3 x.f3.length c3]] w fun e w' => ∃ v, e = .returned v ∧ Kd.R (Kd.slice 63 (gfix w0)) 61 w' w.heap.size (fun _ => True) v (x.f3.map (fun y => [y])) ∧ Below w.heap.size w w' := by
 have hu63 := Tryd.underlying63
 have b2 : (x.f0 == 2) = false := by simp [h5]
 have b4 : (x.f0 == 4) = false := by simp [h5]
 have b5 : (x.f0 == 5) = true := by simp [h5]
 have HB0 := Aside0.mk hb0
 have HC := Aside0.mk hC
 clear hb0 hC h5
 go_enter Tryd.func81, Tryd.ntmps81
 go_wp2_with (first
  | ((with_reducible refine gate_dst (N := 1) rfl ?_); refine box_event ?hg (N := 1) ?hd (cs := #[.int .i64 x.f0, .int .i64 x.f1, .int .i64 x.f2, .slice A3 x.f3.length c3]) (t := 63) ?hr ?_; (case hd => rfl); (case hg => rfl); (case hr => first | (go_simp; done) | (go_simp; rfl)); intro gb hg w1 hbox hb; have HB := Aside0.mk hb; have BK := Aside0.mk hbox; have ha0 : w1.cell? ⟨gb, 0, none⟩ = some (.int .i64 x.f0) := (blk_cell hbox 0).trans rfl; have ha3 : w1.cell? ⟨gb, 3, none⟩ = some (.slice A3 x.f3.length c3) := (blk_cell hbox 3).trans rfl; clear hbox hb hg))
 go_loopg [3, 41] x.f3.length (fun kq v3 v41 w' => ∃ (i : Nat) (acc : List (List S63)), v41 = .int .i64 (i : Int) ∧ Aside0 (i + kq = x.f3.length) ∧ Aside0 (acc = (x.f3.take i).map (fun y => [y])) ∧ Aside0 (Kd.R (Kd.slice 63 (gfix w0)) 61 w' w1.heap.size (fun _ => True) v3 acc) ∧ Aside0 (Below w1.heap.size w1 w'))
 case atStart => exact ⟨0, [], rfl, ⟨Nat.zero_add _⟩, ⟨by simp⟩, ⟨Kd.R_nil _ _ _ _ _⟩, ⟨Below.refl _ _⟩⟩
 case round =>
  clear ha0 ha3
  obtain ⟨i, acc, rfl, HI, HA, HO, HB1⟩ := hrel
  cases gk with
  | zero =>
   have h1 : decide ((i : Int) < (x.f3.length : Int)) = false := decide_eq_false (by have := HI.out; omega)
   have h2 : decide (i < x.f3.length) = false := decide_eq_false (by have := HI.out; omega)
   obtain ⟨Ao, co, eo⟩ := Kd.R_slice HO.out
   subst eo
   have ha := Aside0.mk (show acc = x.f3.map (fun y => [y]) by rw [HA.out, List.take_of_length_le (by have := HI.out; omega)])
   go_wp2
   go_ret
   exact ⟨_, rfl, by rw [← ha.out]; exact Kd.R_lower HO.out HB.out.size, below_step HB.out HB1.out⟩
  | succ kn =>
   have hi' : i < x.f3.length := by have := HI.out; omega
   have h1 : decide ((i : Int) < (x.f3.length : Int)) = true := decide_eq_true (by omega)
   have h2 : decide (i < x.f3.length) = true := decide_eq_true hi'
   have h3 : (i < x.f3.length) = True := eq_true hi'
   obtain ⟨y, hy⟩ : ∃ y : S63, y = x.f3[i] := ⟨_, rfl⟩
   have hbw := below_step (below_step HB0.out HB.out) HB1.out
   obtain ⟨ad, A4, c4, e4, hc0, hc1, hc2, hc3, hl4, hC4⟩ := at_gfix (gfix_C hbw HC.out) i hi'
   cases e4
   rw [← hy] at hc0 hc1 hc2 hc3 hl4 hC4
   have HK := Aside0.mk (show k63.K w0 y [.int .i64 y.f0, .int .i64 y.f1, .int .i64 y.f2, .slice A4 y.f3.length c4] from k63_mk w0 y hl4 hC4)
   have hal := Aside0.mk (show acc.length ≤ 30 by rw [HA.out, List.length_map, List.length_take]; omega)
   have HY := Aside0.mk (show x.f3.take (i + 1) = x.f3.take i ++ [y] by rw [hy]; exact List.take_succ_eq_append_getElem hi')
   obtain ⟨wo, rfl⟩ : ∃ wo : World, wo = wr := ⟨_, rfl⟩
   clear hbw hl4 hC4 hy
   go_wp2_with (first
    | ((with_reducible refine gate_dst (N := 6) rfl ?_); refine box_event ?hg (N := 6) ?hd (cs := #[.int .i64 0, .int .i64 0, .int .i64 0, .slice none 0 0]) (t := 63) ?hr ?_; (case hd => rfl); (case hg => rfl); (case hr => first | (go_simp; done) | (go_simp; rfl)); intro g6 hg6 w6 hbox hb; have B6 := Aside0.mk hb; have G6 := Aside0.mk (Nat.le_of_eq hg6.symm : wo.heap.size ≤ g6); have hz0 : w6.cell? ⟨g6, 0, none⟩ = some (.int .i64 0) := (blk_cell hbox 0).trans rfl; have hz1 : w6.cell? ⟨g6, 1, none⟩ = some (.int .i64 0) := (blk_cell hbox 1).trans rfl; have hz2 : w6.cell? ⟨g6, 2, none⟩ = some (.int .i64 0) := (blk_cell hbox 2).trans rfl; have hz3 : w6.cell? ⟨g6, 3, none⟩ = some (.slice none 0 0) := (blk_cell hbox 3).trans rfl; have hf0 := blk_frozen hbox 0; have hf1 := blk_frozen hbox 1; have hf2 := blk_frozen hbox 2; have hf3 := blk_frozen hbox 3; clear hbox hb hg6)
    | ((with_reducible refine gate_dst (N := 47) rfl ?_); refine Kd.R_lit (gfix w0) (w0 := wo) wo.heap.size 63 ?hg (N := 47) ?hd (xs := [y]) (inner := [.int .i64 y.f0, .int .i64 y.f1, .int .i64 y.f2, .slice A4 y.f3.length c4]) (ok := fun _ => True) (okp := fun _ => True) ?hr ?hp (fun _ hk => hk) trivial ?hb ?hs (by simp) ?_; (case hd => rfl); (case hg => rfl); (case hr => first | (go_simp; done) | (go_simp; rfl)); (case hp => exact Reps.c4 HK.out (Reps.none _ _)); (case hb => exact below_set (below_set (below_set (below_set B6.out G6.out) G6.out) G6.out) G6.out); (case hs => exact (below_set (below_set (below_set (below_set B6.out G6.out) G6.out) G6.out) G6.out).size); intro v7 w7 ho hb hg_ hnew_; have HR7 := Aside0.mk ho; have HB7 := Aside0.mk hb; have HO7 := Aside0.mk (Kd.R_below HO.out hb); obtain ⟨A7, c7, e7⟩ := Kd.R_slice ho; rw [List.length_singleton] at e7; subst e7; clear ho hb hg_ hnew_)
    | ((with_reducible refine gate_builtin (b := .append) (xs := #[.tmp 45, .tmp 48]) rfl ?_); at_builtin; refine Kd.R_append (Kd.slice 63 (gfix w0)) (w0 := w1) w1.heap.size rfl (.tmp 45) (.tmp 48) 121 61 (.slice none 0 0) 24 rfl Tryd.underlying121 info61 rfl (by show 0 < 1; omega) (by omega) u3 acc [y] [.slice A7 1 c7] (fun _ => True) (fun k => some k = (Value.slice A7 1 c7).ownBlock) rfl rfl ?aP ?aN ?aF ?aO ?aB ?aS ?aL ?_; (case aP => exact Kd.M_row (Kd.R_mono (Kd.R_tight rfl (Kd.R_lower HR7.out HB1.out.size)) (fun _ h_ => h_))); (case aN => exact (fun k_ hk_ => ⟨trivial, fun e_ => absurd (Kd.R_base HR7.out k_ hk_.symm) (Nat.not_le.2 (Kd.R_lt HO.out k_ e_.symm))⟩)); (case aF => exact (fun _ _ => trivial)); (case aO => exact HO7.out); (case aB => exact below_step HB1.out HB7.out); (case aS => exact Nat.le_trans HB1.out.size HB7.out.size); (case aL => have := hal.out; omega); intro v9 w9 ho hb hg hat; have HB9 := Aside0.mk hb; have HO9 := Aside0.mk ho; clear ho hb hg hat))
   go_roundg kn
   case measure => omega
   case rel => exact ⟨i + 1, acc ++ [[y]], by first | rfl | simp, ⟨by have := HI.out; omega⟩, ⟨by rw [HY.out, List.map_append, ← HA.out]; rfl⟩, HO9, HB9⟩
theorem rank_branches2.calls (hone : One x) (h30 : x.f3.length ≤ 30) :
  Calls Tryd.prog 81 #[.agg #[.int .i64 x.f0, .int .i64 x.f1, .int .i64 x.f2, .slice A3 x.f3.length c3]] w fun e w' => ∃ v, e = .returned v ∧ Kd.R (Kd.slice 63 (gfix w0)) 61 w' w.heap.size (fun _ => True) v (rank_branches2 x) ∧ Below w.heap.size w w' := by
 unfold rank_branches2
 rcases hone with ⟨h1, h3, hA⟩ | ⟨h1, h3, hA⟩ | h1 | ⟨h1, hA, hA5, h3⟩ | ⟨h1, h3⟩
 ·rw [if_neg (by omega), if_neg (by omega), if_neg (by omega)]
  exact rank_branches2.none_ x A3 c3 w0 w hb0 hC hl (by omega) (by omega) (by omega)
 ·rw [if_pos h1]
  exact rank_branches2.int_ x A3 c3 w0 w hb0 hC hl h1 (by omega) (by omega) (by omega) (by omega) (by omega) (by omega)
 ·rw [if_neg (by omega), if_neg (by omega), if_neg (by omega)]
  exact rank_branches2.none_ x A3 c3 w0 w hb0 hC hl (by omega) (by omega) (by omega)
 ·rw [if_neg (by omega), if_pos h1]
  exact rank_branches2.many_ x A3 c3 w0 w hb0 hC hl h1 hA hA5 h3
 ·rw [if_neg (by omega), if_neg (by omega), if_pos h1]
  exact rank_branches2.any_ x A3 c3 w0 w hb0 hC hl h1 h30
end
end Go.Proofs.YtgdomnlkafcddaaDoor.Q
namespace Go.Proofs.YtgdomnlkafcddaaDoor.Q
open Go.RowKit Go.Proofs.YtgdomnlkafcddaaDoorW.PrintWords Go.Proofs.YtgdomnlkafcddaaDoorW.PrintLast Go.Proofs.YtgdomnlkafcddaaDoorW.PrintMore
set_option linter.unusedVariables false
set_option linter.unusedSimpArgs false
def rank_Nth.T9 : Bool × List (List Nat × List Nat) := (true, [([], []), ([0], [0]), ([1], [1]), ([], []), ([3], [3]), ([], []), ([5, 2, 0, 1, 2, 5], [2, 5]), ([4, 6, 0, 1, 2, 3, 4, 5, 6], [4])])
def rank_Nth.B9 : List Nat := [0, 1, 3, 0, 8, 0, 39, 127]
theorem rank_Nth.tab9 : rtab .any (opsOf Tryd.f41 9) = rank_Nth.T9 := by kernel_rfl
theorem rank_Nth.bits9 : waitsOk rank_Nth.T9.2 rank_Nth.B9 = true := by kernel_rfl
theorem gfix_K {w0 : World} {x : S63} {cs : List Value} (h : k63.K w0 x cs) : ∃ A3 c3, cs = [.int .i64 x.f0, .int .i64 x.f1, .int .i64 x.f2, .slice A3 x.f3.length c3] ∧ x.f3.length ≤ c3 ∧ k63.C w0 A3 x.f3.length x.f3 := k63_open h
theorem rk_below_none {w w1 : World} (h : w.grownBy w1 none) : Below w.heap.size w w1 := ⟨h.os, h.tape, h.output, h.size, fun i hi => h.block i hi (by simp)⟩
theorem set4_far {w : World} {g : Nat} {ad : Addr} (h : ad.block ≠ g) (a b c d : Value) : ((((w.setCell ⟨g, 0, none⟩ a).setCell ⟨g, 1, none⟩ b).setCell ⟨g, 2, none⟩ c).setCell ⟨g, 3, none⟩ d).cell? ad = w.cell? ad :=
 ((cell_far (p := ⟨g, 3, none⟩) h _).trans ((cell_far (p := ⟨g, 2, none⟩) h _).trans ((cell_far (p := ⟨g, 1, none⟩) h _).trans (cell_far (p := ⟨g, 0, none⟩) h _))))
theorem nthGo_both {y : S63} {rest : List S63} {k : Nat} {i : Int} {out : List Int} (h : y.f0 = 3) : nthGo (k + 1) (y :: rest) i out = nthGo k (y.f3 ++ rest) i out := by rw [nthGo, if_pos h]
theorem nthGo_none {y : S63} {rest : List S63} {k : Nat} {i i' : Int} {out : List Int} (h : y.f0 ≠ 3) (hp : pick (prod rest) (rank_branches2 y) 0 i = (i', none)) : nthGo (k + 1) (y :: rest) i out = nthGo k rest i' out := by rw [nthGo, if_neg h, hp]
theorem nthGo_some {y : S63} {rest b : List S63} {k j : Nat} {i i' : Int} {out : List Int} (h : y.f0 ≠ 3) (hp : pick (prod rest) (rank_branches2 y) 0 i = (i', some (j, b))) : nthGo (k + 1) (y :: rest) i out = nthGo k (b ++ rest) i' (out ++ [(j : Int)]) := by rw [nthGo, if_neg h, hp]
theorem pick_at {P : Int} {bs : List (List S63)} {j : Nat} (i : Int) (h : j < bs.length) : pick P (bs.drop j) j i = if i ≥ wrap64 (P * prod bs[j]) then pick P (bs.drop (j + 1)) (j + 1) (wrap64 (i - wrap64 (P * prod bs[j]))) else (i, some (j, bs[j])) := by rw [List.drop_eq_getElem_cons h, pick]
section
variable (x : S63) (A3 : Option Addr) (c3 : Nat) (i0 n0 : Int) (w : World) (hC : Kd.C k63 w A3 x.f3.length x.f3) (hl : x.f3.length ≤ c3)
include hC hl
set_option maxHeartbeats 16000000 in
set_option maxRecDepth 100000 in
theorem rank_Nth2.ok_ (kc K : Nat) (hK : K ≤ 887503681) (hcount : gen_Count.f kc x.f0 x.f1 x.f2 x.f3 = some (n0, none)) (hT : Todo [x] K) (hi0 : 0 ≤ i0) (hin : i0 < n0) (r : List Int) (hr : nthGo K [x] i0 [] = r) :
  Calls Tryd.prog 41 #[.agg #[.int .i64 x.f0, .int .i64 x.f1, .int .i64 x.f2, .slice A3 x.f3.length c3], .int .i64 i0] w fun e w' => ∃ v, e = .returned (.tuple #[v, .nilIface]) ∧ Kd.R (Kd.int .i64) 3 w' w.heap.size (fun _ => True) v r ∧ Below w.heap.size w w' := by
 have hu63 := Tryd.underlying63
 have hu30 := Tryd.underlying30
 have hu66 := Tryd.underlying66
 have HC := Aside0.mk hC
 have HL := Aside0.mk hl
 have HN := Aside0.mk hcount
 have HT := Aside0.mk hT
 have HR := Aside0.mk hr
 have HKK := Aside0.mk hK
 have HK := Aside0.mk (show k63.K w x [.int .i64 x.f0, .int .i64 x.f1, .int .i64 x.f2, .slice A3 x.f3.length c3] from k63_mk w x hl hC)
 have i1 : decide (i0 < 0) = false := decide_eq_false (by omega)
 have i2 : decide (n0 ≤ i0) = false := decide_eq_false (by omega)
 have i3 : decide (i0 ≥ n0) = false := decide_eq_false (by omega)
 have i4 : (i0 < 0) = False := eq_false (by omega)
 have i5 : (n0 ≤ i0) = False := eq_false (by omega)
 clear hC hl hcount hT hr hK hi0 hin
 go_enter Tryd.func41, Tryd.ntmps41
 go_wp2_with (first
  | ((with_reducible refine gate_dst (N := 2) rfl ?_); refine box_event ?hg (N := 2) ?hd (cs := #[.int .i64 x.f0, .int .i64 x.f1, .int .i64 x.f2, .slice A3 x.f3.length c3]) (t := 63) ?hr ?_; (case hd => rfl); (case hg => rfl); (case hr => first | (go_simp; done) | (go_simp; rfl)); intro gb hg w1 hbox hb; have BK := Aside0.mk hbox; have HB := Aside0.mk hb; have ha0 : w1.cell? ⟨gb, 0, none⟩ = some (.int .i64 x.f0) := (blk_cell hbox 0).trans rfl; have ha1 : w1.cell? ⟨gb, 1, none⟩ = some (.int .i64 x.f1) := (blk_cell hbox 1).trans rfl; have ha2 : w1.cell? ⟨gb, 2, none⟩ = some (.int .i64 x.f2) := (blk_cell hbox 2).trans rfl; have ha3 : w1.cell? ⟨gb, 3, none⟩ = some (.slice A3 x.f3.length c3) := (blk_cell hbox 3).trans rfl; clear hbox hb hg)
  | ((with_reducible refine gate_callee (f := 42) rfl ?_); refine goesL_ (some 18) rfl rfl Tryd.func42 (by kernel_rfl) rfl #[.agg #[.int .i64 x.f0, .int .i64 x.f1, .int .i64 x.f2, .slice A3 x.f3.length c3]] rfl (by (try simp only [List.map_toArray, List.map_cons, List.map_nil]); first | done | rfl) ?_; (with_reducible refine (gen_Count.calls kc x.f0 x.f1 x.f2 A3 c3 x.f3 n0 none _ (Kd.C_below HC.out HB.out) HL.out HN.out).mono ?_); rintro e w2 ⟨he, hb⟩; rw [errW_none] at he; subst he; refine ⟨_, rfl, ?_⟩; have hbk2 := blk_below BK.out hb; have ha0 : w2.cell? ⟨gb, 0, none⟩ = some (.int .i64 x.f0) := (blk_cell hbk2 0).trans rfl; have ha1 : w2.cell? ⟨gb, 1, none⟩ = some (.int .i64 x.f1) := (blk_cell hbk2 1).trans rfl; have ha2 : w2.cell? ⟨gb, 2, none⟩ = some (.int .i64 x.f2) := (blk_cell hbk2 2).trans rfl; have ha3 : w2.cell? ⟨gb, 3, none⟩ = some (.slice A3 x.f3.length c3) := (blk_cell hbk2 3).trans rfl; have HB2 := Aside0.mk (below_step HB.out hb); clear hb hbk2)
  | ((with_reducible refine gate_dst (N := 33) rfl ?_); refine Kd.R_lit (gfix w) (w0 := w) w.heap.size 63 ?hg (N := 33) ?hd (xs := [x]) (inner := [.int .i64 x.f0, .int .i64 x.f1, .int .i64 x.f2, .slice A3 x.f3.length c3]) (ok := fun _ => True) (okp := fun _ => True) ?hr ?hp (fun _ hk => hk) trivial HB2.out HB2.out.size (by simp) ?_; (case hd => rfl); (case hg => rfl); (case hr => first | (go_simp; done) | (go_simp; rfl)); (case hp => exact (Reps.c4 HK.out (Reps.none _ _))); intro v33 w33 ho hb hg_ hn_; have HO33 := Aside0.mk ho; have HB33 := Aside0.mk hb; clear ho hb hg_ hn_))
 go_loopg [1, 8, 9] K (fun kq v1 v8 v9 w' => ∃ (i : Int) (todo : List S63) (out : List Int), v1 = .int .i64 i ∧ Aside0 (nthGo kq todo i out = r) ∧ Aside0 (Todo todo kq) ∧ Aside0 (out.length + kq ≤ K) ∧ Aside0 (Kd.R (Kd.int .i64) 3 w' w.heap.size (fun _ => True) v8 out) ∧ Aside0 (Kd.Q (gfix w) 63 w' w.heap.size (fun _ => True) v9 todo) ∧ Aside0 (Below w.heap.size w w'))
 case atStart => exact ⟨i0, [x], [], rfl, HR, HT, ⟨by simp⟩, ⟨Kd.R_nil _ _ _ _ _⟩, ⟨Kd.Q_of_R HO33.out⟩, HB33⟩
 case round =>
  clear ha0 ha1 ha2 ha3
  obtain ⟨i, todo, out, rfl, HRR, HTT, HOL, HO, HQ, HBw⟩ := hrel
  obtain ⟨Ao, co, eo⟩ := Kd.R_slice HO.out
  have HEO := Aside0.mk eo
  clear eo
  obtain ⟨Aq, cq, eq, hcq⟩ := Kd.Q_slice HQ.out
  obtain ⟨nT, hnT⟩ : ∃ nT : Nat, nT = todo.length := ⟨_, rfl⟩
  rw [← hnT] at eq hcq
  subst eq
  cases todo with
  | nil =>
   have h1 : nT = 0 := hnT
   subst h1
   have hr' : out = r := by have := HRR.out; cases gk <;> exact this
   have HR2 := Aside0.mk hr'
   clear hr' hnT
   go_wp2
   go_ret2
   exact ⟨_, rfl, by rw [← HR2.out]; exact HO.out, HBw.out⟩
  | cons y rest =>
   obtain ⟨hone, h30, hkp⟩ := Todo_head HTT.out
   cases gk with
   | zero => omega
   | succ kn =>
   have hn1 : nT = rest.length + 1 := hnT
   have hrl : rest.length ≤ 887503681 := by have h1 := Todo_length HTT.out; have h2 := HOL.out; have h3 := HKK.out; rw [List.length_cons] at h1; omega
   have holl : out.length ≤ 887503681 := by have h2 := HOL.out; have h3 := HKK.out; omega
   have HONE := Aside0.mk hone
   have H30 := Aside0.mk h30
   have HRL := Aside0.mk hrl
   have HOLL := Aside0.mk holl
   have HN1 := Aside0.mk hn1
   have q0 : decide ((0 : Int) < (nT : Int)) = true := decide_eq_true (by omega)
   have q0' : decide (0 < nT) = true := decide_eq_true (by omega)
   have q1 : (0 < nT) = True := eq_true (by omega)
   have q2 : ((0 : Int) < (nT : Int)) = True := eq_true (by omega)
   have q21 : (1 : Int) ≤ ((nT : Int) : Int) := by omega
   obtain ⟨kp, hkprod⟩ := prod_of rest (by omega)
   have HPR := Aside0.mk hkprod
   clear hnT hone h30 hrl holl hkp hkprod hn1
   go_wp2
   have HO1 := Aside0.mk (Kd.R_drew HO.out)
   have HQ1 := Aside0.mk (Kd.Q_drew HQ.out)
   have HB1 := Aside0.mk (below_drew1 HBw.out)
   obtain ⟨ad, A4, c4, e4, hc0, hc1, hc2, hc3, hl4, hC4⟩ := at_gfix (Kd.Q_reads' HQ1.out).2.2 0 (by simp)
   cases e4
   simp only [Nat.zero_mul, show ad.add 0 = ad by simp [Addr.add], List.getElem_cons_zero] at hc0 hc1 hc2 hc3 hl4 hC4
   have HL4 := Aside0.mk hl4
   have HC4 := Aside0.mk hC4
   have HK4 := Aside0.mk (show k63.K w y [.int .i64 y.f0, .int .i64 y.f1, .int .i64 y.f2, .slice A4 y.f3.length c4] from k63_mk w y hl4 hC4)
   clear hl4 hC4
   obtain ⟨i021, hi021, _, hsz21, _⟩ := info_parts info63
   have hcut := cut_from (P := Tryd.prog) 61 63 .i64 Tryd.underlying61 hi021 4 hsz21 (some ad) nT cq 1 (by omega) q21
   have hq11 : Kd.Q (gfix w) 63 _ w.heap.size (fun _ => True) (.slice (if cq = (1 : Int).toNat then (some ad) else ((some ad) : Option Addr).map (·.add ((1 : Int).toNat * 4))) (nT - (1 : Int).toNat) (cq - (1 : Int).toNat)) rest := Kd.Q_drop (k := 1) HQ1.out (by simp)
   obtain ⟨A21, hA21⟩ : ∃ A1, A1 = (if cq = (1 : Int).toNat then (some ad) else ((some ad) : Option Addr).map (·.add ((1 : Int).toNat * 4))) := ⟨_, rfl⟩
   obtain ⟨c21, hc21⟩ : ∃ c1, c1 = cq - (1 : Int).toNat := ⟨_, rfl⟩
   have hy21 : rest.length = nT - (1 : Int).toNat := by have := HN1.out; omega
   rw [← hy21, ← hA21, ← hc21] at hcut hq11
   have HQ11 := Aside0.mk hq11
   have HL11 := Aside0.mk (Kd.Q_reads' hq11).2.1
   clear hq11 hi021 hsz21 hc21 hA21 hy21
   replace q21 := eq_true q21
   refine start_ (n := 8) (S := fun w' => w'.cell? ad = some (.int .i64 y.f0) ∧ w'.cell? ⟨ad.block, ad.off + 1, none⟩ = some (.int .i64 y.f1) ∧ w'.cell? ⟨ad.block, ad.off + 2, none⟩ = some (.int .i64 y.f2) ∧ w'.cell? ⟨ad.block, ad.off + 3, none⟩ = some (.slice A4 y.f3.length c4)) (ds := []) #[false, false, false, false, false, false, false, false] (by kernel_rfl) rfl rfl ⟨hc0, hc1, hc2, hc3⟩ (fun hHeld => ?_); refine with_tabW rank_Nth.tab9 rank_Nth.bits9 (fun HT_ HW_ => ?_)
   generalize wr.drew = wo at HO1 HQ1 HB1 HQ11 hc0 hc1 hc2 hc3 hHeld ⊢
   refine pure_ (i := 0) (N := some 37) (v := ?_) (a' := ?_) #[true, false, false, false, false, false, false, false] rfl rfl (any_of HT_.out (by kernel_rfl)) (fun _ _ _ h => h) (Or.inl ⟨by rfl, ?_⟩) ?_ ?_
   rotate_left
   ·intro w'
    go_simp
    with_reducible rfl
   rotate_left
   ·simp only [Act.put, List.setIfInBounds_toArray, List.set_cons_zero, List.set_cons_succ, i64_w, i32_w]
    rfl
   refine pure_ (i := 1) (N := some 38) (v := ?_) (a' := ?_) #[true, true, false, false, false, false, false, false] rfl rfl (any_of HT_.out (by kernel_rfl)) (fun _ _ _ h => h) (Or.inl ⟨by rfl, ?_⟩) ?_ ?_
   rotate_left
   ·intro w'
    go_simp
    with_reducible rfl
   rotate_left
   ·simp only [Act.put, List.setIfInBounds_toArray, List.set_cons_zero, List.set_cons_succ, i64_w, i32_w]
    rfl
   refine pure_ (i := 3) (N := some 40) (v := ?_) (a' := ?_) #[true, true, false, true, false, false, false, false] rfl rfl (any_of HT_.out (by kernel_rfl)) (fun _ _ _ h => h) (Or.inl ⟨by rfl, ?_⟩) ?_ ?_
   rotate_left
   ·intro w'
    go_simp
    with_reducible rfl
   rotate_left
   ·simp only [Act.put, List.setIfInBounds_toArray, List.set_cons_zero, List.set_cons_succ, i64_w, i32_w]
    rfl
   refine pure_ (i := 4) (N := some 41) (v := ?_) (a' := ?_) #[true, true, false, true, true, false, false, false] rfl rfl (any_of HT_.out (by kernel_rfl)) (fun _ _ _ h => h) (Or.inl ⟨by rfl, ?_⟩) ?_ ?_
   rotate_left
   ·intro w'
    go_simp
    with_reducible rfl
   rotate_left
   ·simp only [Act.put, List.setIfInBounds_toArray, List.set_cons_zero, List.set_cons_succ, i64_w, i32_w]
    rfl
   refine take_ (i := 2) (N := some 39) (v := ?_) (a' := ?_) #[true, true, true, true, true, false, false, false] rfl rfl (take_ofW HT_.out HW_.out (by kernel_rfl)) (fun _ _ _ h => h) (Or.inl ⟨by rfl, ?_⟩) hHeld ?_ ?_
   rotate_left
   ·rintro w' ⟨s0, s1, s2, s3⟩
    go_simp
    with_reducible rfl
   rotate_left
   ·simp only [Act.put, List.setIfInBounds_toArray, List.set_cons_zero, List.set_cons_succ, i64_w, i32_w]
    rfl
   refine one_ (i := 5) (N := some 10) #[true, true, true, true, true, true, false, false] rfl rfl (one_of HT_.out (by kernel_rfl)) (by decide) (fun K hK => ?_)
   refine box_step ?hg (N := 10) ?hd (cs := #[.int .i64 0, .int .i64 0, .int .i64 0, .slice none 0 0]) (t := 63) ?hr ?_; (case hd => rfl); (case hg => rfl); (case hr => first | (go_simp; done) | (go_simp; rfl))
   intro g10 hg w22 hbox hb
   have HS0_ := (hb.cell (World.block_lt_of_cell? _ _ (hHeld.1))).trans (hHeld.1)
   have HS1_ := (hb.cell (World.block_lt_of_cell? _ _ (hHeld.2.1))).trans (hHeld.2.1)
   have HS2_ := (hb.cell (World.block_lt_of_cell? _ _ (hHeld.2.2.1))).trans (hHeld.2.2.1)
   have HS3_ := (hb.cell (World.block_lt_of_cell? _ _ (hHeld.2.2.2))).trans (hHeld.2.2.2)
   have hne : ad.block ≠ g10 := by rw [hg]; exact Nat.ne_of_lt (World.block_lt_of_cell? _ _ hHeld.1)
   have B22 := Aside0.mk hb
   have BK10 := Aside0.mk hbox
   have G10 := Aside0.mk (Nat.le_of_eq hg.symm)
   clear hb hbox hg
   refine hK.out _ _ ⟨HS0_, HS1_, HS2_, HS3_⟩ (fun hHeld => ?_)
   clear hK K
   refine norm_ (a' := ?_) ?_ ?_
   rotate_left
   ·show Act.put _ (some 10) _ = _
    simp only [Act.put, List.setIfInBounds_toArray, List.set_cons_zero, List.set_cons_succ, i64_w, i32_w]
    rfl
   refine one_ (i := 6) (N := none) #[true, true, true, true, true, true, true, false] rfl rfl (one_of HT_.out (by kernel_rfl)) (by decide) (fun K hK => ?_)
   have hz0 : w22.cell? ⟨g10, 0, none⟩ = some (.int .i64 0) := (blk_cell BK10.out 0).trans rfl
   have hf0 := blk_frozen BK10.out 0
   have hz1 : w22.cell? ⟨g10, 1, none⟩ = some (.int .i64 0) := (blk_cell BK10.out 1).trans rfl
   have hf1 := blk_frozen BK10.out 1
   have hz2 : w22.cell? ⟨g10, 2, none⟩ = some (.int .i64 0) := (blk_cell BK10.out 2).trans rfl
   have hf2 := blk_frozen BK10.out 2
   have hz3 : w22.cell? ⟨g10, 3, none⟩ = some (.slice none 0 0) := (blk_cell BK10.out 3).trans rfl
   have hf3 := blk_frozen BK10.out 3
   refine skip_ (w1 := ?_) (by rfl) rfl ?_ ?_
   rotate_left
   ·go_simp
    rfl
   refine hK.out _ _ ⟨(set4_far hne _ _ _ _).trans hHeld.1, (set4_far (ad := ⟨ad.block, ad.off + 1, none⟩) hne _ _ _ _).trans hHeld.2.1, (set4_far (ad := ⟨ad.block, ad.off + 2, none⟩) hne _ _ _ _).trans hHeld.2.2.1, (set4_far (ad := ⟨ad.block, ad.off + 3, none⟩) hne _ _ _ _).trans hHeld.2.2.2⟩ (fun hHeld => ?_)
   clear hK K
   refine pure_ (i := 7) (N := some 11) (v := ?_) (a' := ?_) #[true, true, true, true, true, true, true, true] rfl rfl (any_of HT_.out (by kernel_rfl)) (fun _ _ _ h => h) (Or.inl ⟨by rfl, ?_⟩) ?_ ?_
   rotate_left
   ·intro w'
    go_simp
    with_reducible rfl
   rotate_left
   ·simp only [Act.put, List.setIfInBounds_toArray, List.set_cons_zero, List.set_cons_succ, i64_w, i32_w]
    rfl
   refine done_ (done_of HT_.out (by kernel_rfl)) ?_
   have hd0 : ((((w22.setCell ⟨g10, 0, none⟩ (.int .i64 y.f0)).setCell ⟨g10, 1, none⟩ (.int .i64 y.f1)).setCell ⟨g10, 2, none⟩ (.int .i64 y.f2)).setCell ⟨g10, 3, none⟩ (.slice A4 y.f3.length c4)).cell? ⟨g10, 0, none⟩ = some (.int .i64 y.f0) := by go_simp
   have hd1 : ((((w22.setCell ⟨g10, 0, none⟩ (.int .i64 y.f0)).setCell ⟨g10, 1, none⟩ (.int .i64 y.f1)).setCell ⟨g10, 2, none⟩ (.int .i64 y.f2)).setCell ⟨g10, 3, none⟩ (.slice A4 y.f3.length c4)).cell? ⟨g10, 1, none⟩ = some (.int .i64 y.f1) := by go_simp
   have hd2 : ((((w22.setCell ⟨g10, 0, none⟩ (.int .i64 y.f0)).setCell ⟨g10, 1, none⟩ (.int .i64 y.f1)).setCell ⟨g10, 2, none⟩ (.int .i64 y.f2)).setCell ⟨g10, 3, none⟩ (.slice A4 y.f3.length c4)).cell? ⟨g10, 2, none⟩ = some (.int .i64 y.f2) := by go_simp
   have hd3 : ((((w22.setCell ⟨g10, 0, none⟩ (.int .i64 y.f0)).setCell ⟨g10, 1, none⟩ (.int .i64 y.f1)).setCell ⟨g10, 2, none⟩ (.int .i64 y.f2)).setCell ⟨g10, 3, none⟩ (.slice A4 y.f3.length c4)).cell? ⟨g10, 3, none⟩ = some (.slice A4 y.f3.length c4) := by go_simp
   have BD := Aside0.mk (below_set (below_set (below_set (below_set B22.out G10.out (j := 0) (v := .int .i64 y.f0)) G10.out (j := 1) (v := .int .i64 y.f1)) G10.out (j := 2) (v := .int .i64 y.f2)) G10.out (j := 3) (v := .slice A4 y.f3.length c4))
   clear hz0 hz1 hz2 hz3 hf0 hf1 hf2 hf3 hHeld HS0_ HS1_ HS2_ HS3_ hne B22 BK10 hc0 hc1 hc2 hc3 HO HQ HBw
   generalize ((((w22.setCell ⟨g10, 0, none⟩ (.int .i64 y.f0)).setCell ⟨g10, 1, none⟩ (.int .i64 y.f1)).setCell ⟨g10, 2, none⟩ (.int .i64 y.f2)).setCell ⟨g10, 3, none⟩ (.slice A4 y.f3.length c4)) = wD at hd0 hd1 hd2 hd3 BD ⊢
   by_cases c3y : y.f0 = 3
   ·have b3 : (y.f0 == 3) = true := by simp [c3y]
    have b3' : (y.f0 = 3) = True := eq_true c3y
    have HRN := Aside0.mk ((nthGo_both c3y).symm.trans HRR.out)
    have HTN := Aside0.mk (Todo_step HTT.out H30.out (fun _ h => h))
    clear c3y hd1 hd2
    go_wp2_with (first
     | ((with_reducible refine gate_dst (N := 45) rfl ?_); refine Kd.R_lit (gfix w) (w0 := wo) wo.heap.size 63 ?hg (N := 45) ?hd (xs := ([] : List S63)) (inner := []) (ok := fun _ => True) (okp := fun _ => True) ?hr ?hp (fun _ hk => hk) trivial BD.out BD.out.size (by simp) ?_; (case hd => rfl); (case hg => rfl); (case hr => first | (go_simp; done) | (go_simp; rfl)); (case hp => exact (Reps.none _ _)); intro v45 w45 ho hb hg_ hn_; have HO45 := Aside0.mk ho; have HB45 := Aside0.mk hb; have HG45 := Aside0.mk (rk_below_none hg_); clear ho hb hg_ hn_); have hd3 : w45.cell? ⟨g10, 3, none⟩ = some (.slice A4 y.f3.length c4) := (HG45.out.cell (World.block_lt_of_cell? _ _ hd3)).trans hd3
     | ((with_reducible refine gate_builtin (b := .append) (xs := #[.tmp 45, .tmp 47]) rfl ?_); at_builtin; refine Kd.R_append_rows (gfix w) (Rr := fun x cs => k63.K w x cs) (w0 := wo) wo.heap.size rfl (.tmp 45) (.tmp 47) 61 63 (.agg #[.int .i64 0, .int .i64 0, .int .i64 0, .slice none 0 0]) 48 rfl Tryd.underlying61 info63 rfl (by show 0 < 4; omega) (by omega) v45 [] y.f3 A4 y.f3.length c4 (fun _ => True) (fun _ => False) rfl rfl HO45.out ?aR (fun _ _ h => h) (fun _ h => h.elim) (fun _ _ => trivial) HB45.out HB45.out.size ?aL ?_; (case aR => exact (gfix_C (below_step HB1.out HB45.out) HC4.out)); (case aL => have := H30.out; simp only [List.length_nil]; omega); intro v48 w48 ho hb hg hat; have HO48 := Aside0.mk ho; have HB48 := Aside0.mk hb; clear ho hb hg hat)
     | ((with_reducible refine gate_builtin (b := .append) (xs := #[.tmp 48, .tmp 49]) rfl ?_); at_builtin; refine Kd.R_append_rows (gfix w) (Rr := fun x cs => k63.K w x cs) (w0 := wo) wo.heap.size rfl (.tmp 48) (.tmp 49) 61 63 (.agg #[.int .i64 0, .int .i64 0, .int .i64 0, .slice none 0 0]) 48 rfl Tryd.underlying61 info63 rfl (by show 0 < 4; omega) (by omega) v48 ([] ++ y.f3) rest A21 rest.length c21 (fun _ => True) (fun _ => False) rfl rfl HO48.out ?aR (fun _ _ h => h) (fun _ h => h.elim) (fun _ _ => trivial) HB48.out HB48.out.size ?aL ?_; (case aR => exact (Kd.Q_reads' (Kd.Q_below HQ11.out HB48.out)).2.2); (case aL => have := H30.out; have := HRL.out; simp only [List.nil_append]; omega); intro v50 w50 ho hb hg hat; have HO50 := Aside0.mk ho; have HB50 := Aside0.mk hb; clear ho hb hg hat))
    go_roundg kn
    case measure => omega
    case rel => exact ⟨i, y.f3 ++ rest, out, by first | rfl | simp, HRN, HTN, ⟨by have := HOL.out; omega⟩, ⟨Kd.R_below HO1.out HB50.out⟩, ⟨Kd.Q_of_R (Kd.R_lower HO50.out HB1.out.size)⟩, ⟨below_step HB1.out HB50.out⟩⟩
   ·have b3 : (y.f0 == 3) = false := by simp [c3y]
    have b3' : (y.f0 = 3) = False := eq_false c3y
    have C3 := Aside0.mk c3y
    obtain ⟨bs, hbs⟩ : ∃ bs, bs = rank_branches2 y := ⟨_, rfl⟩
    have HBS := Aside0.mk hbs
    have HBL := Aside0.mk (show bs.length ≤ 1001 by rw [hbs]; exact branches_length HONE.out H30.out)
    have HBM := Aside0.mk (show ∀ b ∈ bs, b.length ≤ 30 ∧ ∀ z ∈ b, z ∈ y.f3 by rw [hbs]; exact fun b hb => branches_mem HONE.out hb)
    obtain ⟨PR, hPR⟩ : ∃ PR, PR = prod rest := ⟨_, rfl⟩
    have HPP := Aside0.mk hPR
    clear c3y hbs hPR
    go_wp2_with (first
     | ((with_reducible refine gate_callee (f := 82) rfl ?_); refine goesL_ (some 53) rfl rfl Tryd.func82 (by kernel_rfl) rfl #[.slice A21 rest.length c21] rfl (by (try simp only [List.map_toArray, List.map_cons, List.map_nil]); first | done | rfl) ?_; (with_reducible refine (rank_product.calls kp A21 c21 rest PR _ (gfix_read (below_step HB1.out BD.out) (Kd.Q_reads' (Kd.Q_below HQ11.out BD.out)).2.2) HL11.out (by rw [HPP.out]; exact HPR.out)).mono ?_); rintro e w53 ⟨rfl, hb⟩; refine ⟨_, rfl, ?_⟩; have hd0 : w53.cell? ⟨g10, 0, none⟩ = some (.int .i64 y.f0) := (hb.cell (World.block_lt_of_cell? _ _ hd0)).trans hd0; have hd1 : w53.cell? ⟨g10, 1, none⟩ = some (.int .i64 y.f1) := (hb.cell (World.block_lt_of_cell? _ _ hd1)).trans hd1; have hd2 : w53.cell? ⟨g10, 2, none⟩ = some (.int .i64 y.f2) := (hb.cell (World.block_lt_of_cell? _ _ hd2)).trans hd2; have hd3 : w53.cell? ⟨g10, 3, none⟩ = some (.slice A4 y.f3.length c4) := (hb.cell (World.block_lt_of_cell? _ _ hd3)).trans hd3; have B53 := Aside0.mk (below_step BD.out hb); clear hb)
     | ((with_reducible refine gate_callee (f := 81) rfl ?_); refine goesL_ (some 55) rfl rfl Tryd.func81 (by kernel_rfl) rfl #[.agg #[.int .i64 y.f0, .int .i64 y.f1, .int .i64 y.f2, .slice A4 y.f3.length c4]] rfl (by (try simp only [List.map_toArray, List.map_cons, List.map_nil]); first | done | rfl) ?_; (with_reducible refine (rank_branches2.calls y A4 c4 w _ (below_step HB1.out B53.out) HC4.out HL4.out HONE.out H30.out).mono ?_); rintro e w55 ⟨v55, rfl, ho, hb⟩; refine ⟨_, rfl, ?_⟩; rw [← HBS.out] at ho; obtain ⟨B5, d5, e5⟩ := Kd.R_slice ho; subst e5; have HO55 := Aside0.mk ho; have B55 := Aside0.mk (below_step B53.out hb); clear ho hb))
    clear hd0 hd1 hd2 hd3
    go_loopg [1, 8, 9, 57] bs.length (fun kq v1 v8 v9 v57 w' => ∃ (i' : Int) (j : Nat), v1 = .int .i64 i' ∧ v8 = u8 ∧ v9 = .slice A21 rest.length c21 ∧ v57 = .int .i64 (j : Int) ∧ Aside0 (j + kq = bs.length) ∧ Aside0 (pick PR (bs.drop j) j i' = pick PR bs 0 i) ∧ Aside0 (Below w55.heap.size w55 w'))
    case atStart => exact ⟨i, 0, rfl, rfl, rfl, rfl, ⟨by simp⟩, ⟨by rw [List.drop_zero]⟩, ⟨Below.refl _ _⟩⟩
    case round =>
     obtain ⟨i', j, rfl, rfl, rfl, rfl, HJ, HP, BJ⟩ := hrel
     cases gk with
     | zero =>
      have hj : j = bs.length := by have := HJ.out; omega
      have h1 : decide ((j : Int) < (bs.length : Int)) = false := decide_eq_false (by omega)
      have h2 : decide (j < bs.length) = false := decide_eq_false (by omega)
      have hp : pick PR bs 0 i = (i', none) := by rw [← HP.out, List.drop_of_length_le (by omega), pick]
      have HRN := Aside0.mk ((nthGo_none C3.out (by rw [← HBS.out, ← HPP.out]; exact hp)).symm.trans HRR.out)
      have HTN := Aside0.mk (show Todo rest kn from Todo_step (b := []) HTT.out (by simp) (by simp))
      clear hj hp
      go_wp2
      go_roundg kn
      case measure => omega
      case rel => exact ⟨i', rest, out, by first | rfl | simp, HRN, HTN, ⟨by have := HOL.out; omega⟩, ⟨Kd.R_below HO1.out (below_step B55.out BJ.out)⟩, ⟨Kd.Q_below HQ11.out (below_step B55.out BJ.out)⟩, ⟨below_step HB1.out (below_step B55.out BJ.out)⟩⟩
     | succ kj =>
      have hj : j < bs.length := by have := HJ.out; omega
      have h1 : decide ((j : Int) < (bs.length : Int)) = true := decide_eq_true (by omega)
      have h2 : decide (j < bs.length) = true := decide_eq_true hj
      have h3 : (j < bs.length) = True := eq_true hj
      obtain ⟨g5, d6, e6, _⟩ := Kd.R_form HO55.out (by omega)
      have he6 : B5 = some ⟨g5, 0, none⟩ := by injection e6
      subst he6
      have hO5 := Kd.R_below HO55.out BJ.out
      obtain ⟨c, hcl, hM, hcc, _⟩ := Kd.R_elem hO5 [] (j : Int) (by omega) (by omega)
      obtain ⟨v6, rfl, hr6⟩ := hM
      have hb6 : bs.getD (j : Int).toNat [] = bs[j] := by simp [hj]
      rw [hb6] at hr6
      obtain ⟨b, hbe⟩ : ∃ b, b = bs[j] := ⟨_, rfl⟩
      rw [← hbe] at hr6
      obtain ⟨A6, c6, e6', hl6⟩ := Kd.Q_slice (Kd.Q_of_R hr6)
      subst e6'
      have hx0 := hcc 0 _ rfl
      simp only [Int.toNat_natCast, Nat.add_zero, show (Kd.slice 63 (gfix w)).sz = 1 from rfl, Nat.mul_one] at hx0
      have HR6 := Aside0.mk (Kd.R_mono (ok' := fun _ => True) hr6 (fun _ _ => trivial))
      have HBE := Aside0.mk hbe
      have HBB := Aside0.mk (HBM.out b (by rw [hbe]; exact List.getElem_mem hj))
      obtain ⟨kb, hkb⟩ := prod_of b (by have := HBB.out.1; omega)
      obtain ⟨PB, hPB⟩ : ∃ PB, PB = prod b := ⟨_, rfl⟩
      rw [← hPB] at hkb
      have HKB := Aside0.mk hkb
      have HL6 := Aside0.mk hl6
      have HW4 := Aside0.mk (show wrap64 ((j : Int) + 1) = (j : Int) + 1 from wrap64_id (by omega) (by have := HBL.out; omega))
      have hpa := pick_at (P := PR) i' hj
      rw [← hbe, ← hPB, HP.out] at hpa
      have HPA := Aside0.mk hpa
      have HBJ2 := Aside0.mk (below_step B55.out BJ.out)
      clear e6 hcc hcl hb6 hr6 hl6 hkb hpa hbe hPB hO5
      by_cases hge : i' ≥ wrap64 (PR * PB)
      ·have g1 : decide (i' ≥ wrap64 (PR * PB)) = true := decide_eq_true hge
       have g2 : decide (wrap64 (PR * PB) ≤ i') = true := decide_eq_true hge
       have g3 : (wrap64 (PR * PB) ≤ i') = True := eq_true hge
       have HPN := Aside0.mk (HPA.out.trans (if_pos hge)).symm
       clear hge
       go_wp2_with (first
        | ((with_reducible refine gate_callee (f := 82) rfl ?_); refine goesL_ (some 64) rfl rfl Tryd.func82 (by kernel_rfl) rfl #[.slice A6 b.length c6] rfl (by (try simp only [List.map_toArray, List.map_cons, List.map_nil]); first | done | rfl) ?_; (with_reducible refine (rank_product.calls kb A6 c6 b PB _ (gfix_read (below_step HB1.out HBJ2.out) (Kd.Q_reads' (Kd.Q_of_R HR6.out)).2.2) HL6.out HKB.out).mono ?_); rintro e w64 ⟨rfl, hb⟩; refine ⟨_, rfl, ?_⟩; have B64 := Aside0.mk (below_step BJ.out hb); clear hb))
       go_roundg kj
       case measure => omega
       case rel => exact ⟨wrap64 (i' - wrap64 (PR * PB)), j + 1, by first | rfl | simp, rfl, rfl, by rw [HW4.out]; simp, ⟨by have := HJ.out; omega⟩, HPN, B64⟩
      ·have g1 : decide (i' ≥ wrap64 (PR * PB)) = false := decide_eq_false hge
       have g2 : decide (wrap64 (PR * PB) ≤ i') = false := decide_eq_false hge
       have g3 : (wrap64 (PR * PB) ≤ i') = False := eq_false hge
       have hp := HPA.out.trans (if_neg hge)
       have HRN := Aside0.mk ((nthGo_some C3.out (by rw [← HBS.out, ← HPP.out]; exact hp)).symm.trans HRR.out)
       have HTN := Aside0.mk (Todo_step HTT.out HBB.out.1 HBB.out.2)
       clear hge hp
       go_wp2_with (first
        | ((with_reducible refine gate_callee (f := 82) rfl ?_); refine goesL_ (some 64) rfl rfl Tryd.func82 (by kernel_rfl) rfl #[.slice A6 b.length c6] rfl (by (try simp only [List.map_toArray, List.map_cons, List.map_nil]); first | done | rfl) ?_; (with_reducible refine (rank_product.calls kb A6 c6 b PB _ (gfix_read (below_step HB1.out HBJ2.out) (Kd.Q_reads' (Kd.Q_of_R HR6.out)).2.2) HL6.out HKB.out).mono ?_); rintro e w64 ⟨rfl, hb⟩; refine ⟨_, rfl, ?_⟩; have B64 := Aside0.mk (below_step HBJ2.out hb); have HR64 := Aside0.mk (Kd.Q_below (Kd.Q_of_R HR6.out) hb); clear hb)
        | ((with_reducible refine gate_builtin (b := .append) (xs := #[.tmp 72, .tmp 74]) rfl ?_); at_builtin; refine Kd.R_append (Kd.int .i64) (w0 := w) w.heap.size rfl (.tmp 72) (.tmp 74) 36 3 (.int .i64 0) 8 rfl Tryd.underlying36 info3 rfl (by decide) (by omega) u8 out (j : Int) [.int .i64 (j : Int)] (fun _ => True) (fun _ => False) rfl rfl rfl (fun _ h => h.elim) (fun _ _ => trivial) (Kd.R_below HO1.out B64.out) (below_step HB1.out B64.out) (below_step HB1.out B64.out).size ?aL ?_; (case aL => have := HOLL.out; omega); intro v75 w75 ho hb hg hat; have HO75 := Aside0.mk ho; have B75 := Aside0.mk hb; have HQ75 := Aside0.mk (Kd.Q_over' (Kd.Q_below HQ11.out B64.out) (Kd.R_typed (Kd.R_below HO1.out B64.out)) (gfE (by decide)) hg); have HR75 := Aside0.mk (Kd.Q_over' HR64.out (Kd.R_typed (Kd.R_below HO1.out B64.out)) (gfE (by decide)) hg); clear ho hb hg hat)
        | ((with_reducible refine gate_dst (N := 76) rfl ?_); refine Kd.R_lit (gfix w) (w0 := w75) w75.heap.size 63 ?hg (N := 76) ?hd (xs := ([] : List S63)) (inner := []) (ok := fun _ => True) (okp := fun _ => True) ?hr ?hp (fun _ hk => hk) trivial (Below.refl w75.heap.size w75) (Below.refl w75.heap.size w75).size (by simp) ?_; (case hd => rfl); (case hg => rfl); (case hr => first | (go_simp; done) | (go_simp; rfl)); (case hp => exact (Reps.none _ _)); intro v76 w76 ho hb hg_ hn_; have HO76 := Aside0.mk ho; have HB76 := Aside0.mk hb; have HG76 := Aside0.mk (rk_below_none hg_); clear ho hb hg_ hn_)
        | ((with_reducible refine gate_builtin (b := .append) (xs := #[.tmp 76, .tmp 77]) rfl ?_); at_builtin; refine Kd.R_append_rows (gfix w) (Rr := fun x cs => k63.K w x cs) (w0 := w75) w75.heap.size rfl (.tmp 76) (.tmp 77) 61 63 (.agg #[.int .i64 0, .int .i64 0, .int .i64 0, .slice none 0 0]) 48 rfl Tryd.underlying61 info63 rfl (by show 0 < 4; omega) (by omega) v76 [] b A6 b.length c6 (fun _ => True) (fun _ => False) rfl rfl HO76.out ?aR (fun _ _ h => h) (fun _ h => h.elim) (fun _ _ => trivial) HB76.out HB76.out.size ?aL ?_; (case aR => exact (Kd.Q_reads' (Kd.Q_below HR75.out HB76.out)).2.2); (case aL => have := HBB.out.1; simp only [List.length_nil]; omega); intro v78 w78 ho hb hg hat; have HO78 := Aside0.mk ho; have HB78 := Aside0.mk hb; clear ho hb hg hat)
        | ((with_reducible refine gate_builtin (b := .append) (xs := #[.tmp 78, .tmp 79]) rfl ?_); at_builtin; refine Kd.R_append_rows (gfix w) (Rr := fun x cs => k63.K w x cs) (w0 := w75) w75.heap.size rfl (.tmp 78) (.tmp 79) 61 63 (.agg #[.int .i64 0, .int .i64 0, .int .i64 0, .slice none 0 0]) 48 rfl Tryd.underlying61 info63 rfl (by show 0 < 4; omega) (by omega) v78 ([] ++ b) rest A21 rest.length c21 (fun _ => True) (fun _ => False) rfl rfl HO78.out ?aR (fun _ _ h => h) (fun _ h => h.elim) (fun _ _ => trivial) HB78.out HB78.out.size ?aL ?_; (case aR => exact (Kd.Q_reads' (Kd.Q_below HQ75.out HB78.out)).2.2); (case aL => have := HBB.out.1; have := HRL.out; simp only [List.nil_append]; omega); intro v80 w80 ho hb hg hat; have HO80 := Aside0.mk ho; have HB80 := Aside0.mk hb; clear ho hb hg hat))
       go_roundg kn
       case measure => omega
       case rel => exact ⟨i', b ++ rest, out ++ [(j : Int)], by first | rfl | simp, HRN, HTN, ⟨by have := HOL.out; simp only [List.length_append, List.length_singleton]; omega⟩, ⟨Kd.R_below HO75.out HB80.out⟩, ⟨Kd.Q_of_R (Kd.R_lower HO80.out B75.out.size)⟩, ⟨below_step B75.out HB80.out⟩⟩
end
end Go.Proofs.YtgdomnlkafcddaaDoor.Q
namespace Go.Proofs.YtgdomnlkafcddaaDoor.Q
open Go.RowKit Go.Proofs.YtgdomnlkafcddaaDoorW.PrintWords Go.Proofs.YtgdomnlkafcddaaDoorW.PrintLast Go.Proofs.YtgdomnlkafcddaaDoorW.PrintMore
set_option linter.unusedVariables false

theorem info27 : (Tryd.prog.info? 27).map (fun i => (i.zero, i.size, i.bytes)) = some (some (.agg #[(.bool false), (.int .i64 0), (.slice none 0 0)]), 3, 40) := by kernel_rfl
def inT (t : Nat) : Bool := t == 3 || t == 36
def Ty (W : World) (g t : Nat) : Prop := ∃ cells : Array Value, W.heap[g]? = some (Obj.cells cells t (0, 0))
theorem Ty.of {W : World} {g t : Nat} {cells : Array Value} (h : W.heap[g]? = some (Obj.cells cells t (0, 0))) : Ty W g t := ⟨cells, h⟩
theorem Ty.set {W : World} {g t : Nat} (h : Ty W g t) (p : Addr) (u : Value) : Ty (W.setCell p u) g t := by
 obtain ⟨cells, h⟩ := h
 by_cases hp : g = p.block
 ·subst hp
  simp only [Ty, World.setCell, Array.getElem?_modify, h]
  exact ⟨_, rfl⟩
 ·exact ⟨cells, (Below.heap_setCell W p u g hp).trans h⟩
theorem Ty.alloc {W : World} {g t : Nat} (h : Ty W g t) (o : Obj) : Ty (W.alloc o) g t := by
 obtain ⟨cells, h⟩ := h
 exact ⟨cells, blk_alloc h o⟩
theorem Ty.drew {W : World} {g t : Nat} (h : Ty W g t) : Ty W.drew g t := h
theorem Ty.drewN {W : World} {g t : Nat} (h : Ty W g t) (n : Nat) : Ty (W.drewN n) g t := h

def Moves {σ : Type} (S : σ → World → Prop) : Prop := ∀ s (w w' : World), S s w → w.heap.size ≤ w'.heap.size → (∀ (k : Nat) (cells : Array Value) (t : Nat), w.heap[k]? = some (Obj.cells cells t (0, 0)) → inT t = true → w'.heap[k]? = w.heap[k]?) → S s w'
structure Fr {σ : Type} (S : σ → World → Prop) (w0 w : World) (st : σ) (W : World) : Prop where
 b : Below w0.heap.size w0 W
 b0 : w0.heap.size ≤ w.heap.size
 sz : w.heap.size ≤ W.heap.size
 blk : ∀ (k : Nat) (cells : Array Value) (t : Nat), w.heap[k]? = some (Obj.cells cells t (0, 0)) → inT t = false → W.heap[k]? = w.heap[k]?
 st : S st W
 mv : Moves S
namespace Fr
variable {σ : Type} {S : σ → World → Prop} {w0 w W w2 : World} {st st' : σ}
theorem here (h : Fr S w0 w st W) : Fr S w0 W st W := ⟨h.b, Nat.le_trans h.b0 h.sz, Nat.le_refl _, fun _ _ _ _ _ => rfl, h.st, h.mv⟩
theorem size (h : Fr S w0 w st W) : w.heap.size ≤ W.heap.size := h.sz
theorem trans (h : Fr S w0 w st W) (k : Fr S w0 W st' w2) : Fr S w0 w st' w2 :=
 ⟨k.b, h.b0, Nat.le_trans h.sz k.sz, fun g cells t hg ht => by
  have e := h.blk g cells t hg ht
  exact (k.blk g cells t (e.trans hg) ht).trans e, k.st, h.mv⟩
theorem step (h : Fr S w0 w st W) (k : Below W.heap.size W w2) : Fr S w0 w st w2 :=
 h.trans ⟨below_then h.b (Nat.le_trans h.b0 h.sz) k, Nat.le_trans h.b0 h.sz, k.size, fun g cells t hg _ => k.block g (blk_lt hg), h.mv st W w2 h.st k.size (fun g cells t hg _ => k.block g (blk_lt hg)), h.mv⟩
theorem alloc (h : Fr S w0 w st W) (o : Obj) : Fr S w0 w st (W.alloc o) := h.step (below_alloc (Below.refl _ _) o)
theorem drew (h : Fr S w0 w st W) : Fr S w0 w st W.drew := h.step (below_drew1 (Below.refl _ _))
theorem drewN (h : Fr S w0 w st W) (n : Nat) : Fr S w0 w st (W.drewN n) := h.step (pw_below_drewN (Below.refl _ _) n)
theorem grown (h : Fr S w0 w st W) {row : Option Nat} (hg : W.grownBy w2 row) (hr : ∀ k, row = some k → w.heap.size ≤ k ∧ ∃ t, Ty W k t ∧ inT t = false) : Fr S w0 w st w2 := by
 refine ⟨h.b.grown hg (Nat.le_trans h.b0 h.sz) (fun k hk => Nat.le_trans h.b0 (hr k hk).1), h.b0, Nat.le_trans h.sz hg.size, fun k cells t hk ht => ?_, ?_, h.mv⟩
 ·have hl := blk_lt hk
  rw [hg.block k (Nat.lt_of_lt_of_le hl h.sz) (fun e => by have := (hr k e.symm).1; omega)]
  exact h.blk k cells t hk ht
 ·refine h.mv st W w2 h.st hg.size (fun k cells t hk ht => hg.block k (blk_lt hk) (fun e => ?_))
  obtain ⟨_, t', ⟨c', hc'⟩, ht'⟩ := hr k e.symm
  rw [hk] at hc'
  injection hc' with hc'
  injection hc' with _ hc'
  subst hc'
  simp [ht] at ht'
theorem grownR {α : Type} {d : Kd α} {e : Nat} {ok : Nat → Prop} {v : Value} {xs : List α} (h : Fr S w0 w st W) (hg : W.grownBy w2 v.ownBlock) (HO : d.R e W w.heap.size ok v xs) (he : inT e = false) : Fr S w0 w st w2 := by
 obtain ⟨_, inner, ho, _⟩ := HO
 exact h.grown hg (fun k hk => ⟨own_base ho k hk, e, own_typed ho k hk, he⟩)
theorem set {g j t : Nat} {u : Value} (h : Fr S w0 w st W) (hge : w.heap.size ≤ g) (hty : Ty W g t) (ht : inT t = false) : Fr S w0 w st (W.setCell ⟨g, j, none⟩ u) := by
 refine ⟨h.b.setCell (Nat.le_trans h.b0 hge) u, h.b0, by simpa [World.setCell] using h.sz, fun k cells t' hk ht' => ?_, ?_, h.mv⟩
 ·rw [Below.heap_setCell W _ u k (by have := blk_lt hk; show k ≠ g; omega)]
  exact h.blk k cells t' hk ht'
 ·refine h.mv st W _ h.st (by simp [World.setCell]) (fun k cells t' hk ht' => Below.heap_setCell W _ u k ?_)
  intro hkg
  obtain ⟨c', hc'⟩ := hty
  replace hkg : k = g := hkg
  subst hkg
  have hc2 : W.heap[k]? = some (Obj.cells cells t' (0, 0)) := hk
  rw [hc2] at hc'
  injection hc' with hc'
  injection hc' with _ hc'
  subst hc'
  simp [ht'] at ht
theorem blk_ {g t : Nat} {cs : Array Value} (h : W.heap[g]? = some (Obj.cells cs t (0, 0))) (hb : Fr S w0 W st w2) (ht : inT t = false) : w2.heap[g]? = some (Obj.cells cs t (0, 0)) := (hb.blk g cs t h ht).trans h
theorem R_elder {α : Type} {d : Kd α} {e base : Nat} {ok : Nat → Prop} {u v : Value} {xs : List α} (hu : d.R e W base ok u xs) (hE : ∀ q, q ∈ e :: d.E → inT q = false) (hbase : ∀ k, v.ownBlock = some k → W.heap.size ≤ k) (hb : Fr S w0 W st w2) : d.R e w2 base (fun k => ok k ∧ some k ≠ v.ownBlock) u xs :=
 Kd.R_mono (Kd.R_move (Kd.R_bound hu) (fun k hk => by
  obtain ⟨_, _, _, q, hq, cells, hc⟩ := hk
  exact hb.blk k cells q hc (hE q hq))) (fun k hk => ⟨hk.1, fun he => by have := hbase k he.symm; have := hk.2.2.1; omega⟩)
end Fr
section
variable {P : Program} {ops : Array Oper} {Q : Exit → Act → World → Prop}
/-- A closure's call, in a region that draws. -/
theorem goesC_ {oi : Oper} {N : Option Tmp} {a : Act} {w : World} {K : Act → World → Prop} {c : Operand} {f : FuncId} {fn : Func} {as_ : Array Operand} {ts : Array TypeId} (caps : Array Value) (hf : P.funcs[f]? = some fn) (hname : (fn.name == "runtime.NumGoroutine") = false) (hb : fn.body.isSome = true) (args : Array Value)
  (hw : Region.wanted oi (yielded ops a.tmps) = true) (hN : oi.dst = N) (hop : oi.op = .call { callee := .value c, args := as_, argTypes := ts }) (hc : a.eval c = .func (.func f) #[] caps) (hargs : as_.map a.eval = args)
  (h : Calls P f (args ++ caps) w fun e w' => ∃ v, e = .returned v ∧ K (a.put N v) w') : if Region.wanted oi (yielded ops a.tmps) = true then Oper.wp P oi a w K Q else K (a.put N undef) w := by
 refine call_ f (args ++ caps) hw hN ?_ h
 have he := enters_ hf hname hb (args ++ caps) w
 unfold execOp
 simp [hop, resolve, Deferred.ofValue, invoke, hc, hargs, he]
/-- The same in a plain region. -/
theorem goesCL_ {rest : List Oper} {oi : Oper} {a : Act} {w : World} (N : Option Tmp) (hd : oi.dst = N) (hg : oi.guard = none) {c : Operand} {f : FuncId} {fn : Func} {as_ : Array Operand} {ts : Array TypeId} (caps : Array Value) (hf : P.funcs[f]? = some fn) (hname : (fn.name == "runtime.NumGoroutine") = false) (hb : fn.body.isSome = true) (args : Array Value)
  (hop : oi.op = .call { callee := .value c, args := as_, argTypes := ts }) (hc : a.eval c = .func (.func f) #[] caps) (hargs : as_.map a.eval = args)
  (h : Calls P f (args ++ caps) w fun e w' => ∃ v, e = .returned v ∧ wpList P ops Q rest (a.put N v) w') : wpList P ops Q (oi :: rest) a w := by
 refine wpList_plain hg fun K hK => ?_
 have he := enters_ hf hname hb (args ++ caps) w
 have hrun : (execOp a.eval oi).run P w = .ok (.enter f (args ++ caps)) w := by
  unfold execOp
  simp [hop, resolve, Deferred.ofValue, invoke, hc, hargs, he]
 unfold Oper.wp
 rw [hrun, Oper.upon_enter]
 refine h.mono fun e w'' hh => ?_
 obtain ⟨v, rfl, hk⟩ := hh
 subst hd
 exact hK _ _ hk
end
section
variable {P : Program} {ops : Array Oper} {Q : Exit → Act → World → Prop}
/-- The same three where the callee panics. -/
theorem goesCP_ {oi : Oper} {N : Option Tmp} {a : Act} {w : World} {K : Act → World → Prop} {c : Operand} {f : FuncId} {fn : Func} {as_ : Array Operand} {ts : Array TypeId} (caps : Array Value) (hf : P.funcs[f]? = some fn) (hname : (fn.name == "runtime.NumGoroutine") = false) (hb : fn.body.isSome = true) (args : Array Value)
  (hw : Region.wanted oi (yielded ops a.tmps) = true) (hop : oi.op = .call { callee := .value c, args := as_, argTypes := ts }) (hc : a.eval c = .func (.func f) #[] caps) (hargs : as_.map a.eval = args)
  (h : Calls P f (args ++ caps) w fun e w' => ∃ v, e = .panicked v ∧ Q (.panic v) a w') : if Region.wanted oi (yielded ops a.tmps) = true then Oper.wp P oi a w K Q else K (a.put N undef) w := by
 rw [if_pos hw]
 have he := enters_ hf hname hb (args ++ caps) w
 have hrun : (execOp a.eval oi).run P w = .ok (.enter f (args ++ caps)) w := by
  unfold execOp
  simp [hop, resolve, Deferred.ofValue, invoke, hc, hargs, he]
 unfold Oper.wp
 rw [hrun, Oper.upon_enter]
 refine h.mono fun e w'' hh => ?_
 obtain ⟨v, rfl, hk⟩ := hh
 exact hk
theorem goesP_ {oi : Oper} {N : Option Tmp} {a : Act} {w : World} {K : Act → World → Prop} {f : FuncId} {fn : Func} {as_ : Array Operand} {ts : Array TypeId} (hf : P.funcs[f]? = some fn) (hname : (fn.name == "runtime.NumGoroutine") = false) (hb : fn.body.isSome = true) (args : Array Value)
  (hw : Region.wanted oi (yielded ops a.tmps) = true) (hop : oi.op = .call { callee := .value (.func f), args := as_, argTypes := ts }) (hargs : as_.map a.eval = args)
  (h : Calls P f args w fun e w' => ∃ v, e = .panicked v ∧ Q (.panic v) a w') : if Region.wanted oi (yielded ops a.tmps) = true then Oper.wp P oi a w K Q else K (a.put N undef) w := by
 rw [if_pos hw]
 have he := enters_ hf hname hb args w
 have hrun : (execOp a.eval oi).run P w = .ok (.enter f args) w := by
  unfold execOp
  simp [hop, resolve, Deferred.ofValue, invoke, Act.eval, hargs, he]
 unfold Oper.wp
 rw [hrun, Oper.upon_enter]
 refine h.mono fun e w'' hh => ?_
 obtain ⟨v, rfl, hk⟩ := hh
 exact hk
theorem goesCLP_ {rest : List Oper} {oi : Oper} {a : Act} {w : World} (N : Option Tmp) (hd : oi.dst = N) (hg : oi.guard = none) {c : Operand} {f : FuncId} {fn : Func} {as_ : Array Operand} {ts : Array TypeId} (caps : Array Value) (hf : P.funcs[f]? = some fn) (hname : (fn.name == "runtime.NumGoroutine") = false) (hb : fn.body.isSome = true) (args : Array Value)
  (hop : oi.op = .call { callee := .value c, args := as_, argTypes := ts }) (hc : a.eval c = .func (.func f) #[] caps) (hargs : as_.map a.eval = args)
  (h : Calls P f (args ++ caps) w fun e w' => ∃ v, e = .panicked v ∧ Q (.panic v) a w') : wpList P ops Q (oi :: rest) a w := by
 refine wpList_plain hg fun K hK => ?_
 have he := enters_ hf hname hb (args ++ caps) w
 have hrun : (execOp a.eval oi).run P w = .ok (.enter f (args ++ caps)) w := by
  unfold execOp
  simp [hop, resolve, Deferred.ofValue, invoke, hc, hargs, he]
 unfold Oper.wp
 rw [hrun, Oper.upon_enter]
 refine h.mono fun e w'' hh => ?_
 obtain ⟨v, rfl, hk⟩ := hh
 exact hk
theorem goesLP_ {rest : List Oper} {oi : Oper} {a : Act} {w : World} (N : Option Tmp) (hd : oi.dst = N) (hg : oi.guard = none) {f : FuncId} {fn : Func} {as_ : Array Operand} {ts : Array TypeId} (hf : P.funcs[f]? = some fn) (hname : (fn.name == "runtime.NumGoroutine") = false) (hb : fn.body.isSome = true) (args : Array Value)
  (hop : oi.op = .call { callee := .value (.func f), args := as_, argTypes := ts }) (hargs : as_.map a.eval = args)
  (h : Calls P f args w fun e w' => ∃ v, e = .panicked v ∧ Q (.panic v) a w') : wpList P ops Q (oi :: rest) a w := by
 refine wpList_plain hg fun K hK => ?_
 have he := enters_ hf hname hb args w
 have hrun : (execOp a.eval oi).run P w = .ok (.enter f args) w := by
  unfold execOp
  simp [hop, resolve, Deferred.ofValue, invoke, Act.eval, hargs, he]
 unfold Oper.wp
 rw [hrun, Oper.upon_enter]
 refine h.mono fun e w'' hh => ?_
 obtain ⟨v, rfl, hk⟩ := hh
 exact hk
end
/-- A number that may fail, behind one that may have no answer. -/
def obind {α β : Type} (x : Option (Except Int α)) (f : α → Option (Except Int β)) : Option (Except Int β) :=
 match x with
 | none => none
 | some (.error c) => some (.error c)
 | some (.ok a) => f a
theorem obind_ok {α β : Type} {x : Option (Except Int α)} {f : α → Option (Except Int β)} {r : β} (h : obind x f = some (.ok r)) : ∃ a, x = some (.ok a) ∧ f a = some (.ok r) := by
 match x, h with
 | some (.ok a), h => exact ⟨a, rfl, h⟩
theorem obind_err {α β : Type} {x : Option (Except Int α)} {f : α → Option (Except Int β)} {c : Int} (h : obind x f = some (.error c)) : x = some (.error c) ∨ ∃ a, x = some (.ok a) ∧ f a = some (.error c) := by
 match x, h with
 | some (.ok a), h => exact .inr ⟨a, rfl, h⟩
 | some (.error c'), h => exact .inl (by simp [obind] at h; rw [h])
def ebind {α β : Type} (x : Except Int α) (f : α → Option (Except Int β)) : Option (Except Int β) := obind (some x) f
theorem ebind_ok {α β : Type} {x : Except Int α} {f : α → Option (Except Int β)} {r : β} (h : ebind x f = some (.ok r)) : ∃ a, x = .ok a ∧ f a = some (.ok r) := by
 obtain ⟨a, h1, h2⟩ := obind_ok h
 exact ⟨a, Option.some.inj h1, h2⟩
theorem ebind_err {α β : Type} {x : Except Int α} {f : α → Option (Except Int β)} {c : Int} (h : ebind x f = some (.error c)) : x = .error c ∨ ∃ a, x = .ok a ∧ f a = some (.error c) := by
 rcases obind_err h with h1 | ⟨a, h1, h2⟩
 ·exact .inl (Option.some.inj h1)
 ·exact .inr ⟨a, Option.some.inj h1, h2⟩
end Go.Proofs.YtgdomnlkafcddaaDoor.Q
