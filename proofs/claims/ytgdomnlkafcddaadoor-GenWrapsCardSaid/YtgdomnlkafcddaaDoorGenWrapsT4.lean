/- Part 4 of the proof for GenWraps: contracts of functions, step by step over the code. -/
import Derived.Test.YtgdomnlkafcddaaDoorGenWrapsT1
import Derived.Test.YtgdomnlkafcddaaDoorGenWrapsT3
import Derived.Test.YtgdomnlkafcddaaDoorGenWrapsT2
namespace Go.Proofs.YtgdomnlkafcddaaDoor.Q
open Go.RowKit Go.Proofs.YtgdomnlkafcddaaDoorW.PrintWords Go.Proofs.YtgdomnlkafcddaaDoorW.PrintLast Go.Proofs.YtgdomnlkafcddaaDoorW.PrintMore
attribute [local go_sem] max2_int min2_int max_two min_two max_three min_three max_four min_four   -- for this text's walks alone
set_option linter.unusedVariables false
set_option linter.unusedSimpArgs false

/-! ### assayerlaw6_GenWraps: function 12 -/
mutual
noncomputable def assayerlaw6_GenWraps.j0 : Nat → Bool → List Int → Bool → Int → Int → Int → List (S63) → Option (Bool)
 | 0, _, _, _, _, _, _, _ => none
 | k + 1, x5, x6, x28, x194000, x194001, x194002, x194003 => if x28 = true then (some x5) else ((gen_Replay.f x194000 x194001 x194002 x194003 x6).bind fun bt200 => ((some (([0] : List Int) : List Int)).bind fun y210 => (if y210.length + x6.length < 17592186044416 then ((gen_Replay.f 5 0 0 (([(⟨x194000, x194001, x194002, x194003⟩ : S63)] : List (S63))) (y210 ++ x6)).bind fun bt216 => ((gen_Replay.f 3 0 0 (([(⟨x194000, x194001, x194002, x194003⟩ : S63)] : List (S63))) x6).bind fun bt226 => (if bt200.2.2.2.isNone = true then (if bt216.2.2.2.isNone = true then ((val_Text.f k bt216.1 bt216.2.1 bt216.2.2.1).bind fun t235 => ((val_Text.f k bt200.1 bt200.2.1 bt200.2.2.1).bind fun t236 => (assayerlaw6_GenWraps.j1 k none bt226.2.2.2 (t235.toList != t236.toList) bt200.1 bt200.2.1 bt200.2.2.1 bt226.1 bt226.2.1 bt226.2.2.1))) else (assayerlaw6_GenWraps.j1 k (some (bt216.2.2.2.getD 0)) bt226.2.2.2 false bt200.1 bt200.2.1 bt200.2.2.1 bt226.1 bt226.2.1 bt226.2.2.1)) else (none)))) else (none))))
noncomputable def assayerlaw6_GenWraps.j1 : Nat → Option Int → Option Int → Bool → Bool → Int → List (S27) → Bool → Int → List (S27) → Option (Bool)
 | 0, _, _, _, _, _, _, _, _, _ => none
 | k + 1, x11, x13, x64, x207000, x207001, x207002, x233000, x233001, x233002 => if x64 = true then (some false) else (if x13.isNone = true then ((val_Text.f k x233000 x233001 x233002).bind fun t238 => ((val_Text.f k x207000 x207001 x207002).bind fun t239 => (if 1 + t239.size ≤ 9223372036854775807 then (if ((⟨#[40]⟩ : ByteArray) ++ t239).size + 1 ≤ 9223372036854775807 then (assayerlaw6_GenWraps.j2 k x11 none (t238.toList != (((⟨#[40]⟩ : ByteArray) ++ t239) ++ (⟨#[41]⟩ : ByteArray)).toList)) else (none)) else (none)))) else (assayerlaw6_GenWraps.j2 k x11 (some (x13.getD 0)) false))
noncomputable def assayerlaw6_GenWraps.j2 : Nat → Option Int → Option Int → Bool → Option (Bool)
 | 0, _, _, _ => none
 | k + 1, x11, x13, x75 => if x75 = true then (some false) else ((assayersame_Error.f x11 4).bind fun t240 => ((assayersame_Told.f x11 x13).bind fun t241 => (if t241 = true then (if x11.isNone = true then (some true) else (some t240)) else (some false))))
end
noncomputable def assayerlaw6_GenWraps.f (k : Nat) (a0_0 : Int) (a0_1 : Int) (a0_2 : Int) (l0_3 : List (S63)) (l1 : List Int) : Option (Bool) := (assayerlaw6_just.f k).bind fun t194 => ((gen_Mend.f a0_0 a0_1 a0_2 l0_3 l1).bind fun bt195 => (if t194 = true then (if bt195.2.isNone = true then (assayerlaw6_GenWraps.j0 k t194 bt195.1 false a0_0 a0_1 a0_2 l0_3) else (assayerlaw6_GenWraps.j0 k t194 bt195.1 true a0_0 a0_1 a0_2 l0_3)) else (assayerlaw6_GenWraps.j0 k t194 bt195.1 true a0_0 a0_1 a0_2 l0_3)))
def assayerlaw6_GenWraps.T6 : Bool × List (List Nat × List Nat) := (true, [([], []), ([0], [0]), ([1], [1]), ([], []), ([], []), ([3, 4], [3, 4]), ([2, 5, 5], [2, 5]), ([6], [6]), ([7], [7]), ([7], [7]), ([], []), ([10, 8, 6, 0, 1, 2, 3, 4, 5, 6, 7, 8, 10], [8, 10]), ([9, 11, 0, 1, 2, 3, 4, 5, 6, 7, 8, 9, 10, 11], [9])])
def assayerlaw6_GenWraps.B6 : List Nat := [0, 1, 3, 0, 0, 24, 63, 127, 255, 255, 0, 1535, 4095]
theorem assayerlaw6_GenWraps.tab6 : rtab .any (opsOf Tryd.f12 6) = assayerlaw6_GenWraps.T6 := by kernel_rfl
theorem assayerlaw6_GenWraps.bits6 : waitsOk assayerlaw6_GenWraps.T6.2 assayerlaw6_GenWraps.B6 = true := by kernel_rfl
def assayerlaw6_GenWraps.T10 : Bool × List (List Nat × List Nat) := (true, [([], []), ([0], [0]), ([1], [1]), ([2], [2]), ([3, 2, 2], [2, 3]), ([2], [2]), ([5, 4, 2], [2, 5]), ([4, 6, 2], [2, 4, 6]), ([2, 7], [2, 7])])
def assayerlaw6_GenWraps.B10 : List Nat := [0, 1, 3, 7, 15, 7, 63, 127, 255]
theorem assayerlaw6_GenWraps.tab10 : rtab .any (opsOf Tryd.f12 10) = assayerlaw6_GenWraps.T10 := by kernel_rfl
theorem assayerlaw6_GenWraps.bits10 : waitsOk assayerlaw6_GenWraps.T10.2 assayerlaw6_GenWraps.B10 = true := by kernel_rfl
def assayerlaw6_GenWraps.T12 : Bool × List (List Nat × List Nat) := (true, [([], []), ([0], [0]), ([1], [1]), ([2], [2]), ([3, 2, 2], [2, 3]), ([2], [2]), ([5, 4, 2], [2, 5]), ([6, 2], [2, 6]), ([7, 2], [2, 7]), ([4, 8, 2], [2, 4, 8]), ([2, 9], [2, 9])])
def assayerlaw6_GenWraps.B12 : List Nat := [0, 1, 3, 7, 15, 7, 63, 127, 255, 511, 1023]
theorem assayerlaw6_GenWraps.tab12 : rtab .any (opsOf Tryd.f12 12) = assayerlaw6_GenWraps.T12 := by kernel_rfl
theorem assayerlaw6_GenWraps.bits12 : waitsOk assayerlaw6_GenWraps.T12.2 assayerlaw6_GenWraps.B12 = true := by kernel_rfl
set_option maxHeartbeats 8000000 in
set_option maxRecDepth 100000 in
theorem assayerlaw6_GenWraps.calls (k : Nat) (a0_0 : Int) (a0_1 : Int) (a0_2 : Int) (A0_3 : Option Addr) (c0_3 : Nat) (l0_3 : List (S63)) (A1 : Option Addr) (c1 : Nat) (l1 : List Int) (r : Bool) (w : World) (hr0_3 : Kd.C k63 w A0_3 l0_3.length l0_3) (hc0_3 : l0_3.length ≤ c0_3) (hr1 : Kd.C (Kd.int .i64) w A1 l1.length l1) (hc1 : l1.length ≤ c1) (h : assayerlaw6_GenWraps.f k a0_0 a0_1 a0_2 l0_3 l1 = some r) (hGErr : GErr w) (hGPow : GPow w) :
  Calls Tryd.prog 12 #[.agg #[.int .i64 a0_0, .int .i64 a0_1, .int .i64 a0_2, .slice A0_3 l0_3.length c0_3], .slice A1 l1.length c1] w fun e w' => e = .returned (.bool r) ∧ Below w.heap.size w w' := by
 have HGErr := Aside0.mk hGErr
 clear hGErr
 have HGPow := Aside0.mk hGPow
 clear hGPow
 have hu63 := Tryd.underlying63
 have hu27 := Tryd.underlying27
 have hu30 := Tryd.underlying30
 have hu66 := Tryd.underlying66
 have HR0_3 := Aside0.mk hr0_3
 have HC0_3 := Aside0.mk hc0_3
 clear hr0_3 hc0_3
 have HR1 := Aside0.mk hr1
 have HC1 := Aside0.mk hc1
 clear hr1 hc1
 have HB := Aside0.mk (Below.refl w.heap.size w)
 have H : ((assayerlaw6_just.f k).bind fun t194 => ((gen_Mend.f a0_0 a0_1 a0_2 l0_3 l1).bind fun bt195 => (if t194 = true then (if bt195.2.isNone = true then (assayerlaw6_GenWraps.j0 k t194 bt195.1 false a0_0 a0_1 a0_2 l0_3) else (assayerlaw6_GenWraps.j0 k t194 bt195.1 true a0_0 a0_1 a0_2 l0_3)) else (assayerlaw6_GenWraps.j0 k t194 bt195.1 true a0_0 a0_1 a0_2 l0_3)))) = some r := h
 clear h
 replace H := Option.bind_eq_some_iff.mp H
 obtain ⟨t194, A30, H⟩ := H
 replace H : ((gen_Mend.f a0_0 a0_1 a0_2 l0_3 l1).bind fun bt195 => (if t194 = true then (if bt195.2.isNone = true then (assayerlaw6_GenWraps.j0 k t194 bt195.1 false a0_0 a0_1 a0_2 l0_3) else (assayerlaw6_GenWraps.j0 k t194 bt195.1 true a0_0 a0_1 a0_2 l0_3)) else (assayerlaw6_GenWraps.j0 k t194 bt195.1 true a0_0 a0_1 a0_2 l0_3))) = some r := H
 have A3 := Aside0.mk A30
 clear A30
 replace H := Option.bind_eq_some_iff.mp H
 obtain ⟨⟨t195, t198⟩, A40, H⟩ := H
 replace H : (if t194 = true then (if t198.isNone = true then (assayerlaw6_GenWraps.j0 k t194 t195 false a0_0 a0_1 a0_2 l0_3) else (assayerlaw6_GenWraps.j0 k t194 t195 true a0_0 a0_1 a0_2 l0_3)) else (assayerlaw6_GenWraps.j0 k t194 t195 true a0_0 a0_1 a0_2 l0_3)) = some r := H
 have A4 := Aside0.mk A40
 clear A40
 have HC5 := Aside0.mk H
 clear H
 go_enter Tryd.func12, Tryd.ntmps12
 go_upto_region 3 with (first | ((with_reducible refine gate_dst (N := 2) rfl ?_); refine box_event ?hg (N := 2) ?hd (cs := #[.int .i64 a0_0, .int .i64 a0_1, .int .i64 a0_2, .slice A0_3 l0_3.length c0_3]) (t := 63) ?hr ?_; (case hd => rfl); (case hg => rfl); (case hr => first | (go_simp; done) | (go_simp; rfl)); intro gb193 hg w6 hbox hb; have n0_ := Aside0.mk (below_step (by repeat (first | (with_reducible first | exact HB.out | apply below_alloc | apply pw_below_drewN | apply below_drew1) | exact HB.out)) hb); have n1_ := Aside0.mk (hbox); have n2_ := Aside0.mk ((by rw [hg]; exact (below_size (by repeat (first | (with_reducible first | exact HB.out | apply below_alloc | apply pw_below_drewN | apply below_drew1) | exact HB.out))) : w.heap.size ≤ gb193)); have n3_ := Aside0.mk ((by rw [hg]; exact (below_size (by repeat (first | (with_reducible first | exact HB.out | apply below_alloc | apply pw_below_drewN | apply below_drew1) | exact HB.out))) : w.heap.size ≤ gb193)); clear HB; have HB := n0_; have BK193 := n1_; have GW193 := n2_; have GE193 := n3_; clear n0_ n1_ n2_ n3_; clear hb hbox hg) | ((with_reducible refine gate_callee (f := 48) rfl ?_); refine goesL_ (some 16) rfl rfl Tryd.func48 (by kernel_rfl) rfl #[] rfl (by (try simp only [List.map_toArray, List.map_cons, List.map_nil]); first | done | rfl | (simp only [List.length_drop, List.length_take]; rfl)) ?_; (with_reducible refine (assayerlaw6_just.calls k  t194 _ A3.out).mono ?_); rintro e w7 ⟨rfl, hb⟩; refine ⟨_, rfl, ?_⟩; have n0_ := Aside0.mk (blk_below (g := gb193) (o := .cells #[.int .i64 a0_0, .int .i64 a0_1, .int .i64 a0_2, .slice A0_3 l0_3.length c0_3] 63 (0, 0)) BK193.out hb); have n1_ := Aside0.mk (below_step (by repeat (first | (with_reducible first | exact HB.out | apply below_alloc | apply pw_below_drewN | apply below_drew1 | refine below_set ?_ GE193.out) | exact HB.out)) hb); clear BK193; clear HB; have BK193 := n0_; have HB := n1_; clear n0_ n1_; (try clear hb); (try clear hb2); (try clear hk); (try clear hi); have hcz8_0 : w7.cell? ⟨gb193, 0, none⟩ = some (.int .i64 a0_0) := (blk_cell BK193.out 0).trans rfl; have hcz8_1 : w7.cell? ⟨gb193, 1, none⟩ = some (.int .i64 a0_1) := (blk_cell BK193.out 1).trans rfl; have hcz8_2 : w7.cell? ⟨gb193, 2, none⟩ = some (.int .i64 a0_2) := (blk_cell BK193.out 2).trans rfl; have hcz8_3 : w7.cell? ⟨gb193, 3, none⟩ = some (.slice A0_3 l0_3.length c0_3) := (blk_cell BK193.out 3).trans rfl; have hfz8_0 := blk_frozen BK193.out 0; have hfz8_1 := blk_frozen BK193.out 1; have hfz8_2 := blk_frozen BK193.out 2; have hfz8_3 := blk_frozen BK193.out 3) | ((with_reducible refine gate_callee (f := 43) rfl ?_); refine goesL_ (some 20) rfl rfl Tryd.func43 (by kernel_rfl) rfl #[.agg #[.int .i64 a0_0, .int .i64 a0_1, .int .i64 a0_2, .slice A0_3 l0_3.length c0_3], .slice A1 l1.length c1] rfl (by (try simp only [List.map_toArray, List.map_cons, List.map_nil]); first | done | rfl | (simp only [List.length_drop, List.length_take]; rfl)) ?_; (with_reducible refine (gen_Mend.calls a0_0 a0_1 a0_2 _ _ l0_3 _ _ l1 t195 t198 _ ?side1 ?side2 ?side3 ?side4 A4.out).mono ?_); (case side1 => repeat (first | exact (Kd.C_below HR0_3.out HB.out) | (with_reducible refine Kd.C_alloc ?_ _) | (with_reducible refine Kd.C_drewN ?_ _) | (with_reducible refine Kd.C_drew ?_))); (case side2 => exact HC0_3.out); (case side3 => repeat (first | exact (Kd.C_below HR1.out HB.out) | (with_reducible refine Kd.C_alloc ?_ _) | (with_reducible refine Kd.C_drewN ?_ _) | (with_reducible refine Kd.C_drew ?_))); (case side4 => exact HC1.out); rintro e w9 ⟨v196, rfl, ho0, hb⟩; refine ⟨_, rfl, ?_⟩; have n0_ := Aside0.mk (Kd.R_lower ho0 (below_size (by repeat (first | (with_reducible first | exact HB.out | apply below_alloc | apply pw_below_drewN | apply below_drew1 | refine below_set ?_ GE193.out) | exact HB.out)))); have n1_ := Aside0.mk (blk_below (g := gb193) (o := .cells #[.int .i64 a0_0, .int .i64 a0_1, .int .i64 a0_2, .slice A0_3 l0_3.length c0_3] 63 (0, 0)) BK193.out hb); have n2_ := Aside0.mk (below_step (by repeat (first | (with_reducible first | exact HB.out | apply below_alloc | apply pw_below_drewN | apply below_drew1 | refine below_set ?_ GE193.out) | exact HB.out)) hb); clear BK193; clear HB; have HO197 := n0_; have BK193 := n1_; have HB := n2_; clear n0_ n1_ n2_; (try clear hb); (try clear hb2); (try clear hk); (try clear hi); (try clear ho0); (try simp only [errW_none, errW_some])))
 (try simp only [Act.put, List.setIfInBounds_toArray, List.set_cons_zero, List.set_cons_succ])
 go_cut [28] (fun v28 wc => ∃ (kq : Nat) (x28_4 : Bool), v28 = .bool x28_4 ∧ Aside0 (assayerlaw6_GenWraps.j0 kq t194 t195 x28_4 a0_0 a0_1 a0_2 l0_3 = some r) ∧ Aside0 (kq ≤ k) ∧ Aside0 (Kd.R (Kd.int .i64) 3 wc w.heap.size (fun _ => True) v196 t195) ∧ Aside0 (wc.heap[gb193]? = some (.cells #[.int .i64 a0_0, .int .i64 a0_1, .int .i64 a0_2, (.slice A0_3 l0_3.length c0_3)] 63 (0, 0))) ∧ Aside0 (Below w.heap.size w wc))
 case first =>
  have H := HC5.out
  clear HC5
  by_cases c10 : t194 = true
  ·subst c10
   have H1 : (if t198.isNone = true then (assayerlaw6_GenWraps.j0 k true t195 false a0_0 a0_1 a0_2 l0_3) else (assayerlaw6_GenWraps.j0 k true t195 true a0_0 a0_1 a0_2 l0_3)) = some r := by rw [if_pos rfl] at H; exact H
   clear H
   have H := H1
   clear H1
   rcases t198 with _ | q199
   ·have H1 : (assayerlaw6_GenWraps.j0 k true t195 false a0_0 a0_1 a0_2 l0_3) = some r := by rw [if_pos (show (none : Option Int).isNone = true by rfl)] at H; exact H
    clear H
    have H := H1
    clear H1
    try simp only [errW_none, errW_some]
    have H' := Aside0.mk H
    clear H
    go_wp2
    go_meet
    case rel => exact ⟨_, (false), (by first | rfl | (simp; done) | (simp [*]; done)), H', ⟨by first | omega | exact Nat.le_refl _⟩, ⟨by (with_reducible repeat (first | apply Kd.R_alloc | apply Kd.R_drewN | apply Kd.R_drew)); exact HO197.out⟩, ⟨by (with_reducible repeat (first | refine blk_drewN ?_ _ | refine blk_drew ?_ | refine blk_alloc ?_ _)); exact BK193.out⟩, ⟨by repeat (first | (with_reducible first | exact HB.out | apply below_alloc | apply pw_below_drewN | apply below_drew1 | refine below_set ?_ GE193.out) | exact HB.out)⟩⟩
   ·have H1 : (assayerlaw6_GenWraps.j0 k true t195 true a0_0 a0_1 a0_2 l0_3) = some r := by rw [if_neg (show ¬ (some q199).isNone = true by simp)] at H; exact H
    clear H
    have H := H1
    clear H1
    try simp only [errW_none, errW_some]
    have H' := Aside0.mk H
    clear H
    go_wp2
    go_meet
    case rel => exact ⟨_, (true), (by first | rfl | (simp; done) | (simp [*]; done)), H', ⟨by first | omega | exact Nat.le_refl _⟩, ⟨by (with_reducible repeat (first | apply Kd.R_alloc | apply Kd.R_drewN | apply Kd.R_drew)); exact HO197.out⟩, ⟨by (with_reducible repeat (first | refine blk_drewN ?_ _ | refine blk_drew ?_ | refine blk_alloc ?_ _)); exact BK193.out⟩, ⟨by repeat (first | (with_reducible first | exact HB.out | apply below_alloc | apply pw_below_drewN | apply below_drew1 | refine below_set ?_ GE193.out) | exact HB.out)⟩⟩
  ·replace c10 := Bool.eq_false_iff.mpr c10
   subst c10
   have H1 : (assayerlaw6_GenWraps.j0 k false t195 true a0_0 a0_1 a0_2 l0_3) = some r := by rw [if_neg (show ¬ (false = true) by decide)] at H; exact H
   clear H
   have H := H1
   clear H1
   have H' := Aside0.mk H
   clear H
   go_wp2
   go_meet
   case rel => exact ⟨_, (true), (by first | rfl | (simp; done) | (simp [*]; done)), H', ⟨by first | omega | exact Nat.le_refl _⟩, ⟨by (with_reducible repeat (first | apply Kd.R_alloc | apply Kd.R_drewN | apply Kd.R_drew)); exact HO197.out⟩, ⟨by (with_reducible repeat (first | refine blk_drewN ?_ _ | refine blk_drew ?_ | refine blk_alloc ?_ _)); exact BK193.out⟩, ⟨by repeat (first | (with_reducible first | exact HB.out | apply below_alloc | apply pw_below_drewN | apply below_drew1 | refine below_set ?_ GE193.out) | exact HB.out)⟩⟩
 case rest =>
  clear HC5
  try clear c1
  try clear q1
  try clear p2
  try clear c4
  try clear c10
  try clear hcz8_0
  try clear hcz8_1
  try clear hcz8_2
  try clear hcz8_3
  try clear hfz8_0
  try clear hfz8_1
  try clear hfz8_2
  try clear hfz8_3
  try clear q199
  obtain ⟨kq, x28_4, rfl, HA, HJ4, HO_6, BK193, HB⟩ := hcut
  cases kq with
  | zero => exact absurd HA.out (by simp [assayerlaw6_GenWraps.j0])
  | succ kj4 =>
   have H := HA.out
   clear HA
   simp only [assayerlaw6_GenWraps.j0] at H
   by_cases c11 : x28_4 = true
   ·subst c11
    have H1 : (some t194) = some r := by rw [if_pos rfl] at H; exact H
    clear H
    have H := H1
    clear H1
    obtain rfl := Option.some.inj H
    go_wp2
    go_ret
    exact ⟨by first | rfl | (simp [errW_none, errW_some] <;> rfl) | (simp [*, errW_none, errW_some] <;> rfl), by repeat (first | (with_reducible first | exact HB.out | apply below_alloc | apply pw_below_drewN | apply below_drew1 | refine below_set ?_ GE193.out) | exact HB.out)⟩
   ·replace c11 := Bool.eq_false_iff.mpr c11
    subst c11
    have H1 : ((gen_Replay.f a0_0 a0_1 a0_2 l0_3 t195).bind fun bt200 => ((some (([0] : List Int) : List Int)).bind fun y210 => (if y210.length + t195.length < 17592186044416 then ((gen_Replay.f 5 0 0 (([(⟨a0_0, a0_1, a0_2, l0_3⟩ : S63)] : List (S63))) (y210 ++ t195)).bind fun bt216 => ((gen_Replay.f 3 0 0 (([(⟨a0_0, a0_1, a0_2, l0_3⟩ : S63)] : List (S63))) t195).bind fun bt226 => (if bt200.2.2.2.isNone = true then (if bt216.2.2.2.isNone = true then ((val_Text.f kj4 bt216.1 bt216.2.1 bt216.2.2.1).bind fun t235 => ((val_Text.f kj4 bt200.1 bt200.2.1 bt200.2.2.1).bind fun t236 => (assayerlaw6_GenWraps.j1 kj4 none bt226.2.2.2 (t235.toList != t236.toList) bt200.1 bt200.2.1 bt200.2.2.1 bt226.1 bt226.2.1 bt226.2.2.1))) else (assayerlaw6_GenWraps.j1 kj4 (some (bt216.2.2.2.getD 0)) bt226.2.2.2 false bt200.1 bt200.2.1 bt200.2.2.1 bt226.1 bt226.2.1 bt226.2.2.1)) else (none)))) else (none)))) = some r := by rw [if_neg (show ¬ (false = true) by decide)] at H; exact H
    clear H
    have H := H1
    clear H1
    replace H := Option.bind_eq_some_iff.mp H
    obtain ⟨⟨t200, t201, t202, t205⟩, A120, H⟩ := H
    replace H : ((some (([0] : List Int) : List Int)).bind fun y210 => (if y210.length + t195.length < 17592186044416 then ((gen_Replay.f 5 0 0 (([(⟨a0_0, a0_1, a0_2, l0_3⟩ : S63)] : List (S63))) (y210 ++ t195)).bind fun bt216 => ((gen_Replay.f 3 0 0 (([(⟨a0_0, a0_1, a0_2, l0_3⟩ : S63)] : List (S63))) t195).bind fun bt226 => (if t205.isNone = true then (if bt216.2.2.2.isNone = true then ((val_Text.f kj4 bt216.1 bt216.2.1 bt216.2.2.1).bind fun t235 => ((val_Text.f kj4 t200 t201 t202).bind fun t236 => (assayerlaw6_GenWraps.j1 kj4 none bt226.2.2.2 (t235.toList != t236.toList) t200 t201 t202 bt226.1 bt226.2.1 bt226.2.2.1))) else (assayerlaw6_GenWraps.j1 kj4 (some (bt216.2.2.2.getD 0)) bt226.2.2.2 false t200 t201 t202 bt226.1 bt226.2.1 bt226.2.2.1)) else (none)))) else (none))) = some r := H
    have A12 := Aside0.mk A120
    clear A120
    obtain ⟨y207, hy207⟩ : ∃ y_ : List (S63), y_ = (([(⟨a0_0, a0_1, a0_2, l0_3⟩ : S63)] : List (S63))) := ⟨_, rfl⟩
    replace H : ((some (([0] : List Int) : List Int)).bind fun y210 => (if y210.length + t195.length < 17592186044416 then ((gen_Replay.f 5 0 0 y207 (y210 ++ t195)).bind fun bt216 => ((gen_Replay.f 3 0 0 (([(⟨a0_0, a0_1, a0_2, l0_3⟩ : S63)] : List (S63))) t195).bind fun bt226 => (if t205.isNone = true then (if bt216.2.2.2.isNone = true then ((val_Text.f kj4 bt216.1 bt216.2.1 bt216.2.2.1).bind fun t235 => ((val_Text.f kj4 t200 t201 t202).bind fun t236 => (assayerlaw6_GenWraps.j1 kj4 none bt226.2.2.2 (t235.toList != t236.toList) t200 t201 t202 bt226.1 bt226.2.1 bt226.2.2.1))) else (assayerlaw6_GenWraps.j1 kj4 (some (bt216.2.2.2.getD 0)) bt226.2.2.2 false t200 t201 t202 bt226.1 bt226.2.1 bt226.2.2.1)) else (none)))) else (none))) = some r := by first | (rw [hy207]; with_reducible exact H) | (have H2_ := (Option.bind_some _ _).symm.trans H; rw [hy207]; with_reducible exact H2_) | (have H2_ := (Option.bind_some _ _).symm.trans H; with_reducible exact H2_) | with_reducible exact H | (rw [hy207]; exact H) | exact H
    have Ny207 := Aside0.mk hy207
    clear hy207
    obtain ⟨y210, hy210⟩ : ∃ y_ : List Int, y_ = (([0] : List Int)) := ⟨_, rfl⟩
    replace H : (if y210.length + t195.length < 17592186044416 then ((gen_Replay.f 5 0 0 y207 (y210 ++ t195)).bind fun bt216 => ((gen_Replay.f 3 0 0 (([(⟨a0_0, a0_1, a0_2, l0_3⟩ : S63)] : List (S63))) t195).bind fun bt226 => (if t205.isNone = true then (if bt216.2.2.2.isNone = true then ((val_Text.f kj4 bt216.1 bt216.2.1 bt216.2.2.1).bind fun t235 => ((val_Text.f kj4 t200 t201 t202).bind fun t236 => (assayerlaw6_GenWraps.j1 kj4 none bt226.2.2.2 (t235.toList != t236.toList) t200 t201 t202 bt226.1 bt226.2.1 bt226.2.2.1))) else (assayerlaw6_GenWraps.j1 kj4 (some (bt216.2.2.2.getD 0)) bt226.2.2.2 false t200 t201 t202 bt226.1 bt226.2.1 bt226.2.2.1)) else (none)))) else (none)) = some r := by first | (rw [hy210]; with_reducible exact H) | (have H2_ := (Option.bind_some _ _).symm.trans H; rw [hy210]; with_reducible exact H2_) | (have H2_ := (Option.bind_some _ _).symm.trans H; with_reducible exact H2_) | with_reducible exact H | (rw [hy210]; exact H) | exact H
    have Ny210 := Aside0.mk hy210
    clear hy210
    by_cases c13 : y210.length + t195.length < 17592186044416
    ·rw [if_pos c13] at H
     have LMc13 := Aside0.mk c13
     clear c13
     obtain ⟨y213, hy213⟩ : ∃ y_ : List Int, y_ = (y210 ++ t195) := ⟨_, rfl⟩
     replace H : ((gen_Replay.f 5 0 0 y207 y213).bind fun bt216 => ((gen_Replay.f 3 0 0 (([(⟨a0_0, a0_1, a0_2, l0_3⟩ : S63)] : List (S63))) t195).bind fun bt226 => (if t205.isNone = true then (if bt216.2.2.2.isNone = true then ((val_Text.f kj4 bt216.1 bt216.2.1 bt216.2.2.1).bind fun t235 => ((val_Text.f kj4 t200 t201 t202).bind fun t236 => (assayerlaw6_GenWraps.j1 kj4 none bt226.2.2.2 (t235.toList != t236.toList) t200 t201 t202 bt226.1 bt226.2.1 bt226.2.2.1))) else (assayerlaw6_GenWraps.j1 kj4 (some (bt216.2.2.2.getD 0)) bt226.2.2.2 false t200 t201 t202 bt226.1 bt226.2.1 bt226.2.2.1)) else (none)))) = some r := by first | (rw [hy213]; with_reducible exact H) | (have H2_ := (Option.bind_some _ _).symm.trans H; rw [hy213]; with_reducible exact H2_) | (have H2_ := (Option.bind_some _ _).symm.trans H; with_reducible exact H2_) | with_reducible exact H | (rw [hy213]; exact H) | exact H
     have Ny213 := Aside0.mk hy213
     clear hy213
     replace H := Option.bind_eq_some_iff.mp H
     obtain ⟨⟨t216, t217, t218, t221⟩, A140, H⟩ := H
     replace H : ((gen_Replay.f 3 0 0 (([(⟨a0_0, a0_1, a0_2, l0_3⟩ : S63)] : List (S63))) t195).bind fun bt226 => (if t205.isNone = true then (if t221.isNone = true then ((val_Text.f kj4 t216 t217 t218).bind fun t235 => ((val_Text.f kj4 t200 t201 t202).bind fun t236 => (assayerlaw6_GenWraps.j1 kj4 none bt226.2.2.2 (t235.toList != t236.toList) t200 t201 t202 bt226.1 bt226.2.1 bt226.2.2.1))) else (assayerlaw6_GenWraps.j1 kj4 (some (t221.getD 0)) bt226.2.2.2 false t200 t201 t202 bt226.1 bt226.2.1 bt226.2.2.1)) else (none))) = some r := H
     have A14 := Aside0.mk A140
     clear A140
     obtain ⟨y223, hy223⟩ : ∃ y_ : List (S63), y_ = (([(⟨a0_0, a0_1, a0_2, l0_3⟩ : S63)] : List (S63))) := ⟨_, rfl⟩
     replace H : ((gen_Replay.f 3 0 0 y223 t195).bind fun bt226 => (if t205.isNone = true then (if t221.isNone = true then ((val_Text.f kj4 t216 t217 t218).bind fun t235 => ((val_Text.f kj4 t200 t201 t202).bind fun t236 => (assayerlaw6_GenWraps.j1 kj4 none bt226.2.2.2 (t235.toList != t236.toList) t200 t201 t202 bt226.1 bt226.2.1 bt226.2.2.1))) else (assayerlaw6_GenWraps.j1 kj4 (some (t221.getD 0)) bt226.2.2.2 false t200 t201 t202 bt226.1 bt226.2.1 bt226.2.2.1)) else (none))) = some r := by first | (rw [hy223]; with_reducible exact H) | (have H2_ := (Option.bind_some _ _).symm.trans H; rw [hy223]; with_reducible exact H2_) | (have H2_ := (Option.bind_some _ _).symm.trans H; with_reducible exact H2_) | with_reducible exact H | (rw [hy223]; exact H) | exact H
     have Ny223 := Aside0.mk hy223
     clear hy223
     replace H := Option.bind_eq_some_iff.mp H
     obtain ⟨⟨t226, t227, t228, t231⟩, A150, H⟩ := H
     replace H : (if t205.isNone = true then (if t221.isNone = true then ((val_Text.f kj4 t216 t217 t218).bind fun t235 => ((val_Text.f kj4 t200 t201 t202).bind fun t236 => (assayerlaw6_GenWraps.j1 kj4 none t231 (t235.toList != t236.toList) t200 t201 t202 t226 t227 t228))) else (assayerlaw6_GenWraps.j1 kj4 (some (t221.getD 0)) t231 false t200 t201 t202 t226 t227 t228)) else (none)) = some r := H
     have A15 := Aside0.mk A150
     clear A150
     rcases t205 with _ | q233
     ·have H1 : (if t221.isNone = true then ((val_Text.f kj4 t216 t217 t218).bind fun t235 => ((val_Text.f kj4 t200 t201 t202).bind fun t236 => (assayerlaw6_GenWraps.j1 kj4 none t231 (t235.toList != t236.toList) t200 t201 t202 t226 t227 t228))) else (assayerlaw6_GenWraps.j1 kj4 (some (t221.getD 0)) t231 false t200 t201 t202 t226 t227 t228)) = some r := by rw [if_pos (show (none : Option Int).isNone = true by rfl)] at H; exact H
      clear H
      have H := H1
      clear H1
      try simp only [errW_none, errW_some]
      have HC16 := Aside0.mk H
      clear H
      have hcz17_0 : wc.cell? ⟨gb193, 0, none⟩ = some (.int .i64 a0_0) := (blk_cell BK193.out 0).trans rfl
      have hcz17_1 : wc.cell? ⟨gb193, 1, none⟩ = some (.int .i64 a0_1) := (blk_cell BK193.out 1).trans rfl
      have hcz17_2 : wc.cell? ⟨gb193, 2, none⟩ = some (.int .i64 a0_2) := (blk_cell BK193.out 2).trans rfl
      have hcz17_3 : wc.cell? ⟨gb193, 3, none⟩ = some (.slice A0_3 l0_3.length c0_3) := (blk_cell BK193.out 3).trans rfl
      have hfz17_0 := blk_frozen BK193.out 0
      have hfz17_1 := blk_frozen BK193.out 1
      have hfz17_2 := blk_frozen BK193.out 2
      have hfz17_3 := blk_frozen BK193.out 3
      obtain ⟨Ao18, co18, eo18⟩ := Kd.R_slice HO_6.out
      subst eo18
      try go_wp2_with (first | ((with_reducible refine gate_callee (f := 44) rfl ?_); refine goesL_ (some 33) rfl rfl Tryd.func44 (by kernel_rfl) rfl #[.agg #[.int .i64 a0_0, .int .i64 a0_1, .int .i64 a0_2, .slice A0_3 l0_3.length c0_3], .slice Ao18 t195.length co18] rfl (by (try simp only [List.map_toArray, List.map_cons, List.map_nil]); first | done | rfl | (simp only [List.length_drop, List.length_take]; rfl)) ?_; (with_reducible refine (gen_Replay.calls a0_0 a0_1 a0_2 _ _ l0_3 _ _ t195 t200 t201 t202 none _ ?side1 ?side2 ?side3 ?side4 A12.out).mono ?_); (case side1 => repeat (first | exact (Kd.C_below HR0_3.out HB.out) | (with_reducible refine Kd.C_alloc ?_ _) | (with_reducible refine Kd.C_drewN ?_ _) | (with_reducible refine Kd.C_drew ?_))); (case side2 => exact HC0_3.out); (case side3 => repeat (first | exact (Kd.R_reads' HO_6.out).2.2 | (with_reducible refine Kd.C_alloc ?_ _) | (with_reducible refine Kd.C_drewN ?_ _) | (with_reducible refine Kd.C_drew ?_))); (case side4 => exact (Kd.R_reads' HO_6.out).2.1); rintro e w19 ⟨v203, rfl, ho0, hb⟩; refine ⟨_, rfl, ?_⟩; have n0_ := Aside0.mk (Kd.R_below HO_6.out hb); have n1_ := Aside0.mk (Kd.R_lower ho0 (below_size HB.out)); have n2_ := Aside0.mk (blk_below (g := gb193) (o := .cells #[.int .i64 a0_0, .int .i64 a0_1, .int .i64 a0_2, .slice A0_3 l0_3.length c0_3] 63 (0, 0)) BK193.out hb); have n3_ := Aside0.mk (below_step HB.out hb); clear HO_6; clear BK193; clear HB; have HO_6 := n0_; have HO204 := n1_; have BK193 := n2_; have HB := n3_; clear n0_ n1_ n2_ n3_; (try clear hb); (try clear hb2); (try clear hk); (try clear hi); (try clear ho0); (try simp only [errW_none, errW_some])) | ((with_reducible refine gate_dst (N := 8) rfl ?_); refine box_event ?hg (N := 8) ?hd (cs := #[.bool false, .int .i64 0, .slice none 0 0]) (t := 27) ?hr ?_; (case hd => rfl); (case hg => rfl); (case hr => first | (go_simp; done) | (go_simp; rfl)); intro gb206 hg w20 hbox hb; have n0_ := Aside0.mk (Kd.R_below HO_6.out hb); have n1_ := Aside0.mk (Kd.R_below (Kd.R_elderB HO204.out gb206 (Nat.le_of_eq hg.symm)) hb); have n2_ := Aside0.mk (blk_below (g := gb193) (o := .cells #[.int .i64 a0_0, .int .i64 a0_1, .int .i64 a0_2, .slice A0_3 l0_3.length c0_3] 63 (0, 0)) BK193.out hb); have n3_ := Aside0.mk (below_step HB.out hb); have n4_ := Aside0.mk (hbox); have n5_ := Aside0.mk ((by rw [hg]; exact (below_size HB.out) : w.heap.size ≤ gb206)); have n6_ := Aside0.mk ((by rw [hg]; exact (below_size HB.out) : w.heap.size ≤ gb206)); have n7_ := Aside0.mk ((by rw [hg]; exact Nat.ne_of_lt (blk_lt (g := gb193) (o := .cells #[.int .i64 a0_0, .int .i64 a0_1, .int .i64 a0_2, .slice A0_3 l0_3.length c0_3] 63 (0, 0)) BK193.out) : gb193 ≠ gb206)); have n8_ := Aside0.mk ((by rw [hg]; exact Nat.ne_of_gt (blk_lt (g := gb193) (o := .cells #[.int .i64 a0_0, .int .i64 a0_1, .int .i64 a0_2, .slice A0_3 l0_3.length c0_3] 63 (0, 0)) BK193.out) : gb206 ≠ gb193)); clear HO_6; clear HO204; clear BK193; clear HB; have HO_6 := n0_; have HO204 := n1_; have BK193 := n2_; have HB := n3_; have BK206 := n4_; have GW206 := n5_; have GE206 := n6_; have NB193_206 := n7_; have NB206_193 := n8_; clear n0_ n1_ n2_ n3_ n4_ n5_ n6_ n7_ n8_; clear hb hbox hg; have hnb21 := NB206_193.out; have hnc21 := NB193_206.out; have hcz22_0 : w20.cell? ⟨gb206, 0, none⟩ = some (.bool false) := (blk_cell BK206.out 0).trans rfl; have hcz22_1 : w20.cell? ⟨gb206, 1, none⟩ = some (.int .i64 0) := (blk_cell BK206.out 1).trans rfl; have hcz22_2 : w20.cell? ⟨gb206, 2, none⟩ = some (.slice none 0 0) := (blk_cell BK206.out 2).trans rfl; have hfz22_0 := blk_frozen BK206.out 0; have hfz22_1 := blk_frozen BK206.out 1; have hfz22_2 := blk_frozen BK206.out 2; obtain ⟨Ao23, co23, eo23⟩ := Kd.R_slice HO204.out; subst eo23))
      have n0_ : Aside0 (Kd.R (Kd.int .i64) 3 (((w20.setCell ⟨gb206, 0, none⟩ (.bool t200)).setCell ⟨gb206, 1, none⟩ (.int .i64 t201)).setCell ⟨gb206, 2, none⟩ (.slice Ao23 t202.length co23)) w.heap.size (fun _ => True) (.slice Ao18 t195.length co18) t195) := ⟨by (with_reducible repeat (first | apply Kd.R_alloc | apply Kd.R_drewN | apply Kd.R_drew)); exact Kd.R_mono (Kd.R_far (p := ⟨gb206, 2, none⟩) (Kd.R_far (p := ⟨gb206, 1, none⟩) (Kd.R_far (p := ⟨gb206, 0, none⟩) (Kd.R_types HO_6.out BK206.out (by decide)) (fun _ hk => hk.2) (.bool t200)) (fun _ hk => hk.2) (.int .i64 t201)) (fun _ hk => hk.2) (.slice Ao23 t202.length co23)) (fun _ hk => trivial)⟩
      have n1_ : Aside0 (Kd.R k27 27 (((w20.setCell ⟨gb206, 0, none⟩ (.bool t200)).setCell ⟨gb206, 1, none⟩ (.int .i64 t201)).setCell ⟨gb206, 2, none⟩ (.slice Ao23 t202.length co23)) w.heap.size (fun k_ => k_ ≠ gb206) (.slice Ao23 t202.length co23) t202) := ⟨by (with_reducible repeat (first | apply Kd.R_alloc | apply Kd.R_drewN | apply Kd.R_drew)); exact Kd.R_mono (Kd.R_far (p := ⟨gb206, 2, none⟩) (Kd.R_far (p := ⟨gb206, 1, none⟩) (Kd.R_far (p := ⟨gb206, 0, none⟩) (Kd.R_mono HO204.out (fun k_ hk => (⟨hk, hk.2⟩ : _ ∧ k_ ≠ gb206))) (fun _ hk => hk.2) (.bool t200)) (fun _ hk => hk.2) (.int .i64 t201)) (fun _ hk => hk.2) (.slice Ao23 t202.length co23)) (fun _ hk => hk.1.2)⟩
      have n2_ : Aside0 ((((w20.setCell ⟨gb206, 0, none⟩ (.bool t200)).setCell ⟨gb206, 1, none⟩ (.int .i64 t201)).setCell ⟨gb206, 2, none⟩ (.slice Ao23 t202.length co23)).heap[gb193]? = some (.cells #[.int .i64 a0_0, .int .i64 a0_1, .int .i64 a0_2, .slice A0_3 l0_3.length c0_3] 63 (0, 0))) := ⟨by (with_reducible repeat (first | refine blk_drewN ?_ _ | refine blk_drew ?_ | refine blk_alloc ?_ _)); refine blk_far ?_ NB193_206.out _; (with_reducible repeat (first | refine blk_drewN ?_ _ | refine blk_drew ?_ | refine blk_alloc ?_ _)); refine blk_far ?_ NB193_206.out _; (with_reducible repeat (first | refine blk_drewN ?_ _ | refine blk_drew ?_ | refine blk_alloc ?_ _)); refine blk_far ?_ NB193_206.out _; (with_reducible repeat (first | refine blk_drewN ?_ _ | refine blk_drew ?_ | refine blk_alloc ?_ _)); exact BK193.out⟩
      have n3_ : Aside0 ((((w20.setCell ⟨gb206, 0, none⟩ (.bool t200)).setCell ⟨gb206, 1, none⟩ (.int .i64 t201)).setCell ⟨gb206, 2, none⟩ (.slice Ao23 t202.length co23)).heap[gb206]? = some (.cells #[.bool t200, .int .i64 t201, .slice Ao23 t202.length co23] 27 (0, 0))) := ⟨by (with_reducible repeat (first | refine blk_drewN ?_ _ | refine blk_drew ?_ | refine blk_alloc ?_ _)); refine blk_put (cs := #[.bool t200, .int .i64 t201, .slice none 0 0]) ?_ 2 _ rfl; (with_reducible repeat (first | refine blk_drewN ?_ _ | refine blk_drew ?_ | refine blk_alloc ?_ _)); refine blk_put (cs := #[.bool t200, .int .i64 0, .slice none 0 0]) ?_ 1 _ rfl; (with_reducible repeat (first | refine blk_drewN ?_ _ | refine blk_drew ?_ | refine blk_alloc ?_ _)); refine blk_put (cs := #[.bool false, .int .i64 0, .slice none 0 0]) ?_ 0 _ rfl; (with_reducible repeat (first | refine blk_drewN ?_ _ | refine blk_drew ?_ | refine blk_alloc ?_ _)); exact BK206.out⟩
      have n4_ : Aside0 (Below w.heap.size w (((w20.setCell ⟨gb206, 0, none⟩ (.bool t200)).setCell ⟨gb206, 1, none⟩ (.int .i64 t201)).setCell ⟨gb206, 2, none⟩ (.slice Ao23 t202.length co23))) := ⟨by repeat (first | (with_reducible first | exact HB.out | apply below_alloc | apply pw_below_drewN | apply below_drew1 | refine below_set ?_ GE193.out | refine below_set ?_ GE206.out) | exact HB.out)⟩
      (try clear HO_6)
      (try clear HO204)
      (try clear BK193)
      (try clear BK206)
      (try clear HB)
      generalize (((w20.setCell ⟨gb206, 0, none⟩ (.bool t200)).setCell ⟨gb206, 1, none⟩ (.int .i64 t201)).setCell ⟨gb206, 2, none⟩ (.slice Ao23 t202.length co23)) = w24 at n0_ n1_ n2_ n3_ n4_ ⊢
      have HO_6 := n0_
      have HO204 := n1_
      have BK193 := n2_
      have BK206 := n3_
      have HB := n4_
      clear n0_ n1_ n2_ n3_ n4_
      have n0_ := Aside0.mk (Kd.R_drew HO_6.out)
      have n1_ := Aside0.mk (Kd.R_drew HO204.out)
      have n2_ := Aside0.mk (blk_drew BK193.out)
      have n3_ := Aside0.mk (blk_drew BK206.out)
      have n4_ := Aside0.mk (below_drew1 HB.out)
      clear HO_6
      clear HO204
      clear BK193
      clear BK206
      clear HB
      have HO_6 := n0_
      have HO204 := n1_
      have BK193 := n2_
      have BK206 := n3_
      have HB := n4_
      clear n0_ n1_ n2_ n3_ n4_
      refine start_ (n := 13) (S := fun w' => w'.cell? ⟨gb193, 0, none⟩ = some (.int .i64 a0_0) ∧ w'.cell? ⟨gb193, 1, none⟩ = some (.int .i64 a0_1) ∧ w'.cell? ⟨gb193, 2, none⟩ = some (.int .i64 a0_2) ∧ w'.cell? ⟨gb193, 3, none⟩ = some (.slice A0_3 l0_3.length c0_3)) (ds := []) #[false, false, false, false, false, false, false, false, false, false, false, false, false] (by kernel_rfl) rfl rfl ⟨(blk_cell BK193.out 0).trans rfl, (blk_cell BK193.out 1).trans rfl, (blk_cell BK193.out 2).trans rfl, (blk_cell BK193.out 3).trans rfl⟩ (fun hHeld => ?_); refine with_tabW assayerlaw6_GenWraps.tab6 assayerlaw6_GenWraps.bits6 (fun HT_ HW_ => ?_)
      generalize w24.drew = w25 at HO_6 HO204 BK193 BK206 HB hHeld ⊢
      refine pure_ (i := 4) (N := some 41) (v := ?_) (a' := ?_) #[false, false, false, false, true, false, false, false, false, false, false, false, false] rfl rfl (any_of HT_.out (by kernel_rfl)) (fun _ _ _ h => h) (Or.inl ⟨by rfl, ?_⟩) ?_ ?_
      rotate_left
      ·intro w'
       go_simp
       with_reducible rfl
      rotate_left
      ·simp only [Act.put, List.setIfInBounds_toArray, List.set_cons_zero, List.set_cons_succ, i64_w, i32_w]
       rfl
      refine take_ (i := 0) (N := some 37) (v := ?_) (a' := ?_) #[true, false, false, false, true, false, false, false, false, false, false, false, false] rfl rfl (take_ofW HT_.out HW_.out (by kernel_rfl)) (fun _ _ _ h => h) (Or.inl ⟨by rfl, ?_⟩) hHeld ?_ ?_
      rotate_left
      ·rintro w' ⟨s0, s1, s2, s3⟩
       go_simp
       with_reducible rfl
      rotate_left
      ·simp only [Act.put, List.setIfInBounds_toArray, List.set_cons_zero, List.set_cons_succ, i64_w, i32_w]
       rfl
      refine join_ (σ := Value × Value × Value × Value × Nat) 2 #[true, true, true, true, true, true, true, true, true, true, true, false, false] (fun s_ => [(38, s_.1), (40, s_.2.1), (42, s_.2.2.1), (43, .tuple #[.agg #[.bool t216, .int .i64 t217, s_.2.2.2.1], errW t221]), (10, .pointer (some ⟨s_.2.2.2.2, 0, none⟩)), (39, .agg #[.int .i64 5, .int .i64 0, .int .i64 0, s_.1]), (36, .tuple #[.agg #[.bool t216, .int .i64 t217, s_.2.2.2.1], errW t221]), (44, .agg #[.bool t216, .int .i64 t217, s_.2.2.2.1]), (45, errW t221)]) (fun s_ w' => (w'.cell? ⟨gb193, 0, none⟩ = some (.int .i64 a0_0) ∧ w'.cell? ⟨gb193, 1, none⟩ = some (.int .i64 a0_1) ∧ w'.cell? ⟨gb193, 2, none⟩ = some (.int .i64 a0_2) ∧ w'.cell? ⟨gb193, 3, none⟩ = some (.slice A0_3 l0_3.length c0_3)) ∧ (Kd.R k27 27 w' w.heap.size (fun k_ => some k_ ≠ (s_.2.2.2.1 : Value).ownBlock ∧ k_ ≠ gb206 ∧ k_ ≠ s_.2.2.2.2) (.slice Ao23 t202.length co23) t202) ∧ (Kd.R (gfix w) 63 w' w.heap.size (fun k_ => k_ ≠ gb193) s_.1 y207) ∧ (Kd.R (Kd.int .i64) 3 w' w.heap.size (fun k_ => some k_ ≠ (.slice Ao18 t195.length co18 : Value).ownBlock) s_.2.2.1 y213) ∧ (Kd.R k27 27 w' w.heap.size (fun k_ => some k_ ≠ (.slice Ao23 t202.length co23 : Value).ownBlock ∧ k_ ≠ gb206 ∧ k_ ≠ s_.2.2.2.2) s_.2.2.2.1 t218) ∧ (Kd.R (Kd.int .i64) 3 w' w.heap.size (fun k_ => some k_ ≠ (s_.2.2.1 : Value).ownBlock) (.slice Ao18 t195.length co18) t195) ∧ (w'.heap[gb193]? = some (.cells #[.int .i64 a0_0, .int .i64 a0_1, .int .i64 a0_2, .slice A0_3 l0_3.length c0_3] 63 (0, 0))) ∧ (w'.heap[gb206]? = some (.cells #[.bool t200, .int .i64 t201, .slice Ao23 t202.length co23] 27 (0, 0))) ∧ (w'.heap[s_.2.2.2.2]? = some (.cells #[.bool false, .int .i64 0, .slice none 0 0] 27 (0, 0))) ∧ (w.heap.size ≤ s_.2.2.2.2) ∧ (w.heap.size ≤ s_.2.2.2.2) ∧ (gb193 ≠ s_.2.2.2.2) ∧ (s_.2.2.2.2 ≠ gb193) ∧ (gb206 ≠ s_.2.2.2.2) ∧ (s_.2.2.2.2 ≠ gb206) ∧ (Below w.heap.size w w')) ?_ ?_
      rotate_left
      ·intro hJ1_3_5_6_10
       refine join_ (σ := Value × Value × Value × Value) 3 #[true, true, true, true, true, true, true, true, true, true, false, false, false] (fun s_ => [(38, s_.1), (40, s_.2.1), (42, s_.2.2.1), (43, .tuple #[.agg #[.bool t216, .int .i64 t217, s_.2.2.2], errW t221]), (39, .agg #[.int .i64 5, .int .i64 0, .int .i64 0, s_.1]), (36, .tuple #[.agg #[.bool t216, .int .i64 t217, s_.2.2.2], errW t221]), (44, .agg #[.bool t216, .int .i64 t217, s_.2.2.2]), (45, errW t221)]) (fun s_ w' => (w'.cell? ⟨gb193, 0, none⟩ = some (.int .i64 a0_0) ∧ w'.cell? ⟨gb193, 1, none⟩ = some (.int .i64 a0_1) ∧ w'.cell? ⟨gb193, 2, none⟩ = some (.int .i64 a0_2) ∧ w'.cell? ⟨gb193, 3, none⟩ = some (.slice A0_3 l0_3.length c0_3)) ∧ (Kd.R k27 27 w' w.heap.size (fun k_ => some k_ ≠ (s_.2.2.2 : Value).ownBlock ∧ k_ ≠ gb206) (.slice Ao23 t202.length co23) t202) ∧ (Kd.R (gfix w) 63 w' w.heap.size (fun k_ => k_ ≠ gb193) s_.1 y207) ∧ (Kd.R (Kd.int .i64) 3 w' w.heap.size (fun k_ => some k_ ≠ (.slice Ao18 t195.length co18 : Value).ownBlock) s_.2.2.1 y213) ∧ (Kd.R k27 27 w' w.heap.size (fun k_ => some k_ ≠ (.slice Ao23 t202.length co23 : Value).ownBlock ∧ k_ ≠ gb206) s_.2.2.2 t218) ∧ (Kd.R (Kd.int .i64) 3 w' w.heap.size (fun k_ => some k_ ≠ (s_.2.2.1 : Value).ownBlock) (.slice Ao18 t195.length co18) t195) ∧ (w'.heap[gb193]? = some (.cells #[.int .i64 a0_0, .int .i64 a0_1, .int .i64 a0_2, .slice A0_3 l0_3.length c0_3] 63 (0, 0))) ∧ (w'.heap[gb206]? = some (.cells #[.bool t200, .int .i64 t201, .slice Ao23 t202.length co23] 27 (0, 0))) ∧ (Below w.heap.size w w')) ?_ ?_
       rotate_left
       ·intro hJ1_3_5_6
        refine join_ (σ := Value × Value × Value × Nat) 6 #[true, true, true, true, true, true, false, false, false, false, true, false, false] (fun s_ => [(38, s_.1), (40, s_.2.1), (42, s_.2.2.1), (10, .pointer (some ⟨s_.2.2.2, 0, none⟩)), (39, .agg #[.int .i64 5, .int .i64 0, .int .i64 0, s_.1])]) (fun s_ w' => (w'.cell? ⟨gb193, 0, none⟩ = some (.int .i64 a0_0) ∧ w'.cell? ⟨gb193, 1, none⟩ = some (.int .i64 a0_1) ∧ w'.cell? ⟨gb193, 2, none⟩ = some (.int .i64 a0_2) ∧ w'.cell? ⟨gb193, 3, none⟩ = some (.slice A0_3 l0_3.length c0_3)) ∧ (Kd.R k27 27 w' w.heap.size (fun k_ => k_ ≠ gb206 ∧ k_ ≠ s_.2.2.2) (.slice Ao23 t202.length co23) t202) ∧ (Kd.R (gfix w) 63 w' w.heap.size (fun k_ => k_ ≠ gb193) s_.1 y207) ∧ (Kd.R (Kd.int .i64) 3 w' w.heap.size (fun k_ => some k_ ≠ (.slice Ao18 t195.length co18 : Value).ownBlock) s_.2.2.1 y213) ∧ (Kd.R (Kd.int .i64) 3 w' w.heap.size (fun k_ => some k_ ≠ (s_.2.2.1 : Value).ownBlock) (.slice Ao18 t195.length co18) t195) ∧ (w'.heap[gb193]? = some (.cells #[.int .i64 a0_0, .int .i64 a0_1, .int .i64 a0_2, .slice A0_3 l0_3.length c0_3] 63 (0, 0))) ∧ (w'.heap[gb206]? = some (.cells #[.bool t200, .int .i64 t201, .slice Ao23 t202.length co23] 27 (0, 0))) ∧ (w'.heap[s_.2.2.2]? = some (.cells #[.bool false, .int .i64 0, .slice none 0 0] 27 (0, 0))) ∧ (w.heap.size ≤ s_.2.2.2) ∧ (w.heap.size ≤ s_.2.2.2) ∧ (gb193 ≠ s_.2.2.2) ∧ (s_.2.2.2 ≠ gb193) ∧ (gb206 ≠ s_.2.2.2) ∧ (s_.2.2.2 ≠ gb206) ∧ (Below w.heap.size w w')) ?_ ?_
        rotate_left
        ·intro hJ1_3_5_10
         refine join_ (σ := Value × Value × Value) 7 #[true, true, true, true, true, true, false, false, false, false, false, false, false] (fun s_ => [(38, s_.1), (40, s_.2.1), (42, s_.2.2), (39, .agg #[.int .i64 5, .int .i64 0, .int .i64 0, s_.1])]) (fun s_ w' => (w'.cell? ⟨gb193, 0, none⟩ = some (.int .i64 a0_0) ∧ w'.cell? ⟨gb193, 1, none⟩ = some (.int .i64 a0_1) ∧ w'.cell? ⟨gb193, 2, none⟩ = some (.int .i64 a0_2) ∧ w'.cell? ⟨gb193, 3, none⟩ = some (.slice A0_3 l0_3.length c0_3)) ∧ (Kd.R k27 27 w' w.heap.size (fun k_ => k_ ≠ gb206) (.slice Ao23 t202.length co23) t202) ∧ (Kd.R (gfix w) 63 w' w.heap.size (fun k_ => k_ ≠ gb193) s_.1 y207) ∧ (Kd.R (Kd.int .i64) 3 w' w.heap.size (fun k_ => some k_ ≠ (.slice Ao18 t195.length co18 : Value).ownBlock) s_.2.2 y213) ∧ (Kd.R (Kd.int .i64) 3 w' w.heap.size (fun k_ => some k_ ≠ (s_.2.2 : Value).ownBlock) (.slice Ao18 t195.length co18) t195) ∧ (w'.heap[gb193]? = some (.cells #[.int .i64 a0_0, .int .i64 a0_1, .int .i64 a0_2, .slice A0_3 l0_3.length c0_3] 63 (0, 0))) ∧ (w'.heap[gb206]? = some (.cells #[.bool t200, .int .i64 t201, .slice Ao23 t202.length co23] 27 (0, 0))) ∧ (Below w.heap.size w w')) ?_ ?_
         rotate_left
         ·intro hJ1_3_5
          refine join_ (σ := Value × Value × Nat) 7 #[true, true, true, true, true, false, false, false, false, false, true, false, false] (fun s_ => [(38, s_.1), (40, s_.2.1), (10, .pointer (some ⟨s_.2.2, 0, none⟩)), (39, .agg #[.int .i64 5, .int .i64 0, .int .i64 0, s_.1])]) (fun s_ w' => (w'.cell? ⟨gb193, 0, none⟩ = some (.int .i64 a0_0) ∧ w'.cell? ⟨gb193, 1, none⟩ = some (.int .i64 a0_1) ∧ w'.cell? ⟨gb193, 2, none⟩ = some (.int .i64 a0_2) ∧ w'.cell? ⟨gb193, 3, none⟩ = some (.slice A0_3 l0_3.length c0_3)) ∧ (Kd.R k27 27 w' w.heap.size (fun k_ => k_ ≠ gb206 ∧ k_ ≠ s_.2.2) (.slice Ao23 t202.length co23) t202) ∧ (Kd.R (gfix w) 63 w' w.heap.size (fun k_ => k_ ≠ gb193) s_.1 y207) ∧ (Kd.R (Kd.int .i64) 3 w' w.heap.size (fun k_ => some k_ ≠ (.slice Ao18 t195.length co18 : Value).ownBlock) s_.2.1 y210) ∧ (Kd.R (Kd.int .i64) 3 w' w.heap.size (fun k_ => some k_ ≠ (s_.2.1 : Value).ownBlock) (.slice Ao18 t195.length co18) t195) ∧ (w'.heap[gb193]? = some (.cells #[.int .i64 a0_0, .int .i64 a0_1, .int .i64 a0_2, .slice A0_3 l0_3.length c0_3] 63 (0, 0))) ∧ (w'.heap[gb206]? = some (.cells #[.bool t200, .int .i64 t201, .slice Ao23 t202.length co23] 27 (0, 0))) ∧ (w'.heap[s_.2.2]? = some (.cells #[.bool false, .int .i64 0, .slice none 0 0] 27 (0, 0))) ∧ (w.heap.size ≤ s_.2.2) ∧ (w.heap.size ≤ s_.2.2) ∧ (gb193 ≠ s_.2.2) ∧ (s_.2.2 ≠ gb193) ∧ (gb206 ≠ s_.2.2) ∧ (s_.2.2 ≠ gb206) ∧ (Below w.heap.size w w')) ?_ ?_
          rotate_left
          ·intro hJ1_3_10
           refine join_ (σ := Value × Value × Nat) 8 #[true, false, false, true, true, true, false, false, false, false, true, false, false] (fun s_ => [(40, s_.1), (42, s_.2.1), (10, .pointer (some ⟨s_.2.2, 0, none⟩))]) (fun s_ w' => (w'.cell? ⟨gb193, 0, none⟩ = some (.int .i64 a0_0) ∧ w'.cell? ⟨gb193, 1, none⟩ = some (.int .i64 a0_1) ∧ w'.cell? ⟨gb193, 2, none⟩ = some (.int .i64 a0_2) ∧ w'.cell? ⟨gb193, 3, none⟩ = some (.slice A0_3 l0_3.length c0_3)) ∧ (Kd.R k27 27 w' w.heap.size (fun k_ => k_ ≠ gb206 ∧ k_ ≠ s_.2.2) (.slice Ao23 t202.length co23) t202) ∧ (Kd.R (Kd.int .i64) 3 w' w.heap.size (fun k_ => some k_ ≠ (.slice Ao18 t195.length co18 : Value).ownBlock) s_.2.1 y213) ∧ (Kd.R (Kd.int .i64) 3 w' w.heap.size (fun k_ => some k_ ≠ (s_.2.1 : Value).ownBlock) (.slice Ao18 t195.length co18) t195) ∧ (w'.heap[gb193]? = some (.cells #[.int .i64 a0_0, .int .i64 a0_1, .int .i64 a0_2, .slice A0_3 l0_3.length c0_3] 63 (0, 0))) ∧ (w'.heap[gb206]? = some (.cells #[.bool t200, .int .i64 t201, .slice Ao23 t202.length co23] 27 (0, 0))) ∧ (w'.heap[s_.2.2]? = some (.cells #[.bool false, .int .i64 0, .slice none 0 0] 27 (0, 0))) ∧ (w.heap.size ≤ s_.2.2) ∧ (w.heap.size ≤ s_.2.2) ∧ (gb193 ≠ s_.2.2) ∧ (s_.2.2 ≠ gb193) ∧ (gb206 ≠ s_.2.2) ∧ (s_.2.2 ≠ gb206) ∧ (Below w.heap.size w w')) ?_ ?_
           rotate_left
           ·intro hJ3_5_10
            refine join_ (σ := Value × Value) 8 #[true, true, true, true, true, false, false, false, false, false, false, false, false] (fun s_ => [(38, s_.1), (40, s_.2), (39, .agg #[.int .i64 5, .int .i64 0, .int .i64 0, s_.1])]) (fun s_ w' => (w'.cell? ⟨gb193, 0, none⟩ = some (.int .i64 a0_0) ∧ w'.cell? ⟨gb193, 1, none⟩ = some (.int .i64 a0_1) ∧ w'.cell? ⟨gb193, 2, none⟩ = some (.int .i64 a0_2) ∧ w'.cell? ⟨gb193, 3, none⟩ = some (.slice A0_3 l0_3.length c0_3)) ∧ (Kd.R k27 27 w' w.heap.size (fun k_ => k_ ≠ gb206) (.slice Ao23 t202.length co23) t202) ∧ (Kd.R (gfix w) 63 w' w.heap.size (fun k_ => k_ ≠ gb193) s_.1 y207) ∧ (Kd.R (Kd.int .i64) 3 w' w.heap.size (fun k_ => some k_ ≠ (.slice Ao18 t195.length co18 : Value).ownBlock) s_.2 y210) ∧ (Kd.R (Kd.int .i64) 3 w' w.heap.size (fun k_ => some k_ ≠ (s_.2 : Value).ownBlock) (.slice Ao18 t195.length co18) t195) ∧ (w'.heap[gb193]? = some (.cells #[.int .i64 a0_0, .int .i64 a0_1, .int .i64 a0_2, .slice A0_3 l0_3.length c0_3] 63 (0, 0))) ∧ (w'.heap[gb206]? = some (.cells #[.bool t200, .int .i64 t201, .slice Ao23 t202.length co23] 27 (0, 0))) ∧ (Below w.heap.size w w')) ?_ ?_
            rotate_left
            ·intro hJ1_3
             refine join_ (σ := Value × Nat) 8 #[true, true, true, false, true, false, false, false, false, false, true, false, false] (fun s_ => [(38, s_.1), (10, .pointer (some ⟨s_.2, 0, none⟩)), (39, .agg #[.int .i64 5, .int .i64 0, .int .i64 0, s_.1])]) (fun s_ w' => (w'.cell? ⟨gb193, 0, none⟩ = some (.int .i64 a0_0) ∧ w'.cell? ⟨gb193, 1, none⟩ = some (.int .i64 a0_1) ∧ w'.cell? ⟨gb193, 2, none⟩ = some (.int .i64 a0_2) ∧ w'.cell? ⟨gb193, 3, none⟩ = some (.slice A0_3 l0_3.length c0_3)) ∧ (Kd.R k27 27 w' w.heap.size (fun k_ => k_ ≠ gb206 ∧ k_ ≠ s_.2) (.slice Ao23 t202.length co23) t202) ∧ (Kd.R (gfix w) 63 w' w.heap.size (fun k_ => k_ ≠ gb193) s_.1 y207) ∧ (Kd.R (Kd.int .i64) 3 w' w.heap.size (fun _ => True) (.slice Ao18 t195.length co18) t195) ∧ (w'.heap[gb193]? = some (.cells #[.int .i64 a0_0, .int .i64 a0_1, .int .i64 a0_2, .slice A0_3 l0_3.length c0_3] 63 (0, 0))) ∧ (w'.heap[gb206]? = some (.cells #[.bool t200, .int .i64 t201, .slice Ao23 t202.length co23] 27 (0, 0))) ∧ (w'.heap[s_.2]? = some (.cells #[.bool false, .int .i64 0, .slice none 0 0] 27 (0, 0))) ∧ (w.heap.size ≤ s_.2) ∧ (w.heap.size ≤ s_.2) ∧ (gb193 ≠ s_.2) ∧ (s_.2 ≠ gb193) ∧ (gb206 ≠ s_.2) ∧ (s_.2 ≠ gb206) ∧ (Below w.heap.size w w')) ?_ ?_
             rotate_left
             ·intro hJ1_10
              refine join_ (σ := Value × Value) 9 #[true, false, false, true, true, true, false, false, false, false, false, false, false] (fun s_ => [(40, s_.1), (42, s_.2)]) (fun s_ w' => (w'.cell? ⟨gb193, 0, none⟩ = some (.int .i64 a0_0) ∧ w'.cell? ⟨gb193, 1, none⟩ = some (.int .i64 a0_1) ∧ w'.cell? ⟨gb193, 2, none⟩ = some (.int .i64 a0_2) ∧ w'.cell? ⟨gb193, 3, none⟩ = some (.slice A0_3 l0_3.length c0_3)) ∧ (Kd.R k27 27 w' w.heap.size (fun k_ => k_ ≠ gb206) (.slice Ao23 t202.length co23) t202) ∧ (Kd.R (Kd.int .i64) 3 w' w.heap.size (fun k_ => some k_ ≠ (.slice Ao18 t195.length co18 : Value).ownBlock) s_.2 y213) ∧ (Kd.R (Kd.int .i64) 3 w' w.heap.size (fun k_ => some k_ ≠ (s_.2 : Value).ownBlock) (.slice Ao18 t195.length co18) t195) ∧ (w'.heap[gb193]? = some (.cells #[.int .i64 a0_0, .int .i64 a0_1, .int .i64 a0_2, .slice A0_3 l0_3.length c0_3] 63 (0, 0))) ∧ (w'.heap[gb206]? = some (.cells #[.bool t200, .int .i64 t201, .slice Ao23 t202.length co23] 27 (0, 0))) ∧ (Below w.heap.size w w')) ?_ ?_
              rotate_left
              ·intro hJ3_5
               refine join_ (σ := Value × Nat) 9 #[true, false, false, true, true, false, false, false, false, false, true, false, false] (fun s_ => [(40, s_.1), (10, .pointer (some ⟨s_.2, 0, none⟩))]) (fun s_ w' => (w'.cell? ⟨gb193, 0, none⟩ = some (.int .i64 a0_0) ∧ w'.cell? ⟨gb193, 1, none⟩ = some (.int .i64 a0_1) ∧ w'.cell? ⟨gb193, 2, none⟩ = some (.int .i64 a0_2) ∧ w'.cell? ⟨gb193, 3, none⟩ = some (.slice A0_3 l0_3.length c0_3)) ∧ (Kd.R k27 27 w' w.heap.size (fun k_ => k_ ≠ gb206 ∧ k_ ≠ s_.2) (.slice Ao23 t202.length co23) t202) ∧ (Kd.R (Kd.int .i64) 3 w' w.heap.size (fun k_ => some k_ ≠ (.slice Ao18 t195.length co18 : Value).ownBlock) s_.1 y210) ∧ (Kd.R (Kd.int .i64) 3 w' w.heap.size (fun k_ => some k_ ≠ (s_.1 : Value).ownBlock) (.slice Ao18 t195.length co18) t195) ∧ (w'.heap[gb193]? = some (.cells #[.int .i64 a0_0, .int .i64 a0_1, .int .i64 a0_2, .slice A0_3 l0_3.length c0_3] 63 (0, 0))) ∧ (w'.heap[gb206]? = some (.cells #[.bool t200, .int .i64 t201, .slice Ao23 t202.length co23] 27 (0, 0))) ∧ (w'.heap[s_.2]? = some (.cells #[.bool false, .int .i64 0, .slice none 0 0] 27 (0, 0))) ∧ (w.heap.size ≤ s_.2) ∧ (w.heap.size ≤ s_.2) ∧ (gb193 ≠ s_.2) ∧ (s_.2 ≠ gb193) ∧ (gb206 ≠ s_.2) ∧ (s_.2 ≠ gb206) ∧ (Below w.heap.size w w')) ?_ ?_
               rotate_left
               ·intro hJ3_10
                refine join_ (σ := Value) 9 #[true, true, true, false, true, false, false, false, false, false, false, false, false] (fun s_ => [(38, s_), (39, .agg #[.int .i64 5, .int .i64 0, .int .i64 0, s_])]) (fun s_ w' => (w'.cell? ⟨gb193, 0, none⟩ = some (.int .i64 a0_0) ∧ w'.cell? ⟨gb193, 1, none⟩ = some (.int .i64 a0_1) ∧ w'.cell? ⟨gb193, 2, none⟩ = some (.int .i64 a0_2) ∧ w'.cell? ⟨gb193, 3, none⟩ = some (.slice A0_3 l0_3.length c0_3)) ∧ (Kd.R k27 27 w' w.heap.size (fun k_ => k_ ≠ gb206) (.slice Ao23 t202.length co23) t202) ∧ (Kd.R (gfix w) 63 w' w.heap.size (fun k_ => k_ ≠ gb193) s_ y207) ∧ (Kd.R (Kd.int .i64) 3 w' w.heap.size (fun _ => True) (.slice Ao18 t195.length co18) t195) ∧ (w'.heap[gb193]? = some (.cells #[.int .i64 a0_0, .int .i64 a0_1, .int .i64 a0_2, .slice A0_3 l0_3.length c0_3] 63 (0, 0))) ∧ (w'.heap[gb206]? = some (.cells #[.bool t200, .int .i64 t201, .slice Ao23 t202.length co23] 27 (0, 0))) ∧ (Below w.heap.size w w')) ?_ ?_
                rotate_left
                ·intro hJ1
                 refine join_ (σ := Value) 10 #[true, false, false, true, true, false, false, false, false, false, false, false, false] (fun s_ => [(40, s_)]) (fun s_ w' => (w'.cell? ⟨gb193, 0, none⟩ = some (.int .i64 a0_0) ∧ w'.cell? ⟨gb193, 1, none⟩ = some (.int .i64 a0_1) ∧ w'.cell? ⟨gb193, 2, none⟩ = some (.int .i64 a0_2) ∧ w'.cell? ⟨gb193, 3, none⟩ = some (.slice A0_3 l0_3.length c0_3)) ∧ (Kd.R k27 27 w' w.heap.size (fun k_ => k_ ≠ gb206) (.slice Ao23 t202.length co23) t202) ∧ (Kd.R (Kd.int .i64) 3 w' w.heap.size (fun k_ => some k_ ≠ (.slice Ao18 t195.length co18 : Value).ownBlock) s_ y210) ∧ (Kd.R (Kd.int .i64) 3 w' w.heap.size (fun k_ => some k_ ≠ (s_ : Value).ownBlock) (.slice Ao18 t195.length co18) t195) ∧ (w'.heap[gb193]? = some (.cells #[.int .i64 a0_0, .int .i64 a0_1, .int .i64 a0_2, .slice A0_3 l0_3.length c0_3] 63 (0, 0))) ∧ (w'.heap[gb206]? = some (.cells #[.bool t200, .int .i64 t201, .slice Ao23 t202.length co23] 27 (0, 0))) ∧ (Below w.heap.size w w')) ?_ ?_
                 rotate_left
                 ·intro hJ3
                  refine join_ (σ := Nat) 10 #[true, false, false, false, true, false, false, false, false, false, true, false, false] (fun s_ => [(10, .pointer (some ⟨s_, 0, none⟩))]) (fun s_ w' => (w'.cell? ⟨gb193, 0, none⟩ = some (.int .i64 a0_0) ∧ w'.cell? ⟨gb193, 1, none⟩ = some (.int .i64 a0_1) ∧ w'.cell? ⟨gb193, 2, none⟩ = some (.int .i64 a0_2) ∧ w'.cell? ⟨gb193, 3, none⟩ = some (.slice A0_3 l0_3.length c0_3)) ∧ (Kd.R k27 27 w' w.heap.size (fun k_ => k_ ≠ gb206 ∧ k_ ≠ s_) (.slice Ao23 t202.length co23) t202) ∧ (Kd.R (Kd.int .i64) 3 w' w.heap.size (fun _ => True) (.slice Ao18 t195.length co18) t195) ∧ (w'.heap[gb193]? = some (.cells #[.int .i64 a0_0, .int .i64 a0_1, .int .i64 a0_2, .slice A0_3 l0_3.length c0_3] 63 (0, 0))) ∧ (w'.heap[gb206]? = some (.cells #[.bool t200, .int .i64 t201, .slice Ao23 t202.length co23] 27 (0, 0))) ∧ (w'.heap[s_]? = some (.cells #[.bool false, .int .i64 0, .slice none 0 0] 27 (0, 0))) ∧ (w.heap.size ≤ s_) ∧ (w.heap.size ≤ s_) ∧ (gb193 ≠ s_) ∧ (s_ ≠ gb193) ∧ (gb206 ≠ s_) ∧ (s_ ≠ gb206) ∧ (Below w.heap.size w w')) ?_ ?_
                  rotate_left
                  ·intro hJ10
                   refine three_ (i := 1) (j := 3) (k := 10) (Ni := some 38) (Nj := some 40) (Nk := some 10) #[true, true, false, false, true, false, false, false, false, false, false, false, false] #[true, false, false, true, true, false, false, false, false, false, false, false, false] #[true, false, false, false, true, false, false, false, false, false, true, false, false] rfl rfl rfl rfl rfl rfl (three_of HT_.out (by kernel_rfl)) (by decide) (by decide) (by decide) (fun K hK => ?_) (fun K hK => ?_) (fun K hK => ?_)
                   ·skip
                    refine Kd.R_lit_step (gfix w) _ 63 ?hg (N := 38) ?hd (xs := ([(⟨a0_0, a0_1, a0_2, l0_3⟩ : S63)] : List (S63))) (inner := [.int .i64 a0_0, .int .i64 a0_1, .int .i64 a0_2, .slice A0_3 l0_3.length c0_3]) (ok := fun _ => True) (okp := fun _ => True) ?hr ?hp (fun _ hk => hk) trivial (Below.refl _ _) (Nat.le_refl _) (by simp) ?_; (case hd => rfl); (case hg => rfl); (case hr => first | (go_simp; done) | (go_simp; rfl)); (case hp => exact (Reps.c4 (show Kd.M (gfix w) _ _ _ (⟨a0_0, a0_1, a0_2, l0_3⟩ : S63) [.int .i64 a0_0, .int .i64 a0_1, .int .i64 a0_2, .slice A0_3 l0_3.length c0_3] from (k63_mk w (⟨a0_0, a0_1, a0_2, l0_3⟩ : S63) HC0_3.out HR0_3.out)) (Reps.none _ _)))
                    intro v208 w26 ho27 hb hg_ hnew_
                    clear hg_ hnew_
                    (first | rw [← Ny207.out] at ho27 | (simp only [Int.reduceToNat] at ho27; rw [← Ny207.out] at ho27))
                    have n0_ := Aside0.mk (Kd.R_below HO_6.out hb)
                    have n1_ := Aside0.mk (Kd.R_below HO204.out hb)
                    have n2_ := Aside0.mk (Kd.R_lower (Kd.R_newB ho27 (g := gb193) (o := .cells #[.int .i64 a0_0, .int .i64 a0_1, .int .i64 a0_2, .slice A0_3 l0_3.length c0_3] 63 (0, 0)) BK193.out) (below_size HB.out))
                    have n3_ := Aside0.mk (blk_below (g := gb193) (o := .cells #[.int .i64 a0_0, .int .i64 a0_1, .int .i64 a0_2, .slice A0_3 l0_3.length c0_3] 63 (0, 0)) BK193.out hb)
                    have n4_ := Aside0.mk (blk_below (g := gb206) (o := .cells #[.bool t200, .int .i64 t201, .slice Ao23 t202.length co23] 27 (0, 0)) BK206.out hb)
                    have n5_ := Aside0.mk (below_step HB.out hb)
                    clear HO_6
                    clear HO204
                    clear BK193
                    clear BK206
                    clear HB
                    have HO_6 := n0_
                    have HO204 := n1_
                    have HO209 := n2_
                    have BK193 := n3_
                    have BK206 := n4_
                    have HB := n5_
                    clear n0_ n1_ n2_ n3_ n4_ n5_
                    clear hb ho27
                    obtain ⟨Ao28, co28, eo28⟩ := Kd.R_slice HO209.out
                    (first | subst eo28 | (injection eo28 with f1_ f2_ f3_; have f4_ := f1_.symm; have f5_ := f3_.symm; clear f1_ f2_ f3_; subst f4_; subst f5_))
                    refine hK.out _ _ ⟨(blk_cell BK193.out 0).trans rfl, (blk_cell BK193.out 1).trans rfl, (blk_cell BK193.out 2).trans rfl, (blk_cell BK193.out 3).trans rfl⟩ (fun hHeld => ?_)
                    clear hK K
                    refine norm_ (a' := ?_) ?_ ?_
                    rotate_left
                    ·show Act.put _ (some 38) _ = _
                     simp only [Act.put, List.setIfInBounds_toArray, List.set_cons_zero, List.set_cons_succ, i64_w, i32_w]
                     rfl
                    refine pure_ (i := 2) (N := some 39) (v := ?_) (a' := ?_) #[true, true, true, false, true, false, false, false, false, false, false, false, false] rfl rfl (any_of HT_.out (by kernel_rfl)) (fun _ _ _ h => h) (Or.inl ⟨by rfl, ?_⟩) ?_ ?_
                    rotate_left
                    ·intro w'
                     go_simp
                     with_reducible rfl
                    rotate_left
                    ·simp only [Act.put, List.setIfInBounds_toArray, List.set_cons_zero, List.set_cons_succ, i64_w, i32_w]
                     rfl
                    exact norm_ (by first | (simp only [putAll, Act.put, List.setIfInBounds_toArray, List.set_cons_zero, List.set_cons_succ]; done) | (simp only [putAll, Act.put, List.setIfInBounds_toArray, List.set_cons_zero, List.set_cons_succ]; rfl)) (hJ1 (.slice Ao28 y207.length co28) _ ⟨hHeld, HO204.out, (by (with_reducible repeat (first | apply Kd.R_alloc | apply Kd.R_drewN | apply Kd.R_drew)); exact Kd.R_mono HO209.out (fun _ hk => hk.2)), HO_6.out, BK193.out, BK206.out, HB.out⟩)
                   ·skip
                    refine Kd.R_lit_step (Kd.int .i64) _ 3 ?hg (N := 40) ?hd (xs := ([0] : List Int)) (inner := [.int .i64 0]) (ok := fun _ => True) (okp := fun _ => True) ?hr ?hp (fun _ hk => hk) trivial (Below.refl _ _) (Nat.le_refl _) (by simp) ?_; (case hd => rfl); (case hg => rfl); (case hr => first | (go_simp; done) | (go_simp; rfl)); (case hp => exact (Reps.one (show Kd.M (Kd.int .i64) _ _ _ 0 [.int .i64 0] from rfl) (Reps.none _ _)))
                    intro v211 w26 ho27 hb hg_ hnew_
                    clear hg_ hnew_
                    (first | rw [← Ny210.out] at ho27 | (simp only [Int.reduceToNat] at ho27; rw [← Ny210.out] at ho27))
                    have n0_ := Aside0.mk (Kd.R_elder' HO_6.out (Kd.R_base ho27) hb)
                    have n1_ := Aside0.mk (Kd.R_below HO204.out hb)
                    have n2_ := Aside0.mk (Kd.R_lower (Kd.R_new' ho27 (Kd.R_lt HO_6.out)) (below_size HB.out))
                    have n3_ := Aside0.mk (blk_below (g := gb193) (o := .cells #[.int .i64 a0_0, .int .i64 a0_1, .int .i64 a0_2, .slice A0_3 l0_3.length c0_3] 63 (0, 0)) BK193.out hb)
                    have n4_ := Aside0.mk (blk_below (g := gb206) (o := .cells #[.bool t200, .int .i64 t201, .slice Ao23 t202.length co23] 27 (0, 0)) BK206.out hb)
                    have n5_ := Aside0.mk (below_step HB.out hb)
                    clear HO_6
                    clear HO204
                    clear BK193
                    clear BK206
                    clear HB
                    have HO_6 := n0_
                    have HO204 := n1_
                    have HO212 := n2_
                    have BK193 := n3_
                    have BK206 := n4_
                    have HB := n5_
                    clear n0_ n1_ n2_ n3_ n4_ n5_
                    clear hb ho27
                    refine hK.out _ _ ⟨(blk_cell BK193.out 0).trans rfl, (blk_cell BK193.out 1).trans rfl, (blk_cell BK193.out 2).trans rfl, (blk_cell BK193.out 3).trans rfl⟩ (fun hHeld => ?_)
                    clear hK K
                    refine norm_ (a' := ?_) ?_ ?_
                    rotate_left
                    ·show Act.put _ (some 40) _ = _
                     simp only [Act.put, List.setIfInBounds_toArray, List.set_cons_zero, List.set_cons_succ, i64_w, i32_w]
                     rfl
                    exact norm_ (by first | (simp only [putAll, Act.put, List.setIfInBounds_toArray, List.set_cons_zero, List.set_cons_succ]; done) | (simp only [putAll, Act.put, List.setIfInBounds_toArray, List.set_cons_zero, List.set_cons_succ]; rfl)) (hJ3 (v211) _ ⟨hHeld, HO204.out, (by (with_reducible repeat (first | apply Kd.R_alloc | apply Kd.R_drewN | apply Kd.R_drew)); exact Kd.R_mono HO212.out (fun _ hk => hk.2)), (by (with_reducible repeat (first | apply Kd.R_alloc | apply Kd.R_drewN | apply Kd.R_drew)); exact Kd.R_mono HO_6.out (fun _ hk => hk.2)), BK193.out, BK206.out, HB.out⟩)
                   ·skip
                    refine box_step ?hg (N := 10) ?hd (cs := #[.bool false, .int .i64 0, .slice none 0 0]) (t := 27) ?hr ?_; (case hd => rfl); (case hg => rfl); (case hr => first | (go_simp; done) | (go_simp; rfl))
                    intro gb222 hg w26 hbox hb
                    have n0_ := Aside0.mk (Kd.R_below HO_6.out hb)
                    have n1_ := Aside0.mk (Kd.R_below (Kd.R_elderB HO204.out gb222 (Nat.le_of_eq hg.symm)) hb)
                    have n2_ := Aside0.mk (blk_below (g := gb193) (o := .cells #[.int .i64 a0_0, .int .i64 a0_1, .int .i64 a0_2, .slice A0_3 l0_3.length c0_3] 63 (0, 0)) BK193.out hb)
                    have n3_ := Aside0.mk (blk_below (g := gb206) (o := .cells #[.bool t200, .int .i64 t201, .slice Ao23 t202.length co23] 27 (0, 0)) BK206.out hb)
                    have n4_ := Aside0.mk (below_step HB.out hb)
                    have n5_ := Aside0.mk (hbox)
                    have n6_ := Aside0.mk ((by rw [hg]; exact (below_size HB.out) : w.heap.size ≤ gb222))
                    have n7_ := Aside0.mk ((by rw [hg]; exact (below_size HB.out) : w.heap.size ≤ gb222))
                    have n8_ := Aside0.mk ((by rw [hg]; exact Nat.ne_of_lt (blk_lt (g := gb193) (o := .cells #[.int .i64 a0_0, .int .i64 a0_1, .int .i64 a0_2, .slice A0_3 l0_3.length c0_3] 63 (0, 0)) BK193.out) : gb193 ≠ gb222))
                    have n9_ := Aside0.mk ((by rw [hg]; exact Nat.ne_of_gt (blk_lt (g := gb193) (o := .cells #[.int .i64 a0_0, .int .i64 a0_1, .int .i64 a0_2, .slice A0_3 l0_3.length c0_3] 63 (0, 0)) BK193.out) : gb222 ≠ gb193))
                    have n10_ := Aside0.mk ((by rw [hg]; exact Nat.ne_of_lt (blk_lt (g := gb206) (o := .cells #[.bool t200, .int .i64 t201, .slice Ao23 t202.length co23] 27 (0, 0)) BK206.out) : gb206 ≠ gb222))
                    have n11_ := Aside0.mk ((by rw [hg]; exact Nat.ne_of_gt (blk_lt (g := gb206) (o := .cells #[.bool t200, .int .i64 t201, .slice Ao23 t202.length co23] 27 (0, 0)) BK206.out) : gb222 ≠ gb206))
                    clear HO_6
                    clear HO204
                    clear BK193
                    clear BK206
                    clear HB
                    have HO_6 := n0_
                    have HO204 := n1_
                    have BK193 := n2_
                    have BK206 := n3_
                    have HB := n4_
                    have BK222 := n5_
                    have GW222 := n6_
                    have GE222 := n7_
                    have NB193_222 := n8_
                    have NB222_193 := n9_
                    have NB206_222 := n10_
                    have NB222_206 := n11_
                    clear n0_ n1_ n2_ n3_ n4_ n5_ n6_ n7_ n8_ n9_ n10_ n11_
                    clear hb hbox hg
                    refine hK.out _ _ ⟨(blk_cell BK193.out 0).trans rfl, (blk_cell BK193.out 1).trans rfl, (blk_cell BK193.out 2).trans rfl, (blk_cell BK193.out 3).trans rfl⟩ (fun hHeld => ?_)
                    clear hK K
                    refine norm_ (a' := ?_) ?_ ?_
                    rotate_left
                    ·show Act.put _ (some 10) _ = _
                     simp only [Act.put, List.setIfInBounds_toArray, List.set_cons_zero, List.set_cons_succ, i64_w, i32_w]
                     rfl
                    exact norm_ (by first | (simp only [putAll, Act.put, List.setIfInBounds_toArray, List.set_cons_zero, List.set_cons_succ]; done) | (simp only [putAll, Act.put, List.setIfInBounds_toArray, List.set_cons_zero, List.set_cons_succ]; rfl)) (hJ10 (gb222) _ ⟨hHeld, HO204.out, HO_6.out, BK193.out, BK206.out, BK222.out, GW222.out, GE222.out, NB193_222.out, NB222_193.out, NB206_222.out, NB222_206.out, HB.out⟩)
                  ·skip
                   rintro gb222 w27 ⟨hS_, h0_, h1_, h2_, h3_, h4_, h5_, h6_, h7_, h8_, h9_, h10_, h11_⟩
                   have n0_ : Aside0 (Kd.R k27 27 w27 w.heap.size (fun k_ => k_ ≠ gb206 ∧ k_ ≠ gb222) (.slice Ao23 t202.length co23) t202) := ⟨h0_⟩
                   have n1_ : Aside0 (Kd.R (Kd.int .i64) 3 w27 w.heap.size (fun _ => True) (.slice Ao18 t195.length co18) t195) := ⟨h1_⟩
                   have n2_ : Aside0 (w27.heap[gb193]? = some (.cells #[.int .i64 a0_0, .int .i64 a0_1, .int .i64 a0_2, .slice A0_3 l0_3.length c0_3] 63 (0, 0))) := ⟨h2_⟩
                   have n3_ : Aside0 (w27.heap[gb206]? = some (.cells #[.bool t200, .int .i64 t201, .slice Ao23 t202.length co23] 27 (0, 0))) := ⟨h3_⟩
                   have n4_ : Aside0 (w27.heap[gb222]? = some (.cells #[.bool false, .int .i64 0, .slice none 0 0] 27 (0, 0))) := ⟨h4_⟩
                   have n5_ : Aside0 (w.heap.size ≤ gb222) := ⟨h5_⟩
                   have n6_ : Aside0 (w.heap.size ≤ gb222) := ⟨h6_⟩
                   have n7_ : Aside0 (gb193 ≠ gb222) := ⟨h7_⟩
                   have n8_ : Aside0 (gb222 ≠ gb193) := ⟨h8_⟩
                   have n9_ : Aside0 (gb206 ≠ gb222) := ⟨h9_⟩
                   have n10_ : Aside0 (gb222 ≠ gb206) := ⟨h10_⟩
                   have n11_ : Aside0 (Below w.heap.size w w27) := ⟨h11_⟩
                   clear HO_6
                   clear HO204
                   clear BK193
                   clear BK206
                   clear HB
                   clear h0_ h1_ h2_ h3_ h4_ h5_ h6_ h7_ h8_ h9_ h10_ h11_
                   have HO204 := n0_
                   have HO_6 := n1_
                   have BK193 := n2_
                   have BK206 := n3_
                   have BK222 := n4_
                   have GW222 := n5_
                   have GE222 := n6_
                   have NB193_222 := n7_
                   have NB222_193 := n8_
                   have NB206_222 := n9_
                   have NB222_206 := n10_
                   have HB := n11_
                   clear n0_ n1_ n2_ n3_ n4_ n5_ n6_ n7_ n8_ n9_ n10_ n11_
                   have hHeld : w27.cell? ⟨gb193, 0, none⟩ = some (.int .i64 a0_0) ∧ w27.cell? ⟨gb193, 1, none⟩ = some (.int .i64 a0_1) ∧ w27.cell? ⟨gb193, 2, none⟩ = some (.int .i64 a0_2) ∧ w27.cell? ⟨gb193, 3, none⟩ = some (.slice A0_3 l0_3.length c0_3) := hS_
                   refine norm_ (a' := ?_) ?_ ?_
                   rotate_left
                   ·simp only [putAll, Act.put, List.setIfInBounds_toArray, List.set_cons_zero, List.set_cons_succ]
                    rfl
                   refine two_ (i := 1) (j := 3) (Ni := some 38) (Nj := some 40) #[true, true, false, false, true, false, false, false, false, false, true, false, false] #[true, false, false, true, true, false, false, false, false, false, true, false, false] rfl rfl rfl rfl (two_of HT_.out (by kernel_rfl)) (by decide) (by decide) (fun K hK => ?_) (fun K hK => ?_)
                   ·skip
                    refine Kd.R_lit_step (gfix w) _ 63 ?hg (N := 38) ?hd (xs := ([(⟨a0_0, a0_1, a0_2, l0_3⟩ : S63)] : List (S63))) (inner := [.int .i64 a0_0, .int .i64 a0_1, .int .i64 a0_2, .slice A0_3 l0_3.length c0_3]) (ok := fun _ => True) (okp := fun _ => True) ?hr ?hp (fun _ hk => hk) trivial (Below.refl _ _) (Nat.le_refl _) (by simp) ?_; (case hd => rfl); (case hg => rfl); (case hr => first | (go_simp; done) | (go_simp; rfl)); (case hp => exact (Reps.c4 (show Kd.M (gfix w) _ _ _ (⟨a0_0, a0_1, a0_2, l0_3⟩ : S63) [.int .i64 a0_0, .int .i64 a0_1, .int .i64 a0_2, .slice A0_3 l0_3.length c0_3] from (k63_mk w (⟨a0_0, a0_1, a0_2, l0_3⟩ : S63) HC0_3.out HR0_3.out)) (Reps.none _ _)))
                    intro v208 w28 ho29 hb hg_ hnew_
                    clear hg_ hnew_
                    (first | rw [← Ny207.out] at ho29 | (simp only [Int.reduceToNat] at ho29; rw [← Ny207.out] at ho29))
                    have n0_ := Aside0.mk (Kd.R_below HO_6.out hb)
                    have n1_ := Aside0.mk (Kd.R_below HO204.out hb)
                    have n2_ := Aside0.mk (Kd.R_lower (Kd.R_newB ho29 (g := gb193) (o := .cells #[.int .i64 a0_0, .int .i64 a0_1, .int .i64 a0_2, .slice A0_3 l0_3.length c0_3] 63 (0, 0)) BK193.out) (below_size HB.out))
                    have n3_ := Aside0.mk (blk_below (g := gb193) (o := .cells #[.int .i64 a0_0, .int .i64 a0_1, .int .i64 a0_2, .slice A0_3 l0_3.length c0_3] 63 (0, 0)) BK193.out hb)
                    have n4_ := Aside0.mk (blk_below (g := gb206) (o := .cells #[.bool t200, .int .i64 t201, .slice Ao23 t202.length co23] 27 (0, 0)) BK206.out hb)
                    have n5_ := Aside0.mk (blk_below (g := gb222) (o := .cells #[.bool false, .int .i64 0, .slice none 0 0] 27 (0, 0)) BK222.out hb)
                    have n6_ := Aside0.mk (below_step HB.out hb)
                    clear HO_6
                    clear HO204
                    clear BK193
                    clear BK206
                    clear BK222
                    clear HB
                    have HO_6 := n0_
                    have HO204 := n1_
                    have HO209 := n2_
                    have BK193 := n3_
                    have BK206 := n4_
                    have BK222 := n5_
                    have HB := n6_
                    clear n0_ n1_ n2_ n3_ n4_ n5_ n6_
                    clear hb ho29
                    obtain ⟨Ao30, co30, eo30⟩ := Kd.R_slice HO209.out
                    (first | subst eo30 | (injection eo30 with f1_ f2_ f3_; have f4_ := f1_.symm; have f5_ := f3_.symm; clear f1_ f2_ f3_; subst f4_; subst f5_))
                    refine hK.out _ _ ⟨(blk_cell BK193.out 0).trans rfl, (blk_cell BK193.out 1).trans rfl, (blk_cell BK193.out 2).trans rfl, (blk_cell BK193.out 3).trans rfl⟩ (fun hHeld => ?_)
                    clear hK K
                    refine norm_ (a' := ?_) ?_ ?_
                    rotate_left
                    ·show Act.put _ (some 38) _ = _
                     simp only [Act.put, List.setIfInBounds_toArray, List.set_cons_zero, List.set_cons_succ, i64_w, i32_w]
                     rfl
                    refine pure_ (i := 2) (N := some 39) (v := ?_) (a' := ?_) #[true, true, true, false, true, false, false, false, false, false, true, false, false] rfl rfl (any_of HT_.out (by kernel_rfl)) (fun _ _ _ h => h) (Or.inl ⟨by rfl, ?_⟩) ?_ ?_
                    rotate_left
                    ·intro w'
                     go_simp
                     with_reducible rfl
                    rotate_left
                    ·simp only [Act.put, List.setIfInBounds_toArray, List.set_cons_zero, List.set_cons_succ, i64_w, i32_w]
                     rfl
                    exact norm_ (by first | (simp only [putAll, Act.put, List.setIfInBounds_toArray, List.set_cons_zero, List.set_cons_succ]; done) | (simp only [putAll, Act.put, List.setIfInBounds_toArray, List.set_cons_zero, List.set_cons_succ]; rfl)) (hJ1_10 (.slice Ao30 y207.length co30, gb222) _ ⟨hHeld, HO204.out, (by (with_reducible repeat (first | apply Kd.R_alloc | apply Kd.R_drewN | apply Kd.R_drew)); exact Kd.R_mono HO209.out (fun _ hk => hk.2)), HO_6.out, BK193.out, BK206.out, BK222.out, GW222.out, GE222.out, NB193_222.out, NB222_193.out, NB206_222.out, NB222_206.out, HB.out⟩)
                   ·skip
                    refine Kd.R_lit_step (Kd.int .i64) _ 3 ?hg (N := 40) ?hd (xs := ([0] : List Int)) (inner := [.int .i64 0]) (ok := fun _ => True) (okp := fun _ => True) ?hr ?hp (fun _ hk => hk) trivial (Below.refl _ _) (Nat.le_refl _) (by simp) ?_; (case hd => rfl); (case hg => rfl); (case hr => first | (go_simp; done) | (go_simp; rfl)); (case hp => exact (Reps.one (show Kd.M (Kd.int .i64) _ _ _ 0 [.int .i64 0] from rfl) (Reps.none _ _)))
                    intro v211 w28 ho29 hb hg_ hnew_
                    clear hg_ hnew_
                    (first | rw [← Ny210.out] at ho29 | (simp only [Int.reduceToNat] at ho29; rw [← Ny210.out] at ho29))
                    have n0_ := Aside0.mk (Kd.R_elder' HO_6.out (Kd.R_base ho29) hb)
                    have n1_ := Aside0.mk (Kd.R_below HO204.out hb)
                    have n2_ := Aside0.mk (Kd.R_lower (Kd.R_new' ho29 (Kd.R_lt HO_6.out)) (below_size HB.out))
                    have n3_ := Aside0.mk (blk_below (g := gb193) (o := .cells #[.int .i64 a0_0, .int .i64 a0_1, .int .i64 a0_2, .slice A0_3 l0_3.length c0_3] 63 (0, 0)) BK193.out hb)
                    have n4_ := Aside0.mk (blk_below (g := gb206) (o := .cells #[.bool t200, .int .i64 t201, .slice Ao23 t202.length co23] 27 (0, 0)) BK206.out hb)
                    have n5_ := Aside0.mk (blk_below (g := gb222) (o := .cells #[.bool false, .int .i64 0, .slice none 0 0] 27 (0, 0)) BK222.out hb)
                    have n6_ := Aside0.mk (below_step HB.out hb)
                    clear HO_6
                    clear HO204
                    clear BK193
                    clear BK206
                    clear BK222
                    clear HB
                    have HO_6 := n0_
                    have HO204 := n1_
                    have HO212 := n2_
                    have BK193 := n3_
                    have BK206 := n4_
                    have BK222 := n5_
                    have HB := n6_
                    clear n0_ n1_ n2_ n3_ n4_ n5_ n6_
                    clear hb ho29
                    refine hK.out _ _ ⟨(blk_cell BK193.out 0).trans rfl, (blk_cell BK193.out 1).trans rfl, (blk_cell BK193.out 2).trans rfl, (blk_cell BK193.out 3).trans rfl⟩ (fun hHeld => ?_)
                    clear hK K
                    refine norm_ (a' := ?_) ?_ ?_
                    rotate_left
                    ·show Act.put _ (some 40) _ = _
                     simp only [Act.put, List.setIfInBounds_toArray, List.set_cons_zero, List.set_cons_succ, i64_w, i32_w]
                     rfl
                    exact norm_ (by first | (simp only [putAll, Act.put, List.setIfInBounds_toArray, List.set_cons_zero, List.set_cons_succ]; done) | (simp only [putAll, Act.put, List.setIfInBounds_toArray, List.set_cons_zero, List.set_cons_succ]; rfl)) (hJ3_10 (v211, gb222) _ ⟨hHeld, HO204.out, (by (with_reducible repeat (first | apply Kd.R_alloc | apply Kd.R_drewN | apply Kd.R_drew)); exact Kd.R_mono HO212.out (fun _ hk => hk.2)), (by (with_reducible repeat (first | apply Kd.R_alloc | apply Kd.R_drewN | apply Kd.R_drew)); exact Kd.R_mono HO_6.out (fun _ hk => hk.2)), BK193.out, BK206.out, BK222.out, GW222.out, GE222.out, NB193_222.out, NB222_193.out, NB206_222.out, NB222_206.out, HB.out⟩)
                 ·skip
                  rintro v211 w28 ⟨hS_, h0_, h1_, h2_, h3_, h4_, h5_⟩
                  have n0_ : Aside0 (Kd.R k27 27 w28 w.heap.size (fun k_ => k_ ≠ gb206) (.slice Ao23 t202.length co23) t202) := ⟨h0_⟩
                  have n1_ : Aside0 (Kd.R (Kd.int .i64) 3 w28 w.heap.size (fun k_ => some k_ ≠ (.slice Ao18 t195.length co18 : Value).ownBlock) v211 y210) := ⟨h1_⟩
                  have n2_ : Aside0 (Kd.R (Kd.int .i64) 3 w28 w.heap.size (fun k_ => some k_ ≠ (v211 : Value).ownBlock) (.slice Ao18 t195.length co18) t195) := ⟨h2_⟩
                  have n3_ : Aside0 (w28.heap[gb193]? = some (.cells #[.int .i64 a0_0, .int .i64 a0_1, .int .i64 a0_2, .slice A0_3 l0_3.length c0_3] 63 (0, 0))) := ⟨h3_⟩
                  have n4_ : Aside0 (w28.heap[gb206]? = some (.cells #[.bool t200, .int .i64 t201, .slice Ao23 t202.length co23] 27 (0, 0))) := ⟨h4_⟩
                  have n5_ : Aside0 (Below w.heap.size w w28) := ⟨h5_⟩
                  clear HO_6
                  clear HO204
                  clear BK193
                  clear BK206
                  clear HB
                  clear h0_ h1_ h2_ h3_ h4_ h5_
                  have HO204 := n0_
                  have HO212 := n1_
                  have HO_6 := n2_
                  have BK193 := n3_
                  have BK206 := n4_
                  have HB := n5_
                  clear n0_ n1_ n2_ n3_ n4_ n5_
                  have hHeld : w28.cell? ⟨gb193, 0, none⟩ = some (.int .i64 a0_0) ∧ w28.cell? ⟨gb193, 1, none⟩ = some (.int .i64 a0_1) ∧ w28.cell? ⟨gb193, 2, none⟩ = some (.int .i64 a0_2) ∧ w28.cell? ⟨gb193, 3, none⟩ = some (.slice A0_3 l0_3.length c0_3) := hS_
                  refine norm_ (a' := ?_) ?_ ?_
                  rotate_left
                  ·simp only [putAll, Act.put, List.setIfInBounds_toArray, List.set_cons_zero, List.set_cons_succ]
                   rfl
                  refine three_ (i := 1) (j := 5) (k := 10) (Ni := some 38) (Nj := some 42) (Nk := some 10) #[true, true, false, true, true, false, false, false, false, false, false, false, false] #[true, false, false, true, true, true, false, false, false, false, false, false, false] #[true, false, false, true, true, false, false, false, false, false, true, false, false] rfl rfl rfl rfl rfl rfl (three_of HT_.out (by kernel_rfl)) (by decide) (by decide) (by decide) (fun K hK => ?_) (fun K hK => ?_) (fun K hK => ?_)
                  ·skip
                   refine Kd.R_lit_step (gfix w) _ 63 ?hg (N := 38) ?hd (xs := ([(⟨a0_0, a0_1, a0_2, l0_3⟩ : S63)] : List (S63))) (inner := [.int .i64 a0_0, .int .i64 a0_1, .int .i64 a0_2, .slice A0_3 l0_3.length c0_3]) (ok := fun _ => True) (okp := fun _ => True) ?hr ?hp (fun _ hk => hk) trivial (Below.refl _ _) (Nat.le_refl _) (by simp) ?_; (case hd => rfl); (case hg => rfl); (case hr => first | (go_simp; done) | (go_simp; rfl)); (case hp => exact (Reps.c4 (show Kd.M (gfix w) _ _ _ (⟨a0_0, a0_1, a0_2, l0_3⟩ : S63) [.int .i64 a0_0, .int .i64 a0_1, .int .i64 a0_2, .slice A0_3 l0_3.length c0_3] from (k63_mk w (⟨a0_0, a0_1, a0_2, l0_3⟩ : S63) HC0_3.out HR0_3.out)) (Reps.none _ _)))
                   intro v208 w29 ho30 hb hg_ hnew_
                   clear hg_ hnew_
                   (first | rw [← Ny207.out] at ho30 | (simp only [Int.reduceToNat] at ho30; rw [← Ny207.out] at ho30))
                   have n0_ := Aside0.mk (Kd.R_below HO_6.out hb)
                   have n1_ := Aside0.mk (Kd.R_below HO204.out hb)
                   have n2_ := Aside0.mk (Kd.R_below HO212.out hb)
                   have n3_ := Aside0.mk (Kd.R_lower (Kd.R_newB ho30 (g := gb193) (o := .cells #[.int .i64 a0_0, .int .i64 a0_1, .int .i64 a0_2, .slice A0_3 l0_3.length c0_3] 63 (0, 0)) BK193.out) (below_size HB.out))
                   have n4_ := Aside0.mk (blk_below (g := gb193) (o := .cells #[.int .i64 a0_0, .int .i64 a0_1, .int .i64 a0_2, .slice A0_3 l0_3.length c0_3] 63 (0, 0)) BK193.out hb)
                   have n5_ := Aside0.mk (blk_below (g := gb206) (o := .cells #[.bool t200, .int .i64 t201, .slice Ao23 t202.length co23] 27 (0, 0)) BK206.out hb)
                   have n6_ := Aside0.mk (below_step HB.out hb)
                   clear HO_6
                   clear HO204
                   clear HO212
                   clear BK193
                   clear BK206
                   clear HB
                   have HO_6 := n0_
                   have HO204 := n1_
                   have HO212 := n2_
                   have HO209 := n3_
                   have BK193 := n4_
                   have BK206 := n5_
                   have HB := n6_
                   clear n0_ n1_ n2_ n3_ n4_ n5_ n6_
                   clear hb ho30
                   obtain ⟨Ao31, co31, eo31⟩ := Kd.R_slice HO209.out
                   (first | subst eo31 | (injection eo31 with f1_ f2_ f3_; have f4_ := f1_.symm; have f5_ := f3_.symm; clear f1_ f2_ f3_; subst f4_; subst f5_))
                   refine hK.out _ _ ⟨(blk_cell BK193.out 0).trans rfl, (blk_cell BK193.out 1).trans rfl, (blk_cell BK193.out 2).trans rfl, (blk_cell BK193.out 3).trans rfl⟩ (fun hHeld => ?_)
                   clear hK K
                   refine norm_ (a' := ?_) ?_ ?_
                   rotate_left
                   ·show Act.put _ (some 38) _ = _
                    simp only [Act.put, List.setIfInBounds_toArray, List.set_cons_zero, List.set_cons_succ, i64_w, i32_w]
                    rfl
                   refine pure_ (i := 2) (N := some 39) (v := ?_) (a' := ?_) #[true, true, true, true, true, false, false, false, false, false, false, false, false] rfl rfl (any_of HT_.out (by kernel_rfl)) (fun _ _ _ h => h) (Or.inl ⟨by rfl, ?_⟩) ?_ ?_
                   rotate_left
                   ·intro w'
                    go_simp
                    with_reducible rfl
                   rotate_left
                   ·simp only [Act.put, List.setIfInBounds_toArray, List.set_cons_zero, List.set_cons_succ, i64_w, i32_w]
                    rfl
                   exact norm_ (by first | (simp only [putAll, Act.put, List.setIfInBounds_toArray, List.set_cons_zero, List.set_cons_succ]; done) | (simp only [putAll, Act.put, List.setIfInBounds_toArray, List.set_cons_zero, List.set_cons_succ]; rfl)) (hJ1_3 (.slice Ao31 y207.length co31, v211) _ ⟨hHeld, HO204.out, (by (with_reducible repeat (first | apply Kd.R_alloc | apply Kd.R_drewN | apply Kd.R_drew)); exact Kd.R_mono HO209.out (fun _ hk => hk.2)), HO212.out, HO_6.out, BK193.out, BK206.out, HB.out⟩)
                  ·skip
                   refine Kd.R_append_rows_step (Kd.int .i64) (w0 := w) w.heap.size (by rfl) (.tmp 40) (.tmp 41) 36 3 (.int .i64 0) 8 rfl Tryd.underlying36 info3 rfl (by decide) (by omega) v211 y210 t195 _ _ _ (fun k_ => some k_ ≠ (.slice Ao18 t195.length co18 : Value).ownBlock) (fun _ => False) rfl rfl ?aO ?aR (fun _ _ h => h) (fun _ h => h.elim) ?aF ?aB ?aS ?aL ?_
                   (case aR => repeat (first | exact (Kd.R_reads' HO_6.out).2.2 | (with_reducible refine Kd.C_alloc ?_ _) | (with_reducible refine Kd.C_drewN ?_ _) | (with_reducible refine Kd.C_drew ?_)))
                   (case aB => exact HB.out)
                   (case aF => exact (fun k_ hk => Kd.fresh' (Kd.R_lt HO_6.out) k_ hk))
                   (case aO => exact HO212.out)
                   (case aS => exact (below_size HB.out))
                   (case aL => have := LMc13.out; omega)
                   intro v214 w29 ho hb hg hat
                   rw [← Ny213.out] at ho
                   have n0_ := Aside0.mk (Kd.R_after (ok := (fun _ => True)) (by (with_reducible repeat (first | apply Kd.R_alloc | apply Kd.R_drewN | apply Kd.R_drew)); exact Kd.R_mono HO_6.out (fun _ hk => ⟨trivial, hk⟩)) hg hat)
                   have n1_ := Aside0.mk (blk_grown (g := gb193) (o := .cells #[.int .i64 a0_0, .int .i64 a0_1, .int .i64 a0_2, .slice A0_3 l0_3.length c0_3] 63 (0, 0)) BK193.out hg (Kd.R_ne HO212.out BK193.out (by decide)))
                   have n2_ := Aside0.mk (Kd.R_over' HO204.out (Kd.R_typed HO212.out) (by decide) hg)
                   have n3_ := Aside0.mk (blk_grown (g := gb206) (o := .cells #[.bool t200, .int .i64 t201, .slice Ao23 t202.length co23] 27 (0, 0)) BK206.out hg (Kd.R_ne HO212.out BK206.out (by decide)))
                   have n4_ := Aside0.mk (hb)
                   have n5_ := Aside0.mk (ho)
                   clear HO_6
                   clear BK193
                   clear HO204
                   clear BK206
                   clear HB
                   clear HO212
                   have HO_6 := n0_
                   have BK193 := n1_
                   have HO204 := n2_
                   have BK206 := n3_
                   have HB := n4_
                   have HO215 := n5_
                   clear n0_ n1_ n2_ n3_ n4_ n5_
                   clear ho hb hg hat
                   refine hK.out _ _ ⟨(blk_cell BK193.out 0).trans rfl, (blk_cell BK193.out 1).trans rfl, (blk_cell BK193.out 2).trans rfl, (blk_cell BK193.out 3).trans rfl⟩ (fun hHeld => ?_)
                   clear hK K
                   refine norm_ (a' := ?_) ?_ ?_
                   rotate_left
                   ·show Act.put _ (some 42) _ = _
                    simp only [Act.put, List.setIfInBounds_toArray, List.set_cons_zero, List.set_cons_succ, i64_w, i32_w]
                    rfl
                   exact norm_ (by first | (simp only [putAll, Act.put, List.setIfInBounds_toArray, List.set_cons_zero, List.set_cons_succ]; done) | (simp only [putAll, Act.put, List.setIfInBounds_toArray, List.set_cons_zero, List.set_cons_succ]; rfl)) (hJ3_5 (v211, v214) _ ⟨hHeld, HO204.out, HO215.out, (by (with_reducible repeat (first | apply Kd.R_alloc | apply Kd.R_drewN | apply Kd.R_drew)); exact Kd.R_mono HO_6.out (fun _ hk => hk.2)), BK193.out, BK206.out, HB.out⟩)
                  ·skip
                   refine box_step ?hg (N := 10) ?hd (cs := #[.bool false, .int .i64 0, .slice none 0 0]) (t := 27) ?hr ?_; (case hd => rfl); (case hg => rfl); (case hr => first | (go_simp; done) | (go_simp; rfl))
                   intro gb222 hg w29 hbox hb
                   have n0_ := Aside0.mk (Kd.R_below HO_6.out hb)
                   have n1_ := Aside0.mk (Kd.R_below (Kd.R_elderB HO204.out gb222 (Nat.le_of_eq hg.symm)) hb)
                   have n2_ := Aside0.mk (Kd.R_below HO212.out hb)
                   have n3_ := Aside0.mk (blk_below (g := gb193) (o := .cells #[.int .i64 a0_0, .int .i64 a0_1, .int .i64 a0_2, .slice A0_3 l0_3.length c0_3] 63 (0, 0)) BK193.out hb)
                   have n4_ := Aside0.mk (blk_below (g := gb206) (o := .cells #[.bool t200, .int .i64 t201, .slice Ao23 t202.length co23] 27 (0, 0)) BK206.out hb)
                   have n5_ := Aside0.mk (below_step HB.out hb)
                   have n6_ := Aside0.mk (hbox)
                   have n7_ := Aside0.mk ((by rw [hg]; exact (below_size HB.out) : w.heap.size ≤ gb222))
                   have n8_ := Aside0.mk ((by rw [hg]; exact (below_size HB.out) : w.heap.size ≤ gb222))
                   have n9_ := Aside0.mk ((by rw [hg]; exact Nat.ne_of_lt (blk_lt (g := gb193) (o := .cells #[.int .i64 a0_0, .int .i64 a0_1, .int .i64 a0_2, .slice A0_3 l0_3.length c0_3] 63 (0, 0)) BK193.out) : gb193 ≠ gb222))
                   have n10_ := Aside0.mk ((by rw [hg]; exact Nat.ne_of_gt (blk_lt (g := gb193) (o := .cells #[.int .i64 a0_0, .int .i64 a0_1, .int .i64 a0_2, .slice A0_3 l0_3.length c0_3] 63 (0, 0)) BK193.out) : gb222 ≠ gb193))
                   have n11_ := Aside0.mk ((by rw [hg]; exact Nat.ne_of_lt (blk_lt (g := gb206) (o := .cells #[.bool t200, .int .i64 t201, .slice Ao23 t202.length co23] 27 (0, 0)) BK206.out) : gb206 ≠ gb222))
                   have n12_ := Aside0.mk ((by rw [hg]; exact Nat.ne_of_gt (blk_lt (g := gb206) (o := .cells #[.bool t200, .int .i64 t201, .slice Ao23 t202.length co23] 27 (0, 0)) BK206.out) : gb222 ≠ gb206))
                   clear HO_6
                   clear HO204
                   clear HO212
                   clear BK193
                   clear BK206
                   clear HB
                   have HO_6 := n0_
                   have HO204 := n1_
                   have HO212 := n2_
                   have BK193 := n3_
                   have BK206 := n4_
                   have HB := n5_
                   have BK222 := n6_
                   have GW222 := n7_
                   have GE222 := n8_
                   have NB193_222 := n9_
                   have NB222_193 := n10_
                   have NB206_222 := n11_
                   have NB222_206 := n12_
                   clear n0_ n1_ n2_ n3_ n4_ n5_ n6_ n7_ n8_ n9_ n10_ n11_ n12_
                   clear hb hbox hg
                   refine hK.out _ _ ⟨(blk_cell BK193.out 0).trans rfl, (blk_cell BK193.out 1).trans rfl, (blk_cell BK193.out 2).trans rfl, (blk_cell BK193.out 3).trans rfl⟩ (fun hHeld => ?_)
                   clear hK K
                   refine norm_ (a' := ?_) ?_ ?_
                   rotate_left
                   ·show Act.put _ (some 10) _ = _
                    simp only [Act.put, List.setIfInBounds_toArray, List.set_cons_zero, List.set_cons_succ, i64_w, i32_w]
                    rfl
                   exact norm_ (by first | (simp only [putAll, Act.put, List.setIfInBounds_toArray, List.set_cons_zero, List.set_cons_succ]; done) | (simp only [putAll, Act.put, List.setIfInBounds_toArray, List.set_cons_zero, List.set_cons_succ]; rfl)) (hJ3_10 (v211, gb222) _ ⟨hHeld, HO204.out, HO212.out, HO_6.out, BK193.out, BK206.out, BK222.out, GW222.out, GE222.out, NB193_222.out, NB222_193.out, NB206_222.out, NB222_206.out, HB.out⟩)
                ·skip
                 rintro v208 w29 ⟨hS_, h0_, h1_, h2_, h3_, h4_, h5_⟩
                 have n0_ : Aside0 (Kd.R k27 27 w29 w.heap.size (fun k_ => k_ ≠ gb206) (.slice Ao23 t202.length co23) t202) := ⟨h0_⟩
                 have n1_ : Aside0 (Kd.R (gfix w) 63 w29 w.heap.size (fun k_ => k_ ≠ gb193) v208 y207) := ⟨h1_⟩
                 have n2_ : Aside0 (Kd.R (Kd.int .i64) 3 w29 w.heap.size (fun _ => True) (.slice Ao18 t195.length co18) t195) := ⟨h2_⟩
                 have n3_ : Aside0 (w29.heap[gb193]? = some (.cells #[.int .i64 a0_0, .int .i64 a0_1, .int .i64 a0_2, .slice A0_3 l0_3.length c0_3] 63 (0, 0))) := ⟨h3_⟩
                 have n4_ : Aside0 (w29.heap[gb206]? = some (.cells #[.bool t200, .int .i64 t201, .slice Ao23 t202.length co23] 27 (0, 0))) := ⟨h4_⟩
                 have n5_ : Aside0 (Below w.heap.size w w29) := ⟨h5_⟩
                 clear HO_6
                 clear HO204
                 clear BK193
                 clear BK206
                 clear HB
                 clear h0_ h1_ h2_ h3_ h4_ h5_
                 have HO204 := n0_
                 have HO209 := n1_
                 have HO_6 := n2_
                 have BK193 := n3_
                 have BK206 := n4_
                 have HB := n5_
                 clear n0_ n1_ n2_ n3_ n4_ n5_
                 have hHeld : w29.cell? ⟨gb193, 0, none⟩ = some (.int .i64 a0_0) ∧ w29.cell? ⟨gb193, 1, none⟩ = some (.int .i64 a0_1) ∧ w29.cell? ⟨gb193, 2, none⟩ = some (.int .i64 a0_2) ∧ w29.cell? ⟨gb193, 3, none⟩ = some (.slice A0_3 l0_3.length c0_3) := hS_
                 obtain ⟨Ao30, co30, eo30⟩ := Kd.R_slice HO209.out
                 (first | subst eo30 | (injection eo30 with f1_ f2_ f3_; have f4_ := f1_.symm; have f5_ := f3_.symm; clear f1_ f2_ f3_; subst f4_; subst f5_))
                 refine norm_ (a' := ?_) ?_ ?_
                 rotate_left
                 ·simp only [putAll, Act.put, List.setIfInBounds_toArray, List.set_cons_zero, List.set_cons_succ]
                  rfl
                 refine two_ (i := 3) (j := 10) (Ni := some 40) (Nj := some 10) #[true, true, true, true, true, false, false, false, false, false, false, false, false] #[true, true, true, false, true, false, false, false, false, false, true, false, false] rfl rfl rfl rfl (two_of HT_.out (by kernel_rfl)) (by decide) (by decide) (fun K hK => ?_) (fun K hK => ?_)
                 ·skip
                  refine Kd.R_lit_step (Kd.int .i64) _ 3 ?hg (N := 40) ?hd (xs := ([0] : List Int)) (inner := [.int .i64 0]) (ok := fun _ => True) (okp := fun _ => True) ?hr ?hp (fun _ hk => hk) trivial (Below.refl _ _) (Nat.le_refl _) (by simp) ?_; (case hd => rfl); (case hg => rfl); (case hr => first | (go_simp; done) | (go_simp; rfl)); (case hp => exact (Reps.one (show Kd.M (Kd.int .i64) _ _ _ 0 [.int .i64 0] from rfl) (Reps.none _ _)))
                  intro v211 w31 ho32 hb hg_ hnew_
                  clear hg_ hnew_
                  (first | rw [← Ny210.out] at ho32 | (simp only [Int.reduceToNat] at ho32; rw [← Ny210.out] at ho32))
                  have n0_ := Aside0.mk (Kd.R_elder' HO_6.out (Kd.R_base ho32) hb)
                  have n1_ := Aside0.mk (Kd.R_below HO204.out hb)
                  have n2_ := Aside0.mk (Kd.R_below HO209.out hb)
                  have n3_ := Aside0.mk (Kd.R_lower (Kd.R_new' ho32 (Kd.R_lt HO_6.out)) (below_size HB.out))
                  have n4_ := Aside0.mk (blk_below (g := gb193) (o := .cells #[.int .i64 a0_0, .int .i64 a0_1, .int .i64 a0_2, .slice A0_3 l0_3.length c0_3] 63 (0, 0)) BK193.out hb)
                  have n5_ := Aside0.mk (blk_below (g := gb206) (o := .cells #[.bool t200, .int .i64 t201, .slice Ao23 t202.length co23] 27 (0, 0)) BK206.out hb)
                  have n6_ := Aside0.mk (below_step HB.out hb)
                  clear HO_6
                  clear HO204
                  clear HO209
                  clear BK193
                  clear BK206
                  clear HB
                  have HO_6 := n0_
                  have HO204 := n1_
                  have HO209 := n2_
                  have HO212 := n3_
                  have BK193 := n4_
                  have BK206 := n5_
                  have HB := n6_
                  clear n0_ n1_ n2_ n3_ n4_ n5_ n6_
                  clear hb ho32
                  refine hK.out _ _ ⟨(blk_cell BK193.out 0).trans rfl, (blk_cell BK193.out 1).trans rfl, (blk_cell BK193.out 2).trans rfl, (blk_cell BK193.out 3).trans rfl⟩ (fun hHeld => ?_)
                  clear hK K
                  refine norm_ (a' := ?_) ?_ ?_
                  rotate_left
                  ·show Act.put _ (some 40) _ = _
                   simp only [Act.put, List.setIfInBounds_toArray, List.set_cons_zero, List.set_cons_succ, i64_w, i32_w]
                   rfl
                  exact norm_ (by first | (simp only [putAll, Act.put, List.setIfInBounds_toArray, List.set_cons_zero, List.set_cons_succ]; done) | (simp only [putAll, Act.put, List.setIfInBounds_toArray, List.set_cons_zero, List.set_cons_succ]; rfl)) (hJ1_3 (.slice Ao30 y207.length co30, v211) _ ⟨hHeld, HO204.out, HO209.out, (by (with_reducible repeat (first | apply Kd.R_alloc | apply Kd.R_drewN | apply Kd.R_drew)); exact Kd.R_mono HO212.out (fun _ hk => hk.2)), (by (with_reducible repeat (first | apply Kd.R_alloc | apply Kd.R_drewN | apply Kd.R_drew)); exact Kd.R_mono HO_6.out (fun _ hk => hk.2)), BK193.out, BK206.out, HB.out⟩)
                 ·skip
                  refine box_step ?hg (N := 10) ?hd (cs := #[.bool false, .int .i64 0, .slice none 0 0]) (t := 27) ?hr ?_; (case hd => rfl); (case hg => rfl); (case hr => first | (go_simp; done) | (go_simp; rfl))
                  intro gb222 hg w31 hbox hb
                  have n0_ := Aside0.mk (Kd.R_below HO_6.out hb)
                  have n1_ := Aside0.mk (Kd.R_below (Kd.R_elderB HO204.out gb222 (Nat.le_of_eq hg.symm)) hb)
                  have n2_ := Aside0.mk (Kd.R_below HO209.out hb)
                  have n3_ := Aside0.mk (blk_below (g := gb193) (o := .cells #[.int .i64 a0_0, .int .i64 a0_1, .int .i64 a0_2, .slice A0_3 l0_3.length c0_3] 63 (0, 0)) BK193.out hb)
                  have n4_ := Aside0.mk (blk_below (g := gb206) (o := .cells #[.bool t200, .int .i64 t201, .slice Ao23 t202.length co23] 27 (0, 0)) BK206.out hb)
                  have n5_ := Aside0.mk (below_step HB.out hb)
                  have n6_ := Aside0.mk (hbox)
                  have n7_ := Aside0.mk ((by rw [hg]; exact (below_size HB.out) : w.heap.size ≤ gb222))
                  have n8_ := Aside0.mk ((by rw [hg]; exact (below_size HB.out) : w.heap.size ≤ gb222))
                  have n9_ := Aside0.mk ((by rw [hg]; exact Nat.ne_of_lt (blk_lt (g := gb193) (o := .cells #[.int .i64 a0_0, .int .i64 a0_1, .int .i64 a0_2, .slice A0_3 l0_3.length c0_3] 63 (0, 0)) BK193.out) : gb193 ≠ gb222))
                  have n10_ := Aside0.mk ((by rw [hg]; exact Nat.ne_of_gt (blk_lt (g := gb193) (o := .cells #[.int .i64 a0_0, .int .i64 a0_1, .int .i64 a0_2, .slice A0_3 l0_3.length c0_3] 63 (0, 0)) BK193.out) : gb222 ≠ gb193))
                  have n11_ := Aside0.mk ((by rw [hg]; exact Nat.ne_of_lt (blk_lt (g := gb206) (o := .cells #[.bool t200, .int .i64 t201, .slice Ao23 t202.length co23] 27 (0, 0)) BK206.out) : gb206 ≠ gb222))
                  have n12_ := Aside0.mk ((by rw [hg]; exact Nat.ne_of_gt (blk_lt (g := gb206) (o := .cells #[.bool t200, .int .i64 t201, .slice Ao23 t202.length co23] 27 (0, 0)) BK206.out) : gb222 ≠ gb206))
                  clear HO_6
                  clear HO204
                  clear HO209
                  clear BK193
                  clear BK206
                  clear HB
                  have HO_6 := n0_
                  have HO204 := n1_
                  have HO209 := n2_
                  have BK193 := n3_
                  have BK206 := n4_
                  have HB := n5_
                  have BK222 := n6_
                  have GW222 := n7_
                  have GE222 := n8_
                  have NB193_222 := n9_
                  have NB222_193 := n10_
                  have NB206_222 := n11_
                  have NB222_206 := n12_
                  clear n0_ n1_ n2_ n3_ n4_ n5_ n6_ n7_ n8_ n9_ n10_ n11_ n12_
                  clear hb hbox hg
                  refine hK.out _ _ ⟨(blk_cell BK193.out 0).trans rfl, (blk_cell BK193.out 1).trans rfl, (blk_cell BK193.out 2).trans rfl, (blk_cell BK193.out 3).trans rfl⟩ (fun hHeld => ?_)
                  clear hK K
                  refine norm_ (a' := ?_) ?_ ?_
                  rotate_left
                  ·show Act.put _ (some 10) _ = _
                   simp only [Act.put, List.setIfInBounds_toArray, List.set_cons_zero, List.set_cons_succ, i64_w, i32_w]
                   rfl
                  exact norm_ (by first | (simp only [putAll, Act.put, List.setIfInBounds_toArray, List.set_cons_zero, List.set_cons_succ]; done) | (simp only [putAll, Act.put, List.setIfInBounds_toArray, List.set_cons_zero, List.set_cons_succ]; rfl)) (hJ1_10 (.slice Ao30 y207.length co30, gb222) _ ⟨hHeld, HO204.out, HO209.out, HO_6.out, BK193.out, BK206.out, BK222.out, GW222.out, GE222.out, NB193_222.out, NB222_193.out, NB206_222.out, NB222_206.out, HB.out⟩)
               ·skip
                rintro ⟨v211, gb222⟩ w29 ⟨hS_, h0_, h1_, h2_, h3_, h4_, h5_, h6_, h7_, h8_, h9_, h10_, h11_, h12_⟩
                have n0_ : Aside0 (Kd.R k27 27 w29 w.heap.size (fun k_ => k_ ≠ gb206 ∧ k_ ≠ gb222) (.slice Ao23 t202.length co23) t202) := ⟨h0_⟩
                have n1_ : Aside0 (Kd.R (Kd.int .i64) 3 w29 w.heap.size (fun k_ => some k_ ≠ (.slice Ao18 t195.length co18 : Value).ownBlock) v211 y210) := ⟨h1_⟩
                have n2_ : Aside0 (Kd.R (Kd.int .i64) 3 w29 w.heap.size (fun k_ => some k_ ≠ (v211 : Value).ownBlock) (.slice Ao18 t195.length co18) t195) := ⟨h2_⟩
                have n3_ : Aside0 (w29.heap[gb193]? = some (.cells #[.int .i64 a0_0, .int .i64 a0_1, .int .i64 a0_2, .slice A0_3 l0_3.length c0_3] 63 (0, 0))) := ⟨h3_⟩
                have n4_ : Aside0 (w29.heap[gb206]? = some (.cells #[.bool t200, .int .i64 t201, .slice Ao23 t202.length co23] 27 (0, 0))) := ⟨h4_⟩
                have n5_ : Aside0 (w29.heap[gb222]? = some (.cells #[.bool false, .int .i64 0, .slice none 0 0] 27 (0, 0))) := ⟨h5_⟩
                have n6_ : Aside0 (w.heap.size ≤ gb222) := ⟨h6_⟩
                have n7_ : Aside0 (w.heap.size ≤ gb222) := ⟨h7_⟩
                have n8_ : Aside0 (gb193 ≠ gb222) := ⟨h8_⟩
                have n9_ : Aside0 (gb222 ≠ gb193) := ⟨h9_⟩
                have n10_ : Aside0 (gb206 ≠ gb222) := ⟨h10_⟩
                have n11_ : Aside0 (gb222 ≠ gb206) := ⟨h11_⟩
                have n12_ : Aside0 (Below w.heap.size w w29) := ⟨h12_⟩
                clear HO_6
                clear HO204
                clear BK193
                clear BK206
                clear HB
                clear h0_ h1_ h2_ h3_ h4_ h5_ h6_ h7_ h8_ h9_ h10_ h11_ h12_
                have HO204 := n0_
                have HO212 := n1_
                have HO_6 := n2_
                have BK193 := n3_
                have BK206 := n4_
                have BK222 := n5_
                have GW222 := n6_
                have GE222 := n7_
                have NB193_222 := n8_
                have NB222_193 := n9_
                have NB206_222 := n10_
                have NB222_206 := n11_
                have HB := n12_
                clear n0_ n1_ n2_ n3_ n4_ n5_ n6_ n7_ n8_ n9_ n10_ n11_ n12_
                have hHeld : w29.cell? ⟨gb193, 0, none⟩ = some (.int .i64 a0_0) ∧ w29.cell? ⟨gb193, 1, none⟩ = some (.int .i64 a0_1) ∧ w29.cell? ⟨gb193, 2, none⟩ = some (.int .i64 a0_2) ∧ w29.cell? ⟨gb193, 3, none⟩ = some (.slice A0_3 l0_3.length c0_3) := hS_
                refine norm_ (a' := ?_) ?_ ?_
                rotate_left
                ·simp only [putAll, Act.put, List.setIfInBounds_toArray, List.set_cons_zero, List.set_cons_succ]
                 rfl
                refine two_ (i := 1) (j := 5) (Ni := some 38) (Nj := some 42) #[true, true, false, true, true, false, false, false, false, false, true, false, false] #[true, false, false, true, true, true, false, false, false, false, true, false, false] rfl rfl rfl rfl (two_of HT_.out (by kernel_rfl)) (by decide) (by decide) (fun K hK => ?_) (fun K hK => ?_)
                ·skip
                 refine Kd.R_lit_step (gfix w) _ 63 ?hg (N := 38) ?hd (xs := ([(⟨a0_0, a0_1, a0_2, l0_3⟩ : S63)] : List (S63))) (inner := [.int .i64 a0_0, .int .i64 a0_1, .int .i64 a0_2, .slice A0_3 l0_3.length c0_3]) (ok := fun _ => True) (okp := fun _ => True) ?hr ?hp (fun _ hk => hk) trivial (Below.refl _ _) (Nat.le_refl _) (by simp) ?_; (case hd => rfl); (case hg => rfl); (case hr => first | (go_simp; done) | (go_simp; rfl)); (case hp => exact (Reps.c4 (show Kd.M (gfix w) _ _ _ (⟨a0_0, a0_1, a0_2, l0_3⟩ : S63) [.int .i64 a0_0, .int .i64 a0_1, .int .i64 a0_2, .slice A0_3 l0_3.length c0_3] from (k63_mk w (⟨a0_0, a0_1, a0_2, l0_3⟩ : S63) HC0_3.out HR0_3.out)) (Reps.none _ _)))
                 intro v208 w30 ho31 hb hg_ hnew_
                 clear hg_ hnew_
                 (first | rw [← Ny207.out] at ho31 | (simp only [Int.reduceToNat] at ho31; rw [← Ny207.out] at ho31))
                 have n0_ := Aside0.mk (Kd.R_below HO_6.out hb)
                 have n1_ := Aside0.mk (Kd.R_below HO204.out hb)
                 have n2_ := Aside0.mk (Kd.R_below HO212.out hb)
                 have n3_ := Aside0.mk (Kd.R_lower (Kd.R_newB ho31 (g := gb193) (o := .cells #[.int .i64 a0_0, .int .i64 a0_1, .int .i64 a0_2, .slice A0_3 l0_3.length c0_3] 63 (0, 0)) BK193.out) (below_size HB.out))
                 have n4_ := Aside0.mk (blk_below (g := gb193) (o := .cells #[.int .i64 a0_0, .int .i64 a0_1, .int .i64 a0_2, .slice A0_3 l0_3.length c0_3] 63 (0, 0)) BK193.out hb)
                 have n5_ := Aside0.mk (blk_below (g := gb206) (o := .cells #[.bool t200, .int .i64 t201, .slice Ao23 t202.length co23] 27 (0, 0)) BK206.out hb)
                 have n6_ := Aside0.mk (blk_below (g := gb222) (o := .cells #[.bool false, .int .i64 0, .slice none 0 0] 27 (0, 0)) BK222.out hb)
                 have n7_ := Aside0.mk (below_step HB.out hb)
                 clear HO_6
                 clear HO204
                 clear HO212
                 clear BK193
                 clear BK206
                 clear BK222
                 clear HB
                 have HO_6 := n0_
                 have HO204 := n1_
                 have HO212 := n2_
                 have HO209 := n3_
                 have BK193 := n4_
                 have BK206 := n5_
                 have BK222 := n6_
                 have HB := n7_
                 clear n0_ n1_ n2_ n3_ n4_ n5_ n6_ n7_
                 clear hb ho31
                 obtain ⟨Ao32, co32, eo32⟩ := Kd.R_slice HO209.out
                 (first | subst eo32 | (injection eo32 with f1_ f2_ f3_; have f4_ := f1_.symm; have f5_ := f3_.symm; clear f1_ f2_ f3_; subst f4_; subst f5_))
                 refine hK.out _ _ ⟨(blk_cell BK193.out 0).trans rfl, (blk_cell BK193.out 1).trans rfl, (blk_cell BK193.out 2).trans rfl, (blk_cell BK193.out 3).trans rfl⟩ (fun hHeld => ?_)
                 clear hK K
                 refine norm_ (a' := ?_) ?_ ?_
                 rotate_left
                 ·show Act.put _ (some 38) _ = _
                  simp only [Act.put, List.setIfInBounds_toArray, List.set_cons_zero, List.set_cons_succ, i64_w, i32_w]
                  rfl
                 refine pure_ (i := 2) (N := some 39) (v := ?_) (a' := ?_) #[true, true, true, true, true, false, false, false, false, false, true, false, false] rfl rfl (any_of HT_.out (by kernel_rfl)) (fun _ _ _ h => h) (Or.inl ⟨by rfl, ?_⟩) ?_ ?_
                 rotate_left
                 ·intro w'
                  go_simp
                  with_reducible rfl
                 rotate_left
                 ·simp only [Act.put, List.setIfInBounds_toArray, List.set_cons_zero, List.set_cons_succ, i64_w, i32_w]
                  rfl
                 exact norm_ (by first | (simp only [putAll, Act.put, List.setIfInBounds_toArray, List.set_cons_zero, List.set_cons_succ]; done) | (simp only [putAll, Act.put, List.setIfInBounds_toArray, List.set_cons_zero, List.set_cons_succ]; rfl)) (hJ1_3_10 (.slice Ao32 y207.length co32, v211, gb222) _ ⟨hHeld, HO204.out, (by (with_reducible repeat (first | apply Kd.R_alloc | apply Kd.R_drewN | apply Kd.R_drew)); exact Kd.R_mono HO209.out (fun _ hk => hk.2)), HO212.out, HO_6.out, BK193.out, BK206.out, BK222.out, GW222.out, GE222.out, NB193_222.out, NB222_193.out, NB206_222.out, NB222_206.out, HB.out⟩)
                ·skip
                 refine Kd.R_append_rows_step (Kd.int .i64) (w0 := w) w.heap.size (by rfl) (.tmp 40) (.tmp 41) 36 3 (.int .i64 0) 8 rfl Tryd.underlying36 info3 rfl (by decide) (by omega) v211 y210 t195 _ _ _ (fun k_ => some k_ ≠ (.slice Ao18 t195.length co18 : Value).ownBlock) (fun _ => False) rfl rfl ?aO ?aR (fun _ _ h => h) (fun _ h => h.elim) ?aF ?aB ?aS ?aL ?_
                 (case aR => repeat (first | exact (Kd.R_reads' HO_6.out).2.2 | (with_reducible refine Kd.C_alloc ?_ _) | (with_reducible refine Kd.C_drewN ?_ _) | (with_reducible refine Kd.C_drew ?_)))
                 (case aB => exact HB.out)
                 (case aF => exact (fun k_ hk => Kd.fresh' (Kd.R_lt HO_6.out) k_ hk))
                 (case aO => exact HO212.out)
                 (case aS => exact (below_size HB.out))
                 (case aL => have := LMc13.out; omega)
                 intro v214 w30 ho hb hg hat
                 rw [← Ny213.out] at ho
                 have n0_ := Aside0.mk (Kd.R_after (ok := (fun _ => True)) (by (with_reducible repeat (first | apply Kd.R_alloc | apply Kd.R_drewN | apply Kd.R_drew)); exact Kd.R_mono HO_6.out (fun _ hk => ⟨trivial, hk⟩)) hg hat)
                 have n1_ := Aside0.mk (blk_grown (g := gb193) (o := .cells #[.int .i64 a0_0, .int .i64 a0_1, .int .i64 a0_2, .slice A0_3 l0_3.length c0_3] 63 (0, 0)) BK193.out hg (Kd.R_ne HO212.out BK193.out (by decide)))
                 have n2_ := Aside0.mk (Kd.R_over' HO204.out (Kd.R_typed HO212.out) (by decide) hg)
                 have n3_ := Aside0.mk (blk_grown (g := gb206) (o := .cells #[.bool t200, .int .i64 t201, .slice Ao23 t202.length co23] 27 (0, 0)) BK206.out hg (Kd.R_ne HO212.out BK206.out (by decide)))
                 have n4_ := Aside0.mk (blk_grown (g := gb222) (o := .cells #[.bool false, .int .i64 0, .slice none 0 0] 27 (0, 0)) BK222.out hg (Kd.R_ne HO212.out BK222.out (by decide)))
                 have n5_ := Aside0.mk (hb)
                 have n6_ := Aside0.mk (ho)
                 clear HO_6
                 clear BK193
                 clear HO204
                 clear BK206
                 clear BK222
                 clear HB
                 clear HO212
                 have HO_6 := n0_
                 have BK193 := n1_
                 have HO204 := n2_
                 have BK206 := n3_
                 have BK222 := n4_
                 have HB := n5_
                 have HO215 := n6_
                 clear n0_ n1_ n2_ n3_ n4_ n5_ n6_
                 clear ho hb hg hat
                 refine hK.out _ _ ⟨(blk_cell BK193.out 0).trans rfl, (blk_cell BK193.out 1).trans rfl, (blk_cell BK193.out 2).trans rfl, (blk_cell BK193.out 3).trans rfl⟩ (fun hHeld => ?_)
                 clear hK K
                 refine norm_ (a' := ?_) ?_ ?_
                 rotate_left
                 ·show Act.put _ (some 42) _ = _
                  simp only [Act.put, List.setIfInBounds_toArray, List.set_cons_zero, List.set_cons_succ, i64_w, i32_w]
                  rfl
                 exact norm_ (by first | (simp only [putAll, Act.put, List.setIfInBounds_toArray, List.set_cons_zero, List.set_cons_succ]; done) | (simp only [putAll, Act.put, List.setIfInBounds_toArray, List.set_cons_zero, List.set_cons_succ]; rfl)) (hJ3_5_10 (v211, v214, gb222) _ ⟨hHeld, HO204.out, HO215.out, (by (with_reducible repeat (first | apply Kd.R_alloc | apply Kd.R_drewN | apply Kd.R_drew)); exact Kd.R_mono HO_6.out (fun _ hk => hk.2)), BK193.out, BK206.out, BK222.out, GW222.out, GE222.out, NB193_222.out, NB222_193.out, NB206_222.out, NB222_206.out, HB.out⟩)
              ·skip
               rintro ⟨v211, v214⟩ w29 ⟨hS_, h0_, h1_, h2_, h3_, h4_, h5_⟩
               have n0_ : Aside0 (Kd.R k27 27 w29 w.heap.size (fun k_ => k_ ≠ gb206) (.slice Ao23 t202.length co23) t202) := ⟨h0_⟩
               have n1_ : Aside0 (Kd.R (Kd.int .i64) 3 w29 w.heap.size (fun k_ => some k_ ≠ (.slice Ao18 t195.length co18 : Value).ownBlock) v214 y213) := ⟨h1_⟩
               have n2_ : Aside0 (Kd.R (Kd.int .i64) 3 w29 w.heap.size (fun k_ => some k_ ≠ (v214 : Value).ownBlock) (.slice Ao18 t195.length co18) t195) := ⟨h2_⟩
               have n3_ : Aside0 (w29.heap[gb193]? = some (.cells #[.int .i64 a0_0, .int .i64 a0_1, .int .i64 a0_2, .slice A0_3 l0_3.length c0_3] 63 (0, 0))) := ⟨h3_⟩
               have n4_ : Aside0 (w29.heap[gb206]? = some (.cells #[.bool t200, .int .i64 t201, .slice Ao23 t202.length co23] 27 (0, 0))) := ⟨h4_⟩
               have n5_ : Aside0 (Below w.heap.size w w29) := ⟨h5_⟩
               clear HO_6
               clear HO204
               clear BK193
               clear BK206
               clear HB
               clear h0_ h1_ h2_ h3_ h4_ h5_
               have HO204 := n0_
               have HO215 := n1_
               have HO_6 := n2_
               have BK193 := n3_
               have BK206 := n4_
               have HB := n5_
               clear n0_ n1_ n2_ n3_ n4_ n5_
               have hHeld : w29.cell? ⟨gb193, 0, none⟩ = some (.int .i64 a0_0) ∧ w29.cell? ⟨gb193, 1, none⟩ = some (.int .i64 a0_1) ∧ w29.cell? ⟨gb193, 2, none⟩ = some (.int .i64 a0_2) ∧ w29.cell? ⟨gb193, 3, none⟩ = some (.slice A0_3 l0_3.length c0_3) := hS_
               refine norm_ (a' := ?_) ?_ ?_
               rotate_left
               ·simp only [putAll, Act.put, List.setIfInBounds_toArray, List.set_cons_zero, List.set_cons_succ]
                rfl
               refine two_ (i := 1) (j := 10) (Ni := some 38) (Nj := some 10) #[true, true, false, true, true, true, false, false, false, false, false, false, false] #[true, false, false, true, true, true, false, false, false, false, true, false, false] rfl rfl rfl rfl (two_of HT_.out (by kernel_rfl)) (by decide) (by decide) (fun K hK => ?_) (fun K hK => ?_)
               ·skip
                refine Kd.R_lit_step (gfix w) _ 63 ?hg (N := 38) ?hd (xs := ([(⟨a0_0, a0_1, a0_2, l0_3⟩ : S63)] : List (S63))) (inner := [.int .i64 a0_0, .int .i64 a0_1, .int .i64 a0_2, .slice A0_3 l0_3.length c0_3]) (ok := fun _ => True) (okp := fun _ => True) ?hr ?hp (fun _ hk => hk) trivial (Below.refl _ _) (Nat.le_refl _) (by simp) ?_; (case hd => rfl); (case hg => rfl); (case hr => first | (go_simp; done) | (go_simp; rfl)); (case hp => exact (Reps.c4 (show Kd.M (gfix w) _ _ _ (⟨a0_0, a0_1, a0_2, l0_3⟩ : S63) [.int .i64 a0_0, .int .i64 a0_1, .int .i64 a0_2, .slice A0_3 l0_3.length c0_3] from (k63_mk w (⟨a0_0, a0_1, a0_2, l0_3⟩ : S63) HC0_3.out HR0_3.out)) (Reps.none _ _)))
                intro v208 w30 ho31 hb hg_ hnew_
                clear hg_ hnew_
                (first | rw [← Ny207.out] at ho31 | (simp only [Int.reduceToNat] at ho31; rw [← Ny207.out] at ho31))
                have n0_ := Aside0.mk (Kd.R_below HO_6.out hb)
                have n1_ := Aside0.mk (Kd.R_below HO204.out hb)
                have n2_ := Aside0.mk (Kd.R_below HO215.out hb)
                have n3_ := Aside0.mk (Kd.R_lower (Kd.R_newB ho31 (g := gb193) (o := .cells #[.int .i64 a0_0, .int .i64 a0_1, .int .i64 a0_2, .slice A0_3 l0_3.length c0_3] 63 (0, 0)) BK193.out) (below_size HB.out))
                have n4_ := Aside0.mk (blk_below (g := gb193) (o := .cells #[.int .i64 a0_0, .int .i64 a0_1, .int .i64 a0_2, .slice A0_3 l0_3.length c0_3] 63 (0, 0)) BK193.out hb)
                have n5_ := Aside0.mk (blk_below (g := gb206) (o := .cells #[.bool t200, .int .i64 t201, .slice Ao23 t202.length co23] 27 (0, 0)) BK206.out hb)
                have n6_ := Aside0.mk (below_step HB.out hb)
                clear HO_6
                clear HO204
                clear HO215
                clear BK193
                clear BK206
                clear HB
                have HO_6 := n0_
                have HO204 := n1_
                have HO215 := n2_
                have HO209 := n3_
                have BK193 := n4_
                have BK206 := n5_
                have HB := n6_
                clear n0_ n1_ n2_ n3_ n4_ n5_ n6_
                clear hb ho31
                obtain ⟨Ao32, co32, eo32⟩ := Kd.R_slice HO209.out
                (first | subst eo32 | (injection eo32 with f1_ f2_ f3_; have f4_ := f1_.symm; have f5_ := f3_.symm; clear f1_ f2_ f3_; subst f4_; subst f5_))
                refine hK.out _ _ ⟨(blk_cell BK193.out 0).trans rfl, (blk_cell BK193.out 1).trans rfl, (blk_cell BK193.out 2).trans rfl, (blk_cell BK193.out 3).trans rfl⟩ (fun hHeld => ?_)
                clear hK K
                refine norm_ (a' := ?_) ?_ ?_
                rotate_left
                ·show Act.put _ (some 38) _ = _
                 simp only [Act.put, List.setIfInBounds_toArray, List.set_cons_zero, List.set_cons_succ, i64_w, i32_w]
                 rfl
                refine pure_ (i := 2) (N := some 39) (v := ?_) (a' := ?_) #[true, true, true, true, true, true, false, false, false, false, false, false, false] rfl rfl (any_of HT_.out (by kernel_rfl)) (fun _ _ _ h => h) (Or.inl ⟨by rfl, ?_⟩) ?_ ?_
                rotate_left
                ·intro w'
                 go_simp
                 with_reducible rfl
                rotate_left
                ·simp only [Act.put, List.setIfInBounds_toArray, List.set_cons_zero, List.set_cons_succ, i64_w, i32_w]
                 rfl
                exact norm_ (by first | (simp only [putAll, Act.put, List.setIfInBounds_toArray, List.set_cons_zero, List.set_cons_succ]; done) | (simp only [putAll, Act.put, List.setIfInBounds_toArray, List.set_cons_zero, List.set_cons_succ]; rfl)) (hJ1_3_5 (.slice Ao32 y207.length co32, v211, v214) _ ⟨hHeld, HO204.out, (by (with_reducible repeat (first | apply Kd.R_alloc | apply Kd.R_drewN | apply Kd.R_drew)); exact Kd.R_mono HO209.out (fun _ hk => hk.2)), HO215.out, HO_6.out, BK193.out, BK206.out, HB.out⟩)
               ·skip
                refine box_step ?hg (N := 10) ?hd (cs := #[.bool false, .int .i64 0, .slice none 0 0]) (t := 27) ?hr ?_; (case hd => rfl); (case hg => rfl); (case hr => first | (go_simp; done) | (go_simp; rfl))
                intro gb222 hg w30 hbox hb
                have n0_ := Aside0.mk (Kd.R_below HO_6.out hb)
                have n1_ := Aside0.mk (Kd.R_below (Kd.R_elderB HO204.out gb222 (Nat.le_of_eq hg.symm)) hb)
                have n2_ := Aside0.mk (Kd.R_below HO215.out hb)
                have n3_ := Aside0.mk (blk_below (g := gb193) (o := .cells #[.int .i64 a0_0, .int .i64 a0_1, .int .i64 a0_2, .slice A0_3 l0_3.length c0_3] 63 (0, 0)) BK193.out hb)
                have n4_ := Aside0.mk (blk_below (g := gb206) (o := .cells #[.bool t200, .int .i64 t201, .slice Ao23 t202.length co23] 27 (0, 0)) BK206.out hb)
                have n5_ := Aside0.mk (below_step HB.out hb)
                have n6_ := Aside0.mk (hbox)
                have n7_ := Aside0.mk ((by rw [hg]; exact (below_size HB.out) : w.heap.size ≤ gb222))
                have n8_ := Aside0.mk ((by rw [hg]; exact (below_size HB.out) : w.heap.size ≤ gb222))
                have n9_ := Aside0.mk ((by rw [hg]; exact Nat.ne_of_lt (blk_lt (g := gb193) (o := .cells #[.int .i64 a0_0, .int .i64 a0_1, .int .i64 a0_2, .slice A0_3 l0_3.length c0_3] 63 (0, 0)) BK193.out) : gb193 ≠ gb222))
                have n10_ := Aside0.mk ((by rw [hg]; exact Nat.ne_of_gt (blk_lt (g := gb193) (o := .cells #[.int .i64 a0_0, .int .i64 a0_1, .int .i64 a0_2, .slice A0_3 l0_3.length c0_3] 63 (0, 0)) BK193.out) : gb222 ≠ gb193))
                have n11_ := Aside0.mk ((by rw [hg]; exact Nat.ne_of_lt (blk_lt (g := gb206) (o := .cells #[.bool t200, .int .i64 t201, .slice Ao23 t202.length co23] 27 (0, 0)) BK206.out) : gb206 ≠ gb222))
                have n12_ := Aside0.mk ((by rw [hg]; exact Nat.ne_of_gt (blk_lt (g := gb206) (o := .cells #[.bool t200, .int .i64 t201, .slice Ao23 t202.length co23] 27 (0, 0)) BK206.out) : gb222 ≠ gb206))
                clear HO_6
                clear HO204
                clear HO215
                clear BK193
                clear BK206
                clear HB
                have HO_6 := n0_
                have HO204 := n1_
                have HO215 := n2_
                have BK193 := n3_
                have BK206 := n4_
                have HB := n5_
                have BK222 := n6_
                have GW222 := n7_
                have GE222 := n8_
                have NB193_222 := n9_
                have NB222_193 := n10_
                have NB206_222 := n11_
                have NB222_206 := n12_
                clear n0_ n1_ n2_ n3_ n4_ n5_ n6_ n7_ n8_ n9_ n10_ n11_ n12_
                clear hb hbox hg
                refine hK.out _ _ ⟨(blk_cell BK193.out 0).trans rfl, (blk_cell BK193.out 1).trans rfl, (blk_cell BK193.out 2).trans rfl, (blk_cell BK193.out 3).trans rfl⟩ (fun hHeld => ?_)
                clear hK K
                refine norm_ (a' := ?_) ?_ ?_
                rotate_left
                ·show Act.put _ (some 10) _ = _
                 simp only [Act.put, List.setIfInBounds_toArray, List.set_cons_zero, List.set_cons_succ, i64_w, i32_w]
                 rfl
                exact norm_ (by first | (simp only [putAll, Act.put, List.setIfInBounds_toArray, List.set_cons_zero, List.set_cons_succ]; done) | (simp only [putAll, Act.put, List.setIfInBounds_toArray, List.set_cons_zero, List.set_cons_succ]; rfl)) (hJ3_5_10 (v211, v214, gb222) _ ⟨hHeld, HO204.out, HO215.out, HO_6.out, BK193.out, BK206.out, BK222.out, GW222.out, GE222.out, NB193_222.out, NB222_193.out, NB206_222.out, NB222_206.out, HB.out⟩)
             ·skip
              rintro ⟨v208, gb222⟩ w30 ⟨hS_, h0_, h1_, h2_, h3_, h4_, h5_, h6_, h7_, h8_, h9_, h10_, h11_, h12_⟩
              have n0_ : Aside0 (Kd.R k27 27 w30 w.heap.size (fun k_ => k_ ≠ gb206 ∧ k_ ≠ gb222) (.slice Ao23 t202.length co23) t202) := ⟨h0_⟩
              have n1_ : Aside0 (Kd.R (gfix w) 63 w30 w.heap.size (fun k_ => k_ ≠ gb193) v208 y207) := ⟨h1_⟩
              have n2_ : Aside0 (Kd.R (Kd.int .i64) 3 w30 w.heap.size (fun _ => True) (.slice Ao18 t195.length co18) t195) := ⟨h2_⟩
              have n3_ : Aside0 (w30.heap[gb193]? = some (.cells #[.int .i64 a0_0, .int .i64 a0_1, .int .i64 a0_2, .slice A0_3 l0_3.length c0_3] 63 (0, 0))) := ⟨h3_⟩
              have n4_ : Aside0 (w30.heap[gb206]? = some (.cells #[.bool t200, .int .i64 t201, .slice Ao23 t202.length co23] 27 (0, 0))) := ⟨h4_⟩
              have n5_ : Aside0 (w30.heap[gb222]? = some (.cells #[.bool false, .int .i64 0, .slice none 0 0] 27 (0, 0))) := ⟨h5_⟩
              have n6_ : Aside0 (w.heap.size ≤ gb222) := ⟨h6_⟩
              have n7_ : Aside0 (w.heap.size ≤ gb222) := ⟨h7_⟩
              have n8_ : Aside0 (gb193 ≠ gb222) := ⟨h8_⟩
              have n9_ : Aside0 (gb222 ≠ gb193) := ⟨h9_⟩
              have n10_ : Aside0 (gb206 ≠ gb222) := ⟨h10_⟩
              have n11_ : Aside0 (gb222 ≠ gb206) := ⟨h11_⟩
              have n12_ : Aside0 (Below w.heap.size w w30) := ⟨h12_⟩
              clear HO_6
              clear HO204
              clear BK193
              clear BK206
              clear HB
              clear h0_ h1_ h2_ h3_ h4_ h5_ h6_ h7_ h8_ h9_ h10_ h11_ h12_
              have HO204 := n0_
              have HO209 := n1_
              have HO_6 := n2_
              have BK193 := n3_
              have BK206 := n4_
              have BK222 := n5_
              have GW222 := n6_
              have GE222 := n7_
              have NB193_222 := n8_
              have NB222_193 := n9_
              have NB206_222 := n10_
              have NB222_206 := n11_
              have HB := n12_
              clear n0_ n1_ n2_ n3_ n4_ n5_ n6_ n7_ n8_ n9_ n10_ n11_ n12_
              have hHeld : w30.cell? ⟨gb193, 0, none⟩ = some (.int .i64 a0_0) ∧ w30.cell? ⟨gb193, 1, none⟩ = some (.int .i64 a0_1) ∧ w30.cell? ⟨gb193, 2, none⟩ = some (.int .i64 a0_2) ∧ w30.cell? ⟨gb193, 3, none⟩ = some (.slice A0_3 l0_3.length c0_3) := hS_
              obtain ⟨Ao31, co31, eo31⟩ := Kd.R_slice HO209.out
              (first | subst eo31 | (injection eo31 with f1_ f2_ f3_; have f4_ := f1_.symm; have f5_ := f3_.symm; clear f1_ f2_ f3_; subst f4_; subst f5_))
              refine norm_ (a' := ?_) ?_ ?_
              rotate_left
              ·simp only [putAll, Act.put, List.setIfInBounds_toArray, List.set_cons_zero, List.set_cons_succ]
               rfl
              refine one_ (i := 3) (N := some 40) #[true, true, true, true, true, false, false, false, false, false, true, false, false] rfl rfl (one_of HT_.out (by kernel_rfl)) (by decide) (fun K hK => ?_)
              refine Kd.R_lit_step (Kd.int .i64) _ 3 ?hg (N := 40) ?hd (xs := ([0] : List Int)) (inner := [.int .i64 0]) (ok := fun _ => True) (okp := fun _ => True) ?hr ?hp (fun _ hk => hk) trivial (Below.refl _ _) (Nat.le_refl _) (by simp) ?_; (case hd => rfl); (case hg => rfl); (case hr => first | (go_simp; done) | (go_simp; rfl)); (case hp => exact (Reps.one (show Kd.M (Kd.int .i64) _ _ _ 0 [.int .i64 0] from rfl) (Reps.none _ _)))
              intro v211 w32 ho33 hb hg_ hnew_
              clear hg_ hnew_
              (first | rw [← Ny210.out] at ho33 | (simp only [Int.reduceToNat] at ho33; rw [← Ny210.out] at ho33))
              have n0_ := Aside0.mk (Kd.R_elder' HO_6.out (Kd.R_base ho33) hb)
              have n1_ := Aside0.mk (Kd.R_below HO204.out hb)
              have n2_ := Aside0.mk (Kd.R_below HO209.out hb)
              have n3_ := Aside0.mk (Kd.R_lower (Kd.R_new' ho33 (Kd.R_lt HO_6.out)) (below_size HB.out))
              have n4_ := Aside0.mk (blk_below (g := gb193) (o := .cells #[.int .i64 a0_0, .int .i64 a0_1, .int .i64 a0_2, .slice A0_3 l0_3.length c0_3] 63 (0, 0)) BK193.out hb)
              have n5_ := Aside0.mk (blk_below (g := gb206) (o := .cells #[.bool t200, .int .i64 t201, .slice Ao23 t202.length co23] 27 (0, 0)) BK206.out hb)
              have n6_ := Aside0.mk (blk_below (g := gb222) (o := .cells #[.bool false, .int .i64 0, .slice none 0 0] 27 (0, 0)) BK222.out hb)
              have n7_ := Aside0.mk (below_step HB.out hb)
              clear HO_6
              clear HO204
              clear HO209
              clear BK193
              clear BK206
              clear BK222
              clear HB
              have HO_6 := n0_
              have HO204 := n1_
              have HO209 := n2_
              have HO212 := n3_
              have BK193 := n4_
              have BK206 := n5_
              have BK222 := n6_
              have HB := n7_
              clear n0_ n1_ n2_ n3_ n4_ n5_ n6_ n7_
              clear hb ho33
              refine hK.out _ _ ⟨(blk_cell BK193.out 0).trans rfl, (blk_cell BK193.out 1).trans rfl, (blk_cell BK193.out 2).trans rfl, (blk_cell BK193.out 3).trans rfl⟩ (fun hHeld => ?_)
              clear hK K
              refine norm_ (a' := ?_) ?_ ?_
              rotate_left
              ·show Act.put _ (some 40) _ = _
               simp only [Act.put, List.setIfInBounds_toArray, List.set_cons_zero, List.set_cons_succ, i64_w, i32_w]
               rfl
              exact norm_ (by first | (simp only [putAll, Act.put, List.setIfInBounds_toArray, List.set_cons_zero, List.set_cons_succ]; done) | (simp only [putAll, Act.put, List.setIfInBounds_toArray, List.set_cons_zero, List.set_cons_succ]; rfl)) (hJ1_3_10 (.slice Ao31 y207.length co31, v211, gb222) _ ⟨hHeld, HO204.out, HO209.out, (by (with_reducible repeat (first | apply Kd.R_alloc | apply Kd.R_drewN | apply Kd.R_drew)); exact Kd.R_mono HO212.out (fun _ hk => hk.2)), (by (with_reducible repeat (first | apply Kd.R_alloc | apply Kd.R_drewN | apply Kd.R_drew)); exact Kd.R_mono HO_6.out (fun _ hk => hk.2)), BK193.out, BK206.out, BK222.out, GW222.out, GE222.out, NB193_222.out, NB222_193.out, NB206_222.out, NB222_206.out, HB.out⟩)
            ·skip
             rintro ⟨v208, v211⟩ w31 ⟨hS_, h0_, h1_, h2_, h3_, h4_, h5_, h6_⟩
             have n0_ : Aside0 (Kd.R k27 27 w31 w.heap.size (fun k_ => k_ ≠ gb206) (.slice Ao23 t202.length co23) t202) := ⟨h0_⟩
             have n1_ : Aside0 (Kd.R (gfix w) 63 w31 w.heap.size (fun k_ => k_ ≠ gb193) v208 y207) := ⟨h1_⟩
             have n2_ : Aside0 (Kd.R (Kd.int .i64) 3 w31 w.heap.size (fun k_ => some k_ ≠ (.slice Ao18 t195.length co18 : Value).ownBlock) v211 y210) := ⟨h2_⟩
             have n3_ : Aside0 (Kd.R (Kd.int .i64) 3 w31 w.heap.size (fun k_ => some k_ ≠ (v211 : Value).ownBlock) (.slice Ao18 t195.length co18) t195) := ⟨h3_⟩
             have n4_ : Aside0 (w31.heap[gb193]? = some (.cells #[.int .i64 a0_0, .int .i64 a0_1, .int .i64 a0_2, .slice A0_3 l0_3.length c0_3] 63 (0, 0))) := ⟨h4_⟩
             have n5_ : Aside0 (w31.heap[gb206]? = some (.cells #[.bool t200, .int .i64 t201, .slice Ao23 t202.length co23] 27 (0, 0))) := ⟨h5_⟩
             have n6_ : Aside0 (Below w.heap.size w w31) := ⟨h6_⟩
             clear HO_6
             clear HO204
             clear BK193
             clear BK206
             clear HB
             clear h0_ h1_ h2_ h3_ h4_ h5_ h6_
             have HO204 := n0_
             have HO209 := n1_
             have HO212 := n2_
             have HO_6 := n3_
             have BK193 := n4_
             have BK206 := n5_
             have HB := n6_
             clear n0_ n1_ n2_ n3_ n4_ n5_ n6_
             have hHeld : w31.cell? ⟨gb193, 0, none⟩ = some (.int .i64 a0_0) ∧ w31.cell? ⟨gb193, 1, none⟩ = some (.int .i64 a0_1) ∧ w31.cell? ⟨gb193, 2, none⟩ = some (.int .i64 a0_2) ∧ w31.cell? ⟨gb193, 3, none⟩ = some (.slice A0_3 l0_3.length c0_3) := hS_
             obtain ⟨Ao32, co32, eo32⟩ := Kd.R_slice HO209.out
             (first | subst eo32 | (injection eo32 with f1_ f2_ f3_; have f4_ := f1_.symm; have f5_ := f3_.symm; clear f1_ f2_ f3_; subst f4_; subst f5_))
             refine norm_ (a' := ?_) ?_ ?_
             rotate_left
             ·simp only [putAll, Act.put, List.setIfInBounds_toArray, List.set_cons_zero, List.set_cons_succ]
              rfl
             refine two_ (i := 5) (j := 10) (Ni := some 42) (Nj := some 10) #[true, true, true, true, true, true, false, false, false, false, false, false, false] #[true, true, true, true, true, false, false, false, false, false, true, false, false] rfl rfl rfl rfl (two_of HT_.out (by kernel_rfl)) (by decide) (by decide) (fun K hK => ?_) (fun K hK => ?_)
             ·skip
              refine Kd.R_append_rows_step (Kd.int .i64) (w0 := w) w.heap.size (by rfl) (.tmp 40) (.tmp 41) 36 3 (.int .i64 0) 8 rfl Tryd.underlying36 info3 rfl (by decide) (by omega) v211 y210 t195 _ _ _ (fun k_ => some k_ ≠ (.slice Ao18 t195.length co18 : Value).ownBlock) (fun _ => False) rfl rfl ?aO ?aR (fun _ _ h => h) (fun _ h => h.elim) ?aF ?aB ?aS ?aL ?_
              (case aR => repeat (first | exact (Kd.R_reads' HO_6.out).2.2 | (with_reducible refine Kd.C_alloc ?_ _) | (with_reducible refine Kd.C_drewN ?_ _) | (with_reducible refine Kd.C_drew ?_)))
              (case aB => exact HB.out)
              (case aF => exact (fun k_ hk => Kd.fresh' (Kd.R_lt HO_6.out) k_ hk))
              (case aO => exact HO212.out)
              (case aS => exact (below_size HB.out))
              (case aL => have := LMc13.out; omega)
              intro v214 w33 ho hb hg hat
              rw [← Ny213.out] at ho
              have n0_ := Aside0.mk (Kd.R_after (ok := (fun _ => True)) (by (with_reducible repeat (first | apply Kd.R_alloc | apply Kd.R_drewN | apply Kd.R_drew)); exact Kd.R_mono HO_6.out (fun _ hk => ⟨trivial, hk⟩)) hg hat)
              have n1_ := Aside0.mk (blk_grown (g := gb193) (o := .cells #[.int .i64 a0_0, .int .i64 a0_1, .int .i64 a0_2, .slice A0_3 l0_3.length c0_3] 63 (0, 0)) BK193.out hg (Kd.R_ne HO212.out BK193.out (by decide)))
              have n2_ := Aside0.mk (Kd.R_over' HO204.out (Kd.R_typed HO212.out) (by decide) hg)
              have n3_ := Aside0.mk (blk_grown (g := gb206) (o := .cells #[.bool t200, .int .i64 t201, .slice Ao23 t202.length co23] 27 (0, 0)) BK206.out hg (Kd.R_ne HO212.out BK206.out (by decide)))
              have n4_ := Aside0.mk (Kd.R_over' HO209.out (Kd.R_typed HO212.out) (gfE (by decide)) hg)
              have n5_ := Aside0.mk (hb)
              have n6_ := Aside0.mk (ho)
              clear HO_6
              clear BK193
              clear HO204
              clear BK206
              clear HO209
              clear HB
              clear HO212
              have HO_6 := n0_
              have BK193 := n1_
              have HO204 := n2_
              have BK206 := n3_
              have HO209 := n4_
              have HB := n5_
              have HO215 := n6_
              clear n0_ n1_ n2_ n3_ n4_ n5_ n6_
              clear ho hb hg hat
              refine hK.out _ _ ⟨(blk_cell BK193.out 0).trans rfl, (blk_cell BK193.out 1).trans rfl, (blk_cell BK193.out 2).trans rfl, (blk_cell BK193.out 3).trans rfl⟩ (fun hHeld => ?_)
              clear hK K
              refine norm_ (a' := ?_) ?_ ?_
              rotate_left
              ·show Act.put _ (some 42) _ = _
               simp only [Act.put, List.setIfInBounds_toArray, List.set_cons_zero, List.set_cons_succ, i64_w, i32_w]
               rfl
              exact norm_ (by first | (simp only [putAll, Act.put, List.setIfInBounds_toArray, List.set_cons_zero, List.set_cons_succ]; done) | (simp only [putAll, Act.put, List.setIfInBounds_toArray, List.set_cons_zero, List.set_cons_succ]; rfl)) (hJ1_3_5 (.slice Ao32 y207.length co32, v211, v214) _ ⟨hHeld, HO204.out, HO209.out, HO215.out, (by (with_reducible repeat (first | apply Kd.R_alloc | apply Kd.R_drewN | apply Kd.R_drew)); exact Kd.R_mono HO_6.out (fun _ hk => hk.2)), BK193.out, BK206.out, HB.out⟩)
             ·skip
              refine box_step ?hg (N := 10) ?hd (cs := #[.bool false, .int .i64 0, .slice none 0 0]) (t := 27) ?hr ?_; (case hd => rfl); (case hg => rfl); (case hr => first | (go_simp; done) | (go_simp; rfl))
              intro gb222 hg w33 hbox hb
              have n0_ := Aside0.mk (Kd.R_below HO_6.out hb)
              have n1_ := Aside0.mk (Kd.R_below (Kd.R_elderB HO204.out gb222 (Nat.le_of_eq hg.symm)) hb)
              have n2_ := Aside0.mk (Kd.R_below HO209.out hb)
              have n3_ := Aside0.mk (Kd.R_below HO212.out hb)
              have n4_ := Aside0.mk (blk_below (g := gb193) (o := .cells #[.int .i64 a0_0, .int .i64 a0_1, .int .i64 a0_2, .slice A0_3 l0_3.length c0_3] 63 (0, 0)) BK193.out hb)
              have n5_ := Aside0.mk (blk_below (g := gb206) (o := .cells #[.bool t200, .int .i64 t201, .slice Ao23 t202.length co23] 27 (0, 0)) BK206.out hb)
              have n6_ := Aside0.mk (below_step HB.out hb)
              have n7_ := Aside0.mk (hbox)
              have n8_ := Aside0.mk ((by rw [hg]; exact (below_size HB.out) : w.heap.size ≤ gb222))
              have n9_ := Aside0.mk ((by rw [hg]; exact (below_size HB.out) : w.heap.size ≤ gb222))
              have n10_ := Aside0.mk ((by rw [hg]; exact Nat.ne_of_lt (blk_lt (g := gb193) (o := .cells #[.int .i64 a0_0, .int .i64 a0_1, .int .i64 a0_2, .slice A0_3 l0_3.length c0_3] 63 (0, 0)) BK193.out) : gb193 ≠ gb222))
              have n11_ := Aside0.mk ((by rw [hg]; exact Nat.ne_of_gt (blk_lt (g := gb193) (o := .cells #[.int .i64 a0_0, .int .i64 a0_1, .int .i64 a0_2, .slice A0_3 l0_3.length c0_3] 63 (0, 0)) BK193.out) : gb222 ≠ gb193))
              have n12_ := Aside0.mk ((by rw [hg]; exact Nat.ne_of_lt (blk_lt (g := gb206) (o := .cells #[.bool t200, .int .i64 t201, .slice Ao23 t202.length co23] 27 (0, 0)) BK206.out) : gb206 ≠ gb222))
              have n13_ := Aside0.mk ((by rw [hg]; exact Nat.ne_of_gt (blk_lt (g := gb206) (o := .cells #[.bool t200, .int .i64 t201, .slice Ao23 t202.length co23] 27 (0, 0)) BK206.out) : gb222 ≠ gb206))
              clear HO_6
              clear HO204
              clear HO209
              clear HO212
              clear BK193
              clear BK206
              clear HB
              have HO_6 := n0_
              have HO204 := n1_
              have HO209 := n2_
              have HO212 := n3_
              have BK193 := n4_
              have BK206 := n5_
              have HB := n6_
              have BK222 := n7_
              have GW222 := n8_
              have GE222 := n9_
              have NB193_222 := n10_
              have NB222_193 := n11_
              have NB206_222 := n12_
              have NB222_206 := n13_
              clear n0_ n1_ n2_ n3_ n4_ n5_ n6_ n7_ n8_ n9_ n10_ n11_ n12_ n13_
              clear hb hbox hg
              refine hK.out _ _ ⟨(blk_cell BK193.out 0).trans rfl, (blk_cell BK193.out 1).trans rfl, (blk_cell BK193.out 2).trans rfl, (blk_cell BK193.out 3).trans rfl⟩ (fun hHeld => ?_)
              clear hK K
              refine norm_ (a' := ?_) ?_ ?_
              rotate_left
              ·show Act.put _ (some 10) _ = _
               simp only [Act.put, List.setIfInBounds_toArray, List.set_cons_zero, List.set_cons_succ, i64_w, i32_w]
               rfl
              exact norm_ (by first | (simp only [putAll, Act.put, List.setIfInBounds_toArray, List.set_cons_zero, List.set_cons_succ]; done) | (simp only [putAll, Act.put, List.setIfInBounds_toArray, List.set_cons_zero, List.set_cons_succ]; rfl)) (hJ1_3_10 (.slice Ao32 y207.length co32, v211, gb222) _ ⟨hHeld, HO204.out, HO209.out, HO212.out, HO_6.out, BK193.out, BK206.out, BK222.out, GW222.out, GE222.out, NB193_222.out, NB222_193.out, NB206_222.out, NB222_206.out, HB.out⟩)
           ·skip
            rintro ⟨v211, v214, gb222⟩ w30 ⟨hS_, h0_, h1_, h2_, h3_, h4_, h5_, h6_, h7_, h8_, h9_, h10_, h11_, h12_⟩
            have n0_ : Aside0 (Kd.R k27 27 w30 w.heap.size (fun k_ => k_ ≠ gb206 ∧ k_ ≠ gb222) (.slice Ao23 t202.length co23) t202) := ⟨h0_⟩
            have n1_ : Aside0 (Kd.R (Kd.int .i64) 3 w30 w.heap.size (fun k_ => some k_ ≠ (.slice Ao18 t195.length co18 : Value).ownBlock) v214 y213) := ⟨h1_⟩
            have n2_ : Aside0 (Kd.R (Kd.int .i64) 3 w30 w.heap.size (fun k_ => some k_ ≠ (v214 : Value).ownBlock) (.slice Ao18 t195.length co18) t195) := ⟨h2_⟩
            have n3_ : Aside0 (w30.heap[gb193]? = some (.cells #[.int .i64 a0_0, .int .i64 a0_1, .int .i64 a0_2, .slice A0_3 l0_3.length c0_3] 63 (0, 0))) := ⟨h3_⟩
            have n4_ : Aside0 (w30.heap[gb206]? = some (.cells #[.bool t200, .int .i64 t201, .slice Ao23 t202.length co23] 27 (0, 0))) := ⟨h4_⟩
            have n5_ : Aside0 (w30.heap[gb222]? = some (.cells #[.bool false, .int .i64 0, .slice none 0 0] 27 (0, 0))) := ⟨h5_⟩
            have n6_ : Aside0 (w.heap.size ≤ gb222) := ⟨h6_⟩
            have n7_ : Aside0 (w.heap.size ≤ gb222) := ⟨h7_⟩
            have n8_ : Aside0 (gb193 ≠ gb222) := ⟨h8_⟩
            have n9_ : Aside0 (gb222 ≠ gb193) := ⟨h9_⟩
            have n10_ : Aside0 (gb206 ≠ gb222) := ⟨h10_⟩
            have n11_ : Aside0 (gb222 ≠ gb206) := ⟨h11_⟩
            have n12_ : Aside0 (Below w.heap.size w w30) := ⟨h12_⟩
            clear HO_6
            clear HO204
            clear BK193
            clear BK206
            clear HB
            clear h0_ h1_ h2_ h3_ h4_ h5_ h6_ h7_ h8_ h9_ h10_ h11_ h12_
            have HO204 := n0_
            have HO215 := n1_
            have HO_6 := n2_
            have BK193 := n3_
            have BK206 := n4_
            have BK222 := n5_
            have GW222 := n6_
            have GE222 := n7_
            have NB193_222 := n8_
            have NB222_193 := n9_
            have NB206_222 := n10_
            have NB222_206 := n11_
            have HB := n12_
            clear n0_ n1_ n2_ n3_ n4_ n5_ n6_ n7_ n8_ n9_ n10_ n11_ n12_
            have hHeld : w30.cell? ⟨gb193, 0, none⟩ = some (.int .i64 a0_0) ∧ w30.cell? ⟨gb193, 1, none⟩ = some (.int .i64 a0_1) ∧ w30.cell? ⟨gb193, 2, none⟩ = some (.int .i64 a0_2) ∧ w30.cell? ⟨gb193, 3, none⟩ = some (.slice A0_3 l0_3.length c0_3) := hS_
            refine norm_ (a' := ?_) ?_ ?_
            rotate_left
            ·simp only [putAll, Act.put, List.setIfInBounds_toArray, List.set_cons_zero, List.set_cons_succ]
             rfl
            refine one_ (i := 1) (N := some 38) #[true, true, false, true, true, true, false, false, false, false, true, false, false] rfl rfl (one_of HT_.out (by kernel_rfl)) (by decide) (fun K hK => ?_)
            refine Kd.R_lit_step (gfix w) _ 63 ?hg (N := 38) ?hd (xs := ([(⟨a0_0, a0_1, a0_2, l0_3⟩ : S63)] : List (S63))) (inner := [.int .i64 a0_0, .int .i64 a0_1, .int .i64 a0_2, .slice A0_3 l0_3.length c0_3]) (ok := fun _ => True) (okp := fun _ => True) ?hr ?hp (fun _ hk => hk) trivial (Below.refl _ _) (Nat.le_refl _) (by simp) ?_; (case hd => rfl); (case hg => rfl); (case hr => first | (go_simp; done) | (go_simp; rfl)); (case hp => exact (Reps.c4 (show Kd.M (gfix w) _ _ _ (⟨a0_0, a0_1, a0_2, l0_3⟩ : S63) [.int .i64 a0_0, .int .i64 a0_1, .int .i64 a0_2, .slice A0_3 l0_3.length c0_3] from (k63_mk w (⟨a0_0, a0_1, a0_2, l0_3⟩ : S63) HC0_3.out HR0_3.out)) (Reps.none _ _)))
            intro v208 w31 ho32 hb hg_ hnew_
            clear hg_ hnew_
            (first | rw [← Ny207.out] at ho32 | (simp only [Int.reduceToNat] at ho32; rw [← Ny207.out] at ho32))
            have n0_ := Aside0.mk (Kd.R_below HO_6.out hb)
            have n1_ := Aside0.mk (Kd.R_below HO204.out hb)
            have n2_ := Aside0.mk (Kd.R_below HO215.out hb)
            have n3_ := Aside0.mk (Kd.R_lower (Kd.R_newB ho32 (g := gb193) (o := .cells #[.int .i64 a0_0, .int .i64 a0_1, .int .i64 a0_2, .slice A0_3 l0_3.length c0_3] 63 (0, 0)) BK193.out) (below_size HB.out))
            have n4_ := Aside0.mk (blk_below (g := gb193) (o := .cells #[.int .i64 a0_0, .int .i64 a0_1, .int .i64 a0_2, .slice A0_3 l0_3.length c0_3] 63 (0, 0)) BK193.out hb)
            have n5_ := Aside0.mk (blk_below (g := gb206) (o := .cells #[.bool t200, .int .i64 t201, .slice Ao23 t202.length co23] 27 (0, 0)) BK206.out hb)
            have n6_ := Aside0.mk (blk_below (g := gb222) (o := .cells #[.bool false, .int .i64 0, .slice none 0 0] 27 (0, 0)) BK222.out hb)
            have n7_ := Aside0.mk (below_step HB.out hb)
            clear HO_6
            clear HO204
            clear HO215
            clear BK193
            clear BK206
            clear BK222
            clear HB
            have HO_6 := n0_
            have HO204 := n1_
            have HO215 := n2_
            have HO209 := n3_
            have BK193 := n4_
            have BK206 := n5_
            have BK222 := n6_
            have HB := n7_
            clear n0_ n1_ n2_ n3_ n4_ n5_ n6_ n7_
            clear hb ho32
            obtain ⟨Ao33, co33, eo33⟩ := Kd.R_slice HO209.out
            (first | subst eo33 | (injection eo33 with f1_ f2_ f3_; have f4_ := f1_.symm; have f5_ := f3_.symm; clear f1_ f2_ f3_; subst f4_; subst f5_))
            refine hK.out _ _ ⟨(blk_cell BK193.out 0).trans rfl, (blk_cell BK193.out 1).trans rfl, (blk_cell BK193.out 2).trans rfl, (blk_cell BK193.out 3).trans rfl⟩ (fun hHeld => ?_)
            clear hK K
            refine norm_ (a' := ?_) ?_ ?_
            rotate_left
            ·show Act.put _ (some 38) _ = _
             simp only [Act.put, List.setIfInBounds_toArray, List.set_cons_zero, List.set_cons_succ, i64_w, i32_w]
             rfl
            refine pure_ (i := 2) (N := some 39) (v := ?_) (a' := ?_) #[true, true, true, true, true, true, false, false, false, false, true, false, false] rfl rfl (any_of HT_.out (by kernel_rfl)) (fun _ _ _ h => h) (Or.inl ⟨by rfl, ?_⟩) ?_ ?_
            rotate_left
            ·intro w'
             go_simp
             with_reducible rfl
            rotate_left
            ·simp only [Act.put, List.setIfInBounds_toArray, List.set_cons_zero, List.set_cons_succ, i64_w, i32_w]
             rfl
            exact norm_ (by first | (simp only [putAll, Act.put, List.setIfInBounds_toArray, List.set_cons_zero, List.set_cons_succ]; done) | (simp only [putAll, Act.put, List.setIfInBounds_toArray, List.set_cons_zero, List.set_cons_succ]; rfl)) (hJ1_3_5_10 (.slice Ao33 y207.length co33, v211, v214, gb222) _ ⟨hHeld, HO204.out, (by (with_reducible repeat (first | apply Kd.R_alloc | apply Kd.R_drewN | apply Kd.R_drew)); exact Kd.R_mono HO209.out (fun _ hk => hk.2)), HO215.out, HO_6.out, BK193.out, BK206.out, BK222.out, GW222.out, GE222.out, NB193_222.out, NB222_193.out, NB206_222.out, NB222_206.out, HB.out⟩)
          ·skip
           rintro ⟨v208, v211, gb222⟩ w32 ⟨hS_, h0_, h1_, h2_, h3_, h4_, h5_, h6_, h7_, h8_, h9_, h10_, h11_, h12_, h13_⟩
           have n0_ : Aside0 (Kd.R k27 27 w32 w.heap.size (fun k_ => k_ ≠ gb206 ∧ k_ ≠ gb222) (.slice Ao23 t202.length co23) t202) := ⟨h0_⟩
           have n1_ : Aside0 (Kd.R (gfix w) 63 w32 w.heap.size (fun k_ => k_ ≠ gb193) v208 y207) := ⟨h1_⟩
           have n2_ : Aside0 (Kd.R (Kd.int .i64) 3 w32 w.heap.size (fun k_ => some k_ ≠ (.slice Ao18 t195.length co18 : Value).ownBlock) v211 y210) := ⟨h2_⟩
           have n3_ : Aside0 (Kd.R (Kd.int .i64) 3 w32 w.heap.size (fun k_ => some k_ ≠ (v211 : Value).ownBlock) (.slice Ao18 t195.length co18) t195) := ⟨h3_⟩
           have n4_ : Aside0 (w32.heap[gb193]? = some (.cells #[.int .i64 a0_0, .int .i64 a0_1, .int .i64 a0_2, .slice A0_3 l0_3.length c0_3] 63 (0, 0))) := ⟨h4_⟩
           have n5_ : Aside0 (w32.heap[gb206]? = some (.cells #[.bool t200, .int .i64 t201, .slice Ao23 t202.length co23] 27 (0, 0))) := ⟨h5_⟩
           have n6_ : Aside0 (w32.heap[gb222]? = some (.cells #[.bool false, .int .i64 0, .slice none 0 0] 27 (0, 0))) := ⟨h6_⟩
           have n7_ : Aside0 (w.heap.size ≤ gb222) := ⟨h7_⟩
           have n8_ : Aside0 (w.heap.size ≤ gb222) := ⟨h8_⟩
           have n9_ : Aside0 (gb193 ≠ gb222) := ⟨h9_⟩
           have n10_ : Aside0 (gb222 ≠ gb193) := ⟨h10_⟩
           have n11_ : Aside0 (gb206 ≠ gb222) := ⟨h11_⟩
           have n12_ : Aside0 (gb222 ≠ gb206) := ⟨h12_⟩
           have n13_ : Aside0 (Below w.heap.size w w32) := ⟨h13_⟩
           clear HO_6
           clear HO204
           clear BK193
           clear BK206
           clear HB
           clear h0_ h1_ h2_ h3_ h4_ h5_ h6_ h7_ h8_ h9_ h10_ h11_ h12_ h13_
           have HO204 := n0_
           have HO209 := n1_
           have HO212 := n2_
           have HO_6 := n3_
           have BK193 := n4_
           have BK206 := n5_
           have BK222 := n6_
           have GW222 := n7_
           have GE222 := n8_
           have NB193_222 := n9_
           have NB222_193 := n10_
           have NB206_222 := n11_
           have NB222_206 := n12_
           have HB := n13_
           clear n0_ n1_ n2_ n3_ n4_ n5_ n6_ n7_ n8_ n9_ n10_ n11_ n12_ n13_
           have hHeld : w32.cell? ⟨gb193, 0, none⟩ = some (.int .i64 a0_0) ∧ w32.cell? ⟨gb193, 1, none⟩ = some (.int .i64 a0_1) ∧ w32.cell? ⟨gb193, 2, none⟩ = some (.int .i64 a0_2) ∧ w32.cell? ⟨gb193, 3, none⟩ = some (.slice A0_3 l0_3.length c0_3) := hS_
           obtain ⟨Ao33, co33, eo33⟩ := Kd.R_slice HO209.out
           (first | subst eo33 | (injection eo33 with f1_ f2_ f3_; have f4_ := f1_.symm; have f5_ := f3_.symm; clear f1_ f2_ f3_; subst f4_; subst f5_))
           refine norm_ (a' := ?_) ?_ ?_
           rotate_left
           ·simp only [putAll, Act.put, List.setIfInBounds_toArray, List.set_cons_zero, List.set_cons_succ]
            rfl
           refine one_ (i := 5) (N := some 42) #[true, true, true, true, true, true, false, false, false, false, true, false, false] rfl rfl (one_of HT_.out (by kernel_rfl)) (by decide) (fun K hK => ?_)
           refine Kd.R_append_rows_step (Kd.int .i64) (w0 := w) w.heap.size (by rfl) (.tmp 40) (.tmp 41) 36 3 (.int .i64 0) 8 rfl Tryd.underlying36 info3 rfl (by decide) (by omega) v211 y210 t195 _ _ _ (fun k_ => some k_ ≠ (.slice Ao18 t195.length co18 : Value).ownBlock) (fun _ => False) rfl rfl ?aO ?aR (fun _ _ h => h) (fun _ h => h.elim) ?aF ?aB ?aS ?aL ?_
           (case aR => repeat (first | exact (Kd.R_reads' HO_6.out).2.2 | (with_reducible refine Kd.C_alloc ?_ _) | (with_reducible refine Kd.C_drewN ?_ _) | (with_reducible refine Kd.C_drew ?_)))
           (case aB => exact HB.out)
           (case aF => exact (fun k_ hk => Kd.fresh' (Kd.R_lt HO_6.out) k_ hk))
           (case aO => exact HO212.out)
           (case aS => exact (below_size HB.out))
           (case aL => have := LMc13.out; omega)
           intro v214 w34 ho hb hg hat
           rw [← Ny213.out] at ho
           have n0_ := Aside0.mk (Kd.R_after (ok := (fun _ => True)) (by (with_reducible repeat (first | apply Kd.R_alloc | apply Kd.R_drewN | apply Kd.R_drew)); exact Kd.R_mono HO_6.out (fun _ hk => ⟨trivial, hk⟩)) hg hat)
           have n1_ := Aside0.mk (blk_grown (g := gb193) (o := .cells #[.int .i64 a0_0, .int .i64 a0_1, .int .i64 a0_2, .slice A0_3 l0_3.length c0_3] 63 (0, 0)) BK193.out hg (Kd.R_ne HO212.out BK193.out (by decide)))
           have n2_ := Aside0.mk (Kd.R_over' HO204.out (Kd.R_typed HO212.out) (by decide) hg)
           have n3_ := Aside0.mk (blk_grown (g := gb206) (o := .cells #[.bool t200, .int .i64 t201, .slice Ao23 t202.length co23] 27 (0, 0)) BK206.out hg (Kd.R_ne HO212.out BK206.out (by decide)))
           have n4_ := Aside0.mk (Kd.R_over' HO209.out (Kd.R_typed HO212.out) (gfE (by decide)) hg)
           have n5_ := Aside0.mk (blk_grown (g := gb222) (o := .cells #[.bool false, .int .i64 0, .slice none 0 0] 27 (0, 0)) BK222.out hg (Kd.R_ne HO212.out BK222.out (by decide)))
           have n6_ := Aside0.mk (hb)
           have n7_ := Aside0.mk (ho)
           clear HO_6
           clear BK193
           clear HO204
           clear BK206
           clear HO209
           clear BK222
           clear HB
           clear HO212
           have HO_6 := n0_
           have BK193 := n1_
           have HO204 := n2_
           have BK206 := n3_
           have HO209 := n4_
           have BK222 := n5_
           have HB := n6_
           have HO215 := n7_
           clear n0_ n1_ n2_ n3_ n4_ n5_ n6_ n7_
           clear ho hb hg hat
           refine hK.out _ _ ⟨(blk_cell BK193.out 0).trans rfl, (blk_cell BK193.out 1).trans rfl, (blk_cell BK193.out 2).trans rfl, (blk_cell BK193.out 3).trans rfl⟩ (fun hHeld => ?_)
           clear hK K
           refine norm_ (a' := ?_) ?_ ?_
           rotate_left
           ·show Act.put _ (some 42) _ = _
            simp only [Act.put, List.setIfInBounds_toArray, List.set_cons_zero, List.set_cons_succ, i64_w, i32_w]
            rfl
           exact norm_ (by first | (simp only [putAll, Act.put, List.setIfInBounds_toArray, List.set_cons_zero, List.set_cons_succ]; done) | (simp only [putAll, Act.put, List.setIfInBounds_toArray, List.set_cons_zero, List.set_cons_succ]; rfl)) (hJ1_3_5_10 (.slice Ao33 y207.length co33, v211, v214, gb222) _ ⟨hHeld, HO204.out, HO209.out, HO215.out, (by (with_reducible repeat (first | apply Kd.R_alloc | apply Kd.R_drewN | apply Kd.R_drew)); exact Kd.R_mono HO_6.out (fun _ hk => hk.2)), BK193.out, BK206.out, BK222.out, GW222.out, GE222.out, NB193_222.out, NB222_193.out, NB206_222.out, NB222_206.out, HB.out⟩)
         ·skip
          rintro ⟨v208, v211, v214⟩ w32 ⟨hS_, h0_, h1_, h2_, h3_, h4_, h5_, h6_⟩
          have n0_ : Aside0 (Kd.R k27 27 w32 w.heap.size (fun k_ => k_ ≠ gb206) (.slice Ao23 t202.length co23) t202) := ⟨h0_⟩
          have n1_ : Aside0 (Kd.R (gfix w) 63 w32 w.heap.size (fun k_ => k_ ≠ gb193) v208 y207) := ⟨h1_⟩
          have n2_ : Aside0 (Kd.R (Kd.int .i64) 3 w32 w.heap.size (fun k_ => some k_ ≠ (.slice Ao18 t195.length co18 : Value).ownBlock) v214 y213) := ⟨h2_⟩
          have n3_ : Aside0 (Kd.R (Kd.int .i64) 3 w32 w.heap.size (fun k_ => some k_ ≠ (v214 : Value).ownBlock) (.slice Ao18 t195.length co18) t195) := ⟨h3_⟩
          have n4_ : Aside0 (w32.heap[gb193]? = some (.cells #[.int .i64 a0_0, .int .i64 a0_1, .int .i64 a0_2, .slice A0_3 l0_3.length c0_3] 63 (0, 0))) := ⟨h4_⟩
          have n5_ : Aside0 (w32.heap[gb206]? = some (.cells #[.bool t200, .int .i64 t201, .slice Ao23 t202.length co23] 27 (0, 0))) := ⟨h5_⟩
          have n6_ : Aside0 (Below w.heap.size w w32) := ⟨h6_⟩
          clear HO_6
          clear HO204
          clear BK193
          clear BK206
          clear HB
          clear h0_ h1_ h2_ h3_ h4_ h5_ h6_
          have HO204 := n0_
          have HO209 := n1_
          have HO215 := n2_
          have HO_6 := n3_
          have BK193 := n4_
          have BK206 := n5_
          have HB := n6_
          clear n0_ n1_ n2_ n3_ n4_ n5_ n6_
          have hHeld : w32.cell? ⟨gb193, 0, none⟩ = some (.int .i64 a0_0) ∧ w32.cell? ⟨gb193, 1, none⟩ = some (.int .i64 a0_1) ∧ w32.cell? ⟨gb193, 2, none⟩ = some (.int .i64 a0_2) ∧ w32.cell? ⟨gb193, 3, none⟩ = some (.slice A0_3 l0_3.length c0_3) := hS_
          obtain ⟨Ao33, co33, eo33⟩ := Kd.R_slice HO209.out
          (first | subst eo33 | (injection eo33 with f1_ f2_ f3_; have f4_ := f1_.symm; have f5_ := f3_.symm; clear f1_ f2_ f3_; subst f4_; subst f5_))
          obtain ⟨Ao34, co34, eo34⟩ := Kd.R_slice HO215.out
          (first | subst eo34 | (injection eo34 with f1_ f2_ f3_; have f4_ := f1_.symm; have f5_ := f3_.symm; clear f1_ f2_ f3_; subst f4_; subst f5_))
          refine norm_ (a' := ?_) ?_ ?_
          rotate_left
          ·simp only [putAll, Act.put, List.setIfInBounds_toArray, List.set_cons_zero, List.set_cons_succ]
           rfl
          refine two_ (i := 6) (j := 10) (Ni := some 43) (Nj := some 10) #[true, true, true, true, true, true, true, false, false, false, false, false, false] #[true, true, true, true, true, true, false, false, false, false, true, false, false] rfl rfl rfl rfl (two_of HT_.out (by kernel_rfl)) (by decide) (by decide) (fun K hK => ?_) (fun K hK => ?_)
          ·skip
           refine goes_ Tryd.func44 (by kernel_rfl) rfl #[.agg #[.int .i64 5, .int .i64 0, .int .i64 0, .slice Ao33 y207.length co33], .slice Ao34 y213.length co34] (by rfl) rfl rfl (by (try simp only [List.map_toArray, List.map_cons, List.map_nil]); first | done | rfl | (simp only [List.length_drop, List.length_take]; rfl)) ?_
           with_reducible refine (gen_Replay.calls 5 0 0 _ _ y207 _ _ y213 t216 t217 t218 t221 _ ?side1 ?side2 ?side3 ?side4 A14.out).mono ?_
           (case side1 => refine gfix_read HB.out ?_; repeat (first | exact (Kd.R_reads' HO209.out).2.2 | (with_reducible refine Kd.C_alloc ?_ _) | (with_reducible refine Kd.C_drewN ?_ _) | (with_reducible refine Kd.C_drew ?_)))
           (case side2 => exact (Kd.R_reads' HO209.out).2.1)
           (case side3 => repeat (first | exact (Kd.R_reads' HO215.out).2.2 | (with_reducible refine Kd.C_alloc ?_ _) | (with_reducible refine Kd.C_drewN ?_ _) | (with_reducible refine Kd.C_drew ?_)))
           (case side4 => exact (Kd.R_reads' HO215.out).2.1)
           rintro e w35 ⟨v219, rfl, ho0, hb⟩
           refine ⟨_, rfl, ?_⟩
           have n0_ := Aside0.mk (Kd.R_below HO_6.out hb)
           have n1_ := Aside0.mk (Kd.R_elder' HO204.out (Kd.R_base ho0) hb)
           have n2_ := Aside0.mk (Kd.R_below HO209.out hb)
           have n3_ := Aside0.mk (Kd.R_below HO215.out hb)
           have n4_ := Aside0.mk (Kd.R_lower (Kd.R_newB (Kd.R_new' ho0 (Kd.R_lt HO204.out)) (g := gb206) (o := .cells #[.bool t200, .int .i64 t201, .slice Ao23 t202.length co23] 27 (0, 0)) BK206.out) (below_size HB.out))
           have n5_ := Aside0.mk (blk_below (g := gb193) (o := .cells #[.int .i64 a0_0, .int .i64 a0_1, .int .i64 a0_2, .slice A0_3 l0_3.length c0_3] 63 (0, 0)) BK193.out hb)
           have n6_ := Aside0.mk (blk_below (g := gb206) (o := .cells #[.bool t200, .int .i64 t201, .slice Ao23 t202.length co23] 27 (0, 0)) BK206.out hb)
           have n7_ := Aside0.mk (below_step HB.out hb)
           clear HO_6
           clear HO204
           clear HO209
           clear HO215
           clear BK193
           clear BK206
           clear HB
           have HO_6 := n0_
           have HO204 := n1_
           have HO209 := n2_
           have HO215 := n3_
           have HO220 := n4_
           have BK193 := n5_
           have BK206 := n6_
           have HB := n7_
           clear n0_ n1_ n2_ n3_ n4_ n5_ n6_ n7_
           (try clear hb)
           (try clear hb2)
           (try clear hk)
           (try clear hi)
           (try clear ho0)
           (try simp only [errW_none, errW_some])
           refine hK.out _ _ ⟨(blk_cell BK193.out 0).trans rfl, (blk_cell BK193.out 1).trans rfl, (blk_cell BK193.out 2).trans rfl, (blk_cell BK193.out 3).trans rfl⟩ (fun hHeld => ?_)
           clear hK K
           refine norm_ (a' := ?_) ?_ ?_
           rotate_left
           ·show Act.put _ (some 43) _ = _
            simp only [Act.put, List.setIfInBounds_toArray, List.set_cons_zero, List.set_cons_succ, i64_w, i32_w]
            rfl
           refine pure_ (i := 7) (N := some 36) (v := ?_) (a' := ?_) #[true, true, true, true, true, true, true, true, false, false, false, false, false] rfl rfl (any_of HT_.out (by kernel_rfl)) (fun _ _ _ h => h) (Or.inl ⟨by rfl, ?_⟩) ?_ ?_
           rotate_left
           ·intro w'
            go_simp
            with_reducible rfl
           rotate_left
           ·simp only [Act.put, List.setIfInBounds_toArray, List.set_cons_zero, List.set_cons_succ, i64_w, i32_w]
            rfl
           refine pure_ (i := 8) (N := some 44) (v := ?_) (a' := ?_) #[true, true, true, true, true, true, true, true, true, false, false, false, false] rfl rfl (any_of HT_.out (by kernel_rfl)) (fun _ _ _ h => h) (Or.inl ⟨by rfl, ?_⟩) ?_ ?_
           rotate_left
           ·intro w'
            go_simp
            with_reducible rfl
           rotate_left
           ·simp only [Act.put, List.setIfInBounds_toArray, List.set_cons_zero, List.set_cons_succ, i64_w, i32_w]
            rfl
           refine pure_ (i := 9) (N := some 45) (v := ?_) (a' := ?_) #[true, true, true, true, true, true, true, true, true, true, false, false, false] rfl rfl (any_of HT_.out (by kernel_rfl)) (fun _ _ _ h => h) (Or.inl ⟨by rfl, ?_⟩) ?_ ?_
           rotate_left
           ·intro w'
            go_simp
            with_reducible rfl
           rotate_left
           ·simp only [Act.put, List.setIfInBounds_toArray, List.set_cons_zero, List.set_cons_succ, i64_w, i32_w]
            rfl
           exact norm_ (by first | (simp only [putAll, Act.put, List.setIfInBounds_toArray, List.set_cons_zero, List.set_cons_succ]; done) | (simp only [putAll, Act.put, List.setIfInBounds_toArray, List.set_cons_zero, List.set_cons_succ]; rfl)) (hJ1_3_5_6 (.slice Ao33 y207.length co33, v211, .slice Ao34 y213.length co34, v219) _ ⟨hHeld, (by (with_reducible repeat (first | apply Kd.R_alloc | apply Kd.R_drewN | apply Kd.R_drew)); exact Kd.R_mono HO204.out (fun _ hk => ⟨hk.2, hk.1⟩)), HO209.out, HO215.out, (by (with_reducible repeat (first | apply Kd.R_alloc | apply Kd.R_drewN | apply Kd.R_drew)); exact Kd.R_mono HO220.out (fun _ hk => ⟨hk.1.2, hk.2⟩)), HO_6.out, BK193.out, BK206.out, HB.out⟩)
          ·skip
           refine box_step ?hg (N := 10) ?hd (cs := #[.bool false, .int .i64 0, .slice none 0 0]) (t := 27) ?hr ?_; (case hd => rfl); (case hg => rfl); (case hr => first | (go_simp; done) | (go_simp; rfl))
           intro gb222 hg w34 hbox hb
           have n0_ := Aside0.mk (Kd.R_below HO_6.out hb)
           have n1_ := Aside0.mk (Kd.R_below (Kd.R_elderB HO204.out gb222 (Nat.le_of_eq hg.symm)) hb)
           have n2_ := Aside0.mk (Kd.R_below HO209.out hb)
           have n3_ := Aside0.mk (Kd.R_below HO215.out hb)
           have n4_ := Aside0.mk (blk_below (g := gb193) (o := .cells #[.int .i64 a0_0, .int .i64 a0_1, .int .i64 a0_2, .slice A0_3 l0_3.length c0_3] 63 (0, 0)) BK193.out hb)
           have n5_ := Aside0.mk (blk_below (g := gb206) (o := .cells #[.bool t200, .int .i64 t201, .slice Ao23 t202.length co23] 27 (0, 0)) BK206.out hb)
           have n6_ := Aside0.mk (below_step HB.out hb)
           have n7_ := Aside0.mk (hbox)
           have n8_ := Aside0.mk ((by rw [hg]; exact (below_size HB.out) : w.heap.size ≤ gb222))
           have n9_ := Aside0.mk ((by rw [hg]; exact (below_size HB.out) : w.heap.size ≤ gb222))
           have n10_ := Aside0.mk ((by rw [hg]; exact Nat.ne_of_lt (blk_lt (g := gb193) (o := .cells #[.int .i64 a0_0, .int .i64 a0_1, .int .i64 a0_2, .slice A0_3 l0_3.length c0_3] 63 (0, 0)) BK193.out) : gb193 ≠ gb222))
           have n11_ := Aside0.mk ((by rw [hg]; exact Nat.ne_of_gt (blk_lt (g := gb193) (o := .cells #[.int .i64 a0_0, .int .i64 a0_1, .int .i64 a0_2, .slice A0_3 l0_3.length c0_3] 63 (0, 0)) BK193.out) : gb222 ≠ gb193))
           have n12_ := Aside0.mk ((by rw [hg]; exact Nat.ne_of_lt (blk_lt (g := gb206) (o := .cells #[.bool t200, .int .i64 t201, .slice Ao23 t202.length co23] 27 (0, 0)) BK206.out) : gb206 ≠ gb222))
           have n13_ := Aside0.mk ((by rw [hg]; exact Nat.ne_of_gt (blk_lt (g := gb206) (o := .cells #[.bool t200, .int .i64 t201, .slice Ao23 t202.length co23] 27 (0, 0)) BK206.out) : gb222 ≠ gb206))
           clear HO_6
           clear HO204
           clear HO209
           clear HO215
           clear BK193
           clear BK206
           clear HB
           have HO_6 := n0_
           have HO204 := n1_
           have HO209 := n2_
           have HO215 := n3_
           have BK193 := n4_
           have BK206 := n5_
           have HB := n6_
           have BK222 := n7_
           have GW222 := n8_
           have GE222 := n9_
           have NB193_222 := n10_
           have NB222_193 := n11_
           have NB206_222 := n12_
           have NB222_206 := n13_
           clear n0_ n1_ n2_ n3_ n4_ n5_ n6_ n7_ n8_ n9_ n10_ n11_ n12_ n13_
           clear hb hbox hg
           refine hK.out _ _ ⟨(blk_cell BK193.out 0).trans rfl, (blk_cell BK193.out 1).trans rfl, (blk_cell BK193.out 2).trans rfl, (blk_cell BK193.out 3).trans rfl⟩ (fun hHeld => ?_)
           clear hK K
           refine norm_ (a' := ?_) ?_ ?_
           rotate_left
           ·show Act.put _ (some 10) _ = _
            simp only [Act.put, List.setIfInBounds_toArray, List.set_cons_zero, List.set_cons_succ, i64_w, i32_w]
            rfl
           exact norm_ (by first | (simp only [putAll, Act.put, List.setIfInBounds_toArray, List.set_cons_zero, List.set_cons_succ]; done) | (simp only [putAll, Act.put, List.setIfInBounds_toArray, List.set_cons_zero, List.set_cons_succ]; rfl)) (hJ1_3_5_10 (.slice Ao33 y207.length co33, v211, .slice Ao34 y213.length co34, gb222) _ ⟨hHeld, HO204.out, HO209.out, HO215.out, HO_6.out, BK193.out, BK206.out, BK222.out, GW222.out, GE222.out, NB193_222.out, NB222_193.out, NB206_222.out, NB222_206.out, HB.out⟩)
        ·skip
         rintro ⟨v208, v211, v214, gb222⟩ w33 ⟨hS_, h0_, h1_, h2_, h3_, h4_, h5_, h6_, h7_, h8_, h9_, h10_, h11_, h12_, h13_⟩
         have n0_ : Aside0 (Kd.R k27 27 w33 w.heap.size (fun k_ => k_ ≠ gb206 ∧ k_ ≠ gb222) (.slice Ao23 t202.length co23) t202) := ⟨h0_⟩
         have n1_ : Aside0 (Kd.R (gfix w) 63 w33 w.heap.size (fun k_ => k_ ≠ gb193) v208 y207) := ⟨h1_⟩
         have n2_ : Aside0 (Kd.R (Kd.int .i64) 3 w33 w.heap.size (fun k_ => some k_ ≠ (.slice Ao18 t195.length co18 : Value).ownBlock) v214 y213) := ⟨h2_⟩
         have n3_ : Aside0 (Kd.R (Kd.int .i64) 3 w33 w.heap.size (fun k_ => some k_ ≠ (v214 : Value).ownBlock) (.slice Ao18 t195.length co18) t195) := ⟨h3_⟩
         have n4_ : Aside0 (w33.heap[gb193]? = some (.cells #[.int .i64 a0_0, .int .i64 a0_1, .int .i64 a0_2, .slice A0_3 l0_3.length c0_3] 63 (0, 0))) := ⟨h4_⟩
         have n5_ : Aside0 (w33.heap[gb206]? = some (.cells #[.bool t200, .int .i64 t201, .slice Ao23 t202.length co23] 27 (0, 0))) := ⟨h5_⟩
         have n6_ : Aside0 (w33.heap[gb222]? = some (.cells #[.bool false, .int .i64 0, .slice none 0 0] 27 (0, 0))) := ⟨h6_⟩
         have n7_ : Aside0 (w.heap.size ≤ gb222) := ⟨h7_⟩
         have n8_ : Aside0 (w.heap.size ≤ gb222) := ⟨h8_⟩
         have n9_ : Aside0 (gb193 ≠ gb222) := ⟨h9_⟩
         have n10_ : Aside0 (gb222 ≠ gb193) := ⟨h10_⟩
         have n11_ : Aside0 (gb206 ≠ gb222) := ⟨h11_⟩
         have n12_ : Aside0 (gb222 ≠ gb206) := ⟨h12_⟩
         have n13_ : Aside0 (Below w.heap.size w w33) := ⟨h13_⟩
         clear HO_6
         clear HO204
         clear BK193
         clear BK206
         clear HB
         clear h0_ h1_ h2_ h3_ h4_ h5_ h6_ h7_ h8_ h9_ h10_ h11_ h12_ h13_
         have HO204 := n0_
         have HO209 := n1_
         have HO215 := n2_
         have HO_6 := n3_
         have BK193 := n4_
         have BK206 := n5_
         have BK222 := n6_
         have GW222 := n7_
         have GE222 := n8_
         have NB193_222 := n9_
         have NB222_193 := n10_
         have NB206_222 := n11_
         have NB222_206 := n12_
         have HB := n13_
         clear n0_ n1_ n2_ n3_ n4_ n5_ n6_ n7_ n8_ n9_ n10_ n11_ n12_ n13_
         have hHeld : w33.cell? ⟨gb193, 0, none⟩ = some (.int .i64 a0_0) ∧ w33.cell? ⟨gb193, 1, none⟩ = some (.int .i64 a0_1) ∧ w33.cell? ⟨gb193, 2, none⟩ = some (.int .i64 a0_2) ∧ w33.cell? ⟨gb193, 3, none⟩ = some (.slice A0_3 l0_3.length c0_3) := hS_
         obtain ⟨Ao34, co34, eo34⟩ := Kd.R_slice HO209.out
         (first | subst eo34 | (injection eo34 with f1_ f2_ f3_; have f4_ := f1_.symm; have f5_ := f3_.symm; clear f1_ f2_ f3_; subst f4_; subst f5_))
         obtain ⟨Ao35, co35, eo35⟩ := Kd.R_slice HO215.out
         (first | subst eo35 | (injection eo35 with f1_ f2_ f3_; have f4_ := f1_.symm; have f5_ := f3_.symm; clear f1_ f2_ f3_; subst f4_; subst f5_))
         refine norm_ (a' := ?_) ?_ ?_
         rotate_left
         ·simp only [putAll, Act.put, List.setIfInBounds_toArray, List.set_cons_zero, List.set_cons_succ]
          rfl
         refine one_ (i := 6) (N := some 43) #[true, true, true, true, true, true, true, false, false, false, true, false, false] rfl rfl (one_of HT_.out (by kernel_rfl)) (by decide) (fun K hK => ?_)
         refine goes_ Tryd.func44 (by kernel_rfl) rfl #[.agg #[.int .i64 5, .int .i64 0, .int .i64 0, .slice Ao34 y207.length co34], .slice Ao35 y213.length co35] (by rfl) rfl rfl (by (try simp only [List.map_toArray, List.map_cons, List.map_nil]); first | done | rfl | (simp only [List.length_drop, List.length_take]; rfl)) ?_
         with_reducible refine (gen_Replay.calls 5 0 0 _ _ y207 _ _ y213 t216 t217 t218 t221 _ ?side1 ?side2 ?side3 ?side4 A14.out).mono ?_
         (case side1 => refine gfix_read HB.out ?_; repeat (first | exact (Kd.R_reads' HO209.out).2.2 | (with_reducible refine Kd.C_alloc ?_ _) | (with_reducible refine Kd.C_drewN ?_ _) | (with_reducible refine Kd.C_drew ?_)))
         (case side2 => exact (Kd.R_reads' HO209.out).2.1)
         (case side3 => repeat (first | exact (Kd.R_reads' HO215.out).2.2 | (with_reducible refine Kd.C_alloc ?_ _) | (with_reducible refine Kd.C_drewN ?_ _) | (with_reducible refine Kd.C_drew ?_)))
         (case side4 => exact (Kd.R_reads' HO215.out).2.1)
         rintro e w36 ⟨v219, rfl, ho0, hb⟩
         refine ⟨_, rfl, ?_⟩
         have n0_ := Aside0.mk (Kd.R_below HO_6.out hb)
         have n1_ := Aside0.mk (Kd.R_elder' HO204.out (Kd.R_base ho0) hb)
         have n2_ := Aside0.mk (Kd.R_below HO209.out hb)
         have n3_ := Aside0.mk (Kd.R_below HO215.out hb)
         have n4_ := Aside0.mk (Kd.R_lower (Kd.R_newB (Kd.R_newB (Kd.R_new' ho0 (Kd.R_lt HO204.out)) (g := gb206) (o := .cells #[.bool t200, .int .i64 t201, .slice Ao23 t202.length co23] 27 (0, 0)) BK206.out) (g := gb222) (o := .cells #[.bool false, .int .i64 0, .slice none 0 0] 27 (0, 0)) BK222.out) (below_size HB.out))
         have n5_ := Aside0.mk (blk_below (g := gb193) (o := .cells #[.int .i64 a0_0, .int .i64 a0_1, .int .i64 a0_2, .slice A0_3 l0_3.length c0_3] 63 (0, 0)) BK193.out hb)
         have n6_ := Aside0.mk (blk_below (g := gb206) (o := .cells #[.bool t200, .int .i64 t201, .slice Ao23 t202.length co23] 27 (0, 0)) BK206.out hb)
         have n7_ := Aside0.mk (blk_below (g := gb222) (o := .cells #[.bool false, .int .i64 0, .slice none 0 0] 27 (0, 0)) BK222.out hb)
         have n8_ := Aside0.mk (below_step HB.out hb)
         clear HO_6
         clear HO204
         clear HO209
         clear HO215
         clear BK193
         clear BK206
         clear BK222
         clear HB
         have HO_6 := n0_
         have HO204 := n1_
         have HO209 := n2_
         have HO215 := n3_
         have HO220 := n4_
         have BK193 := n5_
         have BK206 := n6_
         have BK222 := n7_
         have HB := n8_
         clear n0_ n1_ n2_ n3_ n4_ n5_ n6_ n7_ n8_
         (try clear hb)
         (try clear hb2)
         (try clear hk)
         (try clear hi)
         (try clear ho0)
         (try simp only [errW_none, errW_some])
         refine hK.out _ _ ⟨(blk_cell BK193.out 0).trans rfl, (blk_cell BK193.out 1).trans rfl, (blk_cell BK193.out 2).trans rfl, (blk_cell BK193.out 3).trans rfl⟩ (fun hHeld => ?_)
         clear hK K
         refine norm_ (a' := ?_) ?_ ?_
         rotate_left
         ·show Act.put _ (some 43) _ = _
          simp only [Act.put, List.setIfInBounds_toArray, List.set_cons_zero, List.set_cons_succ, i64_w, i32_w]
          rfl
         refine pure_ (i := 7) (N := some 36) (v := ?_) (a' := ?_) #[true, true, true, true, true, true, true, true, false, false, true, false, false] rfl rfl (any_of HT_.out (by kernel_rfl)) (fun _ _ _ h => h) (Or.inl ⟨by rfl, ?_⟩) ?_ ?_
         rotate_left
         ·intro w'
          go_simp
          with_reducible rfl
         rotate_left
         ·simp only [Act.put, List.setIfInBounds_toArray, List.set_cons_zero, List.set_cons_succ, i64_w, i32_w]
          rfl
         refine pure_ (i := 8) (N := some 44) (v := ?_) (a' := ?_) #[true, true, true, true, true, true, true, true, true, false, true, false, false] rfl rfl (any_of HT_.out (by kernel_rfl)) (fun _ _ _ h => h) (Or.inl ⟨by rfl, ?_⟩) ?_ ?_
         rotate_left
         ·intro w'
          go_simp
          with_reducible rfl
         rotate_left
         ·simp only [Act.put, List.setIfInBounds_toArray, List.set_cons_zero, List.set_cons_succ, i64_w, i32_w]
          rfl
         refine pure_ (i := 9) (N := some 45) (v := ?_) (a' := ?_) #[true, true, true, true, true, true, true, true, true, true, true, false, false] rfl rfl (any_of HT_.out (by kernel_rfl)) (fun _ _ _ h => h) (Or.inl ⟨by rfl, ?_⟩) ?_ ?_
         rotate_left
         ·intro w'
          go_simp
          with_reducible rfl
         rotate_left
         ·simp only [Act.put, List.setIfInBounds_toArray, List.set_cons_zero, List.set_cons_succ, i64_w, i32_w]
          rfl
         exact norm_ (by first | (simp only [putAll, Act.put, List.setIfInBounds_toArray, List.set_cons_zero, List.set_cons_succ]; done) | (simp only [putAll, Act.put, List.setIfInBounds_toArray, List.set_cons_zero, List.set_cons_succ]; rfl)) (hJ1_3_5_6_10 (.slice Ao34 y207.length co34, v211, .slice Ao35 y213.length co35, v219, gb222) _ ⟨hHeld, (by (with_reducible repeat (first | apply Kd.R_alloc | apply Kd.R_drewN | apply Kd.R_drew)); exact Kd.R_mono HO204.out (fun _ hk => ⟨hk.2, ⟨hk.1.1, hk.1.2⟩⟩)), HO209.out, HO215.out, (by (with_reducible repeat (first | apply Kd.R_alloc | apply Kd.R_drewN | apply Kd.R_drew)); exact Kd.R_mono HO220.out (fun _ hk => ⟨hk.1.1.2, ⟨hk.1.2, hk.2⟩⟩)), HO_6.out, BK193.out, BK206.out, BK222.out, GW222.out, GE222.out, NB193_222.out, NB222_193.out, NB206_222.out, NB222_206.out, HB.out⟩)
       ·skip
        rintro ⟨v208, v211, v214, v219⟩ w34 ⟨hS_, h0_, h1_, h2_, h3_, h4_, h5_, h6_, h7_⟩
        have n0_ : Aside0 (Kd.R k27 27 w34 w.heap.size (fun k_ => some k_ ≠ (v219 : Value).ownBlock ∧ k_ ≠ gb206) (.slice Ao23 t202.length co23) t202) := ⟨h0_⟩
        have n1_ : Aside0 (Kd.R (gfix w) 63 w34 w.heap.size (fun k_ => k_ ≠ gb193) v208 y207) := ⟨h1_⟩
        have n2_ : Aside0 (Kd.R (Kd.int .i64) 3 w34 w.heap.size (fun k_ => some k_ ≠ (.slice Ao18 t195.length co18 : Value).ownBlock) v214 y213) := ⟨h2_⟩
        have n3_ : Aside0 (Kd.R k27 27 w34 w.heap.size (fun k_ => some k_ ≠ (.slice Ao23 t202.length co23 : Value).ownBlock ∧ k_ ≠ gb206) v219 t218) := ⟨h3_⟩
        have n4_ : Aside0 (Kd.R (Kd.int .i64) 3 w34 w.heap.size (fun k_ => some k_ ≠ (v214 : Value).ownBlock) (.slice Ao18 t195.length co18) t195) := ⟨h4_⟩
        have n5_ : Aside0 (w34.heap[gb193]? = some (.cells #[.int .i64 a0_0, .int .i64 a0_1, .int .i64 a0_2, .slice A0_3 l0_3.length c0_3] 63 (0, 0))) := ⟨h5_⟩
        have n6_ : Aside0 (w34.heap[gb206]? = some (.cells #[.bool t200, .int .i64 t201, .slice Ao23 t202.length co23] 27 (0, 0))) := ⟨h6_⟩
        have n7_ : Aside0 (Below w.heap.size w w34) := ⟨h7_⟩
        clear HO_6
        clear HO204
        clear BK193
        clear BK206
        clear HB
        clear h0_ h1_ h2_ h3_ h4_ h5_ h6_ h7_
        have HO204 := n0_
        have HO209 := n1_
        have HO215 := n2_
        have HO220 := n3_
        have HO_6 := n4_
        have BK193 := n5_
        have BK206 := n6_
        have HB := n7_
        clear n0_ n1_ n2_ n3_ n4_ n5_ n6_ n7_
        have hHeld : w34.cell? ⟨gb193, 0, none⟩ = some (.int .i64 a0_0) ∧ w34.cell? ⟨gb193, 1, none⟩ = some (.int .i64 a0_1) ∧ w34.cell? ⟨gb193, 2, none⟩ = some (.int .i64 a0_2) ∧ w34.cell? ⟨gb193, 3, none⟩ = some (.slice A0_3 l0_3.length c0_3) := hS_
        obtain ⟨Ao35, co35, eo35⟩ := Kd.R_slice HO209.out
        (first | subst eo35 | (injection eo35 with f1_ f2_ f3_; have f4_ := f1_.symm; have f5_ := f3_.symm; clear f1_ f2_ f3_; subst f4_; subst f5_))
        refine norm_ (a' := ?_) ?_ ?_
        rotate_left
        ·simp only [putAll, Act.put, List.setIfInBounds_toArray, List.set_cons_zero, List.set_cons_succ]
         rfl
        refine one_ (i := 10) (N := some 10) #[true, true, true, true, true, true, true, true, true, true, true, false, false] rfl rfl (one_of HT_.out (by kernel_rfl)) (by decide) (fun K hK => ?_)
        refine box_step ?hg (N := 10) ?hd (cs := #[.bool false, .int .i64 0, .slice none 0 0]) (t := 27) ?hr ?_; (case hd => rfl); (case hg => rfl); (case hr => first | (go_simp; done) | (go_simp; rfl))
        intro gb222 hg w36 hbox hb
        have n0_ := Aside0.mk (Kd.R_below HO_6.out hb)
        have n1_ := Aside0.mk (Kd.R_below (Kd.R_elderB HO204.out gb222 (Nat.le_of_eq hg.symm)) hb)
        have n2_ := Aside0.mk (Kd.R_below HO209.out hb)
        have n3_ := Aside0.mk (Kd.R_below HO215.out hb)
        have n4_ := Aside0.mk (Kd.R_below (Kd.R_elderB HO220.out gb222 (Nat.le_of_eq hg.symm)) hb)
        have n5_ := Aside0.mk (blk_below (g := gb193) (o := .cells #[.int .i64 a0_0, .int .i64 a0_1, .int .i64 a0_2, .slice A0_3 l0_3.length c0_3] 63 (0, 0)) BK193.out hb)
        have n6_ := Aside0.mk (blk_below (g := gb206) (o := .cells #[.bool t200, .int .i64 t201, .slice Ao23 t202.length co23] 27 (0, 0)) BK206.out hb)
        have n7_ := Aside0.mk (below_step HB.out hb)
        have n8_ := Aside0.mk (hbox)
        have n9_ := Aside0.mk ((by rw [hg]; exact (below_size HB.out) : w.heap.size ≤ gb222))
        have n10_ := Aside0.mk ((by rw [hg]; exact (below_size HB.out) : w.heap.size ≤ gb222))
        have n11_ := Aside0.mk ((by rw [hg]; exact Nat.ne_of_lt (blk_lt (g := gb193) (o := .cells #[.int .i64 a0_0, .int .i64 a0_1, .int .i64 a0_2, .slice A0_3 l0_3.length c0_3] 63 (0, 0)) BK193.out) : gb193 ≠ gb222))
        have n12_ := Aside0.mk ((by rw [hg]; exact Nat.ne_of_gt (blk_lt (g := gb193) (o := .cells #[.int .i64 a0_0, .int .i64 a0_1, .int .i64 a0_2, .slice A0_3 l0_3.length c0_3] 63 (0, 0)) BK193.out) : gb222 ≠ gb193))
        have n13_ := Aside0.mk ((by rw [hg]; exact Nat.ne_of_lt (blk_lt (g := gb206) (o := .cells #[.bool t200, .int .i64 t201, .slice Ao23 t202.length co23] 27 (0, 0)) BK206.out) : gb206 ≠ gb222))
        have n14_ := Aside0.mk ((by rw [hg]; exact Nat.ne_of_gt (blk_lt (g := gb206) (o := .cells #[.bool t200, .int .i64 t201, .slice Ao23 t202.length co23] 27 (0, 0)) BK206.out) : gb222 ≠ gb206))
        clear HO_6
        clear HO204
        clear HO209
        clear HO215
        clear HO220
        clear BK193
        clear BK206
        clear HB
        have HO_6 := n0_
        have HO204 := n1_
        have HO209 := n2_
        have HO215 := n3_
        have HO220 := n4_
        have BK193 := n5_
        have BK206 := n6_
        have HB := n7_
        have BK222 := n8_
        have GW222 := n9_
        have GE222 := n10_
        have NB193_222 := n11_
        have NB222_193 := n12_
        have NB206_222 := n13_
        have NB222_206 := n14_
        clear n0_ n1_ n2_ n3_ n4_ n5_ n6_ n7_ n8_ n9_ n10_ n11_ n12_ n13_ n14_
        clear hb hbox hg
        refine hK.out _ _ ⟨(blk_cell BK193.out 0).trans rfl, (blk_cell BK193.out 1).trans rfl, (blk_cell BK193.out 2).trans rfl, (blk_cell BK193.out 3).trans rfl⟩ (fun hHeld => ?_)
        clear hK K
        refine norm_ (a' := ?_) ?_ ?_
        rotate_left
        ·show Act.put _ (some 10) _ = _
         simp only [Act.put, List.setIfInBounds_toArray, List.set_cons_zero, List.set_cons_succ, i64_w, i32_w]
         rfl
        exact norm_ (by first | (simp only [putAll, Act.put, List.setIfInBounds_toArray, List.set_cons_zero, List.set_cons_succ]; done) | (simp only [putAll, Act.put, List.setIfInBounds_toArray, List.set_cons_zero, List.set_cons_succ]; rfl)) (hJ1_3_5_6_10 (.slice Ao35 y207.length co35, v211, v214, v219, gb222) _ ⟨hHeld, (by (with_reducible repeat (first | apply Kd.R_alloc | apply Kd.R_drewN | apply Kd.R_drew)); exact Kd.R_mono HO204.out (fun _ hk => ⟨hk.1.1, ⟨hk.1.2, hk.2⟩⟩)), HO209.out, HO215.out, (by (with_reducible repeat (first | apply Kd.R_alloc | apply Kd.R_drewN | apply Kd.R_drew)); exact Kd.R_mono HO220.out (fun _ hk => ⟨hk.1.1, ⟨hk.1.2, hk.2⟩⟩)), HO_6.out, BK193.out, BK206.out, BK222.out, GW222.out, GE222.out, NB193_222.out, NB222_193.out, NB206_222.out, NB222_206.out, HB.out⟩)
      rintro ⟨v208, v211, v214, v219, gb222⟩ w35 ⟨hS_, h0_, h1_, h2_, h3_, h4_, h5_, h6_, h7_, h8_, h9_, h10_, h11_, h12_, h13_, h14_⟩
      have n0_ : Aside0 (Kd.R k27 27 w35 w.heap.size (fun k_ => some k_ ≠ (v219 : Value).ownBlock ∧ k_ ≠ gb206 ∧ k_ ≠ gb222) (.slice Ao23 t202.length co23) t202) := ⟨h0_⟩
      have n1_ : Aside0 (Kd.R (gfix w) 63 w35 w.heap.size (fun k_ => k_ ≠ gb193) v208 y207) := ⟨h1_⟩
      have n2_ : Aside0 (Kd.R (Kd.int .i64) 3 w35 w.heap.size (fun k_ => some k_ ≠ (.slice Ao18 t195.length co18 : Value).ownBlock) v214 y213) := ⟨h2_⟩
      have n3_ : Aside0 (Kd.R k27 27 w35 w.heap.size (fun k_ => some k_ ≠ (.slice Ao23 t202.length co23 : Value).ownBlock ∧ k_ ≠ gb206 ∧ k_ ≠ gb222) v219 t218) := ⟨h3_⟩
      have n4_ : Aside0 (Kd.R (Kd.int .i64) 3 w35 w.heap.size (fun k_ => some k_ ≠ (v214 : Value).ownBlock) (.slice Ao18 t195.length co18) t195) := ⟨h4_⟩
      have n5_ : Aside0 (w35.heap[gb193]? = some (.cells #[.int .i64 a0_0, .int .i64 a0_1, .int .i64 a0_2, .slice A0_3 l0_3.length c0_3] 63 (0, 0))) := ⟨h5_⟩
      have n6_ : Aside0 (w35.heap[gb206]? = some (.cells #[.bool t200, .int .i64 t201, .slice Ao23 t202.length co23] 27 (0, 0))) := ⟨h6_⟩
      have n7_ : Aside0 (w35.heap[gb222]? = some (.cells #[.bool false, .int .i64 0, .slice none 0 0] 27 (0, 0))) := ⟨h7_⟩
      have n8_ : Aside0 (w.heap.size ≤ gb222) := ⟨h8_⟩
      have n9_ : Aside0 (w.heap.size ≤ gb222) := ⟨h9_⟩
      have n10_ : Aside0 (gb193 ≠ gb222) := ⟨h10_⟩
      have n11_ : Aside0 (gb222 ≠ gb193) := ⟨h11_⟩
      have n12_ : Aside0 (gb206 ≠ gb222) := ⟨h12_⟩
      have n13_ : Aside0 (gb222 ≠ gb206) := ⟨h13_⟩
      have n14_ : Aside0 (Below w.heap.size w w35) := ⟨h14_⟩
      clear HO_6
      clear HO204
      clear BK193
      clear BK206
      clear HB
      clear h0_ h1_ h2_ h3_ h4_ h5_ h6_ h7_ h8_ h9_ h10_ h11_ h12_ h13_ h14_
      have HO204 := n0_
      have HO209 := n1_
      have HO215 := n2_
      have HO220 := n3_
      have HO_6 := n4_
      have BK193 := n5_
      have BK206 := n6_
      have BK222 := n7_
      have GW222 := n8_
      have GE222 := n9_
      have NB193_222 := n10_
      have NB222_193 := n11_
      have NB206_222 := n12_
      have NB222_206 := n13_
      have HB := n14_
      clear n0_ n1_ n2_ n3_ n4_ n5_ n6_ n7_ n8_ n9_ n10_ n11_ n12_ n13_ n14_
      have hHeld : w35.cell? ⟨gb193, 0, none⟩ = some (.int .i64 a0_0) ∧ w35.cell? ⟨gb193, 1, none⟩ = some (.int .i64 a0_1) ∧ w35.cell? ⟨gb193, 2, none⟩ = some (.int .i64 a0_2) ∧ w35.cell? ⟨gb193, 3, none⟩ = some (.slice A0_3 l0_3.length c0_3) := hS_
      obtain ⟨Ao36, co36, eo36⟩ := Kd.R_slice HO209.out
      (first | subst eo36 | (injection eo36 with f1_ f2_ f3_; have f4_ := f1_.symm; have f5_ := f3_.symm; clear f1_ f2_ f3_; subst f4_; subst f5_))
      obtain ⟨Ao39, co39, eo39⟩ := Kd.R_slice HO220.out
      (first | subst eo39 | (injection eo39 with f1_ f2_ f3_; have f4_ := f1_.symm; have f5_ := f3_.symm; clear f1_ f2_ f3_; subst f4_; subst f5_))
      refine norm_ (a' := ?_) ?_ ?_
      rotate_left
      ·simp only [putAll, Act.put, List.setIfInBounds_toArray, List.set_cons_zero, List.set_cons_succ]
       rfl
      refine one_ (i := 11) (N := none) #[true, true, true, true, true, true, true, true, true, true, true, true, false] rfl rfl (one_of HT_.out (by kernel_rfl)) (by decide) (fun K hK => ?_)
      have hs37 : w35.cell? ⟨gb222, 0, none⟩ = some (.bool false) := (blk_cell BK222.out 0).trans rfl
      have hfs37 := blk_frozen BK222.out 0
      have hns37_0 := NB193_222.out
      have hns37_1 := NB206_222.out
      have hms37_0 := NB222_193.out
      have hms37_1 := NB222_206.out
      have hs38 : w35.cell? ⟨gb222, 1, none⟩ = some (.int .i64 0) := (blk_cell BK222.out 1).trans rfl
      have hfs38 := blk_frozen BK222.out 1
      have hns38_0 := NB193_222.out
      have hns38_1 := NB206_222.out
      have hms38_0 := NB222_193.out
      have hms38_1 := NB222_206.out
      have hs40 : w35.cell? ⟨gb222, 2, none⟩ = some (.slice none 0 0) := (blk_cell BK222.out 2).trans rfl
      have hfs40 := blk_frozen BK222.out 2
      have hns40_0 := NB193_222.out
      have hns40_1 := NB206_222.out
      have hms40_0 := NB222_193.out
      have hms40_1 := NB222_206.out
      refine skip_ (w1 := ?_) (by rfl) rfl ?_ ?_
      rotate_left
      ·go_simp
       rfl
      refine hK.out _ _ ⟨((cell_far (p := ⟨gb222, _, none⟩) NB193_222.out _).trans (((cell_far (p := ⟨gb222, _, none⟩) NB193_222.out _).trans (((cell_far (p := ⟨gb222, _, none⟩) NB193_222.out _).trans (hHeld.1)))))), ((cell_far (p := ⟨gb222, _, none⟩) NB193_222.out _).trans (((cell_far (p := ⟨gb222, _, none⟩) NB193_222.out _).trans (((cell_far (p := ⟨gb222, _, none⟩) NB193_222.out _).trans (hHeld.2.1)))))), ((cell_far (p := ⟨gb222, _, none⟩) NB193_222.out _).trans (((cell_far (p := ⟨gb222, _, none⟩) NB193_222.out _).trans (((cell_far (p := ⟨gb222, _, none⟩) NB193_222.out _).trans (hHeld.2.2.1)))))), ((cell_far (p := ⟨gb222, _, none⟩) NB193_222.out _).trans (((cell_far (p := ⟨gb222, _, none⟩) NB193_222.out _).trans (((cell_far (p := ⟨gb222, _, none⟩) NB193_222.out _).trans (hHeld.2.2.2))))))⟩ (fun hHeld => ?_)
      clear hK K
      refine pure_ (i := 12) (N := some 11) (v := ?_) (a' := ?_) #[true, true, true, true, true, true, true, true, true, true, true, true, true] rfl rfl (any_of HT_.out (by kernel_rfl)) (fun _ _ _ h => h) (Or.inl ⟨by rfl, ?_⟩) ?_ ?_
      rotate_left
      ·intro w'
       go_simp
       with_reducible rfl
      rotate_left
      ·simp only [Act.put, List.setIfInBounds_toArray, List.set_cons_zero, List.set_cons_succ, i64_w, i32_w]
       rfl
      refine done_ (done_of HT_.out (by kernel_rfl)) ?_
      have hnb41 := NB193_222.out
      have hnc41 := NB222_193.out
      have hcz42_0 : w35.cell? ⟨gb193, 0, none⟩ = some (.int .i64 a0_0) := (blk_cell BK193.out 0).trans rfl
      have hcz42_1 : w35.cell? ⟨gb193, 1, none⟩ = some (.int .i64 a0_1) := (blk_cell BK193.out 1).trans rfl
      have hcz42_2 : w35.cell? ⟨gb193, 2, none⟩ = some (.int .i64 a0_2) := (blk_cell BK193.out 2).trans rfl
      have hcz42_3 : w35.cell? ⟨gb193, 3, none⟩ = some (.slice A0_3 l0_3.length c0_3) := (blk_cell BK193.out 3).trans rfl
      have hfz42_0 := blk_frozen BK193.out 0
      have hfz42_1 := blk_frozen BK193.out 1
      have hfz42_2 := blk_frozen BK193.out 2
      have hfz42_3 := blk_frozen BK193.out 3
      go_upto_region 10 with (first | ((with_reducible refine gate_dst (N := 48) rfl ?_); refine Kd.R_lit (gfix w) _ 63 ?hg (N := 48) ?hd (xs := ([(⟨a0_0, a0_1, a0_2, l0_3⟩ : S63)] : List (S63))) (inner := [.int .i64 a0_0, .int .i64 a0_1, .int .i64 a0_2, .slice A0_3 l0_3.length c0_3]) (ok := fun _ => True) (okp := fun _ => True) ?hr ?hp (fun _ hk => hk) trivial (Below.refl _ _) (Nat.le_refl _) (by simp) ?_; (case hd => rfl); (case hg => rfl); (case hr => first | (go_simp; done) | (go_simp; rfl)); (case hp => exact (Reps.c4 (show Kd.M (gfix w) _ _ _ (⟨a0_0, a0_1, a0_2, l0_3⟩ : S63) [.int .i64 a0_0, .int .i64 a0_1, .int .i64 a0_2, .slice A0_3 l0_3.length c0_3] from (k63_mk w (⟨a0_0, a0_1, a0_2, l0_3⟩ : S63) HC0_3.out HR0_3.out)) (Reps.none _ _))); intro v224 w43 ho44 hb hg_ hnew_; clear hg_ hnew_; (first | rw [← Ny223.out] at ho44 | (simp only [Int.reduceToNat] at ho44; rw [← Ny223.out] at ho44)); have n0_ := Aside0.mk (Kd.R_below (by (with_reducible repeat (first | apply Kd.R_alloc | apply Kd.R_drewN | apply Kd.R_drew)); exact (Kd.R_mono (Kd.R_far (p := ⟨gb222, 2, none⟩) (Kd.R_far (p := ⟨gb222, 1, none⟩) (Kd.R_far (p := ⟨gb222, 0, none⟩) (Kd.R_types HO_6.out BK222.out (by decide)) (fun _ hk => hk.2) (.bool t216)) (fun _ hk => hk.2) (.int .i64 t217)) (fun _ hk => hk.2) (.slice Ao39 t218.length co39)) (fun _ h_ => h_.1))) hb); have n1_ := Aside0.mk (Kd.R_below (by (with_reducible repeat (first | apply Kd.R_alloc | apply Kd.R_drewN | apply Kd.R_drew)); exact (Kd.R_mono (Kd.R_far (p := ⟨gb222, 2, none⟩) (Kd.R_far (p := ⟨gb222, 1, none⟩) (Kd.R_far (p := ⟨gb222, 0, none⟩) (Kd.R_mono HO204.out (fun k_ hk => (⟨hk, hk.2.2⟩ : _ ∧ k_ ≠ gb222))) (fun _ hk => hk.2) (.bool t216)) (fun _ hk => hk.2) (.int .i64 t217)) (fun _ hk => hk.2) (.slice Ao39 t218.length co39)) (fun _ h_ => h_.1))) hb); have n2_ := Aside0.mk (Kd.R_elder' (by (with_reducible repeat (first | apply Kd.R_alloc | apply Kd.R_drewN | apply Kd.R_drew)); exact (Kd.R_mono (Kd.R_far (p := ⟨gb222, 2, none⟩) (Kd.R_far (p := ⟨gb222, 1, none⟩) (Kd.R_far (p := ⟨gb222, 0, none⟩) (Kd.R_types HO209.out BK222.out (gfE (by decide))) (fun _ hk => hk.2) (.bool t216)) (fun _ hk => hk.2) (.int .i64 t217)) (fun _ hk => hk.2) (.slice Ao39 t218.length co39)) (fun _ h_ => h_.1))) (Kd.R_base ho44) hb); have n3_ := Aside0.mk (Kd.R_below (by (with_reducible repeat (first | apply Kd.R_alloc | apply Kd.R_drewN | apply Kd.R_drew)); exact (Kd.R_mono (Kd.R_far (p := ⟨gb222, 2, none⟩) (Kd.R_far (p := ⟨gb222, 1, none⟩) (Kd.R_far (p := ⟨gb222, 0, none⟩) (Kd.R_types HO215.out BK222.out (by decide)) (fun _ hk => hk.2) (.bool t216)) (fun _ hk => hk.2) (.int .i64 t217)) (fun _ hk => hk.2) (.slice Ao39 t218.length co39)) (fun _ h_ => h_.1))) hb); have n4_ := Aside0.mk (Kd.R_below (by (with_reducible repeat (first | apply Kd.R_alloc | apply Kd.R_drewN | apply Kd.R_drew)); exact (Kd.R_mono (Kd.R_far (p := ⟨gb222, 2, none⟩) (Kd.R_far (p := ⟨gb222, 1, none⟩) (Kd.R_far (p := ⟨gb222, 0, none⟩) (Kd.R_mono HO220.out (fun k_ hk => (⟨hk, hk.2.2⟩ : _ ∧ k_ ≠ gb222))) (fun _ hk => hk.2) (.bool t216)) (fun _ hk => hk.2) (.int .i64 t217)) (fun _ hk => hk.2) (.slice Ao39 t218.length co39)) (fun _ h_ => h_.1))) hb); have n5_ := Aside0.mk (Kd.R_lower (Kd.R_newB (Kd.R_new' ho44 (Kd.R_lt (by (with_reducible repeat (first | apply Kd.R_alloc | apply Kd.R_drewN | apply Kd.R_drew)); exact (Kd.R_mono (Kd.R_far (p := ⟨gb222, 2, none⟩) (Kd.R_far (p := ⟨gb222, 1, none⟩) (Kd.R_far (p := ⟨gb222, 0, none⟩) (Kd.R_types HO209.out BK222.out (gfE (by decide))) (fun _ hk => hk.2) (.bool t216)) (fun _ hk => hk.2) (.int .i64 t217)) (fun _ hk => hk.2) (.slice Ao39 t218.length co39)) (fun _ h_ => h_.1))))) (g := gb193) (o := .cells #[.int .i64 a0_0, .int .i64 a0_1, .int .i64 a0_2, .slice A0_3 l0_3.length c0_3] 63 (0, 0)) (by (with_reducible repeat (first | refine blk_drewN ?_ _ | refine blk_drew ?_ | refine blk_alloc ?_ _)); refine blk_far ?_ NB193_222.out _; (with_reducible repeat (first | refine blk_drewN ?_ _ | refine blk_drew ?_ | refine blk_alloc ?_ _)); refine blk_far ?_ NB193_222.out _; (with_reducible repeat (first | refine blk_drewN ?_ _ | refine blk_drew ?_ | refine blk_alloc ?_ _)); refine blk_far ?_ NB193_222.out _; (with_reducible repeat (first | refine blk_drewN ?_ _ | refine blk_drew ?_ | refine blk_alloc ?_ _)); exact BK193.out)) (below_size (by repeat (first | (with_reducible first | exact HB.out | apply below_alloc | apply pw_below_drewN | apply below_drew1 | refine below_set ?_ GE193.out | refine below_set ?_ GE206.out | refine below_set ?_ GE222.out) | exact HB.out)))); have n6_ := Aside0.mk (blk_below (g := gb193) (o := .cells #[.int .i64 a0_0, .int .i64 a0_1, .int .i64 a0_2, .slice A0_3 l0_3.length c0_3] 63 (0, 0)) (by (with_reducible repeat (first | refine blk_drewN ?_ _ | refine blk_drew ?_ | refine blk_alloc ?_ _)); refine blk_far ?_ NB193_222.out _; (with_reducible repeat (first | refine blk_drewN ?_ _ | refine blk_drew ?_ | refine blk_alloc ?_ _)); refine blk_far ?_ NB193_222.out _; (with_reducible repeat (first | refine blk_drewN ?_ _ | refine blk_drew ?_ | refine blk_alloc ?_ _)); refine blk_far ?_ NB193_222.out _; (with_reducible repeat (first | refine blk_drewN ?_ _ | refine blk_drew ?_ | refine blk_alloc ?_ _)); exact BK193.out) hb); have n7_ := Aside0.mk (blk_below (g := gb206) (o := .cells #[.bool t200, .int .i64 t201, .slice Ao23 t202.length co23] 27 (0, 0)) (by (with_reducible repeat (first | refine blk_drewN ?_ _ | refine blk_drew ?_ | refine blk_alloc ?_ _)); refine blk_far ?_ NB206_222.out _; (with_reducible repeat (first | refine blk_drewN ?_ _ | refine blk_drew ?_ | refine blk_alloc ?_ _)); refine blk_far ?_ NB206_222.out _; (with_reducible repeat (first | refine blk_drewN ?_ _ | refine blk_drew ?_ | refine blk_alloc ?_ _)); refine blk_far ?_ NB206_222.out _; (with_reducible repeat (first | refine blk_drewN ?_ _ | refine blk_drew ?_ | refine blk_alloc ?_ _)); exact BK206.out) hb); have n8_ := Aside0.mk (blk_below (g := gb222) (o := .cells #[.bool t216, .int .i64 t217, .slice Ao39 t218.length co39] 27 (0, 0)) (by (with_reducible repeat (first | refine blk_drewN ?_ _ | refine blk_drew ?_ | refine blk_alloc ?_ _)); refine blk_put (cs := #[.bool t216, .int .i64 t217, .slice none 0 0]) ?_ 2 _ rfl; (with_reducible repeat (first | refine blk_drewN ?_ _ | refine blk_drew ?_ | refine blk_alloc ?_ _)); refine blk_put (cs := #[.bool t216, .int .i64 0, .slice none 0 0]) ?_ 1 _ rfl; (with_reducible repeat (first | refine blk_drewN ?_ _ | refine blk_drew ?_ | refine blk_alloc ?_ _)); refine blk_put (cs := #[.bool false, .int .i64 0, .slice none 0 0]) ?_ 0 _ rfl; (with_reducible repeat (first | refine blk_drewN ?_ _ | refine blk_drew ?_ | refine blk_alloc ?_ _)); exact BK222.out) hb); have n9_ := Aside0.mk (below_step (by repeat (first | (with_reducible first | exact HB.out | apply below_alloc | apply pw_below_drewN | apply below_drew1 | refine below_set ?_ GE193.out | refine below_set ?_ GE206.out | refine below_set ?_ GE222.out) | exact HB.out)) hb); clear HO_6; clear HO204; clear HO209; clear HO215; clear HO220; clear BK193; clear BK206; clear BK222; clear HB; have HO_6 := n0_; have HO204 := n1_; have HO209 := n2_; have HO215 := n3_; have HO220 := n4_; have HO225 := n5_; have BK193 := n6_; have BK206 := n7_; have BK222 := n8_; have HB := n9_; clear n0_ n1_ n2_ n3_ n4_ n5_ n6_ n7_ n8_ n9_; clear hb ho44; obtain ⟨Ao45, co45, eo45⟩ := Kd.R_slice HO225.out; subst eo45) | ((with_reducible refine gate_callee (f := 44) rfl ?_); refine goesL_ (some 51) rfl rfl Tryd.func44 (by kernel_rfl) rfl #[.agg #[.int .i64 3, .int .i64 0, .int .i64 0, .slice Ao45 y223.length co45], .slice Ao18 t195.length co18] rfl (by (try simp only [List.map_toArray, List.map_cons, List.map_nil]); first | done | rfl | (simp only [List.length_drop, List.length_take]; rfl)) ?_; (with_reducible refine (gen_Replay.calls 3 0 0 _ _ y223 _ _ t195 t226 t227 t228 t231 _ ?side1 ?side2 ?side3 ?side4 A15.out).mono ?_); (case side1 => refine gfix_read (by repeat (first | (with_reducible first | exact HB.out | apply below_alloc | apply pw_below_drewN | apply below_drew1) | exact HB.out)) ?_; repeat (first | exact (Kd.R_reads' HO225.out).2.2 | (with_reducible refine Kd.C_alloc ?_ _) | (with_reducible refine Kd.C_drewN ?_ _) | (with_reducible refine Kd.C_drew ?_))); (case side2 => exact (Kd.R_reads' HO225.out).2.1); (case side3 => repeat (first | exact (Kd.R_reads' HO_6.out).2.2 | (with_reducible refine Kd.C_alloc ?_ _) | (with_reducible refine Kd.C_drewN ?_ _) | (with_reducible refine Kd.C_drew ?_))); (case side4 => exact (Kd.R_reads' HO_6.out).2.1); rintro e w46 ⟨v229, rfl, ho0, hb⟩; refine ⟨_, rfl, ?_⟩; have n0_ := Aside0.mk (Kd.R_below HO_6.out hb); have n1_ := Aside0.mk (Kd.R_elder' HO204.out (Kd.R_base ho0) hb); have n2_ := Aside0.mk (Kd.R_below HO209.out hb); have n3_ := Aside0.mk (Kd.R_below HO215.out hb); have n4_ := Aside0.mk (Kd.R_elder' HO220.out (Kd.R_base ho0) hb); have n5_ := Aside0.mk (Kd.R_below HO225.out hb); have n6_ := Aside0.mk (Kd.R_lower (Kd.R_newB (Kd.R_newB (Kd.R_new' (Kd.R_new' ho0 (Kd.R_lt HO204.out)) (Kd.R_lt HO220.out)) (g := gb206) (o := .cells #[.bool t200, .int .i64 t201, .slice Ao23 t202.length co23] 27 (0, 0)) BK206.out) (g := gb222) (o := .cells #[.bool t216, .int .i64 t217, .slice Ao39 t218.length co39] 27 (0, 0)) BK222.out) (below_size (by repeat (first | (with_reducible first | exact HB.out | apply below_alloc | apply pw_below_drewN | apply below_drew1 | refine below_set ?_ GE193.out | refine below_set ?_ GE206.out | refine below_set ?_ GE222.out) | exact HB.out)))); have n7_ := Aside0.mk (blk_below (g := gb193) (o := .cells #[.int .i64 a0_0, .int .i64 a0_1, .int .i64 a0_2, .slice A0_3 l0_3.length c0_3] 63 (0, 0)) BK193.out hb); have n8_ := Aside0.mk (blk_below (g := gb206) (o := .cells #[.bool t200, .int .i64 t201, .slice Ao23 t202.length co23] 27 (0, 0)) BK206.out hb); have n9_ := Aside0.mk (blk_below (g := gb222) (o := .cells #[.bool t216, .int .i64 t217, .slice Ao39 t218.length co39] 27 (0, 0)) BK222.out hb); have n10_ := Aside0.mk (below_step (by repeat (first | (with_reducible first | exact HB.out | apply below_alloc | apply pw_below_drewN | apply below_drew1 | refine below_set ?_ GE193.out | refine below_set ?_ GE206.out | refine below_set ?_ GE222.out) | exact HB.out)) hb); clear HO_6; clear HO204; clear HO209; clear HO215; clear HO220; clear HO225; clear BK193; clear BK206; clear BK222; clear HB; have HO_6 := n0_; have HO204 := n1_; have HO209 := n2_; have HO215 := n3_; have HO220 := n4_; have HO225 := n5_; have HO230 := n6_; have BK193 := n7_; have BK206 := n8_; have BK222 := n9_; have HB := n10_; clear n0_ n1_ n2_ n3_ n4_ n5_ n6_ n7_ n8_ n9_ n10_; (try clear hb); (try clear hb2); (try clear hk); (try clear hi); (try clear ho0); (try simp only [errW_none, errW_some])) | ((with_reducible refine gate_dst (N := 12) rfl ?_); refine box_event ?hg (N := 12) ?hd (cs := #[.bool false, .int .i64 0, .slice none 0 0]) (t := 27) ?hr ?_; (case hd => rfl); (case hg => rfl); (case hr => first | (go_simp; done) | (go_simp; rfl)); intro gb232 hg w47 hbox hb; have n0_ := Aside0.mk (Kd.R_below HO_6.out hb); have n1_ := Aside0.mk (Kd.R_below (Kd.R_elderB HO204.out gb232 (Nat.le_of_eq hg.symm)) hb); have n2_ := Aside0.mk (Kd.R_below HO209.out hb); have n3_ := Aside0.mk (Kd.R_below HO215.out hb); have n4_ := Aside0.mk (Kd.R_below (Kd.R_elderB HO220.out gb232 (Nat.le_of_eq hg.symm)) hb); have n5_ := Aside0.mk (Kd.R_below HO225.out hb); have n6_ := Aside0.mk (Kd.R_below (Kd.R_elderB HO230.out gb232 (Nat.le_of_eq hg.symm)) hb); have n7_ := Aside0.mk (blk_below (g := gb193) (o := .cells #[.int .i64 a0_0, .int .i64 a0_1, .int .i64 a0_2, .slice A0_3 l0_3.length c0_3] 63 (0, 0)) BK193.out hb); have n8_ := Aside0.mk (blk_below (g := gb206) (o := .cells #[.bool t200, .int .i64 t201, .slice Ao23 t202.length co23] 27 (0, 0)) BK206.out hb); have n9_ := Aside0.mk (blk_below (g := gb222) (o := .cells #[.bool t216, .int .i64 t217, .slice Ao39 t218.length co39] 27 (0, 0)) BK222.out hb); have n10_ := Aside0.mk (below_step (by repeat (first | (with_reducible first | exact HB.out | apply below_alloc | apply pw_below_drewN | apply below_drew1 | refine below_set ?_ GE193.out | refine below_set ?_ GE206.out | refine below_set ?_ GE222.out) | exact HB.out)) hb); have n11_ := Aside0.mk (hbox); have n12_ := Aside0.mk ((by rw [hg]; exact (below_size (by repeat (first | (with_reducible first | exact HB.out | apply below_alloc | apply pw_below_drewN | apply below_drew1 | refine below_set ?_ GE193.out | refine below_set ?_ GE206.out | refine below_set ?_ GE222.out) | exact HB.out))) : w.heap.size ≤ gb232)); have n13_ := Aside0.mk ((by rw [hg]; exact (below_size (by repeat (first | (with_reducible first | exact HB.out | apply below_alloc | apply pw_below_drewN | apply below_drew1 | refine below_set ?_ GE193.out | refine below_set ?_ GE206.out | refine below_set ?_ GE222.out) | exact HB.out))) : w.heap.size ≤ gb232)); have n14_ := Aside0.mk ((by rw [hg]; exact Nat.ne_of_lt (blk_lt (g := gb193) (o := .cells #[.int .i64 a0_0, .int .i64 a0_1, .int .i64 a0_2, .slice A0_3 l0_3.length c0_3] 63 (0, 0)) BK193.out) : gb193 ≠ gb232)); have n15_ := Aside0.mk ((by rw [hg]; exact Nat.ne_of_gt (blk_lt (g := gb193) (o := .cells #[.int .i64 a0_0, .int .i64 a0_1, .int .i64 a0_2, .slice A0_3 l0_3.length c0_3] 63 (0, 0)) BK193.out) : gb232 ≠ gb193)); have n16_ := Aside0.mk ((by rw [hg]; exact Nat.ne_of_lt (blk_lt (g := gb206) (o := .cells #[.bool t200, .int .i64 t201, .slice Ao23 t202.length co23] 27 (0, 0)) BK206.out) : gb206 ≠ gb232)); have n17_ := Aside0.mk ((by rw [hg]; exact Nat.ne_of_gt (blk_lt (g := gb206) (o := .cells #[.bool t200, .int .i64 t201, .slice Ao23 t202.length co23] 27 (0, 0)) BK206.out) : gb232 ≠ gb206)); have n18_ := Aside0.mk ((by rw [hg]; exact Nat.ne_of_lt (blk_lt (g := gb222) (o := .cells #[.bool t216, .int .i64 t217, .slice Ao39 t218.length co39] 27 (0, 0)) BK222.out) : gb222 ≠ gb232)); have n19_ := Aside0.mk ((by rw [hg]; exact Nat.ne_of_gt (blk_lt (g := gb222) (o := .cells #[.bool t216, .int .i64 t217, .slice Ao39 t218.length co39] 27 (0, 0)) BK222.out) : gb232 ≠ gb222)); clear HO_6; clear HO204; clear HO209; clear HO215; clear HO220; clear HO225; clear HO230; clear BK193; clear BK206; clear BK222; clear HB; have HO_6 := n0_; have HO204 := n1_; have HO209 := n2_; have HO215 := n3_; have HO220 := n4_; have HO225 := n5_; have HO230 := n6_; have BK193 := n7_; have BK206 := n8_; have BK222 := n9_; have HB := n10_; have BK232 := n11_; have GW232 := n12_; have GE232 := n13_; have NB193_232 := n14_; have NB232_193 := n15_; have NB206_232 := n16_; have NB232_206 := n17_; have NB222_232 := n18_; have NB232_222 := n19_; clear n0_ n1_ n2_ n3_ n4_ n5_ n6_ n7_ n8_ n9_ n10_ n11_ n12_ n13_ n14_ n15_ n16_ n17_ n18_ n19_; clear hb hbox hg; have hnb48 := NB232_193.out; have hnc48 := NB193_232.out; have hnb49 := NB232_206.out; have hnc49 := NB206_232.out; have hnb50 := NB232_222.out; have hnc50 := NB222_232.out; have hcz51_0 : w47.cell? ⟨gb232, 0, none⟩ = some (.bool false) := (blk_cell BK232.out 0).trans rfl; have hcz51_1 : w47.cell? ⟨gb232, 1, none⟩ = some (.int .i64 0) := (blk_cell BK232.out 1).trans rfl; have hcz51_2 : w47.cell? ⟨gb232, 2, none⟩ = some (.slice none 0 0) := (blk_cell BK232.out 2).trans rfl; have hfz51_0 := blk_frozen BK232.out 0; have hfz51_1 := blk_frozen BK232.out 1; have hfz51_2 := blk_frozen BK232.out 2; obtain ⟨Ao52, co52, eo52⟩ := Kd.R_slice HO230.out; subst eo52))
      (try simp only [Act.put, List.setIfInBounds_toArray, List.set_cons_zero, List.set_cons_succ])
      go_cut [64] (fun v64 wc => ∃ (kq : Nat) (x64_15 : Bool), v64 = .bool x64_15 ∧ Aside0 (assayerlaw6_GenWraps.j1 kq t221 t231 x64_15 t200 t201 t202 t226 t227 t228 = some r) ∧ Aside0 (kq ≤ kj4) ∧ Aside0 (Kd.R k27 27 wc w.heap.size (fun k_ => some k_ ≠ ((.slice Ao39 t218.length co39) : Value).ownBlock ∧ some k_ ≠ ((.slice Ao52 t228.length co52) : Value).ownBlock ∧ k_ ≠ gb206 ∧ k_ ≠ gb222 ∧ k_ ≠ gb232) (.slice Ao23 t202.length co23) t202) ∧ Aside0 (Kd.R k27 27 wc w.heap.size (fun k_ => some k_ ≠ ((.slice Ao23 t202.length co23) : Value).ownBlock ∧ some k_ ≠ ((.slice Ao52 t228.length co52) : Value).ownBlock ∧ k_ ≠ gb206 ∧ k_ ≠ gb222 ∧ k_ ≠ gb232) (.slice Ao39 t218.length co39) t218) ∧ Aside0 (Kd.R k27 27 wc w.heap.size (fun k_ => some k_ ≠ ((.slice Ao23 t202.length co23) : Value).ownBlock ∧ some k_ ≠ ((.slice Ao39 t218.length co39) : Value).ownBlock ∧ k_ ≠ gb206 ∧ k_ ≠ gb222 ∧ k_ ≠ gb232) (.slice Ao52 t228.length co52) t228) ∧ Aside0 (wc.heap[gb193]? = some (.cells #[.int .i64 a0_0, .int .i64 a0_1, .int .i64 a0_2, (.slice A0_3 l0_3.length c0_3)] 63 (0, 0))) ∧ Aside0 (wc.heap[gb206]? = some (.cells #[.bool t200, .int .i64 t201, (.slice Ao23 t202.length co23)] 27 (0, 0))) ∧ Aside0 (wc.heap[gb222]? = some (.cells #[.bool t216, .int .i64 t217, (.slice Ao39 t218.length co39)] 27 (0, 0))) ∧ Aside0 (wc.heap[gb232]? = some (.cells #[.bool t226, .int .i64 t227, (.slice Ao52 t228.length co52)] 27 (0, 0))) ∧ Aside0 (Below w.heap.size w wc))
      case first =>
       have H := HC16.out
       clear HC16
       rcases t221 with _ | q234
       ·have H1 : ((val_Text.f kj4 t216 t217 t218).bind fun t235 => ((val_Text.f kj4 t200 t201 t202).bind fun t236 => (assayerlaw6_GenWraps.j1 kj4 none t231 (t235.toList != t236.toList) t200 t201 t202 t226 t227 t228))) = some r := by rw [if_pos (show (none : Option Int).isNone = true by rfl)] at H; exact H
        clear H
        have H := H1
        clear H1
        try simp only [errW_none, errW_some]
        replace H := Option.bind_eq_some_iff.mp H
        obtain ⟨t235, A530, H⟩ := H
        replace H : ((val_Text.f kj4 t200 t201 t202).bind fun t236 => (assayerlaw6_GenWraps.j1 kj4 none t231 (t235.toList != t236.toList) t200 t201 t202 t226 t227 t228)) = some r := H
        have A53 := Aside0.mk A530
        clear A530
        replace H := Option.bind_eq_some_iff.mp H
        obtain ⟨t236, A540, H⟩ := H
        replace H : (assayerlaw6_GenWraps.j1 kj4 none t231 (t235.toList != t236.toList) t200 t201 t202 t226 t227 t228) = some r := H
        have A54 := Aside0.mk A540
        clear A540
        have H' := Aside0.mk H
        clear H
        try go_wp2
        have n0_ : Aside0 (Kd.R (Kd.int .i64) 3 (((w47.setCell ⟨gb232, 0, none⟩ (.bool t226)).setCell ⟨gb232, 1, none⟩ (.int .i64 t227)).setCell ⟨gb232, 2, none⟩ (.slice Ao52 t228.length co52)) w.heap.size (fun k_ => some k_ ≠ (v214 : Value).ownBlock) (.slice Ao18 t195.length co18) t195) := ⟨by (with_reducible repeat (first | apply Kd.R_alloc | apply Kd.R_drewN | apply Kd.R_drew)); exact Kd.R_mono (Kd.R_far (p := ⟨gb232, 2, none⟩) (Kd.R_far (p := ⟨gb232, 1, none⟩) (Kd.R_far (p := ⟨gb232, 0, none⟩) (Kd.R_types HO_6.out BK232.out (by decide)) (fun _ hk => hk.2) (.bool t226)) (fun _ hk => hk.2) (.int .i64 t227)) (fun _ hk => hk.2) (.slice Ao52 t228.length co52)) (fun _ hk => hk.1)⟩
        have n1_ : Aside0 (Kd.R k27 27 (((w47.setCell ⟨gb232, 0, none⟩ (.bool t226)).setCell ⟨gb232, 1, none⟩ (.int .i64 t227)).setCell ⟨gb232, 2, none⟩ (.slice Ao52 t228.length co52)) w.heap.size (fun k_ => some k_ ≠ (.slice Ao39 t218.length co39 : Value).ownBlock ∧ some k_ ≠ (.slice Ao52 t228.length co52 : Value).ownBlock ∧ k_ ≠ gb206 ∧ k_ ≠ gb222 ∧ k_ ≠ gb232) (.slice Ao23 t202.length co23) t202) := ⟨by (with_reducible repeat (first | apply Kd.R_alloc | apply Kd.R_drewN | apply Kd.R_drew)); exact Kd.R_mono (Kd.R_far (p := ⟨gb232, 2, none⟩) (Kd.R_far (p := ⟨gb232, 1, none⟩) (Kd.R_far (p := ⟨gb232, 0, none⟩) (Kd.R_mono HO204.out (fun k_ hk => (⟨hk, hk.2⟩ : _ ∧ k_ ≠ gb232))) (fun _ hk => hk.2) (.bool t226)) (fun _ hk => hk.2) (.int .i64 t227)) (fun _ hk => hk.2) (.slice Ao52 t228.length co52)) (fun _ hk => ⟨hk.1.1.1.1, ⟨hk.1.1.2, ⟨hk.1.1.1.2.1, ⟨hk.1.1.1.2.2, hk.1.2⟩⟩⟩⟩)⟩
        have n2_ : Aside0 (Kd.R (gfix w) 63 (((w47.setCell ⟨gb232, 0, none⟩ (.bool t226)).setCell ⟨gb232, 1, none⟩ (.int .i64 t227)).setCell ⟨gb232, 2, none⟩ (.slice Ao52 t228.length co52)) w.heap.size (fun k_ => some k_ ≠ (.slice Ao45 y223.length co45 : Value).ownBlock ∧ k_ ≠ gb193) (.slice Ao36 y207.length co36) y207) := ⟨by (with_reducible repeat (first | apply Kd.R_alloc | apply Kd.R_drewN | apply Kd.R_drew)); exact Kd.R_mono (Kd.R_far (p := ⟨gb232, 2, none⟩) (Kd.R_far (p := ⟨gb232, 1, none⟩) (Kd.R_far (p := ⟨gb232, 0, none⟩) (Kd.R_types HO209.out BK232.out (gfE (by decide))) (fun _ hk => hk.2) (.bool t226)) (fun _ hk => hk.2) (.int .i64 t227)) (fun _ hk => hk.2) (.slice Ao52 t228.length co52)) (fun _ hk => ⟨hk.1.2, hk.1.1⟩)⟩
        have n3_ : Aside0 (Kd.R (Kd.int .i64) 3 (((w47.setCell ⟨gb232, 0, none⟩ (.bool t226)).setCell ⟨gb232, 1, none⟩ (.int .i64 t227)).setCell ⟨gb232, 2, none⟩ (.slice Ao52 t228.length co52)) w.heap.size (fun k_ => some k_ ≠ (.slice Ao18 t195.length co18 : Value).ownBlock) v214 y213) := ⟨by (with_reducible repeat (first | apply Kd.R_alloc | apply Kd.R_drewN | apply Kd.R_drew)); exact Kd.R_mono (Kd.R_far (p := ⟨gb232, 2, none⟩) (Kd.R_far (p := ⟨gb232, 1, none⟩) (Kd.R_far (p := ⟨gb232, 0, none⟩) (Kd.R_types HO215.out BK232.out (by decide)) (fun _ hk => hk.2) (.bool t226)) (fun _ hk => hk.2) (.int .i64 t227)) (fun _ hk => hk.2) (.slice Ao52 t228.length co52)) (fun _ hk => hk.1)⟩
        have n4_ : Aside0 (Kd.R k27 27 (((w47.setCell ⟨gb232, 0, none⟩ (.bool t226)).setCell ⟨gb232, 1, none⟩ (.int .i64 t227)).setCell ⟨gb232, 2, none⟩ (.slice Ao52 t228.length co52)) w.heap.size (fun k_ => some k_ ≠ (.slice Ao23 t202.length co23 : Value).ownBlock ∧ some k_ ≠ (.slice Ao52 t228.length co52 : Value).ownBlock ∧ k_ ≠ gb206 ∧ k_ ≠ gb222 ∧ k_ ≠ gb232) (.slice Ao39 t218.length co39) t218) := ⟨by (with_reducible repeat (first | apply Kd.R_alloc | apply Kd.R_drewN | apply Kd.R_drew)); exact Kd.R_mono (Kd.R_far (p := ⟨gb232, 2, none⟩) (Kd.R_far (p := ⟨gb232, 1, none⟩) (Kd.R_far (p := ⟨gb232, 0, none⟩) (Kd.R_mono HO220.out (fun k_ hk => (⟨hk, hk.2⟩ : _ ∧ k_ ≠ gb232))) (fun _ hk => hk.2) (.bool t226)) (fun _ hk => hk.2) (.int .i64 t227)) (fun _ hk => hk.2) (.slice Ao52 t228.length co52)) (fun _ hk => ⟨hk.1.1.1.1, ⟨hk.1.1.2, ⟨hk.1.1.1.2.1, ⟨hk.1.1.1.2.2, hk.1.2⟩⟩⟩⟩)⟩
        have n5_ : Aside0 (Kd.R (gfix w) 63 (((w47.setCell ⟨gb232, 0, none⟩ (.bool t226)).setCell ⟨gb232, 1, none⟩ (.int .i64 t227)).setCell ⟨gb232, 2, none⟩ (.slice Ao52 t228.length co52)) w.heap.size (fun k_ => some k_ ≠ (.slice Ao36 y207.length co36 : Value).ownBlock ∧ k_ ≠ gb193) (.slice Ao45 y223.length co45) y223) := ⟨by (with_reducible repeat (first | apply Kd.R_alloc | apply Kd.R_drewN | apply Kd.R_drew)); exact Kd.R_mono (Kd.R_far (p := ⟨gb232, 2, none⟩) (Kd.R_far (p := ⟨gb232, 1, none⟩) (Kd.R_far (p := ⟨gb232, 0, none⟩) (Kd.R_types HO225.out BK232.out (gfE (by decide))) (fun _ hk => hk.2) (.bool t226)) (fun _ hk => hk.2) (.int .i64 t227)) (fun _ hk => hk.2) (.slice Ao52 t228.length co52)) (fun _ hk => ⟨hk.1.1.2, hk.1.2⟩)⟩
        have n6_ : Aside0 (Kd.R k27 27 (((w47.setCell ⟨gb232, 0, none⟩ (.bool t226)).setCell ⟨gb232, 1, none⟩ (.int .i64 t227)).setCell ⟨gb232, 2, none⟩ (.slice Ao52 t228.length co52)) w.heap.size (fun k_ => some k_ ≠ (.slice Ao23 t202.length co23 : Value).ownBlock ∧ some k_ ≠ (.slice Ao39 t218.length co39 : Value).ownBlock ∧ k_ ≠ gb206 ∧ k_ ≠ gb222 ∧ k_ ≠ gb232) (.slice Ao52 t228.length co52) t228) := ⟨by (with_reducible repeat (first | apply Kd.R_alloc | apply Kd.R_drewN | apply Kd.R_drew)); exact Kd.R_mono (Kd.R_far (p := ⟨gb232, 2, none⟩) (Kd.R_far (p := ⟨gb232, 1, none⟩) (Kd.R_far (p := ⟨gb232, 0, none⟩) (Kd.R_mono HO230.out (fun k_ hk => (⟨hk, hk.2⟩ : _ ∧ k_ ≠ gb232))) (fun _ hk => hk.2) (.bool t226)) (fun _ hk => hk.2) (.int .i64 t227)) (fun _ hk => hk.2) (.slice Ao52 t228.length co52)) (fun _ hk => ⟨hk.1.1.1.1.1.2, ⟨hk.1.1.1.1.2, ⟨hk.1.1.1.2, ⟨hk.1.1.2, hk.1.2⟩⟩⟩⟩)⟩
        have n7_ : Aside0 ((((w47.setCell ⟨gb232, 0, none⟩ (.bool t226)).setCell ⟨gb232, 1, none⟩ (.int .i64 t227)).setCell ⟨gb232, 2, none⟩ (.slice Ao52 t228.length co52)).heap[gb193]? = some (.cells #[.int .i64 a0_0, .int .i64 a0_1, .int .i64 a0_2, .slice A0_3 l0_3.length c0_3] 63 (0, 0))) := ⟨by (with_reducible repeat (first | refine blk_drewN ?_ _ | refine blk_drew ?_ | refine blk_alloc ?_ _)); refine blk_far ?_ NB193_232.out _; (with_reducible repeat (first | refine blk_drewN ?_ _ | refine blk_drew ?_ | refine blk_alloc ?_ _)); refine blk_far ?_ NB193_232.out _; (with_reducible repeat (first | refine blk_drewN ?_ _ | refine blk_drew ?_ | refine blk_alloc ?_ _)); refine blk_far ?_ NB193_232.out _; (with_reducible repeat (first | refine blk_drewN ?_ _ | refine blk_drew ?_ | refine blk_alloc ?_ _)); exact BK193.out⟩
        have n8_ : Aside0 ((((w47.setCell ⟨gb232, 0, none⟩ (.bool t226)).setCell ⟨gb232, 1, none⟩ (.int .i64 t227)).setCell ⟨gb232, 2, none⟩ (.slice Ao52 t228.length co52)).heap[gb206]? = some (.cells #[.bool t200, .int .i64 t201, .slice Ao23 t202.length co23] 27 (0, 0))) := ⟨by (with_reducible repeat (first | refine blk_drewN ?_ _ | refine blk_drew ?_ | refine blk_alloc ?_ _)); refine blk_far ?_ NB206_232.out _; (with_reducible repeat (first | refine blk_drewN ?_ _ | refine blk_drew ?_ | refine blk_alloc ?_ _)); refine blk_far ?_ NB206_232.out _; (with_reducible repeat (first | refine blk_drewN ?_ _ | refine blk_drew ?_ | refine blk_alloc ?_ _)); refine blk_far ?_ NB206_232.out _; (with_reducible repeat (first | refine blk_drewN ?_ _ | refine blk_drew ?_ | refine blk_alloc ?_ _)); exact BK206.out⟩
        have n9_ : Aside0 ((((w47.setCell ⟨gb232, 0, none⟩ (.bool t226)).setCell ⟨gb232, 1, none⟩ (.int .i64 t227)).setCell ⟨gb232, 2, none⟩ (.slice Ao52 t228.length co52)).heap[gb222]? = some (.cells #[.bool t216, .int .i64 t217, .slice Ao39 t218.length co39] 27 (0, 0))) := ⟨by (with_reducible repeat (first | refine blk_drewN ?_ _ | refine blk_drew ?_ | refine blk_alloc ?_ _)); refine blk_far ?_ NB222_232.out _; (with_reducible repeat (first | refine blk_drewN ?_ _ | refine blk_drew ?_ | refine blk_alloc ?_ _)); refine blk_far ?_ NB222_232.out _; (with_reducible repeat (first | refine blk_drewN ?_ _ | refine blk_drew ?_ | refine blk_alloc ?_ _)); refine blk_far ?_ NB222_232.out _; (with_reducible repeat (first | refine blk_drewN ?_ _ | refine blk_drew ?_ | refine blk_alloc ?_ _)); exact BK222.out⟩
        have n10_ : Aside0 ((((w47.setCell ⟨gb232, 0, none⟩ (.bool t226)).setCell ⟨gb232, 1, none⟩ (.int .i64 t227)).setCell ⟨gb232, 2, none⟩ (.slice Ao52 t228.length co52)).heap[gb232]? = some (.cells #[.bool t226, .int .i64 t227, .slice Ao52 t228.length co52] 27 (0, 0))) := ⟨by (with_reducible repeat (first | refine blk_drewN ?_ _ | refine blk_drew ?_ | refine blk_alloc ?_ _)); refine blk_put (cs := #[.bool t226, .int .i64 t227, .slice none 0 0]) ?_ 2 _ rfl; (with_reducible repeat (first | refine blk_drewN ?_ _ | refine blk_drew ?_ | refine blk_alloc ?_ _)); refine blk_put (cs := #[.bool t226, .int .i64 0, .slice none 0 0]) ?_ 1 _ rfl; (with_reducible repeat (first | refine blk_drewN ?_ _ | refine blk_drew ?_ | refine blk_alloc ?_ _)); refine blk_put (cs := #[.bool false, .int .i64 0, .slice none 0 0]) ?_ 0 _ rfl; (with_reducible repeat (first | refine blk_drewN ?_ _ | refine blk_drew ?_ | refine blk_alloc ?_ _)); exact BK232.out⟩
        have n11_ : Aside0 (Below w.heap.size w (((w47.setCell ⟨gb232, 0, none⟩ (.bool t226)).setCell ⟨gb232, 1, none⟩ (.int .i64 t227)).setCell ⟨gb232, 2, none⟩ (.slice Ao52 t228.length co52))) := ⟨by repeat (first | (with_reducible first | exact HB.out | apply below_alloc | apply pw_below_drewN | apply below_drew1 | refine below_set ?_ GE193.out | refine below_set ?_ GE206.out | refine below_set ?_ GE222.out | refine below_set ?_ GE232.out) | exact HB.out)⟩
        (try clear HO_6)
        (try clear HO204)
        (try clear HO209)
        (try clear HO215)
        (try clear HO220)
        (try clear HO225)
        (try clear HO230)
        (try clear BK193)
        (try clear BK206)
        (try clear BK222)
        (try clear BK232)
        (try clear HB)
        generalize (((w47.setCell ⟨gb232, 0, none⟩ (.bool t226)).setCell ⟨gb232, 1, none⟩ (.int .i64 t227)).setCell ⟨gb232, 2, none⟩ (.slice Ao52 t228.length co52)) = w55 at n0_ n1_ n2_ n3_ n4_ n5_ n6_ n7_ n8_ n9_ n10_ n11_ ⊢
        have HO_6 := n0_
        have HO204 := n1_
        have HO209 := n2_
        have HO215 := n3_
        have HO220 := n4_
        have HO225 := n5_
        have HO230 := n6_
        have BK193 := n7_
        have BK206 := n8_
        have BK222 := n9_
        have BK232 := n10_
        have HB := n11_
        clear n0_ n1_ n2_ n3_ n4_ n5_ n6_ n7_ n8_ n9_ n10_ n11_
        have n0_ := Aside0.mk (Kd.R_drew HO_6.out)
        have n1_ := Aside0.mk (Kd.R_drew HO204.out)
        have n2_ := Aside0.mk (Kd.R_drew HO209.out)
        have n3_ := Aside0.mk (Kd.R_drew HO215.out)
        have n4_ := Aside0.mk (Kd.R_drew HO220.out)
        have n5_ := Aside0.mk (Kd.R_drew HO225.out)
        have n6_ := Aside0.mk (Kd.R_drew HO230.out)
        have n7_ := Aside0.mk (blk_drew BK193.out)
        have n8_ := Aside0.mk (blk_drew BK206.out)
        have n9_ := Aside0.mk (blk_drew BK222.out)
        have n10_ := Aside0.mk (blk_drew BK232.out)
        have n11_ := Aside0.mk (below_drew1 HB.out)
        clear HO_6
        clear HO204
        clear HO209
        clear HO215
        clear HO220
        clear HO225
        clear HO230
        clear BK193
        clear BK206
        clear BK222
        clear BK232
        clear HB
        have HO_6 := n0_
        have HO204 := n1_
        have HO209 := n2_
        have HO215 := n3_
        have HO220 := n4_
        have HO225 := n5_
        have HO230 := n6_
        have BK193 := n7_
        have BK206 := n8_
        have BK222 := n9_
        have BK232 := n10_
        have HB := n11_
        clear n0_ n1_ n2_ n3_ n4_ n5_ n6_ n7_ n8_ n9_ n10_ n11_
        refine start_ (n := 9) (S := fun w' => w'.cell? ⟨gb222, 0, none⟩ = some (.bool t216) ∧ w'.cell? ⟨gb222, 1, none⟩ = some (.int .i64 t217) ∧ w'.cell? ⟨gb222, 2, none⟩ = some (.slice Ao39 t218.length co39) ∧ w'.cell? ⟨gb206, 0, none⟩ = some (.bool t200) ∧ w'.cell? ⟨gb206, 1, none⟩ = some (.int .i64 t201) ∧ w'.cell? ⟨gb206, 2, none⟩ = some (.slice Ao23 t202.length co23)) (ds := []) #[false, false, false, false, false, false, false, false, false] (by kernel_rfl) rfl rfl ⟨(blk_cell BK222.out 0).trans rfl, (blk_cell BK222.out 1).trans rfl, (blk_cell BK222.out 2).trans rfl, (blk_cell BK206.out 0).trans rfl, (blk_cell BK206.out 1).trans rfl, (blk_cell BK206.out 2).trans rfl⟩ (fun hHeld => ?_); refine with_tabW assayerlaw6_GenWraps.tab10 assayerlaw6_GenWraps.bits10 (fun HT_ HW_ => ?_)
        generalize w55.drew = w56 at HO_6 HO204 HO209 HO215 HO220 HO225 HO230 BK193 BK206 BK222 BK232 HB hHeld ⊢
        refine pure_ (i := 0) (N := some 56) (v := ?_) (a' := ?_) #[true, false, false, false, false, false, false, false, false] rfl rfl (any_of HT_.out (by kernel_rfl)) (fun _ _ _ h => h) (Or.inl ⟨by rfl, ?_⟩) ?_ ?_
        rotate_left
        ·intro w'
         go_simp
         with_reducible rfl
        rotate_left
        ·simp only [Act.put, List.setIfInBounds_toArray, List.set_cons_zero, List.set_cons_succ, i64_w, i32_w]
         rfl
        refine pure_ (i := 1) (N := some 57) (v := ?_) (a' := ?_) #[true, true, false, false, false, false, false, false, false] rfl rfl (any_of HT_.out (by kernel_rfl)) (fun _ _ _ h => h) (Or.inl ⟨by rfl, ?_⟩) ?_ ?_
        rotate_left
        ·intro w'
         go_simp
         with_reducible rfl
        rotate_left
        ·simp only [Act.put, List.setIfInBounds_toArray, List.set_cons_zero, List.set_cons_succ, i64_w, i32_w]
         rfl
        refine pure_ (i := 2) (N := some 58) (v := ?_) (a' := ?_) #[true, true, true, false, false, false, false, false, false] rfl rfl (any_of HT_.out (by kernel_rfl)) (fun _ _ _ h => h) (Or.inl ⟨by rfl, ?_⟩) ?_ ?_
        rotate_left
        ·intro w'
         go_simp
         with_reducible rfl
        rotate_left
        ·simp only [Act.put, List.setIfInBounds_toArray, List.set_cons_zero, List.set_cons_succ, i64_w, i32_w]
         rfl
        refine take_ (i := 3) (N := some 59) (v := ?_) (a' := ?_) #[true, true, true, true, false, false, false, false, false] rfl rfl (take_ofW HT_.out HW_.out (by kernel_rfl)) (fun _ _ _ h => h) (Or.inl ⟨by rfl, ?_⟩) hHeld ?_ ?_
        rotate_left
        ·rintro w' ⟨s0, s1, s2, s3, s4, s5⟩
         go_simp
         with_reducible rfl
        rotate_left
        ·simp only [Act.put, List.setIfInBounds_toArray, List.set_cons_zero, List.set_cons_succ, i64_w, i32_w]
         rfl
        refine take_ (i := 5) (N := some 61) (v := ?_) (a' := ?_) #[true, true, true, true, false, true, false, false, false] rfl rfl (take_ofW HT_.out HW_.out (by kernel_rfl)) (fun _ _ _ h => h) (Or.inl ⟨by rfl, ?_⟩) hHeld ?_ ?_
        rotate_left
        ·rintro w' ⟨s0, s1, s2, s3, s4, s5⟩
         go_simp
         with_reducible rfl
        rotate_left
        ·simp only [Act.put, List.setIfInBounds_toArray, List.set_cons_zero, List.set_cons_succ, i64_w, i32_w]
         rfl
        refine one_ (i := 4) (N := some 60) #[true, true, true, true, true, true, false, false, false] rfl rfl (one_of HT_.out (by kernel_rfl)) (by decide) (fun K hK => ?_)
        refine goes_ Tryd.func45 (by kernel_rfl) rfl #[.agg #[.bool t216, .int .i64 t217, .slice Ao39 t218.length co39]] (by rfl) rfl rfl (by (try simp only [List.map_toArray, List.map_cons, List.map_nil]); first | done | rfl | (simp only [List.length_drop, List.length_take]; rfl)) ?_
        with_reducible refine (val_Text.calls kj4 t216 t217 _ _ t218 t235 _ ?side1 ?side2 A53.out ?gGPow).mono ?_
        (case gGPow => exact (HGPow.out.below HB.out))
        (case side1 => repeat (first | exact (Kd.R_reads' HO220.out).2.2 | (with_reducible refine Kd.C_alloc ?_ _) | (with_reducible refine Kd.C_drewN ?_ _) | (with_reducible refine Kd.C_drew ?_)))
        (case side2 => exact (Kd.R_reads' HO220.out).2.1)
        rintro e w57 ⟨rfl, hb⟩
        refine ⟨_, rfl, ?_⟩
        have n0_ := Aside0.mk (Kd.R_below HO_6.out hb)
        have n1_ := Aside0.mk (Kd.R_below HO204.out hb)
        have n2_ := Aside0.mk (Kd.R_below HO209.out hb)
        have n3_ := Aside0.mk (Kd.R_below HO215.out hb)
        have n4_ := Aside0.mk (Kd.R_below HO220.out hb)
        have n5_ := Aside0.mk (Kd.R_below HO225.out hb)
        have n6_ := Aside0.mk (Kd.R_below HO230.out hb)
        have n7_ := Aside0.mk (blk_below (g := gb193) (o := .cells #[.int .i64 a0_0, .int .i64 a0_1, .int .i64 a0_2, .slice A0_3 l0_3.length c0_3] 63 (0, 0)) BK193.out hb)
        have n8_ := Aside0.mk (blk_below (g := gb206) (o := .cells #[.bool t200, .int .i64 t201, .slice Ao23 t202.length co23] 27 (0, 0)) BK206.out hb)
        have n9_ := Aside0.mk (blk_below (g := gb222) (o := .cells #[.bool t216, .int .i64 t217, .slice Ao39 t218.length co39] 27 (0, 0)) BK222.out hb)
        have n10_ := Aside0.mk (blk_below (g := gb232) (o := .cells #[.bool t226, .int .i64 t227, .slice Ao52 t228.length co52] 27 (0, 0)) BK232.out hb)
        have n11_ := Aside0.mk (below_step HB.out hb)
        clear HO_6
        clear HO204
        clear HO209
        clear HO215
        clear HO220
        clear HO225
        clear HO230
        clear BK193
        clear BK206
        clear BK222
        clear BK232
        clear HB
        have HO_6 := n0_
        have HO204 := n1_
        have HO209 := n2_
        have HO215 := n3_
        have HO220 := n4_
        have HO225 := n5_
        have HO230 := n6_
        have BK193 := n7_
        have BK206 := n8_
        have BK222 := n9_
        have BK232 := n10_
        have HB := n11_
        clear n0_ n1_ n2_ n3_ n4_ n5_ n6_ n7_ n8_ n9_ n10_ n11_
        (try clear hb)
        (try clear hb2)
        (try clear hk)
        (try clear hi)
        refine hK.out _ _ ⟨(blk_cell BK222.out 0).trans rfl, (blk_cell BK222.out 1).trans rfl, (blk_cell BK222.out 2).trans rfl, (blk_cell BK206.out 0).trans rfl, (blk_cell BK206.out 1).trans rfl, (blk_cell BK206.out 2).trans rfl⟩ (fun hHeld => ?_)
        clear hK K
        refine norm_ (a' := ?_) ?_ ?_
        rotate_left
        ·show Act.put _ (some 60) _ = _
         simp only [Act.put, List.setIfInBounds_toArray, List.set_cons_zero, List.set_cons_succ, i64_w, i32_w]
         rfl
        refine one_ (i := 6) (N := some 62) #[true, true, true, true, true, true, true, false, false] rfl rfl (one_of HT_.out (by kernel_rfl)) (by decide) (fun K hK => ?_)
        refine goes_ Tryd.func45 (by kernel_rfl) rfl #[.agg #[.bool t200, .int .i64 t201, .slice Ao23 t202.length co23]] (by rfl) rfl rfl (by (try simp only [List.map_toArray, List.map_cons, List.map_nil]); first | done | rfl | (simp only [List.length_drop, List.length_take]; rfl)) ?_
        with_reducible refine (val_Text.calls kj4 t200 t201 _ _ t202 t236 _ ?side1 ?side2 A54.out ?gGPow).mono ?_
        (case gGPow => exact (HGPow.out.below HB.out))
        (case side1 => repeat (first | exact (Kd.R_reads' HO204.out).2.2 | (with_reducible refine Kd.C_alloc ?_ _) | (with_reducible refine Kd.C_drewN ?_ _) | (with_reducible refine Kd.C_drew ?_)))
        (case side2 => exact (Kd.R_reads' HO204.out).2.1)
        rintro e w58 ⟨rfl, hb⟩
        refine ⟨_, rfl, ?_⟩
        have n0_ := Aside0.mk (Kd.R_below HO_6.out hb)
        have n1_ := Aside0.mk (Kd.R_below HO204.out hb)
        have n2_ := Aside0.mk (Kd.R_below HO209.out hb)
        have n3_ := Aside0.mk (Kd.R_below HO215.out hb)
        have n4_ := Aside0.mk (Kd.R_below HO220.out hb)
        have n5_ := Aside0.mk (Kd.R_below HO225.out hb)
        have n6_ := Aside0.mk (Kd.R_below HO230.out hb)
        have n7_ := Aside0.mk (blk_below (g := gb193) (o := .cells #[.int .i64 a0_0, .int .i64 a0_1, .int .i64 a0_2, .slice A0_3 l0_3.length c0_3] 63 (0, 0)) BK193.out hb)
        have n8_ := Aside0.mk (blk_below (g := gb206) (o := .cells #[.bool t200, .int .i64 t201, .slice Ao23 t202.length co23] 27 (0, 0)) BK206.out hb)
        have n9_ := Aside0.mk (blk_below (g := gb222) (o := .cells #[.bool t216, .int .i64 t217, .slice Ao39 t218.length co39] 27 (0, 0)) BK222.out hb)
        have n10_ := Aside0.mk (blk_below (g := gb232) (o := .cells #[.bool t226, .int .i64 t227, .slice Ao52 t228.length co52] 27 (0, 0)) BK232.out hb)
        have n11_ := Aside0.mk (below_step HB.out hb)
        clear HO_6
        clear HO204
        clear HO209
        clear HO215
        clear HO220
        clear HO225
        clear HO230
        clear BK193
        clear BK206
        clear BK222
        clear BK232
        clear HB
        have HO_6 := n0_
        have HO204 := n1_
        have HO209 := n2_
        have HO215 := n3_
        have HO220 := n4_
        have HO225 := n5_
        have HO230 := n6_
        have BK193 := n7_
        have BK206 := n8_
        have BK222 := n9_
        have BK232 := n10_
        have HB := n11_
        clear n0_ n1_ n2_ n3_ n4_ n5_ n6_ n7_ n8_ n9_ n10_ n11_
        (try clear hb)
        (try clear hb2)
        (try clear hk)
        (try clear hi)
        refine hK.out _ _ ⟨(blk_cell BK222.out 0).trans rfl, (blk_cell BK222.out 1).trans rfl, (blk_cell BK222.out 2).trans rfl, (blk_cell BK206.out 0).trans rfl, (blk_cell BK206.out 1).trans rfl, (blk_cell BK206.out 2).trans rfl⟩ (fun hHeld => ?_)
        clear hK K
        refine norm_ (a' := ?_) ?_ ?_
        rotate_left
        ·show Act.put _ (some 62) _ = _
         simp only [Act.put, List.setIfInBounds_toArray, List.set_cons_zero, List.set_cons_succ, i64_w, i32_w]
         rfl
        refine pure_ (i := 7) (N := some 63) (v := ?_) (a' := ?_) #[true, true, true, true, true, true, true, true, false] rfl rfl (any_of HT_.out (by kernel_rfl)) (fun _ _ _ h => h) (Or.inl ⟨by rfl, ?_⟩) ?_ ?_
        rotate_left
        ·intro w'
         go_simp
         with_reducible rfl
        rotate_left
        ·simp only [Act.put, List.setIfInBounds_toArray, List.set_cons_zero, List.set_cons_succ, i64_w, i32_w]
         rfl
        refine pure_ (i := 8) (N := some 64) (v := ?_) (a' := ?_) #[true, true, true, true, true, true, true, true, true] rfl rfl (any_of HT_.out (by kernel_rfl)) (fun _ _ _ h => h) (Or.inl ⟨by rfl, ?_⟩) ?_ ?_
        rotate_left
        ·intro w'
         go_simp
         with_reducible rfl
        rotate_left
        ·simp only [Act.put, List.setIfInBounds_toArray, List.set_cons_zero, List.set_cons_succ, i64_w, i32_w]
         rfl
        refine done_ (done_of HT_.out (by kernel_rfl)) ?_
        try go_wp2
        go_meet
        case rel => exact ⟨_, ((t235.toList != t236.toList)), (by first | rfl | (simp; done) | (simp [*]; done)), H', ⟨by have := HJ4.out; first | omega | exact Nat.le_refl _⟩, ⟨by (with_reducible repeat (first | apply Kd.R_alloc | apply Kd.R_drewN | apply Kd.R_drew)); exact HO204.out⟩, ⟨by (with_reducible repeat (first | apply Kd.R_alloc | apply Kd.R_drewN | apply Kd.R_drew)); exact HO220.out⟩, ⟨by (with_reducible repeat (first | apply Kd.R_alloc | apply Kd.R_drewN | apply Kd.R_drew)); exact HO230.out⟩, ⟨by (with_reducible repeat (first | refine blk_drewN ?_ _ | refine blk_drew ?_ | refine blk_alloc ?_ _)); exact BK193.out⟩, ⟨by (with_reducible repeat (first | refine blk_drewN ?_ _ | refine blk_drew ?_ | refine blk_alloc ?_ _)); exact BK206.out⟩, ⟨by (with_reducible repeat (first | refine blk_drewN ?_ _ | refine blk_drew ?_ | refine blk_alloc ?_ _)); exact BK222.out⟩, ⟨by (with_reducible repeat (first | refine blk_drewN ?_ _ | refine blk_drew ?_ | refine blk_alloc ?_ _)); exact BK232.out⟩, ⟨by repeat (first | (with_reducible first | exact HB.out | apply below_alloc | apply pw_below_drewN | apply below_drew1 | refine below_set ?_ GE193.out | refine below_set ?_ GE206.out | refine below_set ?_ GE222.out | refine below_set ?_ GE232.out) | exact HB.out)⟩⟩
       ·have H1 : (assayerlaw6_GenWraps.j1 kj4 (some q234) t231 false t200 t201 t202 t226 t227 t228) = some r := by rw [if_neg (show ¬ (some q234).isNone = true by simp)] at H; exact H
        clear H
        have H := H1
        clear H1
        try simp only [errW_none, errW_some]
        have H' := Aside0.mk H
        clear H
        try go_wp2
        have n0_ : Aside0 (Kd.R (Kd.int .i64) 3 (((w47.setCell ⟨gb232, 0, none⟩ (.bool t226)).setCell ⟨gb232, 1, none⟩ (.int .i64 t227)).setCell ⟨gb232, 2, none⟩ (.slice Ao52 t228.length co52)) w.heap.size (fun k_ => some k_ ≠ (v214 : Value).ownBlock) (.slice Ao18 t195.length co18) t195) := ⟨by (with_reducible repeat (first | apply Kd.R_alloc | apply Kd.R_drewN | apply Kd.R_drew)); exact Kd.R_mono (Kd.R_far (p := ⟨gb232, 2, none⟩) (Kd.R_far (p := ⟨gb232, 1, none⟩) (Kd.R_far (p := ⟨gb232, 0, none⟩) (Kd.R_types HO_6.out BK232.out (by decide)) (fun _ hk => hk.2) (.bool t226)) (fun _ hk => hk.2) (.int .i64 t227)) (fun _ hk => hk.2) (.slice Ao52 t228.length co52)) (fun _ hk => hk.1)⟩
        have n1_ : Aside0 (Kd.R k27 27 (((w47.setCell ⟨gb232, 0, none⟩ (.bool t226)).setCell ⟨gb232, 1, none⟩ (.int .i64 t227)).setCell ⟨gb232, 2, none⟩ (.slice Ao52 t228.length co52)) w.heap.size (fun k_ => some k_ ≠ (.slice Ao39 t218.length co39 : Value).ownBlock ∧ some k_ ≠ (.slice Ao52 t228.length co52 : Value).ownBlock ∧ k_ ≠ gb206 ∧ k_ ≠ gb222 ∧ k_ ≠ gb232) (.slice Ao23 t202.length co23) t202) := ⟨by (with_reducible repeat (first | apply Kd.R_alloc | apply Kd.R_drewN | apply Kd.R_drew)); exact Kd.R_mono (Kd.R_far (p := ⟨gb232, 2, none⟩) (Kd.R_far (p := ⟨gb232, 1, none⟩) (Kd.R_far (p := ⟨gb232, 0, none⟩) (Kd.R_mono HO204.out (fun k_ hk => (⟨hk, hk.2⟩ : _ ∧ k_ ≠ gb232))) (fun _ hk => hk.2) (.bool t226)) (fun _ hk => hk.2) (.int .i64 t227)) (fun _ hk => hk.2) (.slice Ao52 t228.length co52)) (fun _ hk => ⟨hk.1.1.1.1, ⟨hk.1.1.2, ⟨hk.1.1.1.2.1, ⟨hk.1.1.1.2.2, hk.1.2⟩⟩⟩⟩)⟩
        have n2_ : Aside0 (Kd.R (gfix w) 63 (((w47.setCell ⟨gb232, 0, none⟩ (.bool t226)).setCell ⟨gb232, 1, none⟩ (.int .i64 t227)).setCell ⟨gb232, 2, none⟩ (.slice Ao52 t228.length co52)) w.heap.size (fun k_ => some k_ ≠ (.slice Ao45 y223.length co45 : Value).ownBlock ∧ k_ ≠ gb193) (.slice Ao36 y207.length co36) y207) := ⟨by (with_reducible repeat (first | apply Kd.R_alloc | apply Kd.R_drewN | apply Kd.R_drew)); exact Kd.R_mono (Kd.R_far (p := ⟨gb232, 2, none⟩) (Kd.R_far (p := ⟨gb232, 1, none⟩) (Kd.R_far (p := ⟨gb232, 0, none⟩) (Kd.R_types HO209.out BK232.out (gfE (by decide))) (fun _ hk => hk.2) (.bool t226)) (fun _ hk => hk.2) (.int .i64 t227)) (fun _ hk => hk.2) (.slice Ao52 t228.length co52)) (fun _ hk => ⟨hk.1.2, hk.1.1⟩)⟩
        have n3_ : Aside0 (Kd.R (Kd.int .i64) 3 (((w47.setCell ⟨gb232, 0, none⟩ (.bool t226)).setCell ⟨gb232, 1, none⟩ (.int .i64 t227)).setCell ⟨gb232, 2, none⟩ (.slice Ao52 t228.length co52)) w.heap.size (fun k_ => some k_ ≠ (.slice Ao18 t195.length co18 : Value).ownBlock) v214 y213) := ⟨by (with_reducible repeat (first | apply Kd.R_alloc | apply Kd.R_drewN | apply Kd.R_drew)); exact Kd.R_mono (Kd.R_far (p := ⟨gb232, 2, none⟩) (Kd.R_far (p := ⟨gb232, 1, none⟩) (Kd.R_far (p := ⟨gb232, 0, none⟩) (Kd.R_types HO215.out BK232.out (by decide)) (fun _ hk => hk.2) (.bool t226)) (fun _ hk => hk.2) (.int .i64 t227)) (fun _ hk => hk.2) (.slice Ao52 t228.length co52)) (fun _ hk => hk.1)⟩
        have n4_ : Aside0 (Kd.R k27 27 (((w47.setCell ⟨gb232, 0, none⟩ (.bool t226)).setCell ⟨gb232, 1, none⟩ (.int .i64 t227)).setCell ⟨gb232, 2, none⟩ (.slice Ao52 t228.length co52)) w.heap.size (fun k_ => some k_ ≠ (.slice Ao23 t202.length co23 : Value).ownBlock ∧ some k_ ≠ (.slice Ao52 t228.length co52 : Value).ownBlock ∧ k_ ≠ gb206 ∧ k_ ≠ gb222 ∧ k_ ≠ gb232) (.slice Ao39 t218.length co39) t218) := ⟨by (with_reducible repeat (first | apply Kd.R_alloc | apply Kd.R_drewN | apply Kd.R_drew)); exact Kd.R_mono (Kd.R_far (p := ⟨gb232, 2, none⟩) (Kd.R_far (p := ⟨gb232, 1, none⟩) (Kd.R_far (p := ⟨gb232, 0, none⟩) (Kd.R_mono HO220.out (fun k_ hk => (⟨hk, hk.2⟩ : _ ∧ k_ ≠ gb232))) (fun _ hk => hk.2) (.bool t226)) (fun _ hk => hk.2) (.int .i64 t227)) (fun _ hk => hk.2) (.slice Ao52 t228.length co52)) (fun _ hk => ⟨hk.1.1.1.1, ⟨hk.1.1.2, ⟨hk.1.1.1.2.1, ⟨hk.1.1.1.2.2, hk.1.2⟩⟩⟩⟩)⟩
        have n5_ : Aside0 (Kd.R (gfix w) 63 (((w47.setCell ⟨gb232, 0, none⟩ (.bool t226)).setCell ⟨gb232, 1, none⟩ (.int .i64 t227)).setCell ⟨gb232, 2, none⟩ (.slice Ao52 t228.length co52)) w.heap.size (fun k_ => some k_ ≠ (.slice Ao36 y207.length co36 : Value).ownBlock ∧ k_ ≠ gb193) (.slice Ao45 y223.length co45) y223) := ⟨by (with_reducible repeat (first | apply Kd.R_alloc | apply Kd.R_drewN | apply Kd.R_drew)); exact Kd.R_mono (Kd.R_far (p := ⟨gb232, 2, none⟩) (Kd.R_far (p := ⟨gb232, 1, none⟩) (Kd.R_far (p := ⟨gb232, 0, none⟩) (Kd.R_types HO225.out BK232.out (gfE (by decide))) (fun _ hk => hk.2) (.bool t226)) (fun _ hk => hk.2) (.int .i64 t227)) (fun _ hk => hk.2) (.slice Ao52 t228.length co52)) (fun _ hk => ⟨hk.1.1.2, hk.1.2⟩)⟩
        have n6_ : Aside0 (Kd.R k27 27 (((w47.setCell ⟨gb232, 0, none⟩ (.bool t226)).setCell ⟨gb232, 1, none⟩ (.int .i64 t227)).setCell ⟨gb232, 2, none⟩ (.slice Ao52 t228.length co52)) w.heap.size (fun k_ => some k_ ≠ (.slice Ao23 t202.length co23 : Value).ownBlock ∧ some k_ ≠ (.slice Ao39 t218.length co39 : Value).ownBlock ∧ k_ ≠ gb206 ∧ k_ ≠ gb222 ∧ k_ ≠ gb232) (.slice Ao52 t228.length co52) t228) := ⟨by (with_reducible repeat (first | apply Kd.R_alloc | apply Kd.R_drewN | apply Kd.R_drew)); exact Kd.R_mono (Kd.R_far (p := ⟨gb232, 2, none⟩) (Kd.R_far (p := ⟨gb232, 1, none⟩) (Kd.R_far (p := ⟨gb232, 0, none⟩) (Kd.R_mono HO230.out (fun k_ hk => (⟨hk, hk.2⟩ : _ ∧ k_ ≠ gb232))) (fun _ hk => hk.2) (.bool t226)) (fun _ hk => hk.2) (.int .i64 t227)) (fun _ hk => hk.2) (.slice Ao52 t228.length co52)) (fun _ hk => ⟨hk.1.1.1.1.1.2, ⟨hk.1.1.1.1.2, ⟨hk.1.1.1.2, ⟨hk.1.1.2, hk.1.2⟩⟩⟩⟩)⟩
        have n7_ : Aside0 ((((w47.setCell ⟨gb232, 0, none⟩ (.bool t226)).setCell ⟨gb232, 1, none⟩ (.int .i64 t227)).setCell ⟨gb232, 2, none⟩ (.slice Ao52 t228.length co52)).heap[gb193]? = some (.cells #[.int .i64 a0_0, .int .i64 a0_1, .int .i64 a0_2, .slice A0_3 l0_3.length c0_3] 63 (0, 0))) := ⟨by (with_reducible repeat (first | refine blk_drewN ?_ _ | refine blk_drew ?_ | refine blk_alloc ?_ _)); refine blk_far ?_ NB193_232.out _; (with_reducible repeat (first | refine blk_drewN ?_ _ | refine blk_drew ?_ | refine blk_alloc ?_ _)); refine blk_far ?_ NB193_232.out _; (with_reducible repeat (first | refine blk_drewN ?_ _ | refine blk_drew ?_ | refine blk_alloc ?_ _)); refine blk_far ?_ NB193_232.out _; (with_reducible repeat (first | refine blk_drewN ?_ _ | refine blk_drew ?_ | refine blk_alloc ?_ _)); exact BK193.out⟩
        have n8_ : Aside0 ((((w47.setCell ⟨gb232, 0, none⟩ (.bool t226)).setCell ⟨gb232, 1, none⟩ (.int .i64 t227)).setCell ⟨gb232, 2, none⟩ (.slice Ao52 t228.length co52)).heap[gb206]? = some (.cells #[.bool t200, .int .i64 t201, .slice Ao23 t202.length co23] 27 (0, 0))) := ⟨by (with_reducible repeat (first | refine blk_drewN ?_ _ | refine blk_drew ?_ | refine blk_alloc ?_ _)); refine blk_far ?_ NB206_232.out _; (with_reducible repeat (first | refine blk_drewN ?_ _ | refine blk_drew ?_ | refine blk_alloc ?_ _)); refine blk_far ?_ NB206_232.out _; (with_reducible repeat (first | refine blk_drewN ?_ _ | refine blk_drew ?_ | refine blk_alloc ?_ _)); refine blk_far ?_ NB206_232.out _; (with_reducible repeat (first | refine blk_drewN ?_ _ | refine blk_drew ?_ | refine blk_alloc ?_ _)); exact BK206.out⟩
        have n9_ : Aside0 ((((w47.setCell ⟨gb232, 0, none⟩ (.bool t226)).setCell ⟨gb232, 1, none⟩ (.int .i64 t227)).setCell ⟨gb232, 2, none⟩ (.slice Ao52 t228.length co52)).heap[gb222]? = some (.cells #[.bool t216, .int .i64 t217, .slice Ao39 t218.length co39] 27 (0, 0))) := ⟨by (with_reducible repeat (first | refine blk_drewN ?_ _ | refine blk_drew ?_ | refine blk_alloc ?_ _)); refine blk_far ?_ NB222_232.out _; (with_reducible repeat (first | refine blk_drewN ?_ _ | refine blk_drew ?_ | refine blk_alloc ?_ _)); refine blk_far ?_ NB222_232.out _; (with_reducible repeat (first | refine blk_drewN ?_ _ | refine blk_drew ?_ | refine blk_alloc ?_ _)); refine blk_far ?_ NB222_232.out _; (with_reducible repeat (first | refine blk_drewN ?_ _ | refine blk_drew ?_ | refine blk_alloc ?_ _)); exact BK222.out⟩
        have n10_ : Aside0 ((((w47.setCell ⟨gb232, 0, none⟩ (.bool t226)).setCell ⟨gb232, 1, none⟩ (.int .i64 t227)).setCell ⟨gb232, 2, none⟩ (.slice Ao52 t228.length co52)).heap[gb232]? = some (.cells #[.bool t226, .int .i64 t227, .slice Ao52 t228.length co52] 27 (0, 0))) := ⟨by (with_reducible repeat (first | refine blk_drewN ?_ _ | refine blk_drew ?_ | refine blk_alloc ?_ _)); refine blk_put (cs := #[.bool t226, .int .i64 t227, .slice none 0 0]) ?_ 2 _ rfl; (with_reducible repeat (first | refine blk_drewN ?_ _ | refine blk_drew ?_ | refine blk_alloc ?_ _)); refine blk_put (cs := #[.bool t226, .int .i64 0, .slice none 0 0]) ?_ 1 _ rfl; (with_reducible repeat (first | refine blk_drewN ?_ _ | refine blk_drew ?_ | refine blk_alloc ?_ _)); refine blk_put (cs := #[.bool false, .int .i64 0, .slice none 0 0]) ?_ 0 _ rfl; (with_reducible repeat (first | refine blk_drewN ?_ _ | refine blk_drew ?_ | refine blk_alloc ?_ _)); exact BK232.out⟩
        have n11_ : Aside0 (Below w.heap.size w (((w47.setCell ⟨gb232, 0, none⟩ (.bool t226)).setCell ⟨gb232, 1, none⟩ (.int .i64 t227)).setCell ⟨gb232, 2, none⟩ (.slice Ao52 t228.length co52))) := ⟨by repeat (first | (with_reducible first | exact HB.out | apply below_alloc | apply pw_below_drewN | apply below_drew1 | refine below_set ?_ GE193.out | refine below_set ?_ GE206.out | refine below_set ?_ GE222.out | refine below_set ?_ GE232.out) | exact HB.out)⟩
        (try clear HO_6)
        (try clear HO204)
        (try clear HO209)
        (try clear HO215)
        (try clear HO220)
        (try clear HO225)
        (try clear HO230)
        (try clear BK193)
        (try clear BK206)
        (try clear BK222)
        (try clear BK232)
        (try clear HB)
        generalize (((w47.setCell ⟨gb232, 0, none⟩ (.bool t226)).setCell ⟨gb232, 1, none⟩ (.int .i64 t227)).setCell ⟨gb232, 2, none⟩ (.slice Ao52 t228.length co52)) = w59 at n0_ n1_ n2_ n3_ n4_ n5_ n6_ n7_ n8_ n9_ n10_ n11_ ⊢
        have HO_6 := n0_
        have HO204 := n1_
        have HO209 := n2_
        have HO215 := n3_
        have HO220 := n4_
        have HO225 := n5_
        have HO230 := n6_
        have BK193 := n7_
        have BK206 := n8_
        have BK222 := n9_
        have BK232 := n10_
        have HB := n11_
        clear n0_ n1_ n2_ n3_ n4_ n5_ n6_ n7_ n8_ n9_ n10_ n11_
        have n0_ := Aside0.mk (Kd.R_drew HO_6.out)
        have n1_ := Aside0.mk (Kd.R_drew HO204.out)
        have n2_ := Aside0.mk (Kd.R_drew HO209.out)
        have n3_ := Aside0.mk (Kd.R_drew HO215.out)
        have n4_ := Aside0.mk (Kd.R_drew HO220.out)
        have n5_ := Aside0.mk (Kd.R_drew HO225.out)
        have n6_ := Aside0.mk (Kd.R_drew HO230.out)
        have n7_ := Aside0.mk (blk_drew BK193.out)
        have n8_ := Aside0.mk (blk_drew BK206.out)
        have n9_ := Aside0.mk (blk_drew BK222.out)
        have n10_ := Aside0.mk (blk_drew BK232.out)
        have n11_ := Aside0.mk (below_drew1 HB.out)
        clear HO_6
        clear HO204
        clear HO209
        clear HO215
        clear HO220
        clear HO225
        clear HO230
        clear BK193
        clear BK206
        clear BK222
        clear BK232
        clear HB
        have HO_6 := n0_
        have HO204 := n1_
        have HO209 := n2_
        have HO215 := n3_
        have HO220 := n4_
        have HO225 := n5_
        have HO230 := n6_
        have BK193 := n7_
        have BK206 := n8_
        have BK222 := n9_
        have BK232 := n10_
        have HB := n11_
        clear n0_ n1_ n2_ n3_ n4_ n5_ n6_ n7_ n8_ n9_ n10_ n11_
        refine start_ (n := 9) (S := fun w' => True) (ds := []) #[false, false, false, false, false, false, false, false, false] (by kernel_rfl) rfl rfl trivial (fun hHeld => ?_); refine with_tabW assayerlaw6_GenWraps.tab10 assayerlaw6_GenWraps.bits10 (fun HT_ HW_ => ?_)
        generalize w59.drew = w60 at HO_6 HO204 HO209 HO215 HO220 HO225 HO230 BK193 BK206 BK222 BK232 HB hHeld ⊢
        refine pure_ (i := 0) (N := some 56) (v := ?_) (a' := ?_) #[true, false, false, false, false, false, false, false, false] rfl rfl (any_of HT_.out (by kernel_rfl)) (fun _ _ _ h => h) (Or.inl ⟨by rfl, ?_⟩) ?_ ?_
        rotate_left
        ·intro w'
         go_simp
         with_reducible rfl
        rotate_left
        ·simp only [Act.put, List.setIfInBounds_toArray, List.set_cons_zero, List.set_cons_succ, i64_w, i32_w]
         rfl
        refine pure_ (i := 1) (N := some 57) (v := ?_) (a' := ?_) #[true, true, false, false, false, false, false, false, false] rfl rfl (any_of HT_.out (by kernel_rfl)) (fun _ _ _ h => h) (Or.inl ⟨by rfl, ?_⟩) ?_ ?_
        rotate_left
        ·intro w'
         go_simp
         with_reducible rfl
        rotate_left
        ·simp only [Act.put, List.setIfInBounds_toArray, List.set_cons_zero, List.set_cons_succ, i64_w, i32_w]
         rfl
        refine pure_ (i := 2) (N := some 58) (v := ?_) (a' := ?_) #[true, true, true, false, false, false, false, false, false] rfl rfl (any_of HT_.out (by kernel_rfl)) (fun _ _ _ h => h) (Or.inl ⟨by rfl, ?_⟩) ?_ ?_
        rotate_left
        ·intro w'
         go_simp
         with_reducible rfl
        rotate_left
        ·simp only [Act.put, List.setIfInBounds_toArray, List.set_cons_zero, List.set_cons_succ, i64_w, i32_w]
         rfl
        refine pure_ (i := 3) (N := some 59) (v := undef) (a' := ?_) #[true, true, true, true, false, false, false, false, false] rfl rfl (any_of HT_.out (by kernel_rfl)) (fun _ _ _ h => h) (Or.inr ⟨by rfl, rfl⟩) ?_ ?_
        rotate_left
        ·simp only [Act.put, List.setIfInBounds_toArray, List.set_cons_zero, List.set_cons_succ, i64_w, i32_w]
         rfl
        refine pure_ (i := 4) (N := some 60) (v := undef) (a' := ?_) #[true, true, true, true, true, false, false, false, false] rfl rfl (any_of HT_.out (by kernel_rfl)) (fun _ _ _ h => h) (Or.inr ⟨by rfl, rfl⟩) ?_ ?_
        rotate_left
        ·simp only [Act.put, List.setIfInBounds_toArray, List.set_cons_zero, List.set_cons_succ, i64_w, i32_w]
         rfl
        refine pure_ (i := 5) (N := some 61) (v := undef) (a' := ?_) #[true, true, true, true, true, true, false, false, false] rfl rfl (any_of HT_.out (by kernel_rfl)) (fun _ _ _ h => h) (Or.inr ⟨by rfl, rfl⟩) ?_ ?_
        rotate_left
        ·simp only [Act.put, List.setIfInBounds_toArray, List.set_cons_zero, List.set_cons_succ, i64_w, i32_w]
         rfl
        refine pure_ (i := 6) (N := some 62) (v := undef) (a' := ?_) #[true, true, true, true, true, true, true, false, false] rfl rfl (any_of HT_.out (by kernel_rfl)) (fun _ _ _ h => h) (Or.inr ⟨by rfl, rfl⟩) ?_ ?_
        rotate_left
        ·simp only [Act.put, List.setIfInBounds_toArray, List.set_cons_zero, List.set_cons_succ, i64_w, i32_w]
         rfl
        refine pure_ (i := 7) (N := some 63) (v := undef) (a' := ?_) #[true, true, true, true, true, true, true, true, false] rfl rfl (any_of HT_.out (by kernel_rfl)) (fun _ _ _ h => h) (Or.inr ⟨by rfl, rfl⟩) ?_ ?_
        rotate_left
        ·simp only [Act.put, List.setIfInBounds_toArray, List.set_cons_zero, List.set_cons_succ, i64_w, i32_w]
         rfl
        refine pure_ (i := 8) (N := some 64) (v := ?_) (a' := ?_) #[true, true, true, true, true, true, true, true, true] rfl rfl (any_of HT_.out (by kernel_rfl)) (fun _ _ _ h => h) (Or.inl ⟨by rfl, ?_⟩) ?_ ?_
        rotate_left
        ·intro w'
         go_simp
         with_reducible rfl
        rotate_left
        ·simp only [Act.put, List.setIfInBounds_toArray, List.set_cons_zero, List.set_cons_succ, i64_w, i32_w]
         rfl
        refine done_ (done_of HT_.out (by kernel_rfl)) ?_
        try go_wp2
        go_meet
        case rel => exact ⟨_, (false), (by first | rfl | (simp; done) | (simp [*]; done)), H', ⟨by have := HJ4.out; first | omega | exact Nat.le_refl _⟩, ⟨by (with_reducible repeat (first | apply Kd.R_alloc | apply Kd.R_drewN | apply Kd.R_drew)); exact HO204.out⟩, ⟨by (with_reducible repeat (first | apply Kd.R_alloc | apply Kd.R_drewN | apply Kd.R_drew)); exact HO220.out⟩, ⟨by (with_reducible repeat (first | apply Kd.R_alloc | apply Kd.R_drewN | apply Kd.R_drew)); exact HO230.out⟩, ⟨by (with_reducible repeat (first | refine blk_drewN ?_ _ | refine blk_drew ?_ | refine blk_alloc ?_ _)); exact BK193.out⟩, ⟨by (with_reducible repeat (first | refine blk_drewN ?_ _ | refine blk_drew ?_ | refine blk_alloc ?_ _)); exact BK206.out⟩, ⟨by (with_reducible repeat (first | refine blk_drewN ?_ _ | refine blk_drew ?_ | refine blk_alloc ?_ _)); exact BK222.out⟩, ⟨by (with_reducible repeat (first | refine blk_drewN ?_ _ | refine blk_drew ?_ | refine blk_alloc ?_ _)); exact BK232.out⟩, ⟨by repeat (first | (with_reducible first | exact HB.out | apply below_alloc | apply pw_below_drewN | apply below_drew1 | refine below_set ?_ GE193.out | refine below_set ?_ GE206.out | refine below_set ?_ GE222.out | refine below_set ?_ GE232.out) | exact HB.out)⟩⟩
      case rest =>
       clear HC16
       try clear p2
       try clear q2
       try clear c4
       try clear c5
       try clear q23
       try clear c41
       try clear c44
       try clear c45
       try clear c48
       try clear c49
       try clear c50
       try clear hcz42_0
       try clear hcz42_1
       try clear hcz42_2
       try clear hcz42_3
       try clear hcz51_0
       try clear hcz51_1
       try clear hcz51_2
       try clear hfz42_0
       try clear hfz42_1
       try clear hfz42_2
       try clear hfz42_3
       try clear hfz51_0
       try clear hfz51_1
       try clear hfz51_2
       try clear q234
       obtain ⟨kq, x64_15, rfl, HA, HJ15, HO_207002, HO_223002, HO_233002, BK193, BK206, BK222, BK232, HB⟩ := hcut
       cases kq with
       | zero => exact absurd HA.out (by simp [assayerlaw6_GenWraps.j1])
       | succ kj15 =>
        have H := HA.out
        clear HA
        simp only [assayerlaw6_GenWraps.j1] at H
        by_cases c61 : x64_15 = true
        ·subst c61
         have H1 : (some false) = some r := by rw [if_pos rfl] at H; exact H
         clear H
         have H := H1
         clear H1
         obtain rfl := Option.some.inj H
         go_wp2
         go_ret
         exact ⟨by first | rfl | (simp [errW_none, errW_some] <;> rfl) | (simp [*, errW_none, errW_some] <;> rfl), by repeat (first | (with_reducible first | exact HB.out | apply below_alloc | apply pw_below_drewN | apply below_drew1 | refine below_set ?_ GE193.out | refine below_set ?_ GE206.out | refine below_set ?_ GE222.out | refine below_set ?_ GE232.out) | exact HB.out)⟩
        ·replace c61 := Bool.eq_false_iff.mpr c61
         subst c61
         have H1 : (if t231.isNone = true then ((val_Text.f kj15 t226 t227 t228).bind fun t238 => ((val_Text.f kj15 t200 t201 t202).bind fun t239 => (if 1 + t239.size ≤ 9223372036854775807 then (if ((⟨#[40]⟩ : ByteArray) ++ t239).size + 1 ≤ 9223372036854775807 then (assayerlaw6_GenWraps.j2 kj15 t221 none (t238.toList != (((⟨#[40]⟩ : ByteArray) ++ t239) ++ (⟨#[41]⟩ : ByteArray)).toList)) else (none)) else (none)))) else (assayerlaw6_GenWraps.j2 kj15 t221 (some (t231.getD 0)) false)) = some r := by rw [if_neg (show ¬ (false = true) by decide)] at H; exact H
         clear H
         have H := H1
         clear H1
         have HC62 := Aside0.mk H
         clear H
         go_upto_region 12 with (fail)
         go_cut [75] (fun v75 wc => ∃ (kq : Nat) (x75_61 : Bool), v75 = .bool x75_61 ∧ Aside0 (assayerlaw6_GenWraps.j2 kq t221 t231 x75_61 = some r) ∧ Aside0 (kq ≤ kj15) ∧ Aside0 (Kd.R k27 27 wc w.heap.size (fun k_ => some k_ ≠ ((.slice Ao39 t218.length co39) : Value).ownBlock ∧ some k_ ≠ ((.slice Ao52 t228.length co52) : Value).ownBlock ∧ k_ ≠ gb206 ∧ k_ ≠ gb222 ∧ k_ ≠ gb232) (.slice Ao23 t202.length co23) t202) ∧ Aside0 (Kd.R k27 27 wc w.heap.size (fun k_ => some k_ ≠ ((.slice Ao23 t202.length co23) : Value).ownBlock ∧ some k_ ≠ ((.slice Ao52 t228.length co52) : Value).ownBlock ∧ k_ ≠ gb206 ∧ k_ ≠ gb222 ∧ k_ ≠ gb232) (.slice Ao39 t218.length co39) t218) ∧ Aside0 (Kd.R k27 27 wc w.heap.size (fun k_ => some k_ ≠ ((.slice Ao23 t202.length co23) : Value).ownBlock ∧ some k_ ≠ ((.slice Ao39 t218.length co39) : Value).ownBlock ∧ k_ ≠ gb206 ∧ k_ ≠ gb222 ∧ k_ ≠ gb232) (.slice Ao52 t228.length co52) t228) ∧ Aside0 (wc.heap[gb193]? = some (.cells #[.int .i64 a0_0, .int .i64 a0_1, .int .i64 a0_2, (.slice A0_3 l0_3.length c0_3)] 63 (0, 0))) ∧ Aside0 (wc.heap[gb206]? = some (.cells #[.bool t200, .int .i64 t201, (.slice Ao23 t202.length co23)] 27 (0, 0))) ∧ Aside0 (wc.heap[gb222]? = some (.cells #[.bool t216, .int .i64 t217, (.slice Ao39 t218.length co39)] 27 (0, 0))) ∧ Aside0 (wc.heap[gb232]? = some (.cells #[.bool t226, .int .i64 t227, (.slice Ao52 t228.length co52)] 27 (0, 0))) ∧ Aside0 (Below w.heap.size w wc))
         case first =>
          have H := HC62.out
          clear HC62
          rcases t231 with _ | q237
          ·have H1 : ((val_Text.f kj15 t226 t227 t228).bind fun t238 => ((val_Text.f kj15 t200 t201 t202).bind fun t239 => (if 1 + t239.size ≤ 9223372036854775807 then (if ((⟨#[40]⟩ : ByteArray) ++ t239).size + 1 ≤ 9223372036854775807 then (assayerlaw6_GenWraps.j2 kj15 t221 none (t238.toList != (((⟨#[40]⟩ : ByteArray) ++ t239) ++ (⟨#[41]⟩ : ByteArray)).toList)) else (none)) else (none)))) = some r := by rw [if_pos (show (none : Option Int).isNone = true by rfl)] at H; exact H
           clear H
           have H := H1
           clear H1
           try simp only [errW_none, errW_some]
           replace H := Option.bind_eq_some_iff.mp H
           obtain ⟨t238, A630, H⟩ := H
           replace H : ((val_Text.f kj15 t200 t201 t202).bind fun t239 => (if 1 + t239.size ≤ 9223372036854775807 then (if ((⟨#[40]⟩ : ByteArray) ++ t239).size + 1 ≤ 9223372036854775807 then (assayerlaw6_GenWraps.j2 kj15 t221 none (t238.toList != (((⟨#[40]⟩ : ByteArray) ++ t239) ++ (⟨#[41]⟩ : ByteArray)).toList)) else (none)) else (none))) = some r := H
           have A63 := Aside0.mk A630
           clear A630
           replace H := Option.bind_eq_some_iff.mp H
           obtain ⟨t239, A640, H⟩ := H
           replace H : (if 1 + t239.size ≤ 9223372036854775807 then (if ((⟨#[40]⟩ : ByteArray) ++ t239).size + 1 ≤ 9223372036854775807 then (assayerlaw6_GenWraps.j2 kj15 t221 none (t238.toList != (((⟨#[40]⟩ : ByteArray) ++ t239) ++ (⟨#[41]⟩ : ByteArray)).toList)) else (none)) else (none)) = some r := H
           have A64 := Aside0.mk A640
           clear A640
           by_cases c65 : 1 + t239.size ≤ 9223372036854775807
           ·rw [if_pos c65] at H
            have c65b0 := eq_true c65
            have c65b1 : decide (1 + t239.size ≤ 9223372036854775807) = true := decide_eq_true c65
            try have c65b2 : (9223372036854775807 < 1 + t239.size) = False := eq_false (Nat.not_lt.2 c65)
            by_cases c66 : ((⟨#[40]⟩ : ByteArray) ++ t239).size + 1 ≤ 9223372036854775807
            ·rw [if_pos c66] at H
             have c66b0 := eq_true c66
             have c66b1 : decide (((⟨#[40]⟩ : ByteArray) ++ t239).size + 1 ≤ 9223372036854775807) = true := decide_eq_true c66
             try have c66b2 : (9223372036854775807 < ((⟨#[40]⟩ : ByteArray) ++ t239).size + 1) = False := eq_false (Nat.not_lt.2 c66)
             have c66b3 : (9223372036854775807 < 1 + t239.size + 1) = False := eq_false (by have h_ := c66; rw [ByteArray.size_append] at h_; have h2_ : (⟨#[40]⟩ : ByteArray).size = 1 := rfl; omega)
             have H' := Aside0.mk H
             clear H
             try go_wp2
             have n0_ := Aside0.mk (Kd.R_drew HO_207002.out)
             have n1_ := Aside0.mk (Kd.R_drew HO_223002.out)
             have n2_ := Aside0.mk (Kd.R_drew HO_233002.out)
             have n3_ := Aside0.mk (blk_drew BK193.out)
             have n4_ := Aside0.mk (blk_drew BK206.out)
             have n5_ := Aside0.mk (blk_drew BK222.out)
             have n6_ := Aside0.mk (blk_drew BK232.out)
             have n7_ := Aside0.mk (below_drew1 HB.out)
             clear HO_207002
             clear HO_223002
             clear HO_233002
             clear BK193
             clear BK206
             clear BK222
             clear BK232
             clear HB
             have HO_207002 := n0_
             have HO_223002 := n1_
             have HO_233002 := n2_
             have BK193 := n3_
             have BK206 := n4_
             have BK222 := n5_
             have BK232 := n6_
             have HB := n7_
             clear n0_ n1_ n2_ n3_ n4_ n5_ n6_ n7_
             refine start_ (n := 11) (S := fun w' => w'.cell? ⟨gb232, 0, none⟩ = some (.bool t226) ∧ w'.cell? ⟨gb232, 1, none⟩ = some (.int .i64 t227) ∧ w'.cell? ⟨gb232, 2, none⟩ = some (.slice Ao52 t228.length co52) ∧ w'.cell? ⟨gb206, 0, none⟩ = some (.bool t200) ∧ w'.cell? ⟨gb206, 1, none⟩ = some (.int .i64 t201) ∧ w'.cell? ⟨gb206, 2, none⟩ = some (.slice Ao23 t202.length co23)) (ds := []) #[false, false, false, false, false, false, false, false, false, false, false] (by kernel_rfl) rfl rfl ⟨(blk_cell BK232.out 0).trans rfl, (blk_cell BK232.out 1).trans rfl, (blk_cell BK232.out 2).trans rfl, (blk_cell BK206.out 0).trans rfl, (blk_cell BK206.out 1).trans rfl, (blk_cell BK206.out 2).trans rfl⟩ (fun hHeld => ?_); refine with_tabW assayerlaw6_GenWraps.tab12 assayerlaw6_GenWraps.bits12 (fun HT_ HW_ => ?_)
             generalize wc.drew = w67 at HO_207002 HO_223002 HO_233002 BK193 BK206 BK222 BK232 HB hHeld ⊢
             refine pure_ (i := 0) (N := some 65) (v := ?_) (a' := ?_) #[true, false, false, false, false, false, false, false, false, false, false] rfl rfl (any_of HT_.out (by kernel_rfl)) (fun _ _ _ h => h) (Or.inl ⟨by rfl, ?_⟩) ?_ ?_
             rotate_left
             ·intro w'
              go_simp
              with_reducible rfl
             rotate_left
             ·simp only [Act.put, List.setIfInBounds_toArray, List.set_cons_zero, List.set_cons_succ, i64_w, i32_w]
              rfl
             refine pure_ (i := 1) (N := some 66) (v := ?_) (a' := ?_) #[true, true, false, false, false, false, false, false, false, false, false] rfl rfl (any_of HT_.out (by kernel_rfl)) (fun _ _ _ h => h) (Or.inl ⟨by rfl, ?_⟩) ?_ ?_
             rotate_left
             ·intro w'
              go_simp
              with_reducible rfl
             rotate_left
             ·simp only [Act.put, List.setIfInBounds_toArray, List.set_cons_zero, List.set_cons_succ, i64_w, i32_w]
              rfl
             refine pure_ (i := 2) (N := some 67) (v := ?_) (a' := ?_) #[true, true, true, false, false, false, false, false, false, false, false] rfl rfl (any_of HT_.out (by kernel_rfl)) (fun _ _ _ h => h) (Or.inl ⟨by rfl, ?_⟩) ?_ ?_
             rotate_left
             ·intro w'
              go_simp
              with_reducible rfl
             rotate_left
             ·simp only [Act.put, List.setIfInBounds_toArray, List.set_cons_zero, List.set_cons_succ, i64_w, i32_w]
              rfl
             refine take_ (i := 3) (N := some 68) (v := ?_) (a' := ?_) #[true, true, true, true, false, false, false, false, false, false, false] rfl rfl (take_ofW HT_.out HW_.out (by kernel_rfl)) (fun _ _ _ h => h) (Or.inl ⟨by rfl, ?_⟩) hHeld ?_ ?_
             rotate_left
             ·rintro w' ⟨s0, s1, s2, s3, s4, s5⟩
              go_simp
              with_reducible rfl
             rotate_left
             ·simp only [Act.put, List.setIfInBounds_toArray, List.set_cons_zero, List.set_cons_succ, i64_w, i32_w]
              rfl
             refine take_ (i := 5) (N := some 70) (v := ?_) (a' := ?_) #[true, true, true, true, false, true, false, false, false, false, false] rfl rfl (take_ofW HT_.out HW_.out (by kernel_rfl)) (fun _ _ _ h => h) (Or.inl ⟨by rfl, ?_⟩) hHeld ?_ ?_
             rotate_left
             ·rintro w' ⟨s0, s1, s2, s3, s4, s5⟩
              go_simp
              with_reducible rfl
             rotate_left
             ·simp only [Act.put, List.setIfInBounds_toArray, List.set_cons_zero, List.set_cons_succ, i64_w, i32_w]
              rfl
             refine one_ (i := 4) (N := some 69) #[true, true, true, true, true, true, false, false, false, false, false] rfl rfl (one_of HT_.out (by kernel_rfl)) (by decide) (fun K hK => ?_)
             refine goes_ Tryd.func45 (by kernel_rfl) rfl #[.agg #[.bool t226, .int .i64 t227, .slice Ao52 t228.length co52]] (by rfl) rfl rfl (by (try simp only [List.map_toArray, List.map_cons, List.map_nil]); first | done | rfl | (simp only [List.length_drop, List.length_take]; rfl)) ?_
             with_reducible refine (val_Text.calls kj15 t226 t227 _ _ t228 t238 _ ?side1 ?side2 A63.out ?gGPow).mono ?_
             (case gGPow => exact (HGPow.out.below HB.out))
             (case side1 => repeat (first | exact (Kd.R_reads' HO_233002.out).2.2 | (with_reducible refine Kd.C_alloc ?_ _) | (with_reducible refine Kd.C_drewN ?_ _) | (with_reducible refine Kd.C_drew ?_)))
             (case side2 => exact (Kd.R_reads' HO_233002.out).2.1)
             rintro e w68 ⟨rfl, hb⟩
             refine ⟨_, rfl, ?_⟩
             have n0_ := Aside0.mk (Kd.R_below HO_207002.out hb)
             have n1_ := Aside0.mk (Kd.R_below HO_223002.out hb)
             have n2_ := Aside0.mk (Kd.R_below HO_233002.out hb)
             have n3_ := Aside0.mk (blk_below (g := gb193) (o := .cells #[.int .i64 a0_0, .int .i64 a0_1, .int .i64 a0_2, .slice A0_3 l0_3.length c0_3] 63 (0, 0)) BK193.out hb)
             have n4_ := Aside0.mk (blk_below (g := gb206) (o := .cells #[.bool t200, .int .i64 t201, .slice Ao23 t202.length co23] 27 (0, 0)) BK206.out hb)
             have n5_ := Aside0.mk (blk_below (g := gb222) (o := .cells #[.bool t216, .int .i64 t217, .slice Ao39 t218.length co39] 27 (0, 0)) BK222.out hb)
             have n6_ := Aside0.mk (blk_below (g := gb232) (o := .cells #[.bool t226, .int .i64 t227, .slice Ao52 t228.length co52] 27 (0, 0)) BK232.out hb)
             have n7_ := Aside0.mk (below_step HB.out hb)
             clear HO_207002
             clear HO_223002
             clear HO_233002
             clear BK193
             clear BK206
             clear BK222
             clear BK232
             clear HB
             have HO_207002 := n0_
             have HO_223002 := n1_
             have HO_233002 := n2_
             have BK193 := n3_
             have BK206 := n4_
             have BK222 := n5_
             have BK232 := n6_
             have HB := n7_
             clear n0_ n1_ n2_ n3_ n4_ n5_ n6_ n7_
             (try clear hb)
             (try clear hb2)
             (try clear hk)
             (try clear hi)
             refine hK.out _ _ ⟨(blk_cell BK232.out 0).trans rfl, (blk_cell BK232.out 1).trans rfl, (blk_cell BK232.out 2).trans rfl, (blk_cell BK206.out 0).trans rfl, (blk_cell BK206.out 1).trans rfl, (blk_cell BK206.out 2).trans rfl⟩ (fun hHeld => ?_)
             clear hK K
             refine norm_ (a' := ?_) ?_ ?_
             rotate_left
             ·show Act.put _ (some 69) _ = _
              simp only [Act.put, List.setIfInBounds_toArray, List.set_cons_zero, List.set_cons_succ, i64_w, i32_w]
              rfl
             refine one_ (i := 6) (N := some 71) #[true, true, true, true, true, true, true, false, false, false, false] rfl rfl (one_of HT_.out (by kernel_rfl)) (by decide) (fun K hK => ?_)
             refine goes_ Tryd.func45 (by kernel_rfl) rfl #[.agg #[.bool t200, .int .i64 t201, .slice Ao23 t202.length co23]] (by rfl) rfl rfl (by (try simp only [List.map_toArray, List.map_cons, List.map_nil]); first | done | rfl | (simp only [List.length_drop, List.length_take]; rfl)) ?_
             with_reducible refine (val_Text.calls kj15 t200 t201 _ _ t202 t239 _ ?side1 ?side2 A64.out ?gGPow).mono ?_
             (case gGPow => exact (HGPow.out.below HB.out))
             (case side1 => repeat (first | exact (Kd.R_reads' HO_207002.out).2.2 | (with_reducible refine Kd.C_alloc ?_ _) | (with_reducible refine Kd.C_drewN ?_ _) | (with_reducible refine Kd.C_drew ?_)))
             (case side2 => exact (Kd.R_reads' HO_207002.out).2.1)
             rintro e w69 ⟨rfl, hb⟩
             refine ⟨_, rfl, ?_⟩
             have n0_ := Aside0.mk (Kd.R_below HO_207002.out hb)
             have n1_ := Aside0.mk (Kd.R_below HO_223002.out hb)
             have n2_ := Aside0.mk (Kd.R_below HO_233002.out hb)
             have n3_ := Aside0.mk (blk_below (g := gb193) (o := .cells #[.int .i64 a0_0, .int .i64 a0_1, .int .i64 a0_2, .slice A0_3 l0_3.length c0_3] 63 (0, 0)) BK193.out hb)
             have n4_ := Aside0.mk (blk_below (g := gb206) (o := .cells #[.bool t200, .int .i64 t201, .slice Ao23 t202.length co23] 27 (0, 0)) BK206.out hb)
             have n5_ := Aside0.mk (blk_below (g := gb222) (o := .cells #[.bool t216, .int .i64 t217, .slice Ao39 t218.length co39] 27 (0, 0)) BK222.out hb)
             have n6_ := Aside0.mk (blk_below (g := gb232) (o := .cells #[.bool t226, .int .i64 t227, .slice Ao52 t228.length co52] 27 (0, 0)) BK232.out hb)
             have n7_ := Aside0.mk (below_step HB.out hb)
             clear HO_207002
             clear HO_223002
             clear HO_233002
             clear BK193
             clear BK206
             clear BK222
             clear BK232
             clear HB
             have HO_207002 := n0_
             have HO_223002 := n1_
             have HO_233002 := n2_
             have BK193 := n3_
             have BK206 := n4_
             have BK222 := n5_
             have BK232 := n6_
             have HB := n7_
             clear n0_ n1_ n2_ n3_ n4_ n5_ n6_ n7_
             (try clear hb)
             (try clear hb2)
             (try clear hk)
             (try clear hi)
             refine hK.out _ _ ⟨(blk_cell BK232.out 0).trans rfl, (blk_cell BK232.out 1).trans rfl, (blk_cell BK232.out 2).trans rfl, (blk_cell BK206.out 0).trans rfl, (blk_cell BK206.out 1).trans rfl, (blk_cell BK206.out 2).trans rfl⟩ (fun hHeld => ?_)
             clear hK K
             refine norm_ (a' := ?_) ?_ ?_
             rotate_left
             ·show Act.put _ (some 71) _ = _
              simp only [Act.put, List.setIfInBounds_toArray, List.set_cons_zero, List.set_cons_succ, i64_w, i32_w]
              rfl
             refine pure_ (i := 7) (N := some 72) (v := ?_) (a' := ?_) #[true, true, true, true, true, true, true, true, false, false, false] rfl rfl (any_of HT_.out (by kernel_rfl)) (fun _ _ _ h => h) (Or.inl ⟨by rfl, ?_⟩) ?_ ?_
             rotate_left
             ·intro w'
              go_simp
              with_reducible rfl
             rotate_left
             ·simp only [Act.put, List.setIfInBounds_toArray, List.set_cons_zero, List.set_cons_succ, i64_w, i32_w]
              rfl
             refine pure_ (i := 8) (N := some 73) (v := ?_) (a' := ?_) #[true, true, true, true, true, true, true, true, true, false, false] rfl rfl (any_of HT_.out (by kernel_rfl)) (fun _ _ _ h => h) (Or.inl ⟨by rfl, ?_⟩) ?_ ?_
             rotate_left
             ·intro w'
              go_simp
              with_reducible rfl
             rotate_left
             ·simp only [Act.put, List.setIfInBounds_toArray, List.set_cons_zero, List.set_cons_succ, i64_w, i32_w]
              rfl
             refine pure_ (i := 9) (N := some 74) (v := ?_) (a' := ?_) #[true, true, true, true, true, true, true, true, true, true, false] rfl rfl (any_of HT_.out (by kernel_rfl)) (fun _ _ _ h => h) (Or.inl ⟨by rfl, ?_⟩) ?_ ?_
             rotate_left
             ·intro w'
              go_simp
              with_reducible rfl
             rotate_left
             ·simp only [Act.put, List.setIfInBounds_toArray, List.set_cons_zero, List.set_cons_succ, i64_w, i32_w]
              rfl
             refine pure_ (i := 10) (N := some 75) (v := ?_) (a' := ?_) #[true, true, true, true, true, true, true, true, true, true, true] rfl rfl (any_of HT_.out (by kernel_rfl)) (fun _ _ _ h => h) (Or.inl ⟨by rfl, ?_⟩) ?_ ?_
             rotate_left
             ·intro w'
              go_simp
              with_reducible rfl
             rotate_left
             ·simp only [Act.put, List.setIfInBounds_toArray, List.set_cons_zero, List.set_cons_succ, i64_w, i32_w]
              rfl
             refine done_ (done_of HT_.out (by kernel_rfl)) ?_
             try go_wp2
             go_meet
             case rel => exact ⟨_, ((t238.toList != (((⟨#[40]⟩ : ByteArray) ++ t239) ++ (⟨#[41]⟩ : ByteArray)).toList)), (by first | rfl | (simp; done) | (simp [*]; done)), H', ⟨by have := HJ4.out; have := HJ15.out; first | omega | exact Nat.le_refl _⟩, ⟨by (with_reducible repeat (first | apply Kd.R_alloc | apply Kd.R_drewN | apply Kd.R_drew)); exact HO_207002.out⟩, ⟨by (with_reducible repeat (first | apply Kd.R_alloc | apply Kd.R_drewN | apply Kd.R_drew)); exact HO_223002.out⟩, ⟨by (with_reducible repeat (first | apply Kd.R_alloc | apply Kd.R_drewN | apply Kd.R_drew)); exact HO_233002.out⟩, ⟨by (with_reducible repeat (first | refine blk_drewN ?_ _ | refine blk_drew ?_ | refine blk_alloc ?_ _)); exact BK193.out⟩, ⟨by (with_reducible repeat (first | refine blk_drewN ?_ _ | refine blk_drew ?_ | refine blk_alloc ?_ _)); exact BK206.out⟩, ⟨by (with_reducible repeat (first | refine blk_drewN ?_ _ | refine blk_drew ?_ | refine blk_alloc ?_ _)); exact BK222.out⟩, ⟨by (with_reducible repeat (first | refine blk_drewN ?_ _ | refine blk_drew ?_ | refine blk_alloc ?_ _)); exact BK232.out⟩, ⟨by repeat (first | (with_reducible first | exact HB.out | apply below_alloc | apply pw_below_drewN | apply below_drew1 | refine below_set ?_ GE193.out | refine below_set ?_ GE206.out | refine below_set ?_ GE222.out | refine below_set ?_ GE232.out) | exact HB.out)⟩⟩
            ·rw [if_neg c66] at H
             exact absurd H (by simp)
           ·rw [if_neg c65] at H
            exact absurd H (by simp)
          ·have H1 : (assayerlaw6_GenWraps.j2 kj15 t221 (some q237) false) = some r := by rw [if_neg (show ¬ (some q237).isNone = true by simp)] at H; exact H
           clear H
           have H := H1
           clear H1
           try simp only [errW_none, errW_some]
           have H' := Aside0.mk H
           clear H
           try go_wp2
           have n0_ := Aside0.mk (Kd.R_drew HO_207002.out)
           have n1_ := Aside0.mk (Kd.R_drew HO_223002.out)
           have n2_ := Aside0.mk (Kd.R_drew HO_233002.out)
           have n3_ := Aside0.mk (blk_drew BK193.out)
           have n4_ := Aside0.mk (blk_drew BK206.out)
           have n5_ := Aside0.mk (blk_drew BK222.out)
           have n6_ := Aside0.mk (blk_drew BK232.out)
           have n7_ := Aside0.mk (below_drew1 HB.out)
           clear HO_207002
           clear HO_223002
           clear HO_233002
           clear BK193
           clear BK206
           clear BK222
           clear BK232
           clear HB
           have HO_207002 := n0_
           have HO_223002 := n1_
           have HO_233002 := n2_
           have BK193 := n3_
           have BK206 := n4_
           have BK222 := n5_
           have BK232 := n6_
           have HB := n7_
           clear n0_ n1_ n2_ n3_ n4_ n5_ n6_ n7_
           refine start_ (n := 11) (S := fun w' => True) (ds := []) #[false, false, false, false, false, false, false, false, false, false, false] (by kernel_rfl) rfl rfl trivial (fun hHeld => ?_); refine with_tabW assayerlaw6_GenWraps.tab12 assayerlaw6_GenWraps.bits12 (fun HT_ HW_ => ?_)
           generalize wc.drew = w70 at HO_207002 HO_223002 HO_233002 BK193 BK206 BK222 BK232 HB hHeld ⊢
           refine pure_ (i := 0) (N := some 65) (v := ?_) (a' := ?_) #[true, false, false, false, false, false, false, false, false, false, false] rfl rfl (any_of HT_.out (by kernel_rfl)) (fun _ _ _ h => h) (Or.inl ⟨by rfl, ?_⟩) ?_ ?_
           rotate_left
           ·intro w'
            go_simp
            with_reducible rfl
           rotate_left
           ·simp only [Act.put, List.setIfInBounds_toArray, List.set_cons_zero, List.set_cons_succ, i64_w, i32_w]
            rfl
           refine pure_ (i := 1) (N := some 66) (v := ?_) (a' := ?_) #[true, true, false, false, false, false, false, false, false, false, false] rfl rfl (any_of HT_.out (by kernel_rfl)) (fun _ _ _ h => h) (Or.inl ⟨by rfl, ?_⟩) ?_ ?_
           rotate_left
           ·intro w'
            go_simp
            with_reducible rfl
           rotate_left
           ·simp only [Act.put, List.setIfInBounds_toArray, List.set_cons_zero, List.set_cons_succ, i64_w, i32_w]
            rfl
           refine pure_ (i := 2) (N := some 67) (v := ?_) (a' := ?_) #[true, true, true, false, false, false, false, false, false, false, false] rfl rfl (any_of HT_.out (by kernel_rfl)) (fun _ _ _ h => h) (Or.inl ⟨by rfl, ?_⟩) ?_ ?_
           rotate_left
           ·intro w'
            go_simp
            with_reducible rfl
           rotate_left
           ·simp only [Act.put, List.setIfInBounds_toArray, List.set_cons_zero, List.set_cons_succ, i64_w, i32_w]
            rfl
           refine pure_ (i := 3) (N := some 68) (v := undef) (a' := ?_) #[true, true, true, true, false, false, false, false, false, false, false] rfl rfl (any_of HT_.out (by kernel_rfl)) (fun _ _ _ h => h) (Or.inr ⟨by rfl, rfl⟩) ?_ ?_
           rotate_left
           ·simp only [Act.put, List.setIfInBounds_toArray, List.set_cons_zero, List.set_cons_succ, i64_w, i32_w]
            rfl
           refine pure_ (i := 4) (N := some 69) (v := undef) (a' := ?_) #[true, true, true, true, true, false, false, false, false, false, false] rfl rfl (any_of HT_.out (by kernel_rfl)) (fun _ _ _ h => h) (Or.inr ⟨by rfl, rfl⟩) ?_ ?_
           rotate_left
           ·simp only [Act.put, List.setIfInBounds_toArray, List.set_cons_zero, List.set_cons_succ, i64_w, i32_w]
            rfl
           refine pure_ (i := 5) (N := some 70) (v := undef) (a' := ?_) #[true, true, true, true, true, true, false, false, false, false, false] rfl rfl (any_of HT_.out (by kernel_rfl)) (fun _ _ _ h => h) (Or.inr ⟨by rfl, rfl⟩) ?_ ?_
           rotate_left
           ·simp only [Act.put, List.setIfInBounds_toArray, List.set_cons_zero, List.set_cons_succ, i64_w, i32_w]
            rfl
           refine pure_ (i := 6) (N := some 71) (v := undef) (a' := ?_) #[true, true, true, true, true, true, true, false, false, false, false] rfl rfl (any_of HT_.out (by kernel_rfl)) (fun _ _ _ h => h) (Or.inr ⟨by rfl, rfl⟩) ?_ ?_
           rotate_left
           ·simp only [Act.put, List.setIfInBounds_toArray, List.set_cons_zero, List.set_cons_succ, i64_w, i32_w]
            rfl
           refine pure_ (i := 7) (N := some 72) (v := undef) (a' := ?_) #[true, true, true, true, true, true, true, true, false, false, false] rfl rfl (any_of HT_.out (by kernel_rfl)) (fun _ _ _ h => h) (Or.inr ⟨by rfl, rfl⟩) ?_ ?_
           rotate_left
           ·simp only [Act.put, List.setIfInBounds_toArray, List.set_cons_zero, List.set_cons_succ, i64_w, i32_w]
            rfl
           refine pure_ (i := 8) (N := some 73) (v := undef) (a' := ?_) #[true, true, true, true, true, true, true, true, true, false, false] rfl rfl (any_of HT_.out (by kernel_rfl)) (fun _ _ _ h => h) (Or.inr ⟨by rfl, rfl⟩) ?_ ?_
           rotate_left
           ·simp only [Act.put, List.setIfInBounds_toArray, List.set_cons_zero, List.set_cons_succ, i64_w, i32_w]
            rfl
           refine pure_ (i := 9) (N := some 74) (v := undef) (a' := ?_) #[true, true, true, true, true, true, true, true, true, true, false] rfl rfl (any_of HT_.out (by kernel_rfl)) (fun _ _ _ h => h) (Or.inr ⟨by rfl, rfl⟩) ?_ ?_
           rotate_left
           ·simp only [Act.put, List.setIfInBounds_toArray, List.set_cons_zero, List.set_cons_succ, i64_w, i32_w]
            rfl
           refine pure_ (i := 10) (N := some 75) (v := ?_) (a' := ?_) #[true, true, true, true, true, true, true, true, true, true, true] rfl rfl (any_of HT_.out (by kernel_rfl)) (fun _ _ _ h => h) (Or.inl ⟨by rfl, ?_⟩) ?_ ?_
           rotate_left
           ·intro w'
            go_simp
            with_reducible rfl
           rotate_left
           ·simp only [Act.put, List.setIfInBounds_toArray, List.set_cons_zero, List.set_cons_succ, i64_w, i32_w]
            rfl
           refine done_ (done_of HT_.out (by kernel_rfl)) ?_
           try go_wp2
           go_meet
           case rel => exact ⟨_, (false), (by first | rfl | (simp; done) | (simp [*]; done)), H', ⟨by have := HJ4.out; have := HJ15.out; first | omega | exact Nat.le_refl _⟩, ⟨by (with_reducible repeat (first | apply Kd.R_alloc | apply Kd.R_drewN | apply Kd.R_drew)); exact HO_207002.out⟩, ⟨by (with_reducible repeat (first | apply Kd.R_alloc | apply Kd.R_drewN | apply Kd.R_drew)); exact HO_223002.out⟩, ⟨by (with_reducible repeat (first | apply Kd.R_alloc | apply Kd.R_drewN | apply Kd.R_drew)); exact HO_233002.out⟩, ⟨by (with_reducible repeat (first | refine blk_drewN ?_ _ | refine blk_drew ?_ | refine blk_alloc ?_ _)); exact BK193.out⟩, ⟨by (with_reducible repeat (first | refine blk_drewN ?_ _ | refine blk_drew ?_ | refine blk_alloc ?_ _)); exact BK206.out⟩, ⟨by (with_reducible repeat (first | refine blk_drewN ?_ _ | refine blk_drew ?_ | refine blk_alloc ?_ _)); exact BK222.out⟩, ⟨by (with_reducible repeat (first | refine blk_drewN ?_ _ | refine blk_drew ?_ | refine blk_alloc ?_ _)); exact BK232.out⟩, ⟨by repeat (first | (with_reducible first | exact HB.out | apply below_alloc | apply pw_below_drewN | apply below_drew1 | refine below_set ?_ GE193.out | refine below_set ?_ GE206.out | refine below_set ?_ GE222.out | refine below_set ?_ GE232.out) | exact HB.out)⟩⟩
         case rest =>
          clear HC62
          try clear p2
          try clear q2
          try clear c4
          try clear c5
          try clear c6
          try clear q23
          try clear c41
          try clear c44
          try clear c45
          try clear c48
          try clear c49
          try clear c50
          try clear c61
          try clear c65
          try clear c65b0
          try clear c65b1
          try clear c65b2
          try clear c66
          try clear c66b0
          try clear c66b1
          try clear c66b2
          try clear hcz42_0
          try clear hcz42_1
          try clear hcz42_2
          try clear hcz42_3
          try clear hcz51_0
          try clear hcz51_1
          try clear hcz51_2
          try clear hfz42_0
          try clear hfz42_1
          try clear hfz42_2
          try clear hfz42_3
          try clear hfz51_0
          try clear hfz51_1
          try clear hfz51_2
          try clear p2
          try clear q2
          try clear q23
          try clear q234
          try clear q237
          obtain ⟨kq, x75_61, rfl, HA, HJ61, HO_207002, HO_223002, HO_233002, BK193, BK206, BK222, BK232, HB⟩ := hcut
          cases kq with
          | zero => exact absurd HA.out (by simp [assayerlaw6_GenWraps.j2])
          | succ kj61 =>
           have H := HA.out
           clear HA
           simp only [assayerlaw6_GenWraps.j2] at H
           by_cases c71 : x75_61 = true
           ·subst c71
            have H1 : (some false) = some r := by rw [if_pos rfl] at H; exact H
            clear H
            have H := H1
            clear H1
            obtain rfl := Option.some.inj H
            go_wp2
            go_ret
            exact ⟨by first | rfl | (simp [errW_none, errW_some] <;> rfl) | (simp [*, errW_none, errW_some] <;> rfl), by repeat (first | (with_reducible first | exact HB.out | apply below_alloc | apply pw_below_drewN | apply below_drew1 | refine below_set ?_ GE193.out | refine below_set ?_ GE206.out | refine below_set ?_ GE222.out | refine below_set ?_ GE232.out) | exact HB.out)⟩
           ·replace c71 := Bool.eq_false_iff.mpr c71
            subst c71
            have H1 : ((assayersame_Error.f t221 4).bind fun t240 => ((assayersame_Told.f t221 t231).bind fun t241 => (if t241 = true then (if t221.isNone = true then (some true) else (some t240)) else (some false)))) = some r := by rw [if_neg (show ¬ (false = true) by decide)] at H; exact H
            clear H
            have H := H1
            clear H1
            replace H := Option.bind_eq_some_iff.mp H
            obtain ⟨t240, A720, H⟩ := H
            replace H : ((assayersame_Told.f t221 t231).bind fun t241 => (if t241 = true then (if t221.isNone = true then (some true) else (some t240)) else (some false))) = some r := H
            have A72 := Aside0.mk A720
            clear A720
            replace H := Option.bind_eq_some_iff.mp H
            obtain ⟨t241, A730, H⟩ := H
            replace H : (if t241 = true then (if t221.isNone = true then (some true) else (some t240)) else (some false)) = some r := H
            have A73 := Aside0.mk A730
            clear A730
            by_cases c74 : t241 = true
            ·subst c74
             have H1 : (if t221.isNone = true then (some true) else (some t240)) = some r := by rw [if_pos rfl] at H; exact H
             clear H
             have H := H1
             clear H1
             rcases t221 with _ | q242
             ·have H1 : (some true) = some r := by rw [if_pos (show (none : Option Int).isNone = true by rfl)] at H; exact H
              clear H
              have H := H1
              clear H1
              try simp only [errW_none, errW_some]
              obtain rfl := Option.some.inj H
              have CA72 := fun W G0_ => assayersame_Error.calls none 4 t240 W A72.out G0_
              try simp only [errW_none, errW_some] at CA72
              go_wp2_with (first | (go_at_call 38; (with_reducible refine (CA72 _ ?gGErr).mono ?_); (case gGErr => exact (HGErr.out.below HB.out)); rintro e w75 ⟨rfl, hb⟩; have n0_ := Aside0.mk (Kd.R_below HO_207002.out hb); have n1_ := Aside0.mk (Kd.R_below HO_223002.out hb); have n2_ := Aside0.mk (Kd.R_below HO_233002.out hb); have n3_ := Aside0.mk (blk_below (g := gb193) (o := .cells #[.int .i64 a0_0, .int .i64 a0_1, .int .i64 a0_2, .slice A0_3 l0_3.length c0_3] 63 (0, 0)) BK193.out hb); have n4_ := Aside0.mk (blk_below (g := gb206) (o := .cells #[.bool t200, .int .i64 t201, .slice Ao23 t202.length co23] 27 (0, 0)) BK206.out hb); have n5_ := Aside0.mk (blk_below (g := gb222) (o := .cells #[.bool t216, .int .i64 t217, .slice Ao39 t218.length co39] 27 (0, 0)) BK222.out hb); have n6_ := Aside0.mk (blk_below (g := gb232) (o := .cells #[.bool t226, .int .i64 t227, .slice Ao52 t228.length co52] 27 (0, 0)) BK232.out hb); have n7_ := Aside0.mk (below_step HB.out hb); clear HO_207002; clear HO_223002; clear HO_233002; clear BK193; clear BK206; clear BK222; clear BK232; clear HB; have HO_207002 := n0_; have HO_223002 := n1_; have HO_233002 := n2_; have BK193 := n3_; have BK206 := n4_; have BK222 := n5_; have BK232 := n6_; have HB := n7_; clear n0_ n1_ n2_ n3_ n4_ n5_ n6_ n7_; (try clear hb); (try clear hb2); (try clear hk); (try clear hi); have CA73 := fun W G0_ => assayersame_Told.calls none t231 true W A73.out G0_; try simp only [errW_none, errW_some] at CA73) | (go_at_call 32; (with_reducible refine (CA73 _ ?gGErr).mono ?_); (case gGErr => exact (HGErr.out.below HB.out)); rintro e w76 ⟨rfl, hb⟩; have n0_ := Aside0.mk (Kd.R_below HO_207002.out hb); have n1_ := Aside0.mk (Kd.R_below HO_223002.out hb); have n2_ := Aside0.mk (Kd.R_below HO_233002.out hb); have n3_ := Aside0.mk (blk_below (g := gb193) (o := .cells #[.int .i64 a0_0, .int .i64 a0_1, .int .i64 a0_2, .slice A0_3 l0_3.length c0_3] 63 (0, 0)) BK193.out hb); have n4_ := Aside0.mk (blk_below (g := gb206) (o := .cells #[.bool t200, .int .i64 t201, .slice Ao23 t202.length co23] 27 (0, 0)) BK206.out hb); have n5_ := Aside0.mk (blk_below (g := gb222) (o := .cells #[.bool t216, .int .i64 t217, .slice Ao39 t218.length co39] 27 (0, 0)) BK222.out hb); have n6_ := Aside0.mk (blk_below (g := gb232) (o := .cells #[.bool t226, .int .i64 t227, .slice Ao52 t228.length co52] 27 (0, 0)) BK232.out hb); have n7_ := Aside0.mk (below_step HB.out hb); clear HO_207002; clear HO_223002; clear HO_233002; clear BK193; clear BK206; clear BK222; clear BK232; clear HB; have HO_207002 := n0_; have HO_223002 := n1_; have HO_233002 := n2_; have BK193 := n3_; have BK206 := n4_; have BK222 := n5_; have BK232 := n6_; have HB := n7_; clear n0_ n1_ n2_ n3_ n4_ n5_ n6_ n7_; (try clear hb); (try clear hb2); (try clear hk); (try clear hi)))
              go_ret
              exact ⟨by first | rfl | (simp [errW_none, errW_some] <;> rfl) | (simp [*, errW_none, errW_some] <;> rfl), by repeat (first | (with_reducible first | exact HB.out | apply below_alloc | apply pw_below_drewN | apply below_drew1 | refine below_set ?_ GE193.out | refine below_set ?_ GE206.out | refine below_set ?_ GE222.out | refine below_set ?_ GE232.out) | exact HB.out)⟩
             ·have H1 : (some t240) = some r := by rw [if_neg (show ¬ (some q242).isNone = true by simp)] at H; exact H
              clear H
              have H := H1
              clear H1
              try simp only [errW_none, errW_some]
              obtain rfl := Option.some.inj H
              have CA72 := fun W G0_ => assayersame_Error.calls (some q242) 4 t240 W A72.out G0_
              try simp only [errW_none, errW_some] at CA72
              go_wp2_with (first | (go_at_call 38; (with_reducible refine (CA72 _ ?gGErr).mono ?_); (case gGErr => exact (HGErr.out.below HB.out)); rintro e w77 ⟨rfl, hb⟩; have n0_ := Aside0.mk (Kd.R_below HO_207002.out hb); have n1_ := Aside0.mk (Kd.R_below HO_223002.out hb); have n2_ := Aside0.mk (Kd.R_below HO_233002.out hb); have n3_ := Aside0.mk (blk_below (g := gb193) (o := .cells #[.int .i64 a0_0, .int .i64 a0_1, .int .i64 a0_2, .slice A0_3 l0_3.length c0_3] 63 (0, 0)) BK193.out hb); have n4_ := Aside0.mk (blk_below (g := gb206) (o := .cells #[.bool t200, .int .i64 t201, .slice Ao23 t202.length co23] 27 (0, 0)) BK206.out hb); have n5_ := Aside0.mk (blk_below (g := gb222) (o := .cells #[.bool t216, .int .i64 t217, .slice Ao39 t218.length co39] 27 (0, 0)) BK222.out hb); have n6_ := Aside0.mk (blk_below (g := gb232) (o := .cells #[.bool t226, .int .i64 t227, .slice Ao52 t228.length co52] 27 (0, 0)) BK232.out hb); have n7_ := Aside0.mk (below_step HB.out hb); clear HO_207002; clear HO_223002; clear HO_233002; clear BK193; clear BK206; clear BK222; clear BK232; clear HB; have HO_207002 := n0_; have HO_223002 := n1_; have HO_233002 := n2_; have BK193 := n3_; have BK206 := n4_; have BK222 := n5_; have BK232 := n6_; have HB := n7_; clear n0_ n1_ n2_ n3_ n4_ n5_ n6_ n7_; (try clear hb); (try clear hb2); (try clear hk); (try clear hi); have CA73 := fun W G0_ => assayersame_Told.calls (some q242) t231 true W A73.out G0_; try simp only [errW_none, errW_some] at CA73) | (go_at_call 32; (with_reducible refine (CA73 _ ?gGErr).mono ?_); (case gGErr => exact (HGErr.out.below HB.out)); rintro e w78 ⟨rfl, hb⟩; have n0_ := Aside0.mk (Kd.R_below HO_207002.out hb); have n1_ := Aside0.mk (Kd.R_below HO_223002.out hb); have n2_ := Aside0.mk (Kd.R_below HO_233002.out hb); have n3_ := Aside0.mk (blk_below (g := gb193) (o := .cells #[.int .i64 a0_0, .int .i64 a0_1, .int .i64 a0_2, .slice A0_3 l0_3.length c0_3] 63 (0, 0)) BK193.out hb); have n4_ := Aside0.mk (blk_below (g := gb206) (o := .cells #[.bool t200, .int .i64 t201, .slice Ao23 t202.length co23] 27 (0, 0)) BK206.out hb); have n5_ := Aside0.mk (blk_below (g := gb222) (o := .cells #[.bool t216, .int .i64 t217, .slice Ao39 t218.length co39] 27 (0, 0)) BK222.out hb); have n6_ := Aside0.mk (blk_below (g := gb232) (o := .cells #[.bool t226, .int .i64 t227, .slice Ao52 t228.length co52] 27 (0, 0)) BK232.out hb); have n7_ := Aside0.mk (below_step HB.out hb); clear HO_207002; clear HO_223002; clear HO_233002; clear BK193; clear BK206; clear BK222; clear BK232; clear HB; have HO_207002 := n0_; have HO_223002 := n1_; have HO_233002 := n2_; have BK193 := n3_; have BK206 := n4_; have BK222 := n5_; have BK232 := n6_; have HB := n7_; clear n0_ n1_ n2_ n3_ n4_ n5_ n6_ n7_; (try clear hb); (try clear hb2); (try clear hk); (try clear hi)))
              go_ret
              exact ⟨by first | rfl | (simp [errW_none, errW_some] <;> rfl) | (simp [*, errW_none, errW_some] <;> rfl), by repeat (first | (with_reducible first | exact HB.out | apply below_alloc | apply pw_below_drewN | apply below_drew1 | refine below_set ?_ GE193.out | refine below_set ?_ GE206.out | refine below_set ?_ GE222.out | refine below_set ?_ GE232.out) | exact HB.out)⟩
            ·replace c74 := Bool.eq_false_iff.mpr c74
             subst c74
             have H1 : (some false) = some r := by rw [if_neg (show ¬ (false = true) by decide)] at H; exact H
             clear H
             have H := H1
             clear H1
             obtain rfl := Option.some.inj H
             have CA72 := fun W G0_ => assayersame_Error.calls t221 4 t240 W A72.out G0_
             try simp only [errW_none, errW_some] at CA72
             go_wp2_with (first | (go_at_call 38; (with_reducible refine (CA72 _ ?gGErr).mono ?_); (case gGErr => exact (HGErr.out.below HB.out)); rintro e w79 ⟨rfl, hb⟩; have n0_ := Aside0.mk (Kd.R_below HO_207002.out hb); have n1_ := Aside0.mk (Kd.R_below HO_223002.out hb); have n2_ := Aside0.mk (Kd.R_below HO_233002.out hb); have n3_ := Aside0.mk (blk_below (g := gb193) (o := .cells #[.int .i64 a0_0, .int .i64 a0_1, .int .i64 a0_2, .slice A0_3 l0_3.length c0_3] 63 (0, 0)) BK193.out hb); have n4_ := Aside0.mk (blk_below (g := gb206) (o := .cells #[.bool t200, .int .i64 t201, .slice Ao23 t202.length co23] 27 (0, 0)) BK206.out hb); have n5_ := Aside0.mk (blk_below (g := gb222) (o := .cells #[.bool t216, .int .i64 t217, .slice Ao39 t218.length co39] 27 (0, 0)) BK222.out hb); have n6_ := Aside0.mk (blk_below (g := gb232) (o := .cells #[.bool t226, .int .i64 t227, .slice Ao52 t228.length co52] 27 (0, 0)) BK232.out hb); have n7_ := Aside0.mk (below_step HB.out hb); clear HO_207002; clear HO_223002; clear HO_233002; clear BK193; clear BK206; clear BK222; clear BK232; clear HB; have HO_207002 := n0_; have HO_223002 := n1_; have HO_233002 := n2_; have BK193 := n3_; have BK206 := n4_; have BK222 := n5_; have BK232 := n6_; have HB := n7_; clear n0_ n1_ n2_ n3_ n4_ n5_ n6_ n7_; (try clear hb); (try clear hb2); (try clear hk); (try clear hi); have CA73 := fun W G0_ => assayersame_Told.calls t221 t231 false W A73.out G0_; try simp only [errW_none, errW_some] at CA73) | (go_at_call 32; (with_reducible refine (CA73 _ ?gGErr).mono ?_); (case gGErr => exact (HGErr.out.below HB.out)); rintro e w80 ⟨rfl, hb⟩; have n0_ := Aside0.mk (Kd.R_below HO_207002.out hb); have n1_ := Aside0.mk (Kd.R_below HO_223002.out hb); have n2_ := Aside0.mk (Kd.R_below HO_233002.out hb); have n3_ := Aside0.mk (blk_below (g := gb193) (o := .cells #[.int .i64 a0_0, .int .i64 a0_1, .int .i64 a0_2, .slice A0_3 l0_3.length c0_3] 63 (0, 0)) BK193.out hb); have n4_ := Aside0.mk (blk_below (g := gb206) (o := .cells #[.bool t200, .int .i64 t201, .slice Ao23 t202.length co23] 27 (0, 0)) BK206.out hb); have n5_ := Aside0.mk (blk_below (g := gb222) (o := .cells #[.bool t216, .int .i64 t217, .slice Ao39 t218.length co39] 27 (0, 0)) BK222.out hb); have n6_ := Aside0.mk (blk_below (g := gb232) (o := .cells #[.bool t226, .int .i64 t227, .slice Ao52 t228.length co52] 27 (0, 0)) BK232.out hb); have n7_ := Aside0.mk (below_step HB.out hb); clear HO_207002; clear HO_223002; clear HO_233002; clear BK193; clear BK206; clear BK222; clear BK232; clear HB; have HO_207002 := n0_; have HO_223002 := n1_; have HO_233002 := n2_; have BK193 := n3_; have BK206 := n4_; have BK222 := n5_; have BK232 := n6_; have HB := n7_; clear n0_ n1_ n2_ n3_ n4_ n5_ n6_ n7_; (try clear hb); (try clear hb2); (try clear hk); (try clear hi)))
             go_ret
             exact ⟨by first | rfl | (simp [errW_none, errW_some] <;> rfl) | (simp [*, errW_none, errW_some] <;> rfl), by repeat (first | (with_reducible first | exact HB.out | apply below_alloc | apply pw_below_drewN | apply below_drew1 | refine below_set ?_ GE193.out | refine below_set ?_ GE206.out | refine below_set ?_ GE222.out | refine below_set ?_ GE232.out) | exact HB.out)⟩
     ·exact absurd H (by simp)
    ·rw [if_neg c13] at H
     exact absurd H (by simp)

end Go.Proofs.YtgdomnlkafcddaaDoor.Q
