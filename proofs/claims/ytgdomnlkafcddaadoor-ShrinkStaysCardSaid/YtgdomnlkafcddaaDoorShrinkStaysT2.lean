/- Part 2 of the proof for ShrinkStays: contracts of functions, step by step over the code; gen.Mend (function 43): what it tells, by its closure's and chooser.made's contracts. Replay's deferred closure (function 87): where the frame below panics with an error number, and where it returns. Replay's chooser (function 88): the contract of one call, where it tells and where it panics. gen.Replay (function 44): what it tells where its chooser does not panic. The plain law of making: of a right generator something is always mended, and it is replayed as it was mended. The plain law of replaying: of a right generator whatever numbers are replayed or told to be wrong.. -/
import Derived.Test.YtgdomnlkafcddaaDoorShrinkStaysT1
import Derived.Recover
namespace Go.Proofs.YtgdomnlkafcddaaDoor.Q
open Go.RowKit Go.Proofs.YtgdomnlkafcddaaDoorW.PrintWords Go.Proofs.YtgdomnlkafcddaaDoorW.PrintLast Go.Proofs.YtgdomnlkafcddaaDoorW.PrintMore
attribute [local go_sem] max2_int min2_int max_two min_two max_three min_three max_four min_four   -- for this text's walks alone
set_option linter.unusedVariables false
set_option linter.unusedSimpArgs false

/-! ### chooser.made: function 86, over any chooser with a state -/
mutual
def gen_made.l0 {σ : Type} (stp : σ → Int → Except Int (Int × σ)) : Nat → σ → List (S63) → Int → Int → Bool → Int → List (S27) → Option (Except Int ((Bool × Int × List (S27)) × σ))
 | 0, _, _, _, _, _, _, _ => none
 | k + 1, st, x32, x33, x34, b0, b1, b2 => if x34 < x33 then (if 0 ≤ x34 then (if x34 < (x32.length : Int) then (obind (gen_made.f stp k st ((rd_T63 x32 x34).f0) ((rd_T63 x32 x34).f1) ((rd_T63 x32 x34).f2) ((rd_T63 x32 x34).f3)) fun bt => (if b2.length < 3518437208883 then (gen_made.l0 stp k bt.2 x32 x33 (wrap64 (x34 + 1)) b0 b1 (b2 ++ [(⟨bt.1.1, bt.1.2.1, bt.1.2.2⟩ : S27)])) else (none))) else (none)) else (none)) else (some (.ok ((b0, b1, b2), st)))
def gen_made.l1 {σ : Type} (stp : σ → Int → Except Int (Int × σ)) : Nat → σ → Int → Int → Int → Int → Int → List (S63) → Bool → Int → List (S27) → Option (Except Int ((Bool × Int × List (S27)) × σ))
 | 0, _, _, _, _, _, _, _, _, _, _ => none
 | k + 1, st, x52, x53, g0, g1, g2, g3, b0, b1, b2 => if x53 < x52 then (if 0 < (g3.length : Int) then (obind (gen_made.f stp k st ((rd_T63 g3 0).f0) ((rd_T63 g3 0).f1) ((rd_T63 g3 0).f2) ((rd_T63 g3 0).f3)) fun bt => (if b2.length < 3518437208883 then (gen_made.l1 stp k bt.2 x52 (wrap64 (x53 + 1)) g0 g1 g2 g3 b0 b1 (b2 ++ [(⟨bt.1.1, bt.1.2.1, bt.1.2.2⟩ : S27)])) else (none))) else (none)) else (some (.ok ((b0, b1, b2), st)))
def gen_made.f {σ : Type} (stp : σ → Int → Except Int (Int × σ)) : Nat → σ → Int → Int → Int → List (S63) → Option (Except Int ((Bool × Int × List (S27)) × σ))
 | 0, _, _, _, _, _ => none
 | k + 1, st, a1_0, a1_1, a1_2, l1_3 => if a1_0 = 1 then (some (.ok ((false, a1_1, ([] : List (S27))), st))) else (if a1_0 = 2 then (ebind (stp st (wrap64 (a1_2 - a1_1))) fun t => (some (.ok ((false, wrap64 (a1_1 + t.1), ([] : List (S27))), t.2)))) else (if a1_0 = 3 then (gen_made.l0 stp k st l1_3 (l1_3.length : Int) 0 true 0 ([] : List (S27))) else (if a1_0 = 4 then (ebind (stp st a1_1) fun t => (gen_made.l1 stp k t.2 t.1 0 a1_0 a1_1 a1_2 l1_3 true 0 ([] : List (S27)))) else (if a1_0 = 5 then (ebind (stp st (wrap64 ((l1_3.length : Int) - 1))) fun t => (if 0 ≤ t.1 then (if t.1 < (l1_3.length : Int) then (obind (gen_made.f stp k t.2 ((rd_T63 l1_3 t.1).f0) ((rd_T63 l1_3 t.1).f1) ((rd_T63 l1_3 t.1).f2) ((rd_T63 l1_3 t.1).f3)) fun bt => (some (.ok ((bt.1.1, bt.1.2.1, bt.1.2.2), bt.2)))) else (none)) else (none))) else (some (.ok ((true, 0, ([] : List (S27))), st)))))))
end
def gen_made.T6 : Bool × List (List Nat × List Nat) := (true, [([], []), ([0], [0]), ([], []), ([], []), ([3], [3]), ([], []), ([5], [5]), ([4, 6], [4, 6]), ([2, 7], [2, 7]), ([1, 8], [1, 8]), ([9], [9]), ([10, 8, 0, 1, 2, 3, 4, 5, 6, 7, 8, 9, 10], [10])])
def gen_made.B6 : List Nat := [0, 1, 0, 0, 8, 0, 32, 120, 252, 511, 1023, 2047]
theorem gen_made.tab6 : rtab .any (opsOf Tryd.f86 6) = gen_made.T6 := by kernel_rfl
theorem gen_made.bits6 : waitsOk gen_made.T6.2 gen_made.B6 = true := by kernel_rfl
def gen_made.T11 : Bool × List (List Nat × List Nat) := (true, [([], []), ([0], [0]), ([], []), ([], []), ([2, 3], [2, 3]), ([4], [4]), ([1, 5, 4], [1, 5]), ([0, 1, 2, 3, 4, 5, 6], []), ([7, 6, 6, 0, 1, 2, 3, 4, 5, 6], [6, 7])])
def gen_made.B11 : List Nat := [0, 1, 0, 0, 12, 28, 63, 127, 255]
theorem gen_made.tab11 : rtab .any (opsOf Tryd.f86 11) = gen_made.T11 := by kernel_rfl
theorem gen_made.bits11 : waitsOk gen_made.T11.2 gen_made.B11 = true := by kernel_rfl
def gen_made.T16 : Bool × List (List Nat × List Nat) := (true, [([], []), ([0], [0]), ([], []), ([], []), ([3], [3]), ([4], [4]), ([5], [5]), ([2, 6], [2, 6]), ([7], [7]), ([1, 8, 7], [1, 8]), ([0, 1, 2, 3, 4, 5, 6, 7, 8, 9], []), ([10, 9, 9, 0, 1, 2, 3, 4, 5, 6, 7, 8, 9], [9, 10])])
def gen_made.B16 : List Nat := [0, 1, 0, 0, 8, 24, 56, 124, 252, 511, 1023, 2047]
theorem gen_made.tab16 : rtab .any (opsOf Tryd.f86 16) = gen_made.T16 := by kernel_rfl
theorem gen_made.bits16 : waitsOk gen_made.T16.2 gen_made.B16 = true := by kernel_rfl
def gen_made.T19 : Bool × List (List Nat × List Nat) := (true, [([], []), ([], []), ([1], [1]), ([], []), ([], []), ([4], [4]), ([5], [5]), ([6], [6]), ([3, 7], [3, 7]), ([2, 8], [2, 8]), ([9], [9]), ([0, 10, 8], [0, 10]), ([11, 11, 0, 1, 2, 3, 4, 5, 6, 7, 8, 9, 10, 11], [11])])
def gen_made.B19 : List Nat := [0, 0, 2, 0, 0, 16, 48, 112, 248, 510, 1022, 2047, 4095]
theorem gen_made.tab19 : rtab .any (opsOf Tryd.f86 19) = gen_made.T19 := by kernel_rfl
theorem gen_made.bits19 : waitsOk gen_made.T19.2 gen_made.B19 = true := by kernel_rfl
set_option maxHeartbeats 8000000 in
set_option maxRecDepth 100000 in
theorem gen_made.calls {σ : Type} (stp : σ → Int → Except Int (Int × σ)) (S : σ → World → Prop) (F : Nat) (fn : Func) (caps : Array Value) (w0 : World) (hF : Tryd.prog.funcs[F]? = some fn) (hn : (fn.name == "runtime.NumGoroutine") = false) (hbd : fn.body.isSome = true)
  (hch : ∀ st m x st' w, Fr S w0 w st w → stp st m = .ok (x, st') → Calls Tryd.prog F (#[.int .i64 m] ++ caps) w fun e w' => e = .returned (.int .i64 x) ∧ Fr S w0 w st' w') (k : Nat) :
  ∀ (st : σ) (a1_0 : Int) (a1_1 : Int) (a1_2 : Int) (A1_3 : Option Addr) (c1_3 : Nat) (l1_3 : List (S63)) (r1 : Bool) (r2 : Int) (r3 : List (S27)) (st'_ : σ) (w : World) (h0 : Fr S w0 w st w) (hr1_3 : Kd.C k63 w0 A1_3 l1_3.length l1_3) (hc1_3 : l1_3.length ≤ c1_3) (h : gen_made.f stp k st a1_0 a1_1 a1_2 l1_3 = some (.ok ((r1, r2, r3), st'_))),
  Calls Tryd.prog 86 #[.func (.func F) #[] caps, .agg #[.int .i64 a1_0, .int .i64 a1_1, .int .i64 a1_2, .slice A1_3 l1_3.length c1_3]] w fun e w' => ∃ v2_ : Value, e = .returned (.agg #[.bool r1, .int .i64 r2, v2_]) ∧ Kd.R k27 27 w' w.heap.size (fun _ => True) v2_ r3 ∧ Fr S w0 w st'_ w' := by
 induction k using Nat.strongRecOn with
 | _ k ih =>
 intro st a1_0 a1_1 a1_2 A1_3 c1_3 l1_3 r1 r2 r3 st'_ w h0 hr1_3 hc1_3 h
 cases k with
 | zero => exact absurd h (by simp [gen_made.f])
 | succ k =>
 simp only [gen_made.f] at h
 have hu63 := Tryd.underlying63
 have hu27 := Tryd.underlying27
 have HR1_3 := Aside0.mk hr1_3
 have HC1_3 := Aside0.mk hc1_3
 clear hr1_3 hc1_3
 have hE27 : ∀ q, q ∈ 27 :: k27.E → inT q = false := by decide
 have HW0 := h0.b0
 have HB := Aside0.mk h0
 clear h0
 have H := h
 clear h
 by_cases c3 : a1_0 = 1
 ·rw [if_pos c3] at H
  have c3b0 : (a1_0 == 1) = true := beq_iff_eq.mpr c3
  have c3b1 : (a1_0 != 1) = false := bne_eq_false_iff_eq.mpr c3
  clear c3
  simp only [Option.some.injEq, Except.ok.injEq, Prod.mk.injEq] at H
  obtain ⟨⟨rfl, rfl, rfl⟩, rfl⟩ := H
  go_enter Tryd.func86, Tryd.ntmps86
  go_wp2_with (first | ((with_reducible refine gate_dst (N := 3) rfl ?_); refine box_event ?hg (N := 3) ?hd (cs := #[.int .i64 a1_0, .int .i64 a1_1, .int .i64 a1_2, .slice A1_3 l1_3.length c1_3]) (t := 63) ?hr ?_; (case hd => rfl); (case hg => rfl); (case hr => first | (go_simp; done) | (go_simp; rfl)); intro gb137 hg w4 hbox hb; have n0_ := Aside0.mk (Fr.step (w := w) (st := st) (by repeat (first | (with_reducible first | exact HB.out | apply Fr.alloc | apply Fr.drewN | apply Fr.drew) | exact HB.out)) hb); have n1_ := Aside0.mk (hbox); have n2_ := Aside0.mk ((by rw [hg]; exact (Fr.size (w := w) (st := st) (by repeat (first | (with_reducible first | exact HB.out | apply Fr.alloc | apply Fr.drewN | apply Fr.drew) | exact HB.out))) : w.heap.size ≤ gb137)); have n3_ := Aside0.mk ((by rw [hg]; exact (Fr.size (w := w) (st := st) (by repeat (first | (with_reducible first | exact HB.out | apply Fr.alloc | apply Fr.drewN | apply Fr.drew) | exact HB.out))) : w.heap.size ≤ gb137)); clear HB; have HB := n0_; have BK137 := n1_; have GW137 := n2_; have GE137 := n3_; clear n0_ n1_ n2_ n3_; clear hb hbox hg) | ((with_reducible refine gate_dst (N := 4) rfl ?_); refine box_event ?hg (N := 4) ?hd (cs := #[.bool false, .int .i64 0, .slice none 0 0]) (t := 27) ?hr ?_; (case hd => rfl); (case hg => rfl); (case hr => first | (go_simp; done) | (go_simp; rfl)); intro gb138 hg w5 hbox hb; have n0_ := Aside0.mk (blk_below (g := gb137) (o := .cells #[.int .i64 a1_0, .int .i64 a1_1, .int .i64 a1_2, .slice A1_3 l1_3.length c1_3] 63 (0, 0)) (by (with_reducible repeat (first | refine blk_drewN ?_ _ | refine blk_drew ?_ | refine blk_alloc ?_ _)); exact BK137.out) hb); have n1_ := Aside0.mk (Fr.step (w := w) (st := st) (by repeat (first | (with_reducible first | exact HB.out | apply Fr.alloc | apply Fr.drewN | apply Fr.drew | refine Fr.set ?_ GE137.out (t := 63) (by repeat (first | exact Ty.of BK137.out | apply Ty.set | apply Ty.alloc | apply Ty.drewN | apply Ty.drew)) rfl) | exact HB.out)) hb); have n2_ := Aside0.mk (hbox); have n3_ := Aside0.mk ((by rw [hg]; exact (Fr.size (w := w) (st := st) (by repeat (first | (with_reducible first | exact HB.out | apply Fr.alloc | apply Fr.drewN | apply Fr.drew | refine Fr.set ?_ GE137.out (t := 63) (by repeat (first | exact Ty.of BK137.out | apply Ty.set | apply Ty.alloc | apply Ty.drewN | apply Ty.drew)) rfl) | exact HB.out))) : w.heap.size ≤ gb138)); have n4_ := Aside0.mk ((by rw [hg]; exact (Fr.size (w := w) (st := st) (by repeat (first | (with_reducible first | exact HB.out | apply Fr.alloc | apply Fr.drewN | apply Fr.drew | refine Fr.set ?_ GE137.out (t := 63) (by repeat (first | exact Ty.of BK137.out | apply Ty.set | apply Ty.alloc | apply Ty.drewN | apply Ty.drew)) rfl) | exact HB.out))) : w.heap.size ≤ gb138)); have n5_ := Aside0.mk ((by rw [hg]; exact Nat.ne_of_lt (blk_lt (g := gb137) (o := .cells #[.int .i64 a1_0, .int .i64 a1_1, .int .i64 a1_2, .slice A1_3 l1_3.length c1_3] 63 (0, 0)) (by (with_reducible repeat (first | refine blk_drewN ?_ _ | refine blk_drew ?_ | refine blk_alloc ?_ _)); exact BK137.out)) : gb137 ≠ gb138)); have n6_ := Aside0.mk ((by rw [hg]; exact Nat.ne_of_gt (blk_lt (g := gb137) (o := .cells #[.int .i64 a1_0, .int .i64 a1_1, .int .i64 a1_2, .slice A1_3 l1_3.length c1_3] 63 (0, 0)) (by (with_reducible repeat (first | refine blk_drewN ?_ _ | refine blk_drew ?_ | refine blk_alloc ?_ _)); exact BK137.out)) : gb138 ≠ gb137)); clear BK137; clear HB; have BK137 := n0_; have HB := n1_; have BK138 := n2_; have GW138 := n3_; have GE138 := n4_; have NB137_138 := n5_; have NB138_137 := n6_; clear n0_ n1_ n2_ n3_ n4_ n5_ n6_; clear hb hbox hg) | ((with_reducible refine gate_dst (N := 5) rfl ?_); refine box_event ?hg (N := 5) ?hd (cs := #[.bool false, .int .i64 0, .slice none 0 0]) (t := 27) ?hr ?_; (case hd => rfl); (case hg => rfl); (case hr => first | (go_simp; done) | (go_simp; rfl)); intro gb139 hg w6 hbox hb; have n0_ := Aside0.mk (blk_below (g := gb137) (o := .cells #[.int .i64 a1_0, .int .i64 a1_1, .int .i64 a1_2, .slice A1_3 l1_3.length c1_3] 63 (0, 0)) (by (with_reducible repeat (first | refine blk_drewN ?_ _ | refine blk_drew ?_ | refine blk_alloc ?_ _)); exact BK137.out) hb); have n1_ := Aside0.mk (blk_below (g := gb138) (o := .cells #[.bool false, .int .i64 0, .slice none 0 0] 27 (0, 0)) (by (with_reducible repeat (first | refine blk_drewN ?_ _ | refine blk_drew ?_ | refine blk_alloc ?_ _)); exact BK138.out) hb); have n2_ := Aside0.mk (Fr.step (w := w) (st := st) (by repeat (first | (with_reducible first | exact HB.out | apply Fr.alloc | apply Fr.drewN | apply Fr.drew | refine Fr.set ?_ GE137.out (t := 63) (by repeat (first | exact Ty.of BK137.out | apply Ty.set | apply Ty.alloc | apply Ty.drewN | apply Ty.drew)) rfl | refine Fr.set ?_ GE138.out (t := 27) (by repeat (first | exact Ty.of BK138.out | apply Ty.set | apply Ty.alloc | apply Ty.drewN | apply Ty.drew)) rfl) | exact HB.out)) hb); have n3_ := Aside0.mk (hbox); have n4_ := Aside0.mk ((by rw [hg]; exact (Fr.size (w := w) (st := st) (by repeat (first | (with_reducible first | exact HB.out | apply Fr.alloc | apply Fr.drewN | apply Fr.drew | refine Fr.set ?_ GE137.out (t := 63) (by repeat (first | exact Ty.of BK137.out | apply Ty.set | apply Ty.alloc | apply Ty.drewN | apply Ty.drew)) rfl | refine Fr.set ?_ GE138.out (t := 27) (by repeat (first | exact Ty.of BK138.out | apply Ty.set | apply Ty.alloc | apply Ty.drewN | apply Ty.drew)) rfl) | exact HB.out))) : w.heap.size ≤ gb139)); have n5_ := Aside0.mk ((by rw [hg]; exact (Fr.size (w := w) (st := st) (by repeat (first | (with_reducible first | exact HB.out | apply Fr.alloc | apply Fr.drewN | apply Fr.drew | refine Fr.set ?_ GE137.out (t := 63) (by repeat (first | exact Ty.of BK137.out | apply Ty.set | apply Ty.alloc | apply Ty.drewN | apply Ty.drew)) rfl | refine Fr.set ?_ GE138.out (t := 27) (by repeat (first | exact Ty.of BK138.out | apply Ty.set | apply Ty.alloc | apply Ty.drewN | apply Ty.drew)) rfl) | exact HB.out))) : w.heap.size ≤ gb139)); have n6_ := Aside0.mk ((by rw [hg]; exact Nat.ne_of_lt (blk_lt (g := gb137) (o := .cells #[.int .i64 a1_0, .int .i64 a1_1, .int .i64 a1_2, .slice A1_3 l1_3.length c1_3] 63 (0, 0)) (by (with_reducible repeat (first | refine blk_drewN ?_ _ | refine blk_drew ?_ | refine blk_alloc ?_ _)); exact BK137.out)) : gb137 ≠ gb139)); have n7_ := Aside0.mk ((by rw [hg]; exact Nat.ne_of_gt (blk_lt (g := gb137) (o := .cells #[.int .i64 a1_0, .int .i64 a1_1, .int .i64 a1_2, .slice A1_3 l1_3.length c1_3] 63 (0, 0)) (by (with_reducible repeat (first | refine blk_drewN ?_ _ | refine blk_drew ?_ | refine blk_alloc ?_ _)); exact BK137.out)) : gb139 ≠ gb137)); have n8_ := Aside0.mk ((by rw [hg]; exact Nat.ne_of_lt (blk_lt (g := gb138) (o := .cells #[.bool false, .int .i64 0, .slice none 0 0] 27 (0, 0)) (by (with_reducible repeat (first | refine blk_drewN ?_ _ | refine blk_drew ?_ | refine blk_alloc ?_ _)); exact BK138.out)) : gb138 ≠ gb139)); have n9_ := Aside0.mk ((by rw [hg]; exact Nat.ne_of_gt (blk_lt (g := gb138) (o := .cells #[.bool false, .int .i64 0, .slice none 0 0] 27 (0, 0)) (by (with_reducible repeat (first | refine blk_drewN ?_ _ | refine blk_drew ?_ | refine blk_alloc ?_ _)); exact BK138.out)) : gb139 ≠ gb138)); clear BK137; clear BK138; clear HB; have BK137 := n0_; have BK138 := n1_; have HB := n2_; have BK139 := n3_; have GW139 := n4_; have GE139 := n5_; have NB137_139 := n6_; have NB139_137 := n7_; have NB138_139 := n8_; have NB139_138 := n9_; clear n0_ n1_ n2_ n3_ n4_ n5_ n6_ n7_ n8_ n9_; clear hb hbox hg; have hnb7 := NB139_137.out; have hnc7 := NB137_139.out; have hnb8 := NB139_138.out; have hnc8 := NB138_139.out; have hcz9_0 : w6.cell? ⟨gb139, 0, none⟩ = some (.bool false) := (blk_cell BK139.out 0).trans rfl; have hcz9_1 : w6.cell? ⟨gb139, 1, none⟩ = some (.int .i64 0) := (blk_cell BK139.out 1).trans rfl; have hcz9_2 : w6.cell? ⟨gb139, 2, none⟩ = some (.slice none 0 0) := (blk_cell BK139.out 2).trans rfl; have hfz9_0 := blk_frozen BK139.out 0; have hfz9_1 := blk_frozen BK139.out 1; have hfz9_2 := blk_frozen BK139.out 2; have hnb10 := NB137_138.out; have hnc10 := NB138_137.out; have hcz11_0 : w6.cell? ⟨gb137, 0, none⟩ = some (.int .i64 a1_0) := (blk_cell BK137.out 0).trans rfl; have hcz11_1 : w6.cell? ⟨gb137, 1, none⟩ = some (.int .i64 a1_1) := (blk_cell BK137.out 1).trans rfl; have hcz11_2 : w6.cell? ⟨gb137, 2, none⟩ = some (.int .i64 a1_2) := (blk_cell BK137.out 2).trans rfl; have hcz11_3 : w6.cell? ⟨gb137, 3, none⟩ = some (.slice A1_3 l1_3.length c1_3) := (blk_cell BK137.out 3).trans rfl; have hfz11_0 := blk_frozen BK137.out 0; have hfz11_1 := blk_frozen BK137.out 1; have hfz11_2 := blk_frozen BK137.out 2; have hfz11_3 := blk_frozen BK137.out 3; have hcz12_0 : w6.cell? ⟨gb138, 0, none⟩ = some (.bool false) := (blk_cell BK138.out 0).trans rfl; have hcz12_1 : w6.cell? ⟨gb138, 1, none⟩ = some (.int .i64 0) := (blk_cell BK138.out 1).trans rfl; have hcz12_2 : w6.cell? ⟨gb138, 2, none⟩ = some (.slice none 0 0) := (blk_cell BK138.out 2).trans rfl; have hfz12_0 := blk_frozen BK138.out 0; have hfz12_1 := blk_frozen BK138.out 1; have hfz12_2 := blk_frozen BK138.out 2))
  refine bodyPost_ret (results_cell_row rfl _ _ gb138 27 #[.bool false, .int .i64 a1_1, .slice none 0 0] (0, 0) _ rfl (by (with_reducible repeat (first | refine blk_drewN ?_ _ | refine blk_drew ?_ | refine blk_alloc ?_ _)); refine blk_put (cs := #[.bool false, .int .i64 a1_1, .slice none 0 0]) ?_ 2 _ rfl; (with_reducible repeat (first | refine blk_drewN ?_ _ | refine blk_drew ?_ | refine blk_alloc ?_ _)); refine blk_put (cs := #[.bool false, .int .i64 0, .slice none 0 0]) ?_ 1 _ rfl; (with_reducible repeat (first | refine blk_drewN ?_ _ | refine blk_drew ?_ | refine blk_alloc ?_ _)); refine blk_put (cs := #[.bool false, .int .i64 0, .slice none 0 0]) ?_ 0 _ rfl; (with_reducible repeat (first | refine blk_drewN ?_ _ | refine blk_drew ?_ | refine blk_alloc ?_ _)); refine blk_far ?_ NB138_139.out _; (with_reducible repeat (first | refine blk_drewN ?_ _ | refine blk_drew ?_ | refine blk_alloc ?_ _)); refine blk_far ?_ NB138_139.out _; (with_reducible repeat (first | refine blk_drewN ?_ _ | refine blk_drew ?_ | refine blk_alloc ?_ _)); refine blk_far ?_ NB138_139.out _; (with_reducible repeat (first | refine blk_drewN ?_ _ | refine blk_drew ?_ | refine blk_alloc ?_ _)); exact BK138.out) Tryd.underlying27 rfl (by kernel_rfl)) rfl ?_
  exact ⟨_, by first | rfl | (simp [errW_none, errW_some] <;> rfl) | (simp [*, errW_none, errW_some] <;> rfl), by first | exact Kd.R_nil _ _ _ _ _ | exact Kd.N_nil _ _ _ _ _ | exact Kd.V_nil _ _ _ _ _ | exact Kd.Q_nil _ _ _ _ _ | exact Kd.S_nil _ _ _ _ _, by repeat (first | (with_reducible first | exact HB.out | apply Fr.alloc | apply Fr.drewN | apply Fr.drew | refine Fr.set ?_ GE137.out (t := 63) (by repeat (first | exact Ty.of BK137.out | apply Ty.set | apply Ty.alloc | apply Ty.drewN | apply Ty.drew)) rfl | refine Fr.set ?_ GE138.out (t := 27) (by repeat (first | exact Ty.of BK138.out | apply Ty.set | apply Ty.alloc | apply Ty.drewN | apply Ty.drew)) rfl | refine Fr.set ?_ GE139.out (t := 27) (by repeat (first | exact Ty.of BK139.out | apply Ty.set | apply Ty.alloc | apply Ty.drewN | apply Ty.drew)) rfl) | exact HB.out)⟩
 ·rw [if_neg c3] at H
  have c3b0 : (a1_0 == 1) = false := beq_eq_false_iff_ne.mpr c3
  have c3b1 : (a1_0 != 1) = true := bne_iff_ne.mpr c3
  by_cases c13 : a1_0 = 2
  ·rw [if_pos c13] at H
   have c13b0 : (a1_0 == 2) = true := beq_iff_eq.mpr c13
   have c13b1 : (a1_0 != 2) = false := bne_eq_false_iff_eq.mpr c13
   clear c13
   replace H := ebind_ok H
   obtain ⟨⟨t140, st140⟩, A140, H⟩ := H
   try dsimp only at H
   have A14 := Aside0.mk A140
   clear A140
   simp only [Option.some.injEq, Except.ok.injEq, Prod.mk.injEq] at H
   obtain ⟨⟨rfl, rfl, rfl⟩, rfl⟩ := H
   go_enter Tryd.func86, Tryd.ntmps86
   try go_wp2_with (first | ((with_reducible refine gate_dst (N := 3) rfl ?_); refine box_event ?hg (N := 3) ?hd (cs := #[.int .i64 a1_0, .int .i64 a1_1, .int .i64 a1_2, .slice A1_3 l1_3.length c1_3]) (t := 63) ?hr ?_; (case hd => rfl); (case hg => rfl); (case hr => first | (go_simp; done) | (go_simp; rfl)); intro gb137 hg w15 hbox hb; have n0_ := Aside0.mk (Fr.step (w := w) (st := st) (by repeat (first | (with_reducible first | exact HB.out | apply Fr.alloc | apply Fr.drewN | apply Fr.drew) | exact HB.out)) hb); have n1_ := Aside0.mk (hbox); have n2_ := Aside0.mk ((by rw [hg]; exact (Fr.size (w := w) (st := st) (by repeat (first | (with_reducible first | exact HB.out | apply Fr.alloc | apply Fr.drewN | apply Fr.drew) | exact HB.out))) : w.heap.size ≤ gb137)); have n3_ := Aside0.mk ((by rw [hg]; exact (Fr.size (w := w) (st := st) (by repeat (first | (with_reducible first | exact HB.out | apply Fr.alloc | apply Fr.drewN | apply Fr.drew) | exact HB.out))) : w.heap.size ≤ gb137)); clear HB; have HB := n0_; have BK137 := n1_; have GW137 := n2_; have GE137 := n3_; clear n0_ n1_ n2_ n3_; clear hb hbox hg) | ((with_reducible refine gate_dst (N := 4) rfl ?_); refine box_event ?hg (N := 4) ?hd (cs := #[.bool false, .int .i64 0, .slice none 0 0]) (t := 27) ?hr ?_; (case hd => rfl); (case hg => rfl); (case hr => first | (go_simp; done) | (go_simp; rfl)); intro gb138 hg w16 hbox hb; have n0_ := Aside0.mk (blk_below (g := gb137) (o := .cells #[.int .i64 a1_0, .int .i64 a1_1, .int .i64 a1_2, .slice A1_3 l1_3.length c1_3] 63 (0, 0)) (by (with_reducible repeat (first | refine blk_drewN ?_ _ | refine blk_drew ?_ | refine blk_alloc ?_ _)); exact BK137.out) hb); have n1_ := Aside0.mk (Fr.step (w := w) (st := st) (by repeat (first | (with_reducible first | exact HB.out | apply Fr.alloc | apply Fr.drewN | apply Fr.drew | refine Fr.set ?_ GE137.out (t := 63) (by repeat (first | exact Ty.of BK137.out | apply Ty.set | apply Ty.alloc | apply Ty.drewN | apply Ty.drew)) rfl) | exact HB.out)) hb); have n2_ := Aside0.mk (hbox); have n3_ := Aside0.mk ((by rw [hg]; exact (Fr.size (w := w) (st := st) (by repeat (first | (with_reducible first | exact HB.out | apply Fr.alloc | apply Fr.drewN | apply Fr.drew | refine Fr.set ?_ GE137.out (t := 63) (by repeat (first | exact Ty.of BK137.out | apply Ty.set | apply Ty.alloc | apply Ty.drewN | apply Ty.drew)) rfl) | exact HB.out))) : w.heap.size ≤ gb138)); have n4_ := Aside0.mk ((by rw [hg]; exact (Fr.size (w := w) (st := st) (by repeat (first | (with_reducible first | exact HB.out | apply Fr.alloc | apply Fr.drewN | apply Fr.drew | refine Fr.set ?_ GE137.out (t := 63) (by repeat (first | exact Ty.of BK137.out | apply Ty.set | apply Ty.alloc | apply Ty.drewN | apply Ty.drew)) rfl) | exact HB.out))) : w.heap.size ≤ gb138)); have n5_ := Aside0.mk ((by rw [hg]; exact Nat.ne_of_lt (blk_lt (g := gb137) (o := .cells #[.int .i64 a1_0, .int .i64 a1_1, .int .i64 a1_2, .slice A1_3 l1_3.length c1_3] 63 (0, 0)) (by (with_reducible repeat (first | refine blk_drewN ?_ _ | refine blk_drew ?_ | refine blk_alloc ?_ _)); exact BK137.out)) : gb137 ≠ gb138)); have n6_ := Aside0.mk ((by rw [hg]; exact Nat.ne_of_gt (blk_lt (g := gb137) (o := .cells #[.int .i64 a1_0, .int .i64 a1_1, .int .i64 a1_2, .slice A1_3 l1_3.length c1_3] 63 (0, 0)) (by (with_reducible repeat (first | refine blk_drewN ?_ _ | refine blk_drew ?_ | refine blk_alloc ?_ _)); exact BK137.out)) : gb138 ≠ gb137)); clear BK137; clear HB; have BK137 := n0_; have HB := n1_; have BK138 := n2_; have GW138 := n3_; have GE138 := n4_; have NB137_138 := n5_; have NB138_137 := n6_; clear n0_ n1_ n2_ n3_ n4_ n5_ n6_; clear hb hbox hg) | ((with_reducible refine gate_dst (N := 5) rfl ?_); refine box_event ?hg (N := 5) ?hd (cs := #[.bool false, .int .i64 0, .slice none 0 0]) (t := 27) ?hr ?_; (case hd => rfl); (case hg => rfl); (case hr => first | (go_simp; done) | (go_simp; rfl)); intro gb139 hg w17 hbox hb; have n0_ := Aside0.mk (blk_below (g := gb137) (o := .cells #[.int .i64 a1_0, .int .i64 a1_1, .int .i64 a1_2, .slice A1_3 l1_3.length c1_3] 63 (0, 0)) (by (with_reducible repeat (first | refine blk_drewN ?_ _ | refine blk_drew ?_ | refine blk_alloc ?_ _)); exact BK137.out) hb); have n1_ := Aside0.mk (blk_below (g := gb138) (o := .cells #[.bool false, .int .i64 0, .slice none 0 0] 27 (0, 0)) (by (with_reducible repeat (first | refine blk_drewN ?_ _ | refine blk_drew ?_ | refine blk_alloc ?_ _)); exact BK138.out) hb); have n2_ := Aside0.mk (Fr.step (w := w) (st := st) (by repeat (first | (with_reducible first | exact HB.out | apply Fr.alloc | apply Fr.drewN | apply Fr.drew | refine Fr.set ?_ GE137.out (t := 63) (by repeat (first | exact Ty.of BK137.out | apply Ty.set | apply Ty.alloc | apply Ty.drewN | apply Ty.drew)) rfl | refine Fr.set ?_ GE138.out (t := 27) (by repeat (first | exact Ty.of BK138.out | apply Ty.set | apply Ty.alloc | apply Ty.drewN | apply Ty.drew)) rfl) | exact HB.out)) hb); have n3_ := Aside0.mk (hbox); have n4_ := Aside0.mk ((by rw [hg]; exact (Fr.size (w := w) (st := st) (by repeat (first | (with_reducible first | exact HB.out | apply Fr.alloc | apply Fr.drewN | apply Fr.drew | refine Fr.set ?_ GE137.out (t := 63) (by repeat (first | exact Ty.of BK137.out | apply Ty.set | apply Ty.alloc | apply Ty.drewN | apply Ty.drew)) rfl | refine Fr.set ?_ GE138.out (t := 27) (by repeat (first | exact Ty.of BK138.out | apply Ty.set | apply Ty.alloc | apply Ty.drewN | apply Ty.drew)) rfl) | exact HB.out))) : w.heap.size ≤ gb139)); have n5_ := Aside0.mk ((by rw [hg]; exact (Fr.size (w := w) (st := st) (by repeat (first | (with_reducible first | exact HB.out | apply Fr.alloc | apply Fr.drewN | apply Fr.drew | refine Fr.set ?_ GE137.out (t := 63) (by repeat (first | exact Ty.of BK137.out | apply Ty.set | apply Ty.alloc | apply Ty.drewN | apply Ty.drew)) rfl | refine Fr.set ?_ GE138.out (t := 27) (by repeat (first | exact Ty.of BK138.out | apply Ty.set | apply Ty.alloc | apply Ty.drewN | apply Ty.drew)) rfl) | exact HB.out))) : w.heap.size ≤ gb139)); have n6_ := Aside0.mk ((by rw [hg]; exact Nat.ne_of_lt (blk_lt (g := gb137) (o := .cells #[.int .i64 a1_0, .int .i64 a1_1, .int .i64 a1_2, .slice A1_3 l1_3.length c1_3] 63 (0, 0)) (by (with_reducible repeat (first | refine blk_drewN ?_ _ | refine blk_drew ?_ | refine blk_alloc ?_ _)); exact BK137.out)) : gb137 ≠ gb139)); have n7_ := Aside0.mk ((by rw [hg]; exact Nat.ne_of_gt (blk_lt (g := gb137) (o := .cells #[.int .i64 a1_0, .int .i64 a1_1, .int .i64 a1_2, .slice A1_3 l1_3.length c1_3] 63 (0, 0)) (by (with_reducible repeat (first | refine blk_drewN ?_ _ | refine blk_drew ?_ | refine blk_alloc ?_ _)); exact BK137.out)) : gb139 ≠ gb137)); have n8_ := Aside0.mk ((by rw [hg]; exact Nat.ne_of_lt (blk_lt (g := gb138) (o := .cells #[.bool false, .int .i64 0, .slice none 0 0] 27 (0, 0)) (by (with_reducible repeat (first | refine blk_drewN ?_ _ | refine blk_drew ?_ | refine blk_alloc ?_ _)); exact BK138.out)) : gb138 ≠ gb139)); have n9_ := Aside0.mk ((by rw [hg]; exact Nat.ne_of_gt (blk_lt (g := gb138) (o := .cells #[.bool false, .int .i64 0, .slice none 0 0] 27 (0, 0)) (by (with_reducible repeat (first | refine blk_drewN ?_ _ | refine blk_drew ?_ | refine blk_alloc ?_ _)); exact BK138.out)) : gb139 ≠ gb138)); clear BK137; clear BK138; clear HB; have BK137 := n0_; have BK138 := n1_; have HB := n2_; have BK139 := n3_; have GW139 := n4_; have GE139 := n5_; have NB137_139 := n6_; have NB139_137 := n7_; have NB138_139 := n8_; have NB139_138 := n9_; clear n0_ n1_ n2_ n3_ n4_ n5_ n6_ n7_ n8_ n9_; clear hb hbox hg; have hnb18 := NB139_137.out; have hnc18 := NB137_139.out; have hnb19 := NB139_138.out; have hnc19 := NB138_139.out; have hcz20_0 : w17.cell? ⟨gb139, 0, none⟩ = some (.bool false) := (blk_cell BK139.out 0).trans rfl; have hcz20_1 : w17.cell? ⟨gb139, 1, none⟩ = some (.int .i64 0) := (blk_cell BK139.out 1).trans rfl; have hcz20_2 : w17.cell? ⟨gb139, 2, none⟩ = some (.slice none 0 0) := (blk_cell BK139.out 2).trans rfl; have hfz20_0 := blk_frozen BK139.out 0; have hfz20_1 := blk_frozen BK139.out 1; have hfz20_2 := blk_frozen BK139.out 2; have hnb21 := NB137_138.out; have hnc21 := NB138_137.out; have hcz22_0 : w17.cell? ⟨gb137, 0, none⟩ = some (.int .i64 a1_0) := (blk_cell BK137.out 0).trans rfl; have hcz22_1 : w17.cell? ⟨gb137, 1, none⟩ = some (.int .i64 a1_1) := (blk_cell BK137.out 1).trans rfl; have hcz22_2 : w17.cell? ⟨gb137, 2, none⟩ = some (.int .i64 a1_2) := (blk_cell BK137.out 2).trans rfl; have hcz22_3 : w17.cell? ⟨gb137, 3, none⟩ = some (.slice A1_3 l1_3.length c1_3) := (blk_cell BK137.out 3).trans rfl; have hfz22_0 := blk_frozen BK137.out 0; have hfz22_1 := blk_frozen BK137.out 1; have hfz22_2 := blk_frozen BK137.out 2; have hfz22_3 := blk_frozen BK137.out 3))
   have n0_ : Aside0 ((((w17.setCell ⟨gb139, 0, none⟩ (.bool true)).setCell ⟨gb139, 1, none⟩ (.int .i64 0)).setCell ⟨gb139, 2, none⟩ (.slice none 0 0)).heap[gb137]? = some (.cells #[.int .i64 a1_0, .int .i64 a1_1, .int .i64 a1_2, .slice A1_3 l1_3.length c1_3] 63 (0, 0))) := ⟨by (with_reducible repeat (first | refine blk_drewN ?_ _ | refine blk_drew ?_ | refine blk_alloc ?_ _)); refine blk_far ?_ NB137_139.out _; (with_reducible repeat (first | refine blk_drewN ?_ _ | refine blk_drew ?_ | refine blk_alloc ?_ _)); refine blk_far ?_ NB137_139.out _; (with_reducible repeat (first | refine blk_drewN ?_ _ | refine blk_drew ?_ | refine blk_alloc ?_ _)); refine blk_far ?_ NB137_139.out _; (with_reducible repeat (first | refine blk_drewN ?_ _ | refine blk_drew ?_ | refine blk_alloc ?_ _)); exact BK137.out⟩
   have n1_ : Aside0 ((((w17.setCell ⟨gb139, 0, none⟩ (.bool true)).setCell ⟨gb139, 1, none⟩ (.int .i64 0)).setCell ⟨gb139, 2, none⟩ (.slice none 0 0)).heap[gb138]? = some (.cells #[.bool false, .int .i64 0, .slice none 0 0] 27 (0, 0))) := ⟨by (with_reducible repeat (first | refine blk_drewN ?_ _ | refine blk_drew ?_ | refine blk_alloc ?_ _)); refine blk_far ?_ NB138_139.out _; (with_reducible repeat (first | refine blk_drewN ?_ _ | refine blk_drew ?_ | refine blk_alloc ?_ _)); refine blk_far ?_ NB138_139.out _; (with_reducible repeat (first | refine blk_drewN ?_ _ | refine blk_drew ?_ | refine blk_alloc ?_ _)); refine blk_far ?_ NB138_139.out _; (with_reducible repeat (first | refine blk_drewN ?_ _ | refine blk_drew ?_ | refine blk_alloc ?_ _)); exact BK138.out⟩
   have n2_ : Aside0 ((((w17.setCell ⟨gb139, 0, none⟩ (.bool true)).setCell ⟨gb139, 1, none⟩ (.int .i64 0)).setCell ⟨gb139, 2, none⟩ (.slice none 0 0)).heap[gb139]? = some (.cells #[.bool true, .int .i64 0, .slice none 0 0] 27 (0, 0))) := ⟨by (with_reducible repeat (first | refine blk_drewN ?_ _ | refine blk_drew ?_ | refine blk_alloc ?_ _)); refine blk_put (cs := #[.bool true, .int .i64 0, .slice none 0 0]) ?_ 2 _ rfl; (with_reducible repeat (first | refine blk_drewN ?_ _ | refine blk_drew ?_ | refine blk_alloc ?_ _)); refine blk_put (cs := #[.bool true, .int .i64 0, .slice none 0 0]) ?_ 1 _ rfl; (with_reducible repeat (first | refine blk_drewN ?_ _ | refine blk_drew ?_ | refine blk_alloc ?_ _)); refine blk_put (cs := #[.bool false, .int .i64 0, .slice none 0 0]) ?_ 0 _ rfl; (with_reducible repeat (first | refine blk_drewN ?_ _ | refine blk_drew ?_ | refine blk_alloc ?_ _)); exact BK139.out⟩
   have n3_ : Aside0 (Fr S w0 w st (((w17.setCell ⟨gb139, 0, none⟩ (.bool true)).setCell ⟨gb139, 1, none⟩ (.int .i64 0)).setCell ⟨gb139, 2, none⟩ (.slice none 0 0))) := ⟨by repeat (first | (with_reducible first | exact HB.out | apply Fr.alloc | apply Fr.drewN | apply Fr.drew | refine Fr.set ?_ GE137.out (t := 63) (by repeat (first | exact Ty.of BK137.out | apply Ty.set | apply Ty.alloc | apply Ty.drewN | apply Ty.drew)) rfl | refine Fr.set ?_ GE138.out (t := 27) (by repeat (first | exact Ty.of BK138.out | apply Ty.set | apply Ty.alloc | apply Ty.drewN | apply Ty.drew)) rfl | refine Fr.set ?_ GE139.out (t := 27) (by repeat (first | exact Ty.of BK139.out | apply Ty.set | apply Ty.alloc | apply Ty.drewN | apply Ty.drew)) rfl) | exact HB.out)⟩
   (try clear BK137)
   (try clear BK138)
   (try clear BK139)
   (try clear HB)
   generalize (((w17.setCell ⟨gb139, 0, none⟩ (.bool true)).setCell ⟨gb139, 1, none⟩ (.int .i64 0)).setCell ⟨gb139, 2, none⟩ (.slice none 0 0)) = w23 at n0_ n1_ n2_ n3_ ⊢
   have BK137 := n0_
   have BK138 := n1_
   have BK139 := n2_
   have HB := n3_
   clear n0_ n1_ n2_ n3_
   have n0_ := Aside0.mk (blk_drew BK137.out)
   have n1_ := Aside0.mk (blk_drew BK138.out)
   have n2_ := Aside0.mk (blk_drew BK139.out)
   have n3_ := Aside0.mk (Fr.drew HB.out)
   clear BK137
   clear BK138
   clear BK139
   clear HB
   have BK137 := n0_
   have BK138 := n1_
   have BK139 := n2_
   have HB := n3_
   clear n0_ n1_ n2_ n3_
   refine start_ (n := 12) (S := fun w' => w'.cell? ⟨gb137, 0, none⟩ = some (.int .i64 a1_0) ∧ w'.cell? ⟨gb137, 1, none⟩ = some (.int .i64 a1_1) ∧ w'.cell? ⟨gb137, 2, none⟩ = some (.int .i64 a1_2) ∧ w'.cell? ⟨gb137, 3, none⟩ = some (.slice A1_3 l1_3.length c1_3)) (ds := []) #[false, false, false, false, false, false, false, false, false, false, false, false] (by kernel_rfl) rfl rfl ⟨(blk_cell BK137.out 0).trans rfl, (blk_cell BK137.out 1).trans rfl, (blk_cell BK137.out 2).trans rfl, (blk_cell BK137.out 3).trans rfl⟩ (fun hHeld => ?_); refine with_tabW gen_made.tab6 gen_made.bits6 (fun HT_ HW_ => ?_)
   generalize w23.drew = w24 at BK137 BK138 BK139 HB hHeld ⊢
   refine pure_ (i := 0) (N := some 18) (v := ?_) (a' := ?_) #[true, false, false, false, false, false, false, false, false, false, false, false] rfl rfl (any_of HT_.out (by kernel_rfl)) (fun _ _ _ h => h) (Or.inl ⟨by rfl, ?_⟩) ?_ ?_
   rotate_left
   ·intro w'
    go_simp
    with_reducible rfl
   rotate_left
   ·simp only [Act.put, List.setIfInBounds_toArray, List.set_cons_zero, List.set_cons_succ, i64_w, i32_w]
    rfl
   refine pure_ (i := 2) (N := some 20) (v := ?_) (a' := ?_) #[true, false, true, false, false, false, false, false, false, false, false, false] rfl rfl (any_of HT_.out (by kernel_rfl)) (fun _ _ _ h => h) (Or.inl ⟨by rfl, ?_⟩) ?_ ?_
   rotate_left
   ·intro w'
    go_simp
    with_reducible rfl
   rotate_left
   ·simp only [Act.put, List.setIfInBounds_toArray, List.set_cons_zero, List.set_cons_succ, i64_w, i32_w]
    rfl
   refine pure_ (i := 3) (N := some 21) (v := ?_) (a' := ?_) #[true, false, true, true, false, false, false, false, false, false, false, false] rfl rfl (any_of HT_.out (by kernel_rfl)) (fun _ _ _ h => h) (Or.inl ⟨by rfl, ?_⟩) ?_ ?_
   rotate_left
   ·intro w'
    go_simp
    with_reducible rfl
   rotate_left
   ·simp only [Act.put, List.setIfInBounds_toArray, List.set_cons_zero, List.set_cons_succ, i64_w, i32_w]
    rfl
   refine pure_ (i := 5) (N := some 23) (v := ?_) (a' := ?_) #[true, false, true, true, false, true, false, false, false, false, false, false] rfl rfl (any_of HT_.out (by kernel_rfl)) (fun _ _ _ h => h) (Or.inl ⟨by rfl, ?_⟩) ?_ ?_
   rotate_left
   ·intro w'
    go_simp
    with_reducible rfl
   rotate_left
   ·simp only [Act.put, List.setIfInBounds_toArray, List.set_cons_zero, List.set_cons_succ, i64_w, i32_w]
    rfl
   refine take_ (i := 1) (N := some 19) (v := ?_) (a' := ?_) #[true, true, true, true, false, true, false, false, false, false, false, false] rfl rfl (take_ofW HT_.out HW_.out (by kernel_rfl)) (fun _ _ _ h => h) (Or.inl ⟨by rfl, ?_⟩) hHeld ?_ ?_
   rotate_left
   ·rintro w' ⟨s0, s1, s2, s3⟩
    go_simp
    with_reducible rfl
   rotate_left
   ·simp only [Act.put, List.setIfInBounds_toArray, List.set_cons_zero, List.set_cons_succ, i64_w, i32_w]
    rfl
   refine take_ (i := 4) (N := some 22) (v := ?_) (a' := ?_) #[true, true, true, true, true, true, false, false, false, false, false, false] rfl rfl (take_ofW HT_.out HW_.out (by kernel_rfl)) (fun _ _ _ h => h) (Or.inl ⟨by rfl, ?_⟩) hHeld ?_ ?_
   rotate_left
   ·rintro w' ⟨s0, s1, s2, s3⟩
    go_simp
    with_reducible rfl
   rotate_left
   ·simp only [Act.put, List.setIfInBounds_toArray, List.set_cons_zero, List.set_cons_succ, i64_w, i32_w]
    rfl
   refine take_ (i := 6) (N := some 24) (v := ?_) (a' := ?_) #[true, true, true, true, true, true, true, false, false, false, false, false] rfl rfl (take_ofW HT_.out HW_.out (by kernel_rfl)) (fun _ _ _ h => h) (Or.inl ⟨by rfl, ?_⟩) hHeld ?_ ?_
   rotate_left
   ·rintro w' ⟨s0, s1, s2, s3⟩
    go_simp
    with_reducible rfl
   rotate_left
   ·simp only [Act.put, List.setIfInBounds_toArray, List.set_cons_zero, List.set_cons_succ, i64_w, i32_w]
    rfl
   refine pure_ (i := 7) (N := some 25) (v := ?_) (a' := ?_) #[true, true, true, true, true, true, true, true, false, false, false, false] rfl rfl (any_of HT_.out (by kernel_rfl)) (fun _ _ _ h => h) (Or.inl ⟨by rfl, ?_⟩) ?_ ?_
   rotate_left
   ·intro w'
    go_simp
    with_reducible rfl
   rotate_left
   ·simp only [Act.put, List.setIfInBounds_toArray, List.set_cons_zero, List.set_cons_succ, i64_w, i32_w]
    rfl
   refine one_ (i := 8) (N := some 26) #[true, true, true, true, true, true, true, true, true, false, false, false] rfl rfl (one_of HT_.out (by kernel_rfl)) (by decide) (fun K hK => ?_)
   refine goesC_ caps hF hn hbd #[.int .i64 (wrap64 (a1_2 - a1_1))] (by rfl) rfl rfl (by first | rfl | (go_simp; done)) (by (try simp only [List.map_toArray, List.map_cons, List.map_nil]); first | done | rfl | (simp only [List.length_drop, List.length_take]; rfl)) ?_
   refine (hch _ (wrap64 (a1_2 - a1_1)) t140 st140 _ (Fr.here (by repeat (first | (with_reducible first | exact HB.out | apply Fr.alloc | apply Fr.drewN | apply Fr.drew | refine Fr.set ?_ GE137.out (t := 63) (by repeat (first | exact Ty.of BK137.out | apply Ty.set | apply Ty.alloc | apply Ty.drewN | apply Ty.drew)) rfl | refine Fr.set ?_ GE138.out (t := 27) (by repeat (first | exact Ty.of BK138.out | apply Ty.set | apply Ty.alloc | apply Ty.drewN | apply Ty.drew)) rfl | refine Fr.set ?_ GE139.out (t := 27) (by repeat (first | exact Ty.of BK139.out | apply Ty.set | apply Ty.alloc | apply Ty.drewN | apply Ty.drew)) rfl) | exact HB.out))) A14.out).mono ?_
   rintro e w25 ⟨rfl, hb⟩
   refine ⟨_, rfl, ?_⟩
   have n0_ := Aside0.mk (Fr.blk_ (g := gb137) (t := 63) (cs := #[.int .i64 a1_0, .int .i64 a1_1, .int .i64 a1_2, .slice A1_3 l1_3.length c1_3]) (by (with_reducible repeat (first | refine blk_drewN ?_ _ | refine blk_drew ?_ | refine blk_alloc ?_ _)); exact BK137.out) hb rfl)
   have n1_ := Aside0.mk (Fr.blk_ (g := gb138) (t := 27) (cs := #[.bool false, .int .i64 0, .slice none 0 0]) (by (with_reducible repeat (first | refine blk_drewN ?_ _ | refine blk_drew ?_ | refine blk_alloc ?_ _)); exact BK138.out) hb rfl)
   have n2_ := Aside0.mk (Fr.blk_ (g := gb139) (t := 27) (cs := #[.bool true, .int .i64 0, .slice none 0 0]) (by (with_reducible repeat (first | refine blk_drewN ?_ _ | refine blk_drew ?_ | refine blk_alloc ?_ _)); exact BK139.out) hb rfl)
   have n3_ := Aside0.mk (Fr.trans (w := w) (st := st) (by repeat (first | (with_reducible first | exact HB.out | apply Fr.alloc | apply Fr.drewN | apply Fr.drew | refine Fr.set ?_ GE137.out (t := 63) (by repeat (first | exact Ty.of BK137.out | apply Ty.set | apply Ty.alloc | apply Ty.drewN | apply Ty.drew)) rfl | refine Fr.set ?_ GE138.out (t := 27) (by repeat (first | exact Ty.of BK138.out | apply Ty.set | apply Ty.alloc | apply Ty.drewN | apply Ty.drew)) rfl | refine Fr.set ?_ GE139.out (t := 27) (by repeat (first | exact Ty.of BK139.out | apply Ty.set | apply Ty.alloc | apply Ty.drewN | apply Ty.drew)) rfl) | exact HB.out)) hb)
   clear BK137
   clear BK138
   clear BK139
   clear HB
   have BK137 := n0_
   have BK138 := n1_
   have BK139 := n2_
   have HB := n3_
   clear n0_ n1_ n2_ n3_
   (try clear hb)
   (try clear hb2)
   (try clear hk)
   (try clear hi)
   refine hK.out _ _ ⟨(blk_cell BK137.out 0).trans rfl, (blk_cell BK137.out 1).trans rfl, (blk_cell BK137.out 2).trans rfl, (blk_cell BK137.out 3).trans rfl⟩ (fun hHeld => ?_)
   clear hK K
   refine norm_ (a' := ?_) ?_ ?_
   rotate_left
   ·show Act.put _ (some 26) _ = _
    simp only [Act.put, List.setIfInBounds_toArray, List.set_cons_zero, List.set_cons_succ, i64_w, i32_w]
    rfl
   refine pure_ (i := 9) (N := some 27) (v := ?_) (a' := ?_) #[true, true, true, true, true, true, true, true, true, true, false, false] rfl rfl (any_of HT_.out (by kernel_rfl)) (fun _ _ _ h => h) (Or.inl ⟨by rfl, ?_⟩) ?_ ?_
   rotate_left
   ·intro w'
    go_simp
    with_reducible rfl
   rotate_left
   ·simp only [Act.put, List.setIfInBounds_toArray, List.set_cons_zero, List.set_cons_succ, i64_w, i32_w]
    rfl
   refine pure_ (i := 10) (N := some 28) (v := ?_) (a' := ?_) #[true, true, true, true, true, true, true, true, true, true, true, false] rfl rfl (any_of HT_.out (by kernel_rfl)) (fun _ _ _ h => h) (Or.inl ⟨by rfl, ?_⟩) ?_ ?_
   rotate_left
   ·intro w'
    go_simp
    with_reducible rfl
   rotate_left
   ·simp only [Act.put, List.setIfInBounds_toArray, List.set_cons_zero, List.set_cons_succ, i64_w, i32_w]
    rfl
   refine one_ (i := 11) (N := none) #[true, true, true, true, true, true, true, true, true, true, true, true] rfl rfl (one_of HT_.out (by kernel_rfl)) (by decide) (fun K hK => ?_)
   have hs26 : w25.cell? ⟨gb138, 0, none⟩ = some (.bool false) := (blk_cell BK138.out 0).trans rfl
   have hfs26 := blk_frozen BK138.out 0
   have hns26_0 := NB137_138.out
   have hns26_2 := NB139_138.out
   have hms26_0 := NB138_137.out
   have hms26_2 := NB138_139.out
   have hs27 : w25.cell? ⟨gb138, 1, none⟩ = some (.int .i64 0) := (blk_cell BK138.out 1).trans rfl
   have hfs27 := blk_frozen BK138.out 1
   have hns27_0 := NB137_138.out
   have hns27_2 := NB139_138.out
   have hms27_0 := NB138_137.out
   have hms27_2 := NB138_139.out
   have hs28 : w25.cell? ⟨gb138, 2, none⟩ = some (.slice none 0 0) := (blk_cell BK138.out 2).trans rfl
   have hfs28 := blk_frozen BK138.out 2
   have hns28_0 := NB137_138.out
   have hns28_2 := NB139_138.out
   have hms28_0 := NB138_137.out
   have hms28_2 := NB138_139.out
   refine skip_ (w1 := ?_) (by rfl) rfl ?_ ?_
   rotate_left
   ·go_simp
    rfl
   refine hK.out _ _ ⟨((cell_far (p := ⟨gb138, _, none⟩) NB137_138.out _).trans (((cell_far (p := ⟨gb138, _, none⟩) NB137_138.out _).trans (((cell_far (p := ⟨gb138, _, none⟩) NB137_138.out _).trans (hHeld.1)))))), ((cell_far (p := ⟨gb138, _, none⟩) NB137_138.out _).trans (((cell_far (p := ⟨gb138, _, none⟩) NB137_138.out _).trans (((cell_far (p := ⟨gb138, _, none⟩) NB137_138.out _).trans (hHeld.2.1)))))), ((cell_far (p := ⟨gb138, _, none⟩) NB137_138.out _).trans (((cell_far (p := ⟨gb138, _, none⟩) NB137_138.out _).trans (((cell_far (p := ⟨gb138, _, none⟩) NB137_138.out _).trans (hHeld.2.2.1)))))), ((cell_far (p := ⟨gb138, _, none⟩) NB137_138.out _).trans (((cell_far (p := ⟨gb138, _, none⟩) NB137_138.out _).trans (((cell_far (p := ⟨gb138, _, none⟩) NB137_138.out _).trans (hHeld.2.2.2))))))⟩ (fun hHeld => ?_)
   clear hK K
   refine done_ (done_of HT_.out (by kernel_rfl)) ?_
   try go_wp2
   refine bodyPost_ret (results_cell_row rfl _ _ gb138 27 #[.bool false, .int .i64 (wrap64 (a1_1 + t140)), .slice none 0 0] (0, 0) _ rfl (by (with_reducible repeat (first | refine blk_drewN ?_ _ | refine blk_drew ?_ | refine blk_alloc ?_ _)); refine blk_put (cs := #[.bool false, .int .i64 (wrap64 (a1_1 + t140)), .slice none 0 0]) ?_ 2 _ rfl; (with_reducible repeat (first | refine blk_drewN ?_ _ | refine blk_drew ?_ | refine blk_alloc ?_ _)); refine blk_put (cs := #[.bool false, .int .i64 0, .slice none 0 0]) ?_ 1 _ rfl; (with_reducible repeat (first | refine blk_drewN ?_ _ | refine blk_drew ?_ | refine blk_alloc ?_ _)); refine blk_put (cs := #[.bool false, .int .i64 0, .slice none 0 0]) ?_ 0 _ rfl; (with_reducible repeat (first | refine blk_drewN ?_ _ | refine blk_drew ?_ | refine blk_alloc ?_ _)); exact BK138.out) Tryd.underlying27 rfl (by kernel_rfl)) rfl ?_
   exact ⟨_, by first | rfl | (simp [errW_none, errW_some] <;> rfl) | (simp [*, errW_none, errW_some] <;> rfl), by first | exact Kd.R_nil _ _ _ _ _ | exact Kd.N_nil _ _ _ _ _ | exact Kd.V_nil _ _ _ _ _ | exact Kd.Q_nil _ _ _ _ _ | exact Kd.S_nil _ _ _ _ _, by repeat (first | (with_reducible first | exact HB.out | apply Fr.alloc | apply Fr.drewN | apply Fr.drew | refine Fr.set ?_ GE137.out (t := 63) (by repeat (first | exact Ty.of BK137.out | apply Ty.set | apply Ty.alloc | apply Ty.drewN | apply Ty.drew)) rfl | refine Fr.set ?_ GE138.out (t := 27) (by repeat (first | exact Ty.of BK138.out | apply Ty.set | apply Ty.alloc | apply Ty.drewN | apply Ty.drew)) rfl | refine Fr.set ?_ GE139.out (t := 27) (by repeat (first | exact Ty.of BK139.out | apply Ty.set | apply Ty.alloc | apply Ty.drewN | apply Ty.drew)) rfl) | exact HB.out)⟩
  ·rw [if_neg c13] at H
   have c13b0 : (a1_0 == 2) = false := beq_eq_false_iff_ne.mpr c13
   have c13b1 : (a1_0 != 2) = true := bne_iff_ne.mpr c13
   by_cases c29 : a1_0 = 3
   ·rw [if_pos c29] at H
    have c29b0 : (a1_0 == 3) = true := beq_iff_eq.mpr c29
    have c29b1 : (a1_0 != 3) = false := bne_eq_false_iff_eq.mpr c29
    clear c29
    have H' := Aside0.mk H
    clear H
    go_enter Tryd.func86, Tryd.ntmps86
    go_wp2_with (first | ((with_reducible refine gate_dst (N := 3) rfl ?_); refine box_event ?hg (N := 3) ?hd (cs := #[.int .i64 a1_0, .int .i64 a1_1, .int .i64 a1_2, .slice A1_3 l1_3.length c1_3]) (t := 63) ?hr ?_; (case hd => rfl); (case hg => rfl); (case hr => first | (go_simp; done) | (go_simp; rfl)); intro gb137 hg w30 hbox hb; have n0_ := Aside0.mk (Fr.step (w := w) (st := st) (by repeat (first | (with_reducible first | exact HB.out | apply Fr.alloc | apply Fr.drewN | apply Fr.drew) | exact HB.out)) hb); have n1_ := Aside0.mk (hbox); have n2_ := Aside0.mk ((by rw [hg]; exact (Fr.size (w := w) (st := st) (by repeat (first | (with_reducible first | exact HB.out | apply Fr.alloc | apply Fr.drewN | apply Fr.drew) | exact HB.out))) : w.heap.size ≤ gb137)); have n3_ := Aside0.mk ((by rw [hg]; exact (Fr.size (w := w) (st := st) (by repeat (first | (with_reducible first | exact HB.out | apply Fr.alloc | apply Fr.drewN | apply Fr.drew) | exact HB.out))) : w.heap.size ≤ gb137)); clear HB; have HB := n0_; have BK137 := n1_; have GW137 := n2_; have GE137 := n3_; clear n0_ n1_ n2_ n3_; clear hb hbox hg) | ((with_reducible refine gate_dst (N := 4) rfl ?_); refine box_event ?hg (N := 4) ?hd (cs := #[.bool false, .int .i64 0, .slice none 0 0]) (t := 27) ?hr ?_; (case hd => rfl); (case hg => rfl); (case hr => first | (go_simp; done) | (go_simp; rfl)); intro gb138 hg w31 hbox hb; have n0_ := Aside0.mk (blk_below (g := gb137) (o := .cells #[.int .i64 a1_0, .int .i64 a1_1, .int .i64 a1_2, .slice A1_3 l1_3.length c1_3] 63 (0, 0)) (by (with_reducible repeat (first | refine blk_drewN ?_ _ | refine blk_drew ?_ | refine blk_alloc ?_ _)); exact BK137.out) hb); have n1_ := Aside0.mk (Fr.step (w := w) (st := st) (by repeat (first | (with_reducible first | exact HB.out | apply Fr.alloc | apply Fr.drewN | apply Fr.drew | refine Fr.set ?_ GE137.out (t := 63) (by repeat (first | exact Ty.of BK137.out | apply Ty.set | apply Ty.alloc | apply Ty.drewN | apply Ty.drew)) rfl) | exact HB.out)) hb); have n2_ := Aside0.mk (hbox); have n3_ := Aside0.mk ((by rw [hg]; exact (Fr.size (w := w) (st := st) (by repeat (first | (with_reducible first | exact HB.out | apply Fr.alloc | apply Fr.drewN | apply Fr.drew | refine Fr.set ?_ GE137.out (t := 63) (by repeat (first | exact Ty.of BK137.out | apply Ty.set | apply Ty.alloc | apply Ty.drewN | apply Ty.drew)) rfl) | exact HB.out))) : w.heap.size ≤ gb138)); have n4_ := Aside0.mk ((by rw [hg]; exact (Fr.size (w := w) (st := st) (by repeat (first | (with_reducible first | exact HB.out | apply Fr.alloc | apply Fr.drewN | apply Fr.drew | refine Fr.set ?_ GE137.out (t := 63) (by repeat (first | exact Ty.of BK137.out | apply Ty.set | apply Ty.alloc | apply Ty.drewN | apply Ty.drew)) rfl) | exact HB.out))) : w.heap.size ≤ gb138)); have n5_ := Aside0.mk ((by rw [hg]; exact Nat.ne_of_lt (blk_lt (g := gb137) (o := .cells #[.int .i64 a1_0, .int .i64 a1_1, .int .i64 a1_2, .slice A1_3 l1_3.length c1_3] 63 (0, 0)) (by (with_reducible repeat (first | refine blk_drewN ?_ _ | refine blk_drew ?_ | refine blk_alloc ?_ _)); exact BK137.out)) : gb137 ≠ gb138)); have n6_ := Aside0.mk ((by rw [hg]; exact Nat.ne_of_gt (blk_lt (g := gb137) (o := .cells #[.int .i64 a1_0, .int .i64 a1_1, .int .i64 a1_2, .slice A1_3 l1_3.length c1_3] 63 (0, 0)) (by (with_reducible repeat (first | refine blk_drewN ?_ _ | refine blk_drew ?_ | refine blk_alloc ?_ _)); exact BK137.out)) : gb138 ≠ gb137)); clear BK137; clear HB; have BK137 := n0_; have HB := n1_; have BK138 := n2_; have GW138 := n3_; have GE138 := n4_; have NB137_138 := n5_; have NB138_137 := n6_; clear n0_ n1_ n2_ n3_ n4_ n5_ n6_; clear hb hbox hg) | ((with_reducible refine gate_dst (N := 5) rfl ?_); refine box_event ?hg (N := 5) ?hd (cs := #[.bool false, .int .i64 0, .slice none 0 0]) (t := 27) ?hr ?_; (case hd => rfl); (case hg => rfl); (case hr => first | (go_simp; done) | (go_simp; rfl)); intro gb139 hg w32 hbox hb; have n0_ := Aside0.mk (blk_below (g := gb137) (o := .cells #[.int .i64 a1_0, .int .i64 a1_1, .int .i64 a1_2, .slice A1_3 l1_3.length c1_3] 63 (0, 0)) (by (with_reducible repeat (first | refine blk_drewN ?_ _ | refine blk_drew ?_ | refine blk_alloc ?_ _)); exact BK137.out) hb); have n1_ := Aside0.mk (blk_below (g := gb138) (o := .cells #[.bool false, .int .i64 0, .slice none 0 0] 27 (0, 0)) (by (with_reducible repeat (first | refine blk_drewN ?_ _ | refine blk_drew ?_ | refine blk_alloc ?_ _)); exact BK138.out) hb); have n2_ := Aside0.mk (Fr.step (w := w) (st := st) (by repeat (first | (with_reducible first | exact HB.out | apply Fr.alloc | apply Fr.drewN | apply Fr.drew | refine Fr.set ?_ GE137.out (t := 63) (by repeat (first | exact Ty.of BK137.out | apply Ty.set | apply Ty.alloc | apply Ty.drewN | apply Ty.drew)) rfl | refine Fr.set ?_ GE138.out (t := 27) (by repeat (first | exact Ty.of BK138.out | apply Ty.set | apply Ty.alloc | apply Ty.drewN | apply Ty.drew)) rfl) | exact HB.out)) hb); have n3_ := Aside0.mk (hbox); have n4_ := Aside0.mk ((by rw [hg]; exact (Fr.size (w := w) (st := st) (by repeat (first | (with_reducible first | exact HB.out | apply Fr.alloc | apply Fr.drewN | apply Fr.drew | refine Fr.set ?_ GE137.out (t := 63) (by repeat (first | exact Ty.of BK137.out | apply Ty.set | apply Ty.alloc | apply Ty.drewN | apply Ty.drew)) rfl | refine Fr.set ?_ GE138.out (t := 27) (by repeat (first | exact Ty.of BK138.out | apply Ty.set | apply Ty.alloc | apply Ty.drewN | apply Ty.drew)) rfl) | exact HB.out))) : w.heap.size ≤ gb139)); have n5_ := Aside0.mk ((by rw [hg]; exact (Fr.size (w := w) (st := st) (by repeat (first | (with_reducible first | exact HB.out | apply Fr.alloc | apply Fr.drewN | apply Fr.drew | refine Fr.set ?_ GE137.out (t := 63) (by repeat (first | exact Ty.of BK137.out | apply Ty.set | apply Ty.alloc | apply Ty.drewN | apply Ty.drew)) rfl | refine Fr.set ?_ GE138.out (t := 27) (by repeat (first | exact Ty.of BK138.out | apply Ty.set | apply Ty.alloc | apply Ty.drewN | apply Ty.drew)) rfl) | exact HB.out))) : w.heap.size ≤ gb139)); have n6_ := Aside0.mk ((by rw [hg]; exact Nat.ne_of_lt (blk_lt (g := gb137) (o := .cells #[.int .i64 a1_0, .int .i64 a1_1, .int .i64 a1_2, .slice A1_3 l1_3.length c1_3] 63 (0, 0)) (by (with_reducible repeat (first | refine blk_drewN ?_ _ | refine blk_drew ?_ | refine blk_alloc ?_ _)); exact BK137.out)) : gb137 ≠ gb139)); have n7_ := Aside0.mk ((by rw [hg]; exact Nat.ne_of_gt (blk_lt (g := gb137) (o := .cells #[.int .i64 a1_0, .int .i64 a1_1, .int .i64 a1_2, .slice A1_3 l1_3.length c1_3] 63 (0, 0)) (by (with_reducible repeat (first | refine blk_drewN ?_ _ | refine blk_drew ?_ | refine blk_alloc ?_ _)); exact BK137.out)) : gb139 ≠ gb137)); have n8_ := Aside0.mk ((by rw [hg]; exact Nat.ne_of_lt (blk_lt (g := gb138) (o := .cells #[.bool false, .int .i64 0, .slice none 0 0] 27 (0, 0)) (by (with_reducible repeat (first | refine blk_drewN ?_ _ | refine blk_drew ?_ | refine blk_alloc ?_ _)); exact BK138.out)) : gb138 ≠ gb139)); have n9_ := Aside0.mk ((by rw [hg]; exact Nat.ne_of_gt (blk_lt (g := gb138) (o := .cells #[.bool false, .int .i64 0, .slice none 0 0] 27 (0, 0)) (by (with_reducible repeat (first | refine blk_drewN ?_ _ | refine blk_drew ?_ | refine blk_alloc ?_ _)); exact BK138.out)) : gb139 ≠ gb138)); clear BK137; clear BK138; clear HB; have BK137 := n0_; have BK138 := n1_; have HB := n2_; have BK139 := n3_; have GW139 := n4_; have GE139 := n5_; have NB137_139 := n6_; have NB139_137 := n7_; have NB138_139 := n8_; have NB139_138 := n9_; clear n0_ n1_ n2_ n3_ n4_ n5_ n6_ n7_ n8_ n9_; clear hb hbox hg; have hnb33 := NB139_137.out; have hnc33 := NB137_139.out; have hnb34 := NB139_138.out; have hnc34 := NB138_139.out; have hcz35_0 : w32.cell? ⟨gb139, 0, none⟩ = some (.bool false) := (blk_cell BK139.out 0).trans rfl; have hcz35_1 : w32.cell? ⟨gb139, 1, none⟩ = some (.int .i64 0) := (blk_cell BK139.out 1).trans rfl; have hcz35_2 : w32.cell? ⟨gb139, 2, none⟩ = some (.slice none 0 0) := (blk_cell BK139.out 2).trans rfl; have hfz35_0 := blk_frozen BK139.out 0; have hfz35_1 := blk_frozen BK139.out 1; have hfz35_2 := blk_frozen BK139.out 2; have hnb36 := NB137_138.out; have hnc36 := NB138_137.out; have hcz37_0 : w32.cell? ⟨gb137, 0, none⟩ = some (.int .i64 a1_0) := (blk_cell BK137.out 0).trans rfl; have hcz37_1 : w32.cell? ⟨gb137, 1, none⟩ = some (.int .i64 a1_1) := (blk_cell BK137.out 1).trans rfl; have hcz37_2 : w32.cell? ⟨gb137, 2, none⟩ = some (.int .i64 a1_2) := (blk_cell BK137.out 2).trans rfl; have hcz37_3 : w32.cell? ⟨gb137, 3, none⟩ = some (.slice A1_3 l1_3.length c1_3) := (blk_cell BK137.out 3).trans rfl; have hfz37_0 := blk_frozen BK137.out 0; have hfz37_1 := blk_frozen BK137.out 1; have hfz37_2 := blk_frozen BK137.out 2; have hfz37_3 := blk_frozen BK137.out 3))
    go_loopg [34] k (fun kq v34 w' => ∃ (st_1 : σ) (x34_1 : Int) (x140002_1 : List (S27)) (u140002 : Value), v34 = .int .i64 x34_1 ∧ Aside0 (gen_made.l0 stp kq st_1 l1_3 (l1_3.length : Int) x34_1 true 0 x140002_1 = some (.ok ((r1, r2, r3), st'_))) ∧ Aside0 (kq ≤ k) ∧ Aside0 (Kd.R k27 27 w' w.heap.size (fun k_ => k_ ≠ gb138 ∧ k_ ≠ gb139) u140002 x140002_1) ∧ Aside0 (w'.heap[gb137]? = some (.cells #[.int .i64 a1_0, .int .i64 a1_1, .int .i64 a1_2, (.slice A1_3 l1_3.length c1_3)] 63 (0, 0))) ∧ Aside0 (w'.heap[gb138]? = some (.cells #[.bool false, .int .i64 0, (.slice none 0 0)] 27 (0, 0))) ∧ Aside0 (w'.heap[gb139]? = some (.cells #[.bool true, .int .i64 0, u140002] 27 (0, 0))) ∧ Aside0 (Fr S w0 w st_1 w'))
    case atStart => exact ⟨st, (0), (([] : List (S27))), (.slice none 0 0), (by first | rfl | (simp; done) | (simp [*]; done)), H', ⟨Nat.le_refl _⟩, ⟨by first | exact Kd.R_nil _ _ _ _ _ | exact Kd.N_nil _ _ _ _ _ | exact Kd.V_nil _ _ _ _ _ | exact Kd.Q_nil _ _ _ _ _ | exact Kd.S_nil _ _ _ _ _⟩, ⟨by (with_reducible repeat (first | refine blk_drewN ?_ _ | refine blk_drew ?_ | refine blk_alloc ?_ _)); refine blk_far ?_ NB137_139.out _; (with_reducible repeat (first | refine blk_drewN ?_ _ | refine blk_drew ?_ | refine blk_alloc ?_ _)); refine blk_far ?_ NB137_139.out _; (with_reducible repeat (first | refine blk_drewN ?_ _ | refine blk_drew ?_ | refine blk_alloc ?_ _)); refine blk_far ?_ NB137_139.out _; (with_reducible repeat (first | refine blk_drewN ?_ _ | refine blk_drew ?_ | refine blk_alloc ?_ _)); exact BK137.out⟩, ⟨by (with_reducible repeat (first | refine blk_drewN ?_ _ | refine blk_drew ?_ | refine blk_alloc ?_ _)); refine blk_far ?_ NB138_139.out _; (with_reducible repeat (first | refine blk_drewN ?_ _ | refine blk_drew ?_ | refine blk_alloc ?_ _)); refine blk_far ?_ NB138_139.out _; (with_reducible repeat (first | refine blk_drewN ?_ _ | refine blk_drew ?_ | refine blk_alloc ?_ _)); refine blk_far ?_ NB138_139.out _; (with_reducible repeat (first | refine blk_drewN ?_ _ | refine blk_drew ?_ | refine blk_alloc ?_ _)); exact BK138.out⟩, ⟨by (with_reducible repeat (first | refine blk_drewN ?_ _ | refine blk_drew ?_ | refine blk_alloc ?_ _)); refine blk_put (cs := #[.bool true, .int .i64 0, .slice none 0 0]) ?_ 2 _ rfl; (with_reducible repeat (first | refine blk_drewN ?_ _ | refine blk_drew ?_ | refine blk_alloc ?_ _)); refine blk_put (cs := #[.bool true, .int .i64 0, .slice none 0 0]) ?_ 1 _ rfl; (with_reducible repeat (first | refine blk_drewN ?_ _ | refine blk_drew ?_ | refine blk_alloc ?_ _)); refine blk_put (cs := #[.bool false, .int .i64 0, .slice none 0 0]) ?_ 0 _ rfl; (with_reducible repeat (first | refine blk_drewN ?_ _ | refine blk_drew ?_ | refine blk_alloc ?_ _)); exact BK139.out⟩, ⟨by repeat (first | (with_reducible first | exact HB.out | apply Fr.alloc | apply Fr.drewN | apply Fr.drew | refine Fr.set ?_ GE137.out (t := 63) (by repeat (first | exact Ty.of BK137.out | apply Ty.set | apply Ty.alloc | apply Ty.drewN | apply Ty.drew)) rfl | refine Fr.set ?_ GE138.out (t := 27) (by repeat (first | exact Ty.of BK138.out | apply Ty.set | apply Ty.alloc | apply Ty.drewN | apply Ty.drew)) rfl | refine Fr.set ?_ GE139.out (t := 27) (by repeat (first | exact Ty.of BK139.out | apply Ty.set | apply Ty.alloc | apply Ty.drewN | apply Ty.drew)) rfl) | exact HB.out)⟩⟩
    case round =>
     clear H'
     try clear c1
     try clear c2
     try clear p2
     try clear c3
     try clear c3b0
     try clear c3b1
     try clear p6
     try clear c7
     try clear c8
     try clear c10
     try clear c12
     try clear c13
     try clear c13b0
     try clear c13b1
     try clear c18
     try clear c19
     try clear c21
     try clear c29
     try clear c29b0
     try clear c29b1
     try clear c33
     try clear c34
     try clear c36
     try clear hcz11_0
     try clear hcz11_1
     try clear hcz11_2
     try clear hcz11_3
     try clear hcz12_0
     try clear hcz12_1
     try clear hcz12_2
     try clear hcz20_0
     try clear hcz20_1
     try clear hcz20_2
     try clear hcz22_0
     try clear hcz22_1
     try clear hcz22_2
     try clear hcz22_3
     try clear hcz35_0
     try clear hcz35_1
     try clear hcz35_2
     try clear hcz37_0
     try clear hcz37_1
     try clear hcz37_2
     try clear hcz37_3
     try clear hcz9_0
     try clear hcz9_1
     try clear hcz9_2
     try clear hfz11_0
     try clear hfz11_1
     try clear hfz11_2
     try clear hfz11_3
     try clear hfz12_0
     try clear hfz12_1
     try clear hfz12_2
     try clear hfz20_0
     try clear hfz20_1
     try clear hfz20_2
     try clear hfz22_0
     try clear hfz22_1
     try clear hfz22_2
     try clear hfz22_3
     try clear hfz35_0
     try clear hfz35_1
     try clear hfz35_2
     try clear hfz37_0
     try clear hfz37_1
     try clear hfz37_2
     try clear hfz37_3
     try clear hfz9_0
     try clear hfz9_1
     try clear hfz9_2
     obtain ⟨st_1, x34_1, x140002_1, u140002, rfl, HA, HK1, HO_140002, BK137, BK138, BK139, HB⟩ := hrel
     cases gk with
     | zero => exact absurd HA.out (by simp [gen_made.l0])
     | succ k1 =>
      have H := HA.out
      clear HA
      simp only [gen_made.l0] at H
      by_cases c38 : x34_1 < (l1_3.length : Int)
      ·rw [if_pos c38] at H
       have c38b0 : decide (x34_1 < (l1_3.length : Int)) = true := decide_eq_true c38
       clear c38
       by_cases c39 : 0 ≤ x34_1
       ·rw [if_pos c39] at H
        have c39b0 : decide (0 ≤ x34_1) = true := decide_eq_true c39
        clear c39
        by_cases c40 : x34_1 < (l1_3.length : Int)
        ·rw [if_pos c40] at H
         have c40b0 : decide (x34_1 < (l1_3.length : Int)) = true := decide_eq_true c40
         clear c40
         replace H := obind_ok H
         obtain ⟨⟨⟨t143, t144, t145⟩, st143⟩, A410, H⟩ := H
         try dsimp only at H
         have A41 := Aside0.mk A410
         clear A410
         by_cases c42 : x140002_1.length < 3518437208883
         ·rw [if_pos c42] at H
          have LMc42 := Aside0.mk c42
          clear c42
          obtain ⟨y148, hy148⟩ : ∃ y_ : List (S27), y_ = (x140002_1 ++ [(⟨t143, t144, t145⟩ : S27)]) := ⟨_, rfl⟩
          rw [← hy148] at H
          have Ny148 := Aside0.mk hy148
          clear hy148
          have H' := Aside0.mk H
          clear H
          have p141 : 0 ≤ (x34_1 : Int) := of_decide_eq_true (by first | (with_reducible assumption) | assumption)
          have q141 : x34_1 < (l1_3.length : Int) := of_decide_eq_true (by first | (with_reducible assumption) | assumption)
          obtain ⟨ad141, A141_3, c141_3, e141, hx141_0, hx141_1, hx141_2, hx141_3, hl141_3, hi141_3⟩ := at_T63 HR1_3.out x34_1 p141 q141
          cases e141
          replace hx141_0 := (HB.out.b.cell (World.block_lt_of_cell? w0 _ hx141_0)).trans hx141_0
          replace hx141_1 := (HB.out.b.cell (World.block_lt_of_cell? w0 _ hx141_1)).trans hx141_1
          replace hx141_2 := (HB.out.b.cell (World.block_lt_of_cell? w0 _ hx141_2)).trans hx141_2
          replace hx141_3 := (HB.out.b.cell (World.block_lt_of_cell? w0 _ hx141_3)).trans hx141_3
          have HR141_3 := Aside0.mk hi141_3
          have HC141_3 := Aside0.mk hl141_3
          clear hi141_3 hl141_3
          replace p141 := eq_true p141
          replace q141 := eq_true q141
          try go_wp2_with (first | ((with_reducible refine gate_dst (N := 7) rfl ?_); refine box_event ?hg (N := 7) ?hd (cs := #[.int .i64 0, .int .i64 0, .int .i64 0, .slice none 0 0]) (t := 63) ?hr ?_; (case hd => rfl); (case hg => rfl); (case hr => first | (go_simp; done) | (go_simp; rfl)); intro gb142 hg w43 hbox hb; have n0_ := Aside0.mk (Kd.R_below (by (with_reducible repeat (first | apply Kd.R_alloc | apply Kd.R_drewN | apply Kd.R_drew)); exact HO_140002.out) hb); have n1_ := Aside0.mk (blk_below (g := gb137) (o := .cells #[.int .i64 a1_0, .int .i64 a1_1, .int .i64 a1_2, .slice (some ad141) l1_3.length c1_3] 63 (0, 0)) (by (with_reducible repeat (first | refine blk_drewN ?_ _ | refine blk_drew ?_ | refine blk_alloc ?_ _)); exact BK137.out) hb); have n2_ := Aside0.mk (blk_below (g := gb138) (o := .cells #[.bool false, .int .i64 0, .slice none 0 0] 27 (0, 0)) (by (with_reducible repeat (first | refine blk_drewN ?_ _ | refine blk_drew ?_ | refine blk_alloc ?_ _)); exact BK138.out) hb); have n3_ := Aside0.mk (blk_below (g := gb139) (o := .cells #[.bool true, .int .i64 0, u140002] 27 (0, 0)) (by (with_reducible repeat (first | refine blk_drewN ?_ _ | refine blk_drew ?_ | refine blk_alloc ?_ _)); exact BK139.out) hb); have n4_ := Aside0.mk (Fr.step (w := w) (st := st_1) (by repeat (first | (with_reducible first | exact HB.out | apply Fr.alloc | apply Fr.drewN | apply Fr.drew | refine Fr.set ?_ GE137.out (t := 63) (by repeat (first | exact Ty.of BK137.out | apply Ty.set | apply Ty.alloc | apply Ty.drewN | apply Ty.drew)) rfl | refine Fr.set ?_ GE138.out (t := 27) (by repeat (first | exact Ty.of BK138.out | apply Ty.set | apply Ty.alloc | apply Ty.drewN | apply Ty.drew)) rfl | refine Fr.set ?_ GE139.out (t := 27) (by repeat (first | exact Ty.of BK139.out | apply Ty.set | apply Ty.alloc | apply Ty.drewN | apply Ty.drew)) rfl) | exact HB.out)) hb); have n5_ := Aside0.mk (hbox); have n6_ := Aside0.mk ((by rw [hg]; exact (Fr.size (w := w) (st := st_1) (by repeat (first | (with_reducible first | exact HB.out | apply Fr.alloc | apply Fr.drewN | apply Fr.drew | refine Fr.set ?_ GE137.out (t := 63) (by repeat (first | exact Ty.of BK137.out | apply Ty.set | apply Ty.alloc | apply Ty.drewN | apply Ty.drew)) rfl | refine Fr.set ?_ GE138.out (t := 27) (by repeat (first | exact Ty.of BK138.out | apply Ty.set | apply Ty.alloc | apply Ty.drewN | apply Ty.drew)) rfl | refine Fr.set ?_ GE139.out (t := 27) (by repeat (first | exact Ty.of BK139.out | apply Ty.set | apply Ty.alloc | apply Ty.drewN | apply Ty.drew)) rfl) | exact HB.out))) : w.heap.size ≤ gb142)); have n7_ := Aside0.mk ((by rw [hg]; exact (Fr.size (w := w) (st := st_1) (by repeat (first | (with_reducible first | exact HB.out | apply Fr.alloc | apply Fr.drewN | apply Fr.drew | refine Fr.set ?_ GE137.out (t := 63) (by repeat (first | exact Ty.of BK137.out | apply Ty.set | apply Ty.alloc | apply Ty.drewN | apply Ty.drew)) rfl | refine Fr.set ?_ GE138.out (t := 27) (by repeat (first | exact Ty.of BK138.out | apply Ty.set | apply Ty.alloc | apply Ty.drewN | apply Ty.drew)) rfl | refine Fr.set ?_ GE139.out (t := 27) (by repeat (first | exact Ty.of BK139.out | apply Ty.set | apply Ty.alloc | apply Ty.drewN | apply Ty.drew)) rfl) | exact HB.out))) : w.heap.size ≤ gb142)); have n8_ := Aside0.mk ((by rw [hg]; exact Nat.ne_of_lt (blk_lt (g := gb137) (o := .cells #[.int .i64 a1_0, .int .i64 a1_1, .int .i64 a1_2, .slice (some ad141) l1_3.length c1_3] 63 (0, 0)) (by (with_reducible repeat (first | refine blk_drewN ?_ _ | refine blk_drew ?_ | refine blk_alloc ?_ _)); exact BK137.out)) : gb137 ≠ gb142)); have n9_ := Aside0.mk ((by rw [hg]; exact Nat.ne_of_gt (blk_lt (g := gb137) (o := .cells #[.int .i64 a1_0, .int .i64 a1_1, .int .i64 a1_2, .slice (some ad141) l1_3.length c1_3] 63 (0, 0)) (by (with_reducible repeat (first | refine blk_drewN ?_ _ | refine blk_drew ?_ | refine blk_alloc ?_ _)); exact BK137.out)) : gb142 ≠ gb137)); have n10_ := Aside0.mk ((by rw [hg]; exact Nat.ne_of_lt (blk_lt (g := gb138) (o := .cells #[.bool false, .int .i64 0, .slice none 0 0] 27 (0, 0)) (by (with_reducible repeat (first | refine blk_drewN ?_ _ | refine blk_drew ?_ | refine blk_alloc ?_ _)); exact BK138.out)) : gb138 ≠ gb142)); have n11_ := Aside0.mk ((by rw [hg]; exact Nat.ne_of_gt (blk_lt (g := gb138) (o := .cells #[.bool false, .int .i64 0, .slice none 0 0] 27 (0, 0)) (by (with_reducible repeat (first | refine blk_drewN ?_ _ | refine blk_drew ?_ | refine blk_alloc ?_ _)); exact BK138.out)) : gb142 ≠ gb138)); have n12_ := Aside0.mk ((by rw [hg]; exact Nat.ne_of_lt (blk_lt (g := gb139) (o := .cells #[.bool true, .int .i64 0, u140002] 27 (0, 0)) (by (with_reducible repeat (first | refine blk_drewN ?_ _ | refine blk_drew ?_ | refine blk_alloc ?_ _)); exact BK139.out)) : gb139 ≠ gb142)); have n13_ := Aside0.mk ((by rw [hg]; exact Nat.ne_of_gt (blk_lt (g := gb139) (o := .cells #[.bool true, .int .i64 0, u140002] 27 (0, 0)) (by (with_reducible repeat (first | refine blk_drewN ?_ _ | refine blk_drew ?_ | refine blk_alloc ?_ _)); exact BK139.out)) : gb142 ≠ gb139)); clear HO_140002; clear BK137; clear BK138; clear BK139; clear HB; have HO_140002 := n0_; have BK137 := n1_; have BK138 := n2_; have BK139 := n3_; have HB := n4_; have BK142 := n5_; have GW142 := n6_; have GE142 := n7_; have NB137_142 := n8_; have NB142_137 := n9_; have NB138_142 := n10_; have NB142_138 := n11_; have NB139_142 := n12_; have NB142_139 := n13_; clear n0_ n1_ n2_ n3_ n4_ n5_ n6_ n7_ n8_ n9_ n10_ n11_ n12_ n13_; clear hb hbox hg; have hnb44 := NB142_137.out; have hnc44 := NB137_142.out; have hnb45 := NB142_138.out; have hnc45 := NB138_142.out; have hnb46 := NB142_139.out; have hnc46 := NB139_142.out; have hcz47_0 : w43.cell? ⟨gb142, 0, none⟩ = some (.int .i64 0) := (blk_cell BK142.out 0).trans rfl; have hcz47_1 : w43.cell? ⟨gb142, 1, none⟩ = some (.int .i64 0) := (blk_cell BK142.out 1).trans rfl; have hcz47_2 : w43.cell? ⟨gb142, 2, none⟩ = some (.int .i64 0) := (blk_cell BK142.out 2).trans rfl; have hcz47_3 : w43.cell? ⟨gb142, 3, none⟩ = some (.slice none 0 0) := (blk_cell BK142.out 3).trans rfl; have hfz47_0 := blk_frozen BK142.out 0; have hfz47_1 := blk_frozen BK142.out 1; have hfz47_2 := blk_frozen BK142.out 2; have hfz47_3 := blk_frozen BK142.out 3))
          have n0_ : Aside0 (Kd.R k27 27 ((((w43.setCell ⟨gb142, 0, none⟩ (.int .i64 ((rd_T63 l1_3 x34_1).f0))).setCell ⟨gb142, 1, none⟩ (.int .i64 ((rd_T63 l1_3 x34_1).f1))).setCell ⟨gb142, 2, none⟩ (.int .i64 ((rd_T63 l1_3 x34_1).f2))).setCell ⟨gb142, 3, none⟩ (.slice A141_3 ((rd_T63 l1_3 x34_1).f3).length c141_3)) w.heap.size (fun k_ => k_ ≠ gb138 ∧ k_ ≠ gb139) u140002 x140002_1) := ⟨by (with_reducible repeat (first | apply Kd.R_alloc | apply Kd.R_drewN | apply Kd.R_drew)); exact Kd.R_mono (Kd.R_far (p := ⟨gb142, 3, none⟩) (Kd.R_far (p := ⟨gb142, 2, none⟩) (Kd.R_far (p := ⟨gb142, 1, none⟩) (Kd.R_far (p := ⟨gb142, 0, none⟩) (Kd.R_types HO_140002.out BK142.out (by decide)) (fun _ hk => hk.2) (.int .i64 ((rd_T63 l1_3 x34_1).f0))) (fun _ hk => hk.2) (.int .i64 ((rd_T63 l1_3 x34_1).f1))) (fun _ hk => hk.2) (.int .i64 ((rd_T63 l1_3 x34_1).f2))) (fun _ hk => hk.2) (.slice A141_3 ((rd_T63 l1_3 x34_1).f3).length c141_3)) (fun _ hk => ⟨hk.1.1, hk.1.2⟩)⟩
          have n1_ : Aside0 (((((w43.setCell ⟨gb142, 0, none⟩ (.int .i64 ((rd_T63 l1_3 x34_1).f0))).setCell ⟨gb142, 1, none⟩ (.int .i64 ((rd_T63 l1_3 x34_1).f1))).setCell ⟨gb142, 2, none⟩ (.int .i64 ((rd_T63 l1_3 x34_1).f2))).setCell ⟨gb142, 3, none⟩ (.slice A141_3 ((rd_T63 l1_3 x34_1).f3).length c141_3)).heap[gb137]? = some (.cells #[.int .i64 a1_0, .int .i64 a1_1, .int .i64 a1_2, .slice (some ad141) l1_3.length c1_3] 63 (0, 0))) := ⟨by (with_reducible repeat (first | refine blk_drewN ?_ _ | refine blk_drew ?_ | refine blk_alloc ?_ _)); refine blk_far ?_ NB137_142.out _; (with_reducible repeat (first | refine blk_drewN ?_ _ | refine blk_drew ?_ | refine blk_alloc ?_ _)); refine blk_far ?_ NB137_142.out _; (with_reducible repeat (first | refine blk_drewN ?_ _ | refine blk_drew ?_ | refine blk_alloc ?_ _)); refine blk_far ?_ NB137_142.out _; (with_reducible repeat (first | refine blk_drewN ?_ _ | refine blk_drew ?_ | refine blk_alloc ?_ _)); refine blk_far ?_ NB137_142.out _; (with_reducible repeat (first | refine blk_drewN ?_ _ | refine blk_drew ?_ | refine blk_alloc ?_ _)); exact BK137.out⟩
          have n2_ : Aside0 (((((w43.setCell ⟨gb142, 0, none⟩ (.int .i64 ((rd_T63 l1_3 x34_1).f0))).setCell ⟨gb142, 1, none⟩ (.int .i64 ((rd_T63 l1_3 x34_1).f1))).setCell ⟨gb142, 2, none⟩ (.int .i64 ((rd_T63 l1_3 x34_1).f2))).setCell ⟨gb142, 3, none⟩ (.slice A141_3 ((rd_T63 l1_3 x34_1).f3).length c141_3)).heap[gb138]? = some (.cells #[.bool false, .int .i64 0, .slice none 0 0] 27 (0, 0))) := ⟨by (with_reducible repeat (first | refine blk_drewN ?_ _ | refine blk_drew ?_ | refine blk_alloc ?_ _)); refine blk_far ?_ NB138_142.out _; (with_reducible repeat (first | refine blk_drewN ?_ _ | refine blk_drew ?_ | refine blk_alloc ?_ _)); refine blk_far ?_ NB138_142.out _; (with_reducible repeat (first | refine blk_drewN ?_ _ | refine blk_drew ?_ | refine blk_alloc ?_ _)); refine blk_far ?_ NB138_142.out _; (with_reducible repeat (first | refine blk_drewN ?_ _ | refine blk_drew ?_ | refine blk_alloc ?_ _)); refine blk_far ?_ NB138_142.out _; (with_reducible repeat (first | refine blk_drewN ?_ _ | refine blk_drew ?_ | refine blk_alloc ?_ _)); exact BK138.out⟩
          have n3_ : Aside0 (((((w43.setCell ⟨gb142, 0, none⟩ (.int .i64 ((rd_T63 l1_3 x34_1).f0))).setCell ⟨gb142, 1, none⟩ (.int .i64 ((rd_T63 l1_3 x34_1).f1))).setCell ⟨gb142, 2, none⟩ (.int .i64 ((rd_T63 l1_3 x34_1).f2))).setCell ⟨gb142, 3, none⟩ (.slice A141_3 ((rd_T63 l1_3 x34_1).f3).length c141_3)).heap[gb139]? = some (.cells #[.bool true, .int .i64 0, u140002] 27 (0, 0))) := ⟨by (with_reducible repeat (first | refine blk_drewN ?_ _ | refine blk_drew ?_ | refine blk_alloc ?_ _)); refine blk_far ?_ NB139_142.out _; (with_reducible repeat (first | refine blk_drewN ?_ _ | refine blk_drew ?_ | refine blk_alloc ?_ _)); refine blk_far ?_ NB139_142.out _; (with_reducible repeat (first | refine blk_drewN ?_ _ | refine blk_drew ?_ | refine blk_alloc ?_ _)); refine blk_far ?_ NB139_142.out _; (with_reducible repeat (first | refine blk_drewN ?_ _ | refine blk_drew ?_ | refine blk_alloc ?_ _)); refine blk_far ?_ NB139_142.out _; (with_reducible repeat (first | refine blk_drewN ?_ _ | refine blk_drew ?_ | refine blk_alloc ?_ _)); exact BK139.out⟩
          have n4_ : Aside0 (((((w43.setCell ⟨gb142, 0, none⟩ (.int .i64 ((rd_T63 l1_3 x34_1).f0))).setCell ⟨gb142, 1, none⟩ (.int .i64 ((rd_T63 l1_3 x34_1).f1))).setCell ⟨gb142, 2, none⟩ (.int .i64 ((rd_T63 l1_3 x34_1).f2))).setCell ⟨gb142, 3, none⟩ (.slice A141_3 ((rd_T63 l1_3 x34_1).f3).length c141_3)).heap[gb142]? = some (.cells #[.int .i64 ((rd_T63 l1_3 x34_1).f0), .int .i64 ((rd_T63 l1_3 x34_1).f1), .int .i64 ((rd_T63 l1_3 x34_1).f2), .slice A141_3 ((rd_T63 l1_3 x34_1).f3).length c141_3] 63 (0, 0))) := ⟨by (with_reducible repeat (first | refine blk_drewN ?_ _ | refine blk_drew ?_ | refine blk_alloc ?_ _)); refine blk_put (cs := #[.int .i64 ((rd_T63 l1_3 x34_1).f0), .int .i64 ((rd_T63 l1_3 x34_1).f1), .int .i64 ((rd_T63 l1_3 x34_1).f2), .slice none 0 0]) ?_ 3 _ rfl; (with_reducible repeat (first | refine blk_drewN ?_ _ | refine blk_drew ?_ | refine blk_alloc ?_ _)); refine blk_put (cs := #[.int .i64 ((rd_T63 l1_3 x34_1).f0), .int .i64 ((rd_T63 l1_3 x34_1).f1), .int .i64 0, .slice none 0 0]) ?_ 2 _ rfl; (with_reducible repeat (first | refine blk_drewN ?_ _ | refine blk_drew ?_ | refine blk_alloc ?_ _)); refine blk_put (cs := #[.int .i64 ((rd_T63 l1_3 x34_1).f0), .int .i64 0, .int .i64 0, .slice none 0 0]) ?_ 1 _ rfl; (with_reducible repeat (first | refine blk_drewN ?_ _ | refine blk_drew ?_ | refine blk_alloc ?_ _)); refine blk_put (cs := #[.int .i64 0, .int .i64 0, .int .i64 0, .slice none 0 0]) ?_ 0 _ rfl; (with_reducible repeat (first | refine blk_drewN ?_ _ | refine blk_drew ?_ | refine blk_alloc ?_ _)); exact BK142.out⟩
          have n5_ : Aside0 (Fr S w0 w st_1 ((((w43.setCell ⟨gb142, 0, none⟩ (.int .i64 ((rd_T63 l1_3 x34_1).f0))).setCell ⟨gb142, 1, none⟩ (.int .i64 ((rd_T63 l1_3 x34_1).f1))).setCell ⟨gb142, 2, none⟩ (.int .i64 ((rd_T63 l1_3 x34_1).f2))).setCell ⟨gb142, 3, none⟩ (.slice A141_3 ((rd_T63 l1_3 x34_1).f3).length c141_3))) := ⟨by repeat (first | (with_reducible first | exact HB.out | apply Fr.alloc | apply Fr.drewN | apply Fr.drew | refine Fr.set ?_ GE137.out (t := 63) (by repeat (first | exact Ty.of BK137.out | apply Ty.set | apply Ty.alloc | apply Ty.drewN | apply Ty.drew)) rfl | refine Fr.set ?_ GE138.out (t := 27) (by repeat (first | exact Ty.of BK138.out | apply Ty.set | apply Ty.alloc | apply Ty.drewN | apply Ty.drew)) rfl | refine Fr.set ?_ GE139.out (t := 27) (by repeat (first | exact Ty.of BK139.out | apply Ty.set | apply Ty.alloc | apply Ty.drewN | apply Ty.drew)) rfl | refine Fr.set ?_ GE142.out (t := 63) (by repeat (first | exact Ty.of BK142.out | apply Ty.set | apply Ty.alloc | apply Ty.drewN | apply Ty.drew)) rfl) | exact HB.out)⟩
          (try clear HO_140002)
          (try clear BK137)
          (try clear BK138)
          (try clear BK139)
          (try clear BK142)
          (try clear HB)
          generalize ((((w43.setCell ⟨gb142, 0, none⟩ (.int .i64 ((rd_T63 l1_3 x34_1).f0))).setCell ⟨gb142, 1, none⟩ (.int .i64 ((rd_T63 l1_3 x34_1).f1))).setCell ⟨gb142, 2, none⟩ (.int .i64 ((rd_T63 l1_3 x34_1).f2))).setCell ⟨gb142, 3, none⟩ (.slice A141_3 ((rd_T63 l1_3 x34_1).f3).length c141_3)) = w48 at n0_ n1_ n2_ n3_ n4_ n5_ ⊢
          have HO_140002 := n0_
          have BK137 := n1_
          have BK138 := n2_
          have BK139 := n3_
          have BK142 := n4_
          have HB := n5_
          clear n0_ n1_ n2_ n3_ n4_ n5_
          have n0_ := Aside0.mk (Kd.R_drew HO_140002.out)
          have n1_ := Aside0.mk (blk_drew BK137.out)
          have n2_ := Aside0.mk (blk_drew BK138.out)
          have n3_ := Aside0.mk (blk_drew BK139.out)
          have n4_ := Aside0.mk (blk_drew BK142.out)
          have n5_ := Aside0.mk (Fr.drew HB.out)
          clear HO_140002
          clear BK137
          clear BK138
          clear BK139
          clear BK142
          clear HB
          have HO_140002 := n0_
          have BK137 := n1_
          have BK138 := n2_
          have BK139 := n3_
          have BK142 := n4_
          have HB := n5_
          clear n0_ n1_ n2_ n3_ n4_ n5_
          refine start_ (n := 9) (S := fun w' => w'.cell? ⟨gb139, 0, none⟩ = some (.bool true) ∧ w'.cell? ⟨gb139, 1, none⟩ = some (.int .i64 0) ∧ w'.cell? ⟨gb139, 2, none⟩ = some (u140002) ∧ w'.cell? ⟨gb142, 0, none⟩ = some (.int .i64 ((rd_T63 l1_3 x34_1).f0)) ∧ w'.cell? ⟨gb142, 1, none⟩ = some (.int .i64 ((rd_T63 l1_3 x34_1).f1)) ∧ w'.cell? ⟨gb142, 2, none⟩ = some (.int .i64 ((rd_T63 l1_3 x34_1).f2)) ∧ w'.cell? ⟨gb142, 3, none⟩ = some (.slice A141_3 ((rd_T63 l1_3 x34_1).f3).length c141_3)) (ds := [8]) #[false, false, false, false, false, false, false, false, false] (by kernel_rfl) rfl rfl ⟨(blk_cell BK139.out 0).trans rfl, (blk_cell BK139.out 1).trans rfl, (blk_cell BK139.out 2).trans rfl, (blk_cell BK142.out 0).trans rfl, (blk_cell BK142.out 1).trans rfl, (blk_cell BK142.out 2).trans rfl, (blk_cell BK142.out 3).trans rfl⟩ (fun hHeld => ?_); refine with_tabW gen_made.tab11 gen_made.bits11 (fun HT_ HW_ => ?_)
          generalize w48.drew = w49 at HO_140002 BK137 BK138 BK139 BK142 HB hHeld ⊢
          refine pure_ (i := 0) (N := some 38) (v := ?_) (a' := ?_) #[true, false, false, false, false, false, false, false, false] rfl rfl (any_of HT_.out (by kernel_rfl)) (fun _ _ _ h => h) (Or.inl ⟨by rfl, ?_⟩) ?_ ?_
          rotate_left
          ·intro w'
           go_simp
           with_reducible rfl
          rotate_left
          ·simp only [Act.put, List.setIfInBounds_toArray, List.set_cons_zero, List.set_cons_succ, i64_w, i32_w]
           rfl
          refine pure_ (i := 2) (N := some 40) (v := ?_) (a' := ?_) #[true, false, true, false, false, false, false, false, false] rfl rfl (any_of HT_.out (by kernel_rfl)) (fun _ _ _ h => h) (Or.inl ⟨by rfl, ?_⟩) ?_ ?_
          rotate_left
          ·intro w'
           go_simp
           with_reducible rfl
          rotate_left
          ·simp only [Act.put, List.setIfInBounds_toArray, List.set_cons_zero, List.set_cons_succ, i64_w, i32_w]
           rfl
          refine take_ (i := 1) (N := some 39) (v := ?_) (a' := ?_) #[true, true, true, false, false, false, false, false, false] rfl rfl (take_ofW HT_.out HW_.out (by kernel_rfl)) (fun _ _ _ h => h) (Or.inl ⟨by rfl, ?_⟩) hHeld ?_ ?_
          rotate_left
          ·rintro w' ⟨s0, s1, s2, s3, s4, s5, s6⟩
           go_simp
           with_reducible rfl
          rotate_left
          ·simp only [Act.put, List.setIfInBounds_toArray, List.set_cons_zero, List.set_cons_succ, i64_w, i32_w]
           rfl
          refine take_ (i := 3) (N := some 41) (v := ?_) (a' := ?_) #[true, true, true, true, false, false, false, false, false] rfl rfl (take_ofW HT_.out HW_.out (by kernel_rfl)) (fun _ _ _ h => h) (Or.inl ⟨by rfl, ?_⟩) hHeld ?_ ?_
          rotate_left
          ·rintro w' ⟨s0, s1, s2, s3, s4, s5, s6⟩
           go_simp
           with_reducible rfl
          rotate_left
          ·simp only [Act.put, List.setIfInBounds_toArray, List.set_cons_zero, List.set_cons_succ, i64_w, i32_w]
           rfl
          refine one_ (i := 4) (N := some 42) #[true, true, true, true, true, false, false, false, false] rfl rfl (one_of HT_.out (by kernel_rfl)) (by decide) (fun K hK => ?_)
          refine goes_ Tryd.func86 (by kernel_rfl) rfl #[.func (.func F) #[] caps, .agg #[.int .i64 ((rd_T63 l1_3 x34_1).f0), .int .i64 ((rd_T63 l1_3 x34_1).f1), .int .i64 ((rd_T63 l1_3 x34_1).f2), .slice A141_3 ((rd_T63 l1_3 x34_1).f3).length c141_3]] (by rfl) rfl rfl (by (try simp only [List.map_toArray, List.map_cons, List.map_nil]); first | done | rfl | (simp only [List.length_drop, List.length_take]; rfl)) ?_
          with_reducible refine (ih k1 (by have := HK1.out; omega) _ ((rd_T63 l1_3 x34_1).f0) ((rd_T63 l1_3 x34_1).f1) ((rd_T63 l1_3 x34_1).f2) _ _ ((rd_T63 l1_3 x34_1).f3) t143 t144 t145 st143 _ ?side0 ?side1 ?side2 A41.out).mono ?_
          (case side0 => exact Fr.here HB.out)
          (case side1 => exact HR141_3.out)
          (case side2 => exact HC141_3.out)
          rintro e w50 ⟨v146, rfl, ho0, hb⟩
          refine ⟨_, rfl, ?_⟩
          have n0_ := Aside0.mk (Fr.R_elder (by (with_reducible repeat (first | apply Kd.R_alloc | apply Kd.R_drewN | apply Kd.R_drew)); exact HO_140002.out) hE27 (Kd.R_base ho0) hb)
          have n1_ := Aside0.mk (Kd.R_lower (Kd.R_newB (Kd.R_newB (Kd.R_new' ho0 (Kd.R_lt (by (with_reducible repeat (first | apply Kd.R_alloc | apply Kd.R_drewN | apply Kd.R_drew)); exact HO_140002.out))) (g := gb138) (o := .cells #[.bool false, .int .i64 0, .slice none 0 0] 27 (0, 0)) (by (with_reducible repeat (first | refine blk_drewN ?_ _ | refine blk_drew ?_ | refine blk_alloc ?_ _)); exact BK138.out)) (g := gb139) (o := .cells #[.bool true, .int .i64 0, u140002] 27 (0, 0)) (by (with_reducible repeat (first | refine blk_drewN ?_ _ | refine blk_drew ?_ | refine blk_alloc ?_ _)); exact BK139.out)) (Fr.size (w := w) (st := st_1) (by repeat (first | (with_reducible first | exact HB.out | apply Fr.alloc | apply Fr.drewN | apply Fr.drew | refine Fr.set ?_ GE137.out (t := 63) (by repeat (first | exact Ty.of BK137.out | apply Ty.set | apply Ty.alloc | apply Ty.drewN | apply Ty.drew)) rfl | refine Fr.set ?_ GE138.out (t := 27) (by repeat (first | exact Ty.of BK138.out | apply Ty.set | apply Ty.alloc | apply Ty.drewN | apply Ty.drew)) rfl | refine Fr.set ?_ GE139.out (t := 27) (by repeat (first | exact Ty.of BK139.out | apply Ty.set | apply Ty.alloc | apply Ty.drewN | apply Ty.drew)) rfl | refine Fr.set ?_ GE142.out (t := 63) (by repeat (first | exact Ty.of BK142.out | apply Ty.set | apply Ty.alloc | apply Ty.drewN | apply Ty.drew)) rfl) | exact HB.out))))
          have n2_ := Aside0.mk (Fr.blk_ (g := gb137) (t := 63) (cs := #[.int .i64 a1_0, .int .i64 a1_1, .int .i64 a1_2, .slice (some ad141) l1_3.length c1_3]) (by (with_reducible repeat (first | refine blk_drewN ?_ _ | refine blk_drew ?_ | refine blk_alloc ?_ _)); exact BK137.out) hb rfl)
          have n3_ := Aside0.mk (Fr.blk_ (g := gb138) (t := 27) (cs := #[.bool false, .int .i64 0, .slice none 0 0]) (by (with_reducible repeat (first | refine blk_drewN ?_ _ | refine blk_drew ?_ | refine blk_alloc ?_ _)); exact BK138.out) hb rfl)
          have n4_ := Aside0.mk (Fr.blk_ (g := gb139) (t := 27) (cs := #[.bool true, .int .i64 0, u140002]) (by (with_reducible repeat (first | refine blk_drewN ?_ _ | refine blk_drew ?_ | refine blk_alloc ?_ _)); exact BK139.out) hb rfl)
          have n5_ := Aside0.mk (Fr.blk_ (g := gb142) (t := 63) (cs := #[.int .i64 ((rd_T63 l1_3 x34_1).f0), .int .i64 ((rd_T63 l1_3 x34_1).f1), .int .i64 ((rd_T63 l1_3 x34_1).f2), .slice A141_3 ((rd_T63 l1_3 x34_1).f3).length c141_3]) (by (with_reducible repeat (first | refine blk_drewN ?_ _ | refine blk_drew ?_ | refine blk_alloc ?_ _)); exact BK142.out) hb rfl)
          have n6_ := Aside0.mk (Fr.trans (w := w) (st := st_1) (by repeat (first | (with_reducible first | exact HB.out | apply Fr.alloc | apply Fr.drewN | apply Fr.drew | refine Fr.set ?_ GE137.out (t := 63) (by repeat (first | exact Ty.of BK137.out | apply Ty.set | apply Ty.alloc | apply Ty.drewN | apply Ty.drew)) rfl | refine Fr.set ?_ GE138.out (t := 27) (by repeat (first | exact Ty.of BK138.out | apply Ty.set | apply Ty.alloc | apply Ty.drewN | apply Ty.drew)) rfl | refine Fr.set ?_ GE139.out (t := 27) (by repeat (first | exact Ty.of BK139.out | apply Ty.set | apply Ty.alloc | apply Ty.drewN | apply Ty.drew)) rfl | refine Fr.set ?_ GE142.out (t := 63) (by repeat (first | exact Ty.of BK142.out | apply Ty.set | apply Ty.alloc | apply Ty.drewN | apply Ty.drew)) rfl) | exact HB.out)) hb)
          clear HO_140002
          clear BK137
          clear BK138
          clear BK139
          clear BK142
          clear HB
          have HO_140002 := n0_
          have HO147 := n1_
          have BK137 := n2_
          have BK138 := n3_
          have BK139 := n4_
          have BK142 := n5_
          have HB := n6_
          clear n0_ n1_ n2_ n3_ n4_ n5_ n6_
          (try clear hb)
          (try clear hb2)
          (try clear hk)
          (try clear hi)
          (try clear ho0)
          obtain ⟨Ao52, co52, eo52⟩ := Kd.R_slice HO147.out
          (first | subst eo52 | (injection eo52 with f1_ f2_ f3_; have f4_ := f1_.symm; have f5_ := f3_.symm; clear f1_ f2_ f3_; subst f4_; subst f5_))
          refine hK.out _ _ ⟨(blk_cell BK139.out 0).trans rfl, (blk_cell BK139.out 1).trans rfl, (blk_cell BK139.out 2).trans rfl, (blk_cell BK142.out 0).trans rfl, (blk_cell BK142.out 1).trans rfl, (blk_cell BK142.out 2).trans rfl, (blk_cell BK142.out 3).trans rfl⟩ (fun hHeld => ?_)
          clear hK K
          refine norm_ (a' := ?_) ?_ ?_
          rotate_left
          ·show Act.put _ (some 42) _ = _
           simp only [Act.put, List.setIfInBounds_toArray, List.set_cons_zero, List.set_cons_succ, i64_w, i32_w]
           rfl
          refine one_ (i := 5) (N := some 43) #[true, true, true, true, true, true, false, false, false] rfl rfl (one_of HT_.out (by kernel_rfl)) (by decide) (fun K hK => ?_)
          refine value_ (w1 := ?_) (v := ?_) (by rfl) rfl ?_ ?_
          rotate_left 2
          ·go_simp
           constructor
           ·rfl
           ·rfl
          refine hK.out _ _ ⟨(blk_cell (blk_alloc BK139.out _) 0).trans rfl, (blk_cell (blk_alloc BK139.out _) 1).trans rfl, (blk_cell (blk_alloc BK139.out _) 2).trans rfl, (blk_cell (blk_alloc BK142.out _) 0).trans rfl, (blk_cell (blk_alloc BK142.out _) 1).trans rfl, (blk_cell (blk_alloc BK142.out _) 2).trans rfl, (blk_cell (blk_alloc BK142.out _) 3).trans rfl⟩ (fun hHeld => ?_)
          clear hK K
          refine norm_ (a' := ?_) ?_ ?_
          rotate_left
          ·show Act.put _ (some 43) _ = _
           simp only [Act.put, List.setIfInBounds_toArray, List.set_cons_zero, List.set_cons_succ, i64_w, i32_w]
           rfl
          refine one_ (i := 6) (N := some 44) #[true, true, true, true, true, true, true, false, false] rfl rfl (one_of HT_.out (by kernel_rfl)) (by decide) (fun K hK => ?_)
          refine Kd.R_append_step k27 (w0 := w50) w.heap.size (by rfl) (.tmp 39) (.tmp 43) 25 27 (.agg #[(.bool false), (.int .i64 0), (.slice none 0 0)]) 40 rfl Tryd.underlying25 info27 rfl (by decide) (by omega) u140002 x140002_1 (⟨t143, t144, t145⟩ : S27) [.bool t143, .int .i64 t144, .slice Ao52 t145.length co52] (fun k_ => k_ ≠ gb138 ∧ k_ ≠ gb139) (fun k_ => ((fun k_ => k_ ≠ gb138 ∧ k_ ≠ gb139)) k_ ∧ some k_ ≠ (u140002 : Value).ownBlock) rfl rfl ?aP (fun _ hk => hk) ?aF ?aO ?aB ?aS ?aL ?_
          (case aP => exact k27_mkM _ _ _ (⟨t143, t144, t145⟩ : S27) (Kd.R_mono (HO147.out) (fun k_ hk => ⟨⟨hk.1.2, hk.2⟩, hk.1.1.2⟩)))
          (case aB => exact Below.refl _ _)
          (case aF => exact (fun k_ hk => ⟨Kd.freshB (g := gb138) (o := .cells #[.bool false, .int .i64 0, .slice none 0 0] 27 (0, 0)) (by (with_reducible repeat (first | refine blk_drewN ?_ _ | refine blk_drew ?_ | refine blk_alloc ?_ _)); exact BK138.out) k_ hk, Kd.freshB (g := gb139) (o := .cells #[.bool true, .int .i64 0, u140002] 27 (0, 0)) (by (with_reducible repeat (first | refine blk_drewN ?_ _ | refine blk_drew ?_ | refine blk_alloc ?_ _)); exact BK139.out) k_ hk⟩))
          (case aO => exact (by (with_reducible repeat (first | apply Kd.R_alloc | apply Kd.R_drewN | apply Kd.R_drew)); exact Kd.R_mono HO_140002.out (fun _ hk => ⟨hk.1.1, hk.1.2⟩)))
          (case aS => exact (Fr.size (w := w) (st := st143) (by repeat (first | (with_reducible first | exact HB.out | apply Fr.alloc | apply Fr.drewN | apply Fr.drew | refine Fr.set ?_ GE137.out (t := 63) (by repeat (first | exact Ty.of BK137.out | apply Ty.set | apply Ty.alloc | apply Ty.drewN | apply Ty.drew)) rfl | refine Fr.set ?_ GE138.out (t := 27) (by repeat (first | exact Ty.of BK138.out | apply Ty.set | apply Ty.alloc | apply Ty.drewN | apply Ty.drew)) rfl | refine Fr.set ?_ GE139.out (t := 27) (by repeat (first | exact Ty.of BK139.out | apply Ty.set | apply Ty.alloc | apply Ty.drewN | apply Ty.drew)) rfl | refine Fr.set ?_ GE142.out (t := 63) (by repeat (first | exact Ty.of BK142.out | apply Ty.set | apply Ty.alloc | apply Ty.drewN | apply Ty.drew)) rfl) | exact HB.out))))
          (case aL => have := LMc42.out; omega)
          intro v149 w51 ho hb hg hat
          rw [← Ny148.out] at ho
          have n0_ := Aside0.mk (blk_grown (g := gb137) (o := .cells #[.int .i64 a1_0, .int .i64 a1_1, .int .i64 a1_2, .slice (some ad141) l1_3.length c1_3] 63 (0, 0)) (by (with_reducible repeat (first | refine blk_drewN ?_ _ | refine blk_drew ?_ | refine blk_alloc ?_ _)); exact BK137.out) hg (Kd.R_ne HO_140002.out BK137.out (by decide)))
          have n1_ := Aside0.mk (blk_grown (g := gb138) (o := .cells #[.bool false, .int .i64 0, .slice none 0 0] 27 (0, 0)) (by (with_reducible repeat (first | refine blk_drewN ?_ _ | refine blk_drew ?_ | refine blk_alloc ?_ _)); exact BK138.out) hg (Kd.R_away HO_140002.out (fun _ hk => hk.1.1)))
          have n2_ := Aside0.mk (blk_grown (g := gb139) (o := .cells #[.bool true, .int .i64 0, u140002] 27 (0, 0)) (by (with_reducible repeat (first | refine blk_drewN ?_ _ | refine blk_drew ?_ | refine blk_alloc ?_ _)); exact BK139.out) hg (Kd.R_away HO_140002.out (fun _ hk => hk.1.2)))
          have n3_ := Aside0.mk (blk_grown (g := gb142) (o := .cells #[.int .i64 ((rd_T63 l1_3 x34_1).f0), .int .i64 ((rd_T63 l1_3 x34_1).f1), .int .i64 ((rd_T63 l1_3 x34_1).f2), .slice A141_3 ((rd_T63 l1_3 x34_1).f3).length c141_3] 63 (0, 0)) (by (with_reducible repeat (first | refine blk_drewN ?_ _ | refine blk_drew ?_ | refine blk_alloc ?_ _)); exact BK142.out) hg (Kd.R_ne HO_140002.out BK142.out (by decide)))
          have n4_ := Aside0.mk (Fr.grownR HB.out hg (HO_140002.out) rfl)
          have n5_ := Aside0.mk (ho)
          clear BK137
          clear BK138
          clear BK139
          clear BK142
          clear HB
          clear HO_140002
          clear HO147
          have BK137 := n0_
          have BK138 := n1_
          have BK139 := n2_
          have BK142 := n3_
          have HB := n4_
          have HO150 := n5_
          clear n0_ n1_ n2_ n3_ n4_ n5_
          clear ho hb hg hat
          obtain ⟨Ao53, co53, eo53⟩ := Kd.R_slice HO150.out
          (first | subst eo53 | (injection eo53 with f1_ f2_ f3_; have f4_ := f1_.symm; have f5_ := f3_.symm; clear f1_ f2_ f3_; subst f4_; subst f5_))
          refine hK.out _ _ ⟨(blk_cell BK139.out 0).trans rfl, (blk_cell BK139.out 1).trans rfl, (blk_cell BK139.out 2).trans rfl, (blk_cell BK142.out 0).trans rfl, (blk_cell BK142.out 1).trans rfl, (blk_cell BK142.out 2).trans rfl, (blk_cell BK142.out 3).trans rfl⟩ (fun hHeld => ?_)
          clear hK K
          refine norm_ (a' := ?_) ?_ ?_
          rotate_left
          ·show Act.put _ (some 44) _ = _
           simp only [Act.put, List.setIfInBounds_toArray, List.set_cons_zero, List.set_cons_succ, i64_w, i32_w]
           rfl
          refine pure_ (i := 7) (N := some 45) (v := ?_) (a' := ?_) #[true, true, true, true, true, true, true, true, false] rfl rfl (any_of HT_.out (by kernel_rfl)) (fun _ _ _ h => h) (Or.inl ⟨by rfl, ?_⟩) ?_ ?_
          rotate_left
          ·intro w'
           go_simp
           with_reducible rfl
          rotate_left
          ·simp only [Act.put, List.setIfInBounds_toArray, List.set_cons_zero, List.set_cons_succ, i64_w, i32_w]
           rfl
          refine last_ (i := 8) (N := none) #[true, true, true, true, true, true, true, true, true] rfl rfl (one_of HT_.out (by kernel_rfl)) (by decide) (fun K hK => ?_)
          have hs54 : w51.cell? ⟨gb139, 2, none⟩ = some (u140002) := (blk_cell BK139.out 2).trans rfl
          have hfs54 := blk_frozen BK139.out 2
          have hns54_0 := NB137_139.out
          have hns54_1 := NB138_139.out
          have hns54_3 := NB142_139.out
          have hms54_0 := NB139_137.out
          have hms54_1 := NB139_138.out
          have hms54_3 := NB139_142.out
          refine skip_ (w1 := ?_) (by rfl) rfl ?_ ?_
          rotate_left
          ·go_simp
           rfl
          refine hK.out _ _ ?_
          clear hK K
          refine done_ (done_of HT_.out (by kernel_rfl)) ?_
          try go_wp2
          go_roundg k1
          case measure => have := HK1.out; omega
          case rel => exact ⟨st143, (wrap64 (x34_1 + 1)), (y148), (.slice Ao53 y148.length co53), (by first | rfl | (simp; done) | (simp [*]; done)), H', ⟨by have := HK1.out; omega⟩, ⟨by (with_reducible repeat (first | apply Kd.R_alloc | apply Kd.R_drewN | apply Kd.R_drew)); exact Kd.R_mono (Kd.R_far (p := ⟨gb139, 2, none⟩) (Kd.R_mono HO150.out (fun k_ hk => (⟨hk, hk.2⟩ : _ ∧ k_ ≠ gb139))) (fun _ hk => hk.2) (.slice Ao53 y148.length co53)) (fun _ hk => ⟨hk.1.1, hk.1.2⟩)⟩, ⟨by (with_reducible repeat (first | refine blk_drewN ?_ _ | refine blk_drew ?_ | refine blk_alloc ?_ _)); refine blk_far ?_ NB137_139.out _; (with_reducible repeat (first | refine blk_drewN ?_ _ | refine blk_drew ?_ | refine blk_alloc ?_ _)); exact BK137.out⟩, ⟨by (with_reducible repeat (first | refine blk_drewN ?_ _ | refine blk_drew ?_ | refine blk_alloc ?_ _)); refine blk_far ?_ NB138_139.out _; (with_reducible repeat (first | refine blk_drewN ?_ _ | refine blk_drew ?_ | refine blk_alloc ?_ _)); exact BK138.out⟩, ⟨by (with_reducible repeat (first | refine blk_drewN ?_ _ | refine blk_drew ?_ | refine blk_alloc ?_ _)); refine blk_put (cs := #[.bool true, .int .i64 0, u140002]) ?_ 2 _ rfl; (with_reducible repeat (first | refine blk_drewN ?_ _ | refine blk_drew ?_ | refine blk_alloc ?_ _)); exact BK139.out⟩, ⟨by repeat (first | (with_reducible first | exact HB.out | apply Fr.alloc | apply Fr.drewN | apply Fr.drew | refine Fr.set ?_ GE137.out (t := 63) (by repeat (first | exact Ty.of BK137.out | apply Ty.set | apply Ty.alloc | apply Ty.drewN | apply Ty.drew)) rfl | refine Fr.set ?_ GE138.out (t := 27) (by repeat (first | exact Ty.of BK138.out | apply Ty.set | apply Ty.alloc | apply Ty.drewN | apply Ty.drew)) rfl | refine Fr.set ?_ GE139.out (t := 27) (by repeat (first | exact Ty.of BK139.out | apply Ty.set | apply Ty.alloc | apply Ty.drewN | apply Ty.drew)) rfl | refine Fr.set ?_ GE142.out (t := 63) (by repeat (first | exact Ty.of BK142.out | apply Ty.set | apply Ty.alloc | apply Ty.drewN | apply Ty.drew)) rfl) | exact HB.out)⟩⟩
         ·rw [if_neg c42] at H
          exact absurd H (by simp)
        ·rw [if_neg c40] at H
         exact absurd H (by simp)
       ·rw [if_neg c39] at H
        exact absurd H (by simp)
      ·rw [if_neg c38] at H
       have c38b0 : decide (x34_1 < (l1_3.length : Int)) = false := decide_eq_false c38
       clear c38
       simp only [Option.some.injEq, Except.ok.injEq, Prod.mk.injEq] at H
       obtain ⟨⟨rfl, rfl, rfl⟩, rfl⟩ := H
       have hnb55 := NB139_137.out
       have hnc55 := NB137_139.out
       have hnb56 := NB139_138.out
       have hnc56 := NB138_139.out
       have hcz57_0 : wr.cell? ⟨gb139, 0, none⟩ = some (.bool true) := (blk_cell BK139.out 0).trans rfl
       have hcz57_1 : wr.cell? ⟨gb139, 1, none⟩ = some (.int .i64 0) := (blk_cell BK139.out 1).trans rfl
       have hcz57_2 : wr.cell? ⟨gb139, 2, none⟩ = some (u140002) := (blk_cell BK139.out 2).trans rfl
       have hfz57_0 := blk_frozen BK139.out 0
       have hfz57_1 := blk_frozen BK139.out 1
       have hfz57_2 := blk_frozen BK139.out 2
       have hnb58 := NB138_137.out
       have hnc58 := NB137_138.out
       have hcz59_0 : wr.cell? ⟨gb138, 0, none⟩ = some (.bool false) := (blk_cell BK138.out 0).trans rfl
       have hcz59_1 : wr.cell? ⟨gb138, 1, none⟩ = some (.int .i64 0) := (blk_cell BK138.out 1).trans rfl
       have hcz59_2 : wr.cell? ⟨gb138, 2, none⟩ = some (.slice none 0 0) := (blk_cell BK138.out 2).trans rfl
       have hfz59_0 := blk_frozen BK138.out 0
       have hfz59_1 := blk_frozen BK138.out 1
       have hfz59_2 := blk_frozen BK138.out 2
       obtain ⟨Ao60, co60, eo60⟩ := Kd.R_slice HO_140002.out
       subst eo60
       go_wp2
       refine bodyPost_ret (results_cell_row rfl _ _ gb138 27 #[.bool true, .int .i64 0, .slice Ao60 x140002_1.length co60] (0, 0) _ rfl (by (with_reducible repeat (first | refine blk_drewN ?_ _ | refine blk_drew ?_ | refine blk_alloc ?_ _)); refine blk_put (cs := #[.bool true, .int .i64 0, .slice none 0 0]) ?_ 2 _ rfl; (with_reducible repeat (first | refine blk_drewN ?_ _ | refine blk_drew ?_ | refine blk_alloc ?_ _)); refine blk_put (cs := #[.bool true, .int .i64 0, .slice none 0 0]) ?_ 1 _ rfl; (with_reducible repeat (first | refine blk_drewN ?_ _ | refine blk_drew ?_ | refine blk_alloc ?_ _)); refine blk_put (cs := #[.bool false, .int .i64 0, .slice none 0 0]) ?_ 0 _ rfl; (with_reducible repeat (first | refine blk_drewN ?_ _ | refine blk_drew ?_ | refine blk_alloc ?_ _)); exact BK138.out) Tryd.underlying27 rfl (by kernel_rfl)) rfl ?_
       exact ⟨_, by first | rfl | (simp [errW_none, errW_some] <;> rfl) | (simp [*, errW_none, errW_some] <;> rfl), by (with_reducible repeat (first | apply Kd.R_alloc | apply Kd.R_drewN | apply Kd.R_drew)); exact Kd.R_mono (Kd.R_far (p := ⟨gb138, 2, none⟩) (Kd.R_far (p := ⟨gb138, 1, none⟩) (Kd.R_far (p := ⟨gb138, 0, none⟩) (Kd.R_mono HO_140002.out (fun k_ hk => (⟨hk, hk.1⟩ : _ ∧ k_ ≠ gb138))) (fun _ hk => hk.2) (.bool true)) (fun _ hk => hk.2) (.int .i64 0)) (fun _ hk => hk.2) (.slice Ao60 x140002_1.length co60)) (fun _ hk => trivial), by repeat (first | (with_reducible first | exact HB.out | apply Fr.alloc | apply Fr.drewN | apply Fr.drew | refine Fr.set ?_ GE137.out (t := 63) (by repeat (first | exact Ty.of BK137.out | apply Ty.set | apply Ty.alloc | apply Ty.drewN | apply Ty.drew)) rfl | refine Fr.set ?_ GE138.out (t := 27) (by repeat (first | exact Ty.of BK138.out | apply Ty.set | apply Ty.alloc | apply Ty.drewN | apply Ty.drew)) rfl | refine Fr.set ?_ GE139.out (t := 27) (by repeat (first | exact Ty.of BK139.out | apply Ty.set | apply Ty.alloc | apply Ty.drewN | apply Ty.drew)) rfl) | exact HB.out)⟩
   ·rw [if_neg c29] at H
    have c29b0 : (a1_0 == 3) = false := beq_eq_false_iff_ne.mpr c29
    have c29b1 : (a1_0 != 3) = true := bne_iff_ne.mpr c29
    by_cases c61 : a1_0 = 4
    ·rw [if_pos c61] at H
     have c61b0 : (a1_0 == 4) = true := beq_iff_eq.mpr c61
     have c61b1 : (a1_0 != 4) = false := bne_eq_false_iff_eq.mpr c61
     clear c61
     replace H := ebind_ok H
     obtain ⟨⟨t151, st151⟩, A620, H⟩ := H
     try dsimp only at H
     have A62 := Aside0.mk A620
     clear A620
     have H' := Aside0.mk H
     clear H
     go_enter Tryd.func86, Tryd.ntmps86
     go_wp2_with (first | ((with_reducible refine gate_dst (N := 3) rfl ?_); refine box_event ?hg (N := 3) ?hd (cs := #[.int .i64 a1_0, .int .i64 a1_1, .int .i64 a1_2, .slice A1_3 l1_3.length c1_3]) (t := 63) ?hr ?_; (case hd => rfl); (case hg => rfl); (case hr => first | (go_simp; done) | (go_simp; rfl)); intro gb137 hg w63 hbox hb; have n0_ := Aside0.mk (Fr.step (w := w) (st := st) (by repeat (first | (with_reducible first | exact HB.out | apply Fr.alloc | apply Fr.drewN | apply Fr.drew) | exact HB.out)) hb); have n1_ := Aside0.mk (hbox); have n2_ := Aside0.mk ((by rw [hg]; exact (Fr.size (w := w) (st := st) (by repeat (first | (with_reducible first | exact HB.out | apply Fr.alloc | apply Fr.drewN | apply Fr.drew) | exact HB.out))) : w.heap.size ≤ gb137)); have n3_ := Aside0.mk ((by rw [hg]; exact (Fr.size (w := w) (st := st) (by repeat (first | (with_reducible first | exact HB.out | apply Fr.alloc | apply Fr.drewN | apply Fr.drew) | exact HB.out))) : w.heap.size ≤ gb137)); clear HB; have HB := n0_; have BK137 := n1_; have GW137 := n2_; have GE137 := n3_; clear n0_ n1_ n2_ n3_; clear hb hbox hg) | ((with_reducible refine gate_dst (N := 4) rfl ?_); refine box_event ?hg (N := 4) ?hd (cs := #[.bool false, .int .i64 0, .slice none 0 0]) (t := 27) ?hr ?_; (case hd => rfl); (case hg => rfl); (case hr => first | (go_simp; done) | (go_simp; rfl)); intro gb138 hg w64 hbox hb; have n0_ := Aside0.mk (blk_below (g := gb137) (o := .cells #[.int .i64 a1_0, .int .i64 a1_1, .int .i64 a1_2, .slice A1_3 l1_3.length c1_3] 63 (0, 0)) (by (with_reducible repeat (first | refine blk_drewN ?_ _ | refine blk_drew ?_ | refine blk_alloc ?_ _)); exact BK137.out) hb); have n1_ := Aside0.mk (Fr.step (w := w) (st := st) (by repeat (first | (with_reducible first | exact HB.out | apply Fr.alloc | apply Fr.drewN | apply Fr.drew | refine Fr.set ?_ GE137.out (t := 63) (by repeat (first | exact Ty.of BK137.out | apply Ty.set | apply Ty.alloc | apply Ty.drewN | apply Ty.drew)) rfl) | exact HB.out)) hb); have n2_ := Aside0.mk (hbox); have n3_ := Aside0.mk ((by rw [hg]; exact (Fr.size (w := w) (st := st) (by repeat (first | (with_reducible first | exact HB.out | apply Fr.alloc | apply Fr.drewN | apply Fr.drew | refine Fr.set ?_ GE137.out (t := 63) (by repeat (first | exact Ty.of BK137.out | apply Ty.set | apply Ty.alloc | apply Ty.drewN | apply Ty.drew)) rfl) | exact HB.out))) : w.heap.size ≤ gb138)); have n4_ := Aside0.mk ((by rw [hg]; exact (Fr.size (w := w) (st := st) (by repeat (first | (with_reducible first | exact HB.out | apply Fr.alloc | apply Fr.drewN | apply Fr.drew | refine Fr.set ?_ GE137.out (t := 63) (by repeat (first | exact Ty.of BK137.out | apply Ty.set | apply Ty.alloc | apply Ty.drewN | apply Ty.drew)) rfl) | exact HB.out))) : w.heap.size ≤ gb138)); have n5_ := Aside0.mk ((by rw [hg]; exact Nat.ne_of_lt (blk_lt (g := gb137) (o := .cells #[.int .i64 a1_0, .int .i64 a1_1, .int .i64 a1_2, .slice A1_3 l1_3.length c1_3] 63 (0, 0)) (by (with_reducible repeat (first | refine blk_drewN ?_ _ | refine blk_drew ?_ | refine blk_alloc ?_ _)); exact BK137.out)) : gb137 ≠ gb138)); have n6_ := Aside0.mk ((by rw [hg]; exact Nat.ne_of_gt (blk_lt (g := gb137) (o := .cells #[.int .i64 a1_0, .int .i64 a1_1, .int .i64 a1_2, .slice A1_3 l1_3.length c1_3] 63 (0, 0)) (by (with_reducible repeat (first | refine blk_drewN ?_ _ | refine blk_drew ?_ | refine blk_alloc ?_ _)); exact BK137.out)) : gb138 ≠ gb137)); clear BK137; clear HB; have BK137 := n0_; have HB := n1_; have BK138 := n2_; have GW138 := n3_; have GE138 := n4_; have NB137_138 := n5_; have NB138_137 := n6_; clear n0_ n1_ n2_ n3_ n4_ n5_ n6_; clear hb hbox hg) | ((with_reducible refine gate_dst (N := 5) rfl ?_); refine box_event ?hg (N := 5) ?hd (cs := #[.bool false, .int .i64 0, .slice none 0 0]) (t := 27) ?hr ?_; (case hd => rfl); (case hg => rfl); (case hr => first | (go_simp; done) | (go_simp; rfl)); intro gb139 hg w65 hbox hb; have n0_ := Aside0.mk (blk_below (g := gb137) (o := .cells #[.int .i64 a1_0, .int .i64 a1_1, .int .i64 a1_2, .slice A1_3 l1_3.length c1_3] 63 (0, 0)) (by (with_reducible repeat (first | refine blk_drewN ?_ _ | refine blk_drew ?_ | refine blk_alloc ?_ _)); exact BK137.out) hb); have n1_ := Aside0.mk (blk_below (g := gb138) (o := .cells #[.bool false, .int .i64 0, .slice none 0 0] 27 (0, 0)) (by (with_reducible repeat (first | refine blk_drewN ?_ _ | refine blk_drew ?_ | refine blk_alloc ?_ _)); exact BK138.out) hb); have n2_ := Aside0.mk (Fr.step (w := w) (st := st) (by repeat (first | (with_reducible first | exact HB.out | apply Fr.alloc | apply Fr.drewN | apply Fr.drew | refine Fr.set ?_ GE137.out (t := 63) (by repeat (first | exact Ty.of BK137.out | apply Ty.set | apply Ty.alloc | apply Ty.drewN | apply Ty.drew)) rfl | refine Fr.set ?_ GE138.out (t := 27) (by repeat (first | exact Ty.of BK138.out | apply Ty.set | apply Ty.alloc | apply Ty.drewN | apply Ty.drew)) rfl) | exact HB.out)) hb); have n3_ := Aside0.mk (hbox); have n4_ := Aside0.mk ((by rw [hg]; exact (Fr.size (w := w) (st := st) (by repeat (first | (with_reducible first | exact HB.out | apply Fr.alloc | apply Fr.drewN | apply Fr.drew | refine Fr.set ?_ GE137.out (t := 63) (by repeat (first | exact Ty.of BK137.out | apply Ty.set | apply Ty.alloc | apply Ty.drewN | apply Ty.drew)) rfl | refine Fr.set ?_ GE138.out (t := 27) (by repeat (first | exact Ty.of BK138.out | apply Ty.set | apply Ty.alloc | apply Ty.drewN | apply Ty.drew)) rfl) | exact HB.out))) : w.heap.size ≤ gb139)); have n5_ := Aside0.mk ((by rw [hg]; exact (Fr.size (w := w) (st := st) (by repeat (first | (with_reducible first | exact HB.out | apply Fr.alloc | apply Fr.drewN | apply Fr.drew | refine Fr.set ?_ GE137.out (t := 63) (by repeat (first | exact Ty.of BK137.out | apply Ty.set | apply Ty.alloc | apply Ty.drewN | apply Ty.drew)) rfl | refine Fr.set ?_ GE138.out (t := 27) (by repeat (first | exact Ty.of BK138.out | apply Ty.set | apply Ty.alloc | apply Ty.drewN | apply Ty.drew)) rfl) | exact HB.out))) : w.heap.size ≤ gb139)); have n6_ := Aside0.mk ((by rw [hg]; exact Nat.ne_of_lt (blk_lt (g := gb137) (o := .cells #[.int .i64 a1_0, .int .i64 a1_1, .int .i64 a1_2, .slice A1_3 l1_3.length c1_3] 63 (0, 0)) (by (with_reducible repeat (first | refine blk_drewN ?_ _ | refine blk_drew ?_ | refine blk_alloc ?_ _)); exact BK137.out)) : gb137 ≠ gb139)); have n7_ := Aside0.mk ((by rw [hg]; exact Nat.ne_of_gt (blk_lt (g := gb137) (o := .cells #[.int .i64 a1_0, .int .i64 a1_1, .int .i64 a1_2, .slice A1_3 l1_3.length c1_3] 63 (0, 0)) (by (with_reducible repeat (first | refine blk_drewN ?_ _ | refine blk_drew ?_ | refine blk_alloc ?_ _)); exact BK137.out)) : gb139 ≠ gb137)); have n8_ := Aside0.mk ((by rw [hg]; exact Nat.ne_of_lt (blk_lt (g := gb138) (o := .cells #[.bool false, .int .i64 0, .slice none 0 0] 27 (0, 0)) (by (with_reducible repeat (first | refine blk_drewN ?_ _ | refine blk_drew ?_ | refine blk_alloc ?_ _)); exact BK138.out)) : gb138 ≠ gb139)); have n9_ := Aside0.mk ((by rw [hg]; exact Nat.ne_of_gt (blk_lt (g := gb138) (o := .cells #[.bool false, .int .i64 0, .slice none 0 0] 27 (0, 0)) (by (with_reducible repeat (first | refine blk_drewN ?_ _ | refine blk_drew ?_ | refine blk_alloc ?_ _)); exact BK138.out)) : gb139 ≠ gb138)); clear BK137; clear BK138; clear HB; have BK137 := n0_; have BK138 := n1_; have HB := n2_; have BK139 := n3_; have GW139 := n4_; have GE139 := n5_; have NB137_139 := n6_; have NB139_137 := n7_; have NB138_139 := n8_; have NB139_138 := n9_; clear n0_ n1_ n2_ n3_ n4_ n5_ n6_ n7_ n8_ n9_; clear hb hbox hg; have hnb66 := NB139_137.out; have hnc66 := NB137_139.out; have hnb67 := NB139_138.out; have hnc67 := NB138_139.out; have hcz68_0 : w65.cell? ⟨gb139, 0, none⟩ = some (.bool false) := (blk_cell BK139.out 0).trans rfl; have hcz68_1 : w65.cell? ⟨gb139, 1, none⟩ = some (.int .i64 0) := (blk_cell BK139.out 1).trans rfl; have hcz68_2 : w65.cell? ⟨gb139, 2, none⟩ = some (.slice none 0 0) := (blk_cell BK139.out 2).trans rfl; have hfz68_0 := blk_frozen BK139.out 0; have hfz68_1 := blk_frozen BK139.out 1; have hfz68_2 := blk_frozen BK139.out 2; have hnb69 := NB137_138.out; have hnc69 := NB138_137.out; have hcz70_0 : w65.cell? ⟨gb137, 0, none⟩ = some (.int .i64 a1_0) := (blk_cell BK137.out 0).trans rfl; have hcz70_1 : w65.cell? ⟨gb137, 1, none⟩ = some (.int .i64 a1_1) := (blk_cell BK137.out 1).trans rfl; have hcz70_2 : w65.cell? ⟨gb137, 2, none⟩ = some (.int .i64 a1_2) := (blk_cell BK137.out 2).trans rfl; have hcz70_3 : w65.cell? ⟨gb137, 3, none⟩ = some (.slice A1_3 l1_3.length c1_3) := (blk_cell BK137.out 3).trans rfl; have hfz70_0 := blk_frozen BK137.out 0; have hfz70_1 := blk_frozen BK137.out 1; have hfz70_2 := blk_frozen BK137.out 2; have hfz70_3 := blk_frozen BK137.out 3) | ((with_reducible refine gate_dst (N := 52) rfl ?_); refine goesCL_ (some 52) rfl rfl caps hF hn hbd #[.int .i64 a1_1] rfl (by first | rfl | (go_simp; done)) (by (try simp only [List.map_toArray, List.map_cons, List.map_nil]); first | done | rfl | (simp only [List.length_drop, List.length_take]; rfl)) ?_; (refine (hch _ a1_1 t151 st151 _ (Fr.here (by repeat (first | (with_reducible first | exact HB.out | apply Fr.alloc | apply Fr.drewN | apply Fr.drew | refine Fr.set ?_ GE137.out (t := 63) (by repeat (first | exact Ty.of BK137.out | apply Ty.set | apply Ty.alloc | apply Ty.drewN | apply Ty.drew)) rfl | refine Fr.set ?_ GE138.out (t := 27) (by repeat (first | exact Ty.of BK138.out | apply Ty.set | apply Ty.alloc | apply Ty.drewN | apply Ty.drew)) rfl | refine Fr.set ?_ GE139.out (t := 27) (by repeat (first | exact Ty.of BK139.out | apply Ty.set | apply Ty.alloc | apply Ty.drewN | apply Ty.drew)) rfl) | exact HB.out))) A62.out).mono ?_); rintro e w71 ⟨rfl, hb⟩; refine ⟨_, rfl, ?_⟩; have n0_ := Aside0.mk (Fr.blk_ (g := gb137) (t := 63) (cs := #[.int .i64 a1_0, .int .i64 a1_1, .int .i64 a1_2, .slice A1_3 l1_3.length c1_3]) (by (with_reducible repeat (first | refine blk_drewN ?_ _ | refine blk_drew ?_ | refine blk_alloc ?_ _)); refine blk_far ?_ NB137_139.out _; (with_reducible repeat (first | refine blk_drewN ?_ _ | refine blk_drew ?_ | refine blk_alloc ?_ _)); refine blk_far ?_ NB137_139.out _; (with_reducible repeat (first | refine blk_drewN ?_ _ | refine blk_drew ?_ | refine blk_alloc ?_ _)); refine blk_far ?_ NB137_139.out _; (with_reducible repeat (first | refine blk_drewN ?_ _ | refine blk_drew ?_ | refine blk_alloc ?_ _)); exact BK137.out) hb rfl); have n1_ := Aside0.mk (Fr.blk_ (g := gb138) (t := 27) (cs := #[.bool false, .int .i64 0, .slice none 0 0]) (by (with_reducible repeat (first | refine blk_drewN ?_ _ | refine blk_drew ?_ | refine blk_alloc ?_ _)); refine blk_far ?_ NB138_139.out _; (with_reducible repeat (first | refine blk_drewN ?_ _ | refine blk_drew ?_ | refine blk_alloc ?_ _)); refine blk_far ?_ NB138_139.out _; (with_reducible repeat (first | refine blk_drewN ?_ _ | refine blk_drew ?_ | refine blk_alloc ?_ _)); refine blk_far ?_ NB138_139.out _; (with_reducible repeat (first | refine blk_drewN ?_ _ | refine blk_drew ?_ | refine blk_alloc ?_ _)); exact BK138.out) hb rfl); have n2_ := Aside0.mk (Fr.blk_ (g := gb139) (t := 27) (cs := #[.bool true, .int .i64 0, .slice none 0 0]) (by (with_reducible repeat (first | refine blk_drewN ?_ _ | refine blk_drew ?_ | refine blk_alloc ?_ _)); refine blk_put (cs := #[.bool true, .int .i64 0, .slice none 0 0]) ?_ 2 _ rfl; (with_reducible repeat (first | refine blk_drewN ?_ _ | refine blk_drew ?_ | refine blk_alloc ?_ _)); refine blk_put (cs := #[.bool true, .int .i64 0, .slice none 0 0]) ?_ 1 _ rfl; (with_reducible repeat (first | refine blk_drewN ?_ _ | refine blk_drew ?_ | refine blk_alloc ?_ _)); refine blk_put (cs := #[.bool false, .int .i64 0, .slice none 0 0]) ?_ 0 _ rfl; (with_reducible repeat (first | refine blk_drewN ?_ _ | refine blk_drew ?_ | refine blk_alloc ?_ _)); exact BK139.out) hb rfl); have n3_ := Aside0.mk (Fr.trans (w := w) (st := st) (by repeat (first | (with_reducible first | exact HB.out | apply Fr.alloc | apply Fr.drewN | apply Fr.drew | refine Fr.set ?_ GE137.out (t := 63) (by repeat (first | exact Ty.of BK137.out | apply Ty.set | apply Ty.alloc | apply Ty.drewN | apply Ty.drew)) rfl | refine Fr.set ?_ GE138.out (t := 27) (by repeat (first | exact Ty.of BK138.out | apply Ty.set | apply Ty.alloc | apply Ty.drewN | apply Ty.drew)) rfl | refine Fr.set ?_ GE139.out (t := 27) (by repeat (first | exact Ty.of BK139.out | apply Ty.set | apply Ty.alloc | apply Ty.drewN | apply Ty.drew)) rfl) | exact HB.out)) hb); clear BK137; clear BK138; clear BK139; clear HB; have BK137 := n0_; have BK138 := n1_; have BK139 := n2_; have HB := n3_; clear n0_ n1_ n2_ n3_; (try clear hb); (try clear hb2); (try clear hk); (try clear hi)))
     go_loopg [53] k (fun kq v53 w' => ∃ (st_1 : σ) (x53_1 : Int) (x140002_1 : List (S27)) (u140002 : Value), v53 = .int .i64 x53_1 ∧ Aside0 (gen_made.l1 stp kq st_1 t151 x53_1 a1_0 a1_1 a1_2 l1_3 true 0 x140002_1 = some (.ok ((r1, r2, r3), st'_))) ∧ Aside0 (kq ≤ k) ∧ Aside0 (Kd.R k27 27 w' w.heap.size (fun k_ => k_ ≠ gb138 ∧ k_ ≠ gb139) u140002 x140002_1) ∧ Aside0 (w'.heap[gb137]? = some (.cells #[.int .i64 a1_0, .int .i64 a1_1, .int .i64 a1_2, (.slice A1_3 l1_3.length c1_3)] 63 (0, 0))) ∧ Aside0 (w'.heap[gb138]? = some (.cells #[.bool false, .int .i64 0, (.slice none 0 0)] 27 (0, 0))) ∧ Aside0 (w'.heap[gb139]? = some (.cells #[.bool true, .int .i64 0, u140002] 27 (0, 0))) ∧ Aside0 (Fr S w0 w st_1 w'))
     case atStart => exact ⟨st151, (0), (([] : List (S27))), (.slice none 0 0), (by first | rfl | (simp; done) | (simp [*]; done)), H', ⟨Nat.le_refl _⟩, ⟨by first | exact Kd.R_nil _ _ _ _ _ | exact Kd.N_nil _ _ _ _ _ | exact Kd.V_nil _ _ _ _ _ | exact Kd.Q_nil _ _ _ _ _ | exact Kd.S_nil _ _ _ _ _⟩, ⟨by (with_reducible repeat (first | refine blk_drewN ?_ _ | refine blk_drew ?_ | refine blk_alloc ?_ _)); exact BK137.out⟩, ⟨by (with_reducible repeat (first | refine blk_drewN ?_ _ | refine blk_drew ?_ | refine blk_alloc ?_ _)); exact BK138.out⟩, ⟨by (with_reducible repeat (first | refine blk_drewN ?_ _ | refine blk_drew ?_ | refine blk_alloc ?_ _)); exact BK139.out⟩, ⟨by repeat (first | (with_reducible first | exact HB.out | apply Fr.alloc | apply Fr.drewN | apply Fr.drew | refine Fr.set ?_ GE137.out (t := 63) (by repeat (first | exact Ty.of BK137.out | apply Ty.set | apply Ty.alloc | apply Ty.drewN | apply Ty.drew)) rfl | refine Fr.set ?_ GE138.out (t := 27) (by repeat (first | exact Ty.of BK138.out | apply Ty.set | apply Ty.alloc | apply Ty.drewN | apply Ty.drew)) rfl | refine Fr.set ?_ GE139.out (t := 27) (by repeat (first | exact Ty.of BK139.out | apply Ty.set | apply Ty.alloc | apply Ty.drewN | apply Ty.drew)) rfl) | exact HB.out)⟩⟩
     case round =>
      clear H'
      try clear c1
      try clear p1
      try clear q1
      try clear hx1
      try clear c2
      try clear p2
      try clear c3
      try clear c3b0
      try clear c3b1
      try clear c4
      try clear c5
      try clear c6
      try clear p6
      try clear c7
      try clear c8
      try clear c10
      try clear c12
      try clear c13
      try clear c13b0
      try clear c13b1
      try clear c14
      try clear p14
      try clear q14
      try clear hx14
      try clear c18
      try clear c19
      try clear c21
      try clear c29
      try clear c29b0
      try clear c29b1
      try clear c33
      try clear c34
      try clear c36
      try clear c38
      try clear c38b0
      try clear c39
      try clear c39b0
      try clear c40
      try clear c40b0
      try clear c42
      try clear c44
      try clear c45
      try clear c46
      try clear c55
      try clear c56
      try clear c58
      try clear c61
      try clear c61b0
      try clear c61b1
      try clear p64
      try clear c66
      try clear c67
      try clear c69
      try clear hcz11_0
      try clear hcz11_1
      try clear hcz11_2
      try clear hcz11_3
      try clear hcz12_0
      try clear hcz12_1
      try clear hcz12_2
      try clear hcz20_0
      try clear hcz20_1
      try clear hcz20_2
      try clear hcz22_0
      try clear hcz22_1
      try clear hcz22_2
      try clear hcz22_3
      try clear hcz35_0
      try clear hcz35_1
      try clear hcz35_2
      try clear hcz37_0
      try clear hcz37_1
      try clear hcz37_2
      try clear hcz37_3
      try clear hcz47_0
      try clear hcz47_1
      try clear hcz47_2
      try clear hcz47_3
      try clear hcz57_0
      try clear hcz57_1
      try clear hcz57_2
      try clear hcz59_0
      try clear hcz59_1
      try clear hcz59_2
      try clear hcz68_0
      try clear hcz68_1
      try clear hcz68_2
      try clear hcz70_0
      try clear hcz70_1
      try clear hcz70_2
      try clear hcz70_3
      try clear hcz9_0
      try clear hcz9_1
      try clear hcz9_2
      try clear hfz11_0
      try clear hfz11_1
      try clear hfz11_2
      try clear hfz11_3
      try clear hfz12_0
      try clear hfz12_1
      try clear hfz12_2
      try clear hfz20_0
      try clear hfz20_1
      try clear hfz20_2
      try clear hfz22_0
      try clear hfz22_1
      try clear hfz22_2
      try clear hfz22_3
      try clear hfz35_0
      try clear hfz35_1
      try clear hfz35_2
      try clear hfz37_0
      try clear hfz37_1
      try clear hfz37_2
      try clear hfz37_3
      try clear hfz47_0
      try clear hfz47_1
      try clear hfz47_2
      try clear hfz47_3
      try clear hfz57_0
      try clear hfz57_1
      try clear hfz57_2
      try clear hfz59_0
      try clear hfz59_1
      try clear hfz59_2
      try clear hfz68_0
      try clear hfz68_1
      try clear hfz68_2
      try clear hfz70_0
      try clear hfz70_1
      try clear hfz70_2
      try clear hfz70_3
      try clear hfz9_0
      try clear hfz9_1
      try clear hfz9_2
      try clear hx141_0
      try clear hx141_1
      try clear hx141_2
      try clear hx141_3
      try clear p141
      try clear p2
      try clear p6
      try clear q141
      obtain ⟨st_1, x53_1, x140002_1, u140002, rfl, HA, HK1, HO_140002, BK137, BK138, BK139, HB⟩ := hrel
      cases gk with
      | zero => exact absurd HA.out (by simp [gen_made.l1])
      | succ k1 =>
       have H := HA.out
       clear HA
       simp only [gen_made.l1] at H
       by_cases c72 : x53_1 < t151
       ·rw [if_pos c72] at H
        have c72b0 : decide (x53_1 < t151) = true := decide_eq_true c72
        clear c72
        by_cases c73 : 0 < (l1_3.length : Int)
        ·rw [if_pos c73] at H
         have c73b0 : decide (0 < (l1_3.length : Int)) = true := decide_eq_true c73
         have c73b1 : decide (0 < l1_3.length) = true := decide_eq_true (by omega)
         clear c73
         replace H := obind_ok H
         obtain ⟨⟨⟨t153, t154, t155⟩, st153⟩, A740, H⟩ := H
         try dsimp only at H
         have A74 := Aside0.mk A740
         clear A740
         by_cases c75 : x140002_1.length < 3518437208883
         ·rw [if_pos c75] at H
          have LMc75 := Aside0.mk c75
          clear c75
          obtain ⟨y158, hy158⟩ : ∃ y_ : List (S27), y_ = (x140002_1 ++ [(⟨t153, t154, t155⟩ : S27)]) := ⟨_, rfl⟩
          rw [← hy158] at H
          have Ny158 := Aside0.mk hy158
          clear hy158
          have H' := Aside0.mk H
          clear H
          try go_wp2
          have n0_ := Aside0.mk (Kd.R_drew HO_140002.out)
          have n1_ := Aside0.mk (blk_drew BK137.out)
          have n2_ := Aside0.mk (blk_drew BK138.out)
          have n3_ := Aside0.mk (blk_drew BK139.out)
          have n4_ := Aside0.mk (Fr.drew HB.out)
          clear HO_140002
          clear BK137
          clear BK138
          clear BK139
          clear HB
          have HO_140002 := n0_
          have BK137 := n1_
          have BK138 := n2_
          have BK139 := n3_
          have HB := n4_
          clear n0_ n1_ n2_ n3_ n4_
          have p152 : 0 ≤ (0 : Int) := (by omega)
          have q152 : 0 < (l1_3.length : Int) := of_decide_eq_true (by first | (with_reducible assumption) | assumption)
          obtain ⟨ad152, A152_3, c152_3, e152, hx152_0, hx152_1, hx152_2, hx152_3, hl152_3, hi152_3⟩ := at_T63 HR1_3.out 0 p152 q152
          have hw152_3 := hx152_3
          (try rw [show ((0 : Int)).toNat = 0 from rfl] at hw152_3)
          (try rw [show 0 * 4 = 0 from rfl] at hw152_3)
          (try rw [Addr.add_zero'] at hw152_3)
          have hw152_2 := hx152_2
          (try rw [show ((0 : Int)).toNat = 0 from rfl] at hw152_2)
          (try rw [show 0 * 4 = 0 from rfl] at hw152_2)
          (try rw [Addr.add_zero'] at hw152_2)
          have hw152_1 := hx152_1
          (try rw [show ((0 : Int)).toNat = 0 from rfl] at hw152_1)
          (try rw [show 0 * 4 = 0 from rfl] at hw152_1)
          (try rw [Addr.add_zero'] at hw152_1)
          have hw152_0 := hx152_0
          (try rw [show ((0 : Int)).toNat = 0 from rfl] at hw152_0)
          (try rw [show 0 * 4 = 0 from rfl] at hw152_0)
          (try rw [Addr.add_zero'] at hw152_0)
          cases e152
          have qi152 : (0 < l1_3.length) = True := eq_true (by omega)
          (try rw [show ((0 : Int)).toNat = 0 from rfl] at hx152_0)
          (try rw [show 0 * 4 = 0 from rfl] at hx152_0)
          (try rw [Addr.add_zero'] at hx152_0)
          (try rw [show ((0 : Int)).toNat = 0 from rfl] at hx152_1)
          (try rw [show 0 * 4 = 0 from rfl] at hx152_1)
          (try rw [Addr.add_zero'] at hx152_1)
          (try rw [show ((0 : Int)).toNat = 0 from rfl] at hx152_2)
          (try rw [show 0 * 4 = 0 from rfl] at hx152_2)
          (try rw [Addr.add_zero'] at hx152_2)
          (try rw [show ((0 : Int)).toNat = 0 from rfl] at hx152_3)
          (try rw [show 0 * 4 = 0 from rfl] at hx152_3)
          (try rw [Addr.add_zero'] at hx152_3)
          replace hx152_0 := (HB.out.b.cell (World.block_lt_of_cell? w0 _ hx152_0)).trans hx152_0
          replace hx152_1 := (HB.out.b.cell (World.block_lt_of_cell? w0 _ hx152_1)).trans hx152_1
          replace hx152_2 := (HB.out.b.cell (World.block_lt_of_cell? w0 _ hx152_2)).trans hx152_2
          replace hx152_3 := (HB.out.b.cell (World.block_lt_of_cell? w0 _ hx152_3)).trans hx152_3
          have HR152_3 := Aside0.mk hi152_3
          have HC152_3 := Aside0.mk hl152_3
          clear hi152_3 hl152_3
          replace p152 := eq_true p152
          replace q152 := eq_true q152
          refine start_ (n := 12) (S := fun w' => w'.cell? ⟨gb139, 0, none⟩ = some (.bool true) ∧ w'.cell? ⟨gb139, 1, none⟩ = some (.int .i64 0) ∧ w'.cell? ⟨gb139, 2, none⟩ = some (u140002) ∧ w'.cell? ⟨gb137, 0, none⟩ = some (.int .i64 a1_0) ∧ w'.cell? ⟨gb137, 1, none⟩ = some (.int .i64 a1_1) ∧ w'.cell? ⟨gb137, 2, none⟩ = some (.int .i64 a1_2) ∧ w'.cell? ⟨gb137, 3, none⟩ = some (.slice (some ad152) l1_3.length c1_3) ∧ w'.cell? ad152 = some (.int .i64 ((rd_T63 l1_3 0).f0)) ∧ w'.cell? ⟨ad152.block, ad152.off + 1, none⟩ = some (.int .i64 ((rd_T63 l1_3 0).f1)) ∧ w'.cell? ⟨ad152.block, ad152.off + 2, none⟩ = some (.int .i64 ((rd_T63 l1_3 0).f2)) ∧ w'.cell? ⟨ad152.block, ad152.off + 3, none⟩ = some (.slice A152_3 ((rd_T63 l1_3 0).f3).length c152_3)) (ds := [11]) #[false, false, false, false, false, false, false, false, false, false, false, false] (by kernel_rfl) rfl rfl ⟨(blk_cell BK139.out 0).trans rfl, (blk_cell BK139.out 1).trans rfl, (blk_cell BK139.out 2).trans rfl, (blk_cell BK137.out 0).trans rfl, (blk_cell BK137.out 1).trans rfl, (blk_cell BK137.out 2).trans rfl, (blk_cell BK137.out 3).trans rfl, ((HB.out.b.cell (World.block_lt_of_cell? w0 _ hw152_0)).trans hw152_0), ((HB.out.b.cell (World.block_lt_of_cell? w0 _ hw152_1)).trans hw152_1), ((HB.out.b.cell (World.block_lt_of_cell? w0 _ hw152_2)).trans hw152_2), ((HB.out.b.cell (World.block_lt_of_cell? w0 _ hw152_3)).trans hw152_3)⟩ (fun hHeld => ?_); refine with_tabW gen_made.tab16 gen_made.bits16 (fun HT_ HW_ => ?_)
          generalize wr.drew = w76 at HO_140002 BK137 BK138 BK139 HB HR152_3 hx152_0 hx152_1 hx152_2 hx152_3 hHeld ⊢
          refine pure_ (i := 0) (N := some 55) (v := ?_) (a' := ?_) #[true, false, false, false, false, false, false, false, false, false, false, false] rfl rfl (any_of HT_.out (by kernel_rfl)) (fun _ _ _ h => h) (Or.inl ⟨by rfl, ?_⟩) ?_ ?_
          rotate_left
          ·intro w'
           go_simp
           with_reducible rfl
          rotate_left
          ·simp only [Act.put, List.setIfInBounds_toArray, List.set_cons_zero, List.set_cons_succ, i64_w, i32_w]
           rfl
          refine pure_ (i := 2) (N := some 57) (v := ?_) (a' := ?_) #[true, false, true, false, false, false, false, false, false, false, false, false] rfl rfl (any_of HT_.out (by kernel_rfl)) (fun _ _ _ h => h) (Or.inl ⟨by rfl, ?_⟩) ?_ ?_
          rotate_left
          ·intro w'
           go_simp
           with_reducible rfl
          rotate_left
          ·simp only [Act.put, List.setIfInBounds_toArray, List.set_cons_zero, List.set_cons_succ, i64_w, i32_w]
           rfl
          refine pure_ (i := 3) (N := some 58) (v := ?_) (a' := ?_) #[true, false, true, true, false, false, false, false, false, false, false, false] rfl rfl (any_of HT_.out (by kernel_rfl)) (fun _ _ _ h => h) (Or.inl ⟨by rfl, ?_⟩) ?_ ?_
          rotate_left
          ·intro w'
           go_simp
           with_reducible rfl
          rotate_left
          ·simp only [Act.put, List.setIfInBounds_toArray, List.set_cons_zero, List.set_cons_succ, i64_w, i32_w]
           rfl
          refine take_ (i := 1) (N := some 56) (v := ?_) (a' := ?_) #[true, true, true, true, false, false, false, false, false, false, false, false] rfl rfl (take_ofW HT_.out HW_.out (by kernel_rfl)) (fun _ _ _ h => h) (Or.inl ⟨by rfl, ?_⟩) hHeld ?_ ?_
          rotate_left
          ·rintro w' ⟨s0, s1, s2, s3, s4, s5, s6, s7, s8, s9, s10⟩
           go_simp
           with_reducible rfl
          rotate_left
          ·simp only [Act.put, List.setIfInBounds_toArray, List.set_cons_zero, List.set_cons_succ, i64_w, i32_w]
           rfl
          refine take_ (i := 4) (N := some 59) (v := ?_) (a' := ?_) #[true, true, true, true, true, false, false, false, false, false, false, false] rfl rfl (take_ofW HT_.out HW_.out (by kernel_rfl)) (fun _ _ _ h => h) (Or.inl ⟨by rfl, ?_⟩) hHeld ?_ ?_
          rotate_left
          ·rintro w' ⟨s0, s1, s2, s3, s4, s5, s6, s7, s8, s9, s10⟩
           go_simp
           with_reducible rfl
          rotate_left
          ·simp only [Act.put, List.setIfInBounds_toArray, List.set_cons_zero, List.set_cons_succ, i64_w, i32_w]
           rfl
          refine pure_ (i := 5) (N := some 60) (v := ?_) (a' := ?_) #[true, true, true, true, true, true, false, false, false, false, false, false] rfl rfl (any_of HT_.out (by kernel_rfl)) (fun _ _ _ h => h) (Or.inl ⟨by rfl, ?_⟩) ?_ ?_
          rotate_left
          ·intro w'
           go_simp
           with_reducible rfl
          rotate_left
          ·simp only [Act.put, List.setIfInBounds_toArray, List.set_cons_zero, List.set_cons_succ, i64_w, i32_w]
           rfl
          refine take_ (i := 6) (N := some 61) (v := ?_) (a' := ?_) #[true, true, true, true, true, true, true, false, false, false, false, false] rfl rfl (take_ofW HT_.out HW_.out (by kernel_rfl)) (fun _ _ _ h => h) (Or.inl ⟨by rfl, ?_⟩) hHeld ?_ ?_
          rotate_left
          ·rintro w' ⟨s0, s1, s2, s3, s4, s5, s6, s7, s8, s9, s10⟩
           go_simp
           with_reducible rfl
          rotate_left
          ·simp only [Act.put, List.setIfInBounds_toArray, List.set_cons_zero, List.set_cons_succ, i64_w, i32_w]
           rfl
          refine one_ (i := 7) (N := some 62) #[true, true, true, true, true, true, true, true, false, false, false, false] rfl rfl (one_of HT_.out (by kernel_rfl)) (by decide) (fun K hK => ?_)
          refine goes_ Tryd.func86 (by kernel_rfl) rfl #[.func (.func F) #[] caps, .agg #[.int .i64 ((rd_T63 l1_3 0).f0), .int .i64 ((rd_T63 l1_3 0).f1), .int .i64 ((rd_T63 l1_3 0).f2), .slice A152_3 ((rd_T63 l1_3 0).f3).length c152_3]] (by rfl) rfl rfl (by (try simp only [List.map_toArray, List.map_cons, List.map_nil]); first | done | rfl | (simp only [List.length_drop, List.length_take]; rfl)) ?_
          with_reducible refine (ih k1 (by have := HK1.out; omega) _ ((rd_T63 l1_3 0).f0) ((rd_T63 l1_3 0).f1) ((rd_T63 l1_3 0).f2) _ _ ((rd_T63 l1_3 0).f3) t153 t154 t155 st153 _ ?side0 ?side1 ?side2 A74.out).mono ?_
          (case side0 => exact Fr.here HB.out)
          (case side1 => exact HR152_3.out)
          (case side2 => exact HC152_3.out)
          rintro e w77 ⟨v156, rfl, ho0, hb⟩
          refine ⟨_, rfl, ?_⟩
          have n0_ := Aside0.mk (Fr.R_elder (by (with_reducible repeat (first | apply Kd.R_alloc | apply Kd.R_drewN | apply Kd.R_drew)); exact HO_140002.out) hE27 (Kd.R_base ho0) hb)
          have n1_ := Aside0.mk (Kd.R_lower (Kd.R_newB (Kd.R_newB (Kd.R_new' ho0 (Kd.R_lt (by (with_reducible repeat (first | apply Kd.R_alloc | apply Kd.R_drewN | apply Kd.R_drew)); exact HO_140002.out))) (g := gb138) (o := .cells #[.bool false, .int .i64 0, .slice none 0 0] 27 (0, 0)) (by (with_reducible repeat (first | refine blk_drewN ?_ _ | refine blk_drew ?_ | refine blk_alloc ?_ _)); exact BK138.out)) (g := gb139) (o := .cells #[.bool true, .int .i64 0, u140002] 27 (0, 0)) (by (with_reducible repeat (first | refine blk_drewN ?_ _ | refine blk_drew ?_ | refine blk_alloc ?_ _)); exact BK139.out)) (Fr.size (w := w) (st := st_1) (by repeat (first | (with_reducible first | exact HB.out | apply Fr.alloc | apply Fr.drewN | apply Fr.drew | refine Fr.set ?_ GE137.out (t := 63) (by repeat (first | exact Ty.of BK137.out | apply Ty.set | apply Ty.alloc | apply Ty.drewN | apply Ty.drew)) rfl | refine Fr.set ?_ GE138.out (t := 27) (by repeat (first | exact Ty.of BK138.out | apply Ty.set | apply Ty.alloc | apply Ty.drewN | apply Ty.drew)) rfl | refine Fr.set ?_ GE139.out (t := 27) (by repeat (first | exact Ty.of BK139.out | apply Ty.set | apply Ty.alloc | apply Ty.drewN | apply Ty.drew)) rfl) | exact HB.out))))
          have n2_ := Aside0.mk (Fr.blk_ (g := gb137) (t := 63) (cs := #[.int .i64 a1_0, .int .i64 a1_1, .int .i64 a1_2, .slice (some ad152) l1_3.length c1_3]) (by (with_reducible repeat (first | refine blk_drewN ?_ _ | refine blk_drew ?_ | refine blk_alloc ?_ _)); exact BK137.out) hb rfl)
          have n3_ := Aside0.mk (Fr.blk_ (g := gb138) (t := 27) (cs := #[.bool false, .int .i64 0, .slice none 0 0]) (by (with_reducible repeat (first | refine blk_drewN ?_ _ | refine blk_drew ?_ | refine blk_alloc ?_ _)); exact BK138.out) hb rfl)
          have n4_ := Aside0.mk (Fr.blk_ (g := gb139) (t := 27) (cs := #[.bool true, .int .i64 0, u140002]) (by (with_reducible repeat (first | refine blk_drewN ?_ _ | refine blk_drew ?_ | refine blk_alloc ?_ _)); exact BK139.out) hb rfl)
          have n5_ := Aside0.mk (Fr.trans (w := w) (st := st_1) (by repeat (first | (with_reducible first | exact HB.out | apply Fr.alloc | apply Fr.drewN | apply Fr.drew | refine Fr.set ?_ GE137.out (t := 63) (by repeat (first | exact Ty.of BK137.out | apply Ty.set | apply Ty.alloc | apply Ty.drewN | apply Ty.drew)) rfl | refine Fr.set ?_ GE138.out (t := 27) (by repeat (first | exact Ty.of BK138.out | apply Ty.set | apply Ty.alloc | apply Ty.drewN | apply Ty.drew)) rfl | refine Fr.set ?_ GE139.out (t := 27) (by repeat (first | exact Ty.of BK139.out | apply Ty.set | apply Ty.alloc | apply Ty.drewN | apply Ty.drew)) rfl) | exact HB.out)) hb)
          clear HO_140002
          clear BK137
          clear BK138
          clear BK139
          clear HB
          have HO_140002 := n0_
          have HO157 := n1_
          have BK137 := n2_
          have BK138 := n3_
          have BK139 := n4_
          have HB := n5_
          clear n0_ n1_ n2_ n3_ n4_ n5_
          (try clear hb)
          (try clear hb2)
          (try clear hk)
          (try clear hi)
          (try clear ho0)
          obtain ⟨Ao79, co79, eo79⟩ := Kd.R_slice HO157.out
          (first | subst eo79 | (injection eo79 with f1_ f2_ f3_; have f4_ := f1_.symm; have f5_ := f3_.symm; clear f1_ f2_ f3_; subst f4_; subst f5_))
          refine hK.out _ _ ⟨(blk_cell BK139.out 0).trans rfl, (blk_cell BK139.out 1).trans rfl, (blk_cell BK139.out 2).trans rfl, (blk_cell BK137.out 0).trans rfl, (blk_cell BK137.out 1).trans rfl, (blk_cell BK137.out 2).trans rfl, (blk_cell BK137.out 3).trans rfl, ((HB.out.b.cell (World.block_lt_of_cell? w0 _ hw152_0)).trans hw152_0), ((HB.out.b.cell (World.block_lt_of_cell? w0 _ hw152_1)).trans hw152_1), ((HB.out.b.cell (World.block_lt_of_cell? w0 _ hw152_2)).trans hw152_2), ((HB.out.b.cell (World.block_lt_of_cell? w0 _ hw152_3)).trans hw152_3)⟩ (fun hHeld => ?_)
          clear hK K
          refine norm_ (a' := ?_) ?_ ?_
          rotate_left
          ·show Act.put _ (some 62) _ = _
           simp only [Act.put, List.setIfInBounds_toArray, List.set_cons_zero, List.set_cons_succ, i64_w, i32_w]
           rfl
          refine one_ (i := 8) (N := some 63) #[true, true, true, true, true, true, true, true, true, false, false, false] rfl rfl (one_of HT_.out (by kernel_rfl)) (by decide) (fun K hK => ?_)
          refine value_ (w1 := ?_) (v := ?_) (by rfl) rfl ?_ ?_
          rotate_left 2
          ·go_simp
           constructor
           ·rfl
           ·rfl
          refine hK.out _ _ ⟨(blk_cell (blk_alloc BK139.out _) 0).trans rfl, (blk_cell (blk_alloc BK139.out _) 1).trans rfl, (blk_cell (blk_alloc BK139.out _) 2).trans rfl, (blk_cell (blk_alloc BK137.out _) 0).trans rfl, (blk_cell (blk_alloc BK137.out _) 1).trans rfl, (blk_cell (blk_alloc BK137.out _) 2).trans rfl, (blk_cell (blk_alloc BK137.out _) 3).trans rfl, (World.cell?_alloc_lt _ _ _ (World.block_lt_of_cell? _ _ (((HB.out.b.cell (World.block_lt_of_cell? w0 _ hw152_0)).trans hw152_0)))).trans (((HB.out.b.cell (World.block_lt_of_cell? w0 _ hw152_0)).trans hw152_0)), (World.cell?_alloc_lt _ _ _ (World.block_lt_of_cell? _ _ (((HB.out.b.cell (World.block_lt_of_cell? w0 _ hw152_1)).trans hw152_1)))).trans (((HB.out.b.cell (World.block_lt_of_cell? w0 _ hw152_1)).trans hw152_1)), (World.cell?_alloc_lt _ _ _ (World.block_lt_of_cell? _ _ (((HB.out.b.cell (World.block_lt_of_cell? w0 _ hw152_2)).trans hw152_2)))).trans (((HB.out.b.cell (World.block_lt_of_cell? w0 _ hw152_2)).trans hw152_2)), (World.cell?_alloc_lt _ _ _ (World.block_lt_of_cell? _ _ (((HB.out.b.cell (World.block_lt_of_cell? w0 _ hw152_3)).trans hw152_3)))).trans (((HB.out.b.cell (World.block_lt_of_cell? w0 _ hw152_3)).trans hw152_3))⟩ (fun hHeld => ?_)
          clear hK K
          refine norm_ (a' := ?_) ?_ ?_
          rotate_left
          ·show Act.put _ (some 63) _ = _
           simp only [Act.put, List.setIfInBounds_toArray, List.set_cons_zero, List.set_cons_succ, i64_w, i32_w]
           rfl
          refine one_ (i := 9) (N := some 64) #[true, true, true, true, true, true, true, true, true, true, false, false] rfl rfl (one_of HT_.out (by kernel_rfl)) (by decide) (fun K hK => ?_)
          refine Kd.R_append_step k27 (w0 := w77) w.heap.size (by rfl) (.tmp 56) (.tmp 63) 25 27 (.agg #[(.bool false), (.int .i64 0), (.slice none 0 0)]) 40 rfl Tryd.underlying25 info27 rfl (by decide) (by omega) u140002 x140002_1 (⟨t153, t154, t155⟩ : S27) [.bool t153, .int .i64 t154, .slice Ao79 t155.length co79] (fun k_ => k_ ≠ gb138 ∧ k_ ≠ gb139) (fun k_ => ((fun k_ => k_ ≠ gb138 ∧ k_ ≠ gb139)) k_ ∧ some k_ ≠ (u140002 : Value).ownBlock) rfl rfl ?aP (fun _ hk => hk) ?aF ?aO ?aB ?aS ?aL ?_
          (case aP => exact k27_mkM _ _ _ (⟨t153, t154, t155⟩ : S27) (Kd.R_mono (HO157.out) (fun k_ hk => ⟨⟨hk.1.2, hk.2⟩, hk.1.1.2⟩)))
          (case aB => exact Below.refl _ _)
          (case aF => exact (fun k_ hk => ⟨Kd.freshB (g := gb138) (o := .cells #[.bool false, .int .i64 0, .slice none 0 0] 27 (0, 0)) (by (with_reducible repeat (first | refine blk_drewN ?_ _ | refine blk_drew ?_ | refine blk_alloc ?_ _)); exact BK138.out) k_ hk, Kd.freshB (g := gb139) (o := .cells #[.bool true, .int .i64 0, u140002] 27 (0, 0)) (by (with_reducible repeat (first | refine blk_drewN ?_ _ | refine blk_drew ?_ | refine blk_alloc ?_ _)); exact BK139.out) k_ hk⟩))
          (case aO => exact (by (with_reducible repeat (first | apply Kd.R_alloc | apply Kd.R_drewN | apply Kd.R_drew)); exact Kd.R_mono HO_140002.out (fun _ hk => ⟨hk.1.1, hk.1.2⟩)))
          (case aS => exact (Fr.size (w := w) (st := st153) (by repeat (first | (with_reducible first | exact HB.out | apply Fr.alloc | apply Fr.drewN | apply Fr.drew | refine Fr.set ?_ GE137.out (t := 63) (by repeat (first | exact Ty.of BK137.out | apply Ty.set | apply Ty.alloc | apply Ty.drewN | apply Ty.drew)) rfl | refine Fr.set ?_ GE138.out (t := 27) (by repeat (first | exact Ty.of BK138.out | apply Ty.set | apply Ty.alloc | apply Ty.drewN | apply Ty.drew)) rfl | refine Fr.set ?_ GE139.out (t := 27) (by repeat (first | exact Ty.of BK139.out | apply Ty.set | apply Ty.alloc | apply Ty.drewN | apply Ty.drew)) rfl) | exact HB.out))))
          (case aL => have := LMc75.out; omega)
          intro v159 w78 ho hb hg hat
          rw [← Ny158.out] at ho
          have n0_ := Aside0.mk (blk_grown (g := gb137) (o := .cells #[.int .i64 a1_0, .int .i64 a1_1, .int .i64 a1_2, .slice (some ad152) l1_3.length c1_3] 63 (0, 0)) (by (with_reducible repeat (first | refine blk_drewN ?_ _ | refine blk_drew ?_ | refine blk_alloc ?_ _)); exact BK137.out) hg (Kd.R_ne HO_140002.out BK137.out (by decide)))
          have n1_ := Aside0.mk (blk_grown (g := gb138) (o := .cells #[.bool false, .int .i64 0, .slice none 0 0] 27 (0, 0)) (by (with_reducible repeat (first | refine blk_drewN ?_ _ | refine blk_drew ?_ | refine blk_alloc ?_ _)); exact BK138.out) hg (Kd.R_away HO_140002.out (fun _ hk => hk.1.1)))
          have n2_ := Aside0.mk (blk_grown (g := gb139) (o := .cells #[.bool true, .int .i64 0, u140002] 27 (0, 0)) (by (with_reducible repeat (first | refine blk_drewN ?_ _ | refine blk_drew ?_ | refine blk_alloc ?_ _)); exact BK139.out) hg (Kd.R_away HO_140002.out (fun _ hk => hk.1.2)))
          have n3_ := Aside0.mk (Fr.grownR HB.out hg (HO_140002.out) rfl)
          have n4_ := Aside0.mk (ho)
          clear BK137
          clear BK138
          clear BK139
          clear HB
          clear HO_140002
          clear HO157
          have BK137 := n0_
          have BK138 := n1_
          have BK139 := n2_
          have HB := n3_
          have HO160 := n4_
          clear n0_ n1_ n2_ n3_ n4_
          clear ho hb hg hat
          obtain ⟨Ao80, co80, eo80⟩ := Kd.R_slice HO160.out
          (first | subst eo80 | (injection eo80 with f1_ f2_ f3_; have f4_ := f1_.symm; have f5_ := f3_.symm; clear f1_ f2_ f3_; subst f4_; subst f5_))
          refine hK.out _ _ ⟨(blk_cell BK139.out 0).trans rfl, (blk_cell BK139.out 1).trans rfl, (blk_cell BK139.out 2).trans rfl, (blk_cell BK137.out 0).trans rfl, (blk_cell BK137.out 1).trans rfl, (blk_cell BK137.out 2).trans rfl, (blk_cell BK137.out 3).trans rfl, ((HB.out.b.cell (World.block_lt_of_cell? w0 _ hw152_0)).trans hw152_0), ((HB.out.b.cell (World.block_lt_of_cell? w0 _ hw152_1)).trans hw152_1), ((HB.out.b.cell (World.block_lt_of_cell? w0 _ hw152_2)).trans hw152_2), ((HB.out.b.cell (World.block_lt_of_cell? w0 _ hw152_3)).trans hw152_3)⟩ (fun hHeld => ?_)
          clear hK K
          refine norm_ (a' := ?_) ?_ ?_
          rotate_left
          ·show Act.put _ (some 64) _ = _
           simp only [Act.put, List.setIfInBounds_toArray, List.set_cons_zero, List.set_cons_succ, i64_w, i32_w]
           rfl
          refine pure_ (i := 10) (N := some 65) (v := ?_) (a' := ?_) #[true, true, true, true, true, true, true, true, true, true, true, false] rfl rfl (any_of HT_.out (by kernel_rfl)) (fun _ _ _ h => h) (Or.inl ⟨by rfl, ?_⟩) ?_ ?_
          rotate_left
          ·intro w'
           go_simp
           with_reducible rfl
          rotate_left
          ·simp only [Act.put, List.setIfInBounds_toArray, List.set_cons_zero, List.set_cons_succ, i64_w, i32_w]
           rfl
          refine last_ (i := 11) (N := none) #[true, true, true, true, true, true, true, true, true, true, true, true] rfl rfl (one_of HT_.out (by kernel_rfl)) (by decide) (fun K hK => ?_)
          have hs81 : w78.cell? ⟨gb139, 2, none⟩ = some (u140002) := (blk_cell BK139.out 2).trans rfl
          have hfs81 := blk_frozen BK139.out 2
          have hns81_0 := NB137_139.out
          have hns81_1 := NB138_139.out
          have hms81_0 := NB139_137.out
          have hms81_1 := NB139_138.out
          refine skip_ (w1 := ?_) (by rfl) rfl ?_ ?_
          rotate_left
          ·go_simp
           rfl
          refine hK.out _ _ ?_
          clear hK K
          refine done_ (done_of HT_.out (by kernel_rfl)) ?_
          try go_wp2
          go_roundg k1
          case measure => have := HK1.out; omega
          case rel => exact ⟨st153, (wrap64 (x53_1 + 1)), (y158), (.slice Ao80 y158.length co80), (by first | rfl | (simp; done) | (simp [*]; done)), H', ⟨by have := HK1.out; omega⟩, ⟨by (with_reducible repeat (first | apply Kd.R_alloc | apply Kd.R_drewN | apply Kd.R_drew)); exact Kd.R_mono (Kd.R_far (p := ⟨gb139, 2, none⟩) (Kd.R_mono HO160.out (fun k_ hk => (⟨hk, hk.2⟩ : _ ∧ k_ ≠ gb139))) (fun _ hk => hk.2) (.slice Ao80 y158.length co80)) (fun _ hk => ⟨hk.1.1, hk.1.2⟩)⟩, ⟨by (with_reducible repeat (first | refine blk_drewN ?_ _ | refine blk_drew ?_ | refine blk_alloc ?_ _)); refine blk_far ?_ NB137_139.out _; (with_reducible repeat (first | refine blk_drewN ?_ _ | refine blk_drew ?_ | refine blk_alloc ?_ _)); exact BK137.out⟩, ⟨by (with_reducible repeat (first | refine blk_drewN ?_ _ | refine blk_drew ?_ | refine blk_alloc ?_ _)); refine blk_far ?_ NB138_139.out _; (with_reducible repeat (first | refine blk_drewN ?_ _ | refine blk_drew ?_ | refine blk_alloc ?_ _)); exact BK138.out⟩, ⟨by (with_reducible repeat (first | refine blk_drewN ?_ _ | refine blk_drew ?_ | refine blk_alloc ?_ _)); refine blk_put (cs := #[.bool true, .int .i64 0, u140002]) ?_ 2 _ rfl; (with_reducible repeat (first | refine blk_drewN ?_ _ | refine blk_drew ?_ | refine blk_alloc ?_ _)); exact BK139.out⟩, ⟨by repeat (first | (with_reducible first | exact HB.out | apply Fr.alloc | apply Fr.drewN | apply Fr.drew | refine Fr.set ?_ GE137.out (t := 63) (by repeat (first | exact Ty.of BK137.out | apply Ty.set | apply Ty.alloc | apply Ty.drewN | apply Ty.drew)) rfl | refine Fr.set ?_ GE138.out (t := 27) (by repeat (first | exact Ty.of BK138.out | apply Ty.set | apply Ty.alloc | apply Ty.drewN | apply Ty.drew)) rfl | refine Fr.set ?_ GE139.out (t := 27) (by repeat (first | exact Ty.of BK139.out | apply Ty.set | apply Ty.alloc | apply Ty.drewN | apply Ty.drew)) rfl) | exact HB.out)⟩⟩
         ·rw [if_neg c75] at H
          exact absurd H (by simp)
        ·rw [if_neg c73] at H
         exact absurd H (by simp)
       ·rw [if_neg c72] at H
        have c72b0 : decide (x53_1 < t151) = false := decide_eq_false c72
        clear c72
        simp only [Option.some.injEq, Except.ok.injEq, Prod.mk.injEq] at H
        obtain ⟨⟨rfl, rfl, rfl⟩, rfl⟩ := H
        have hnb82 := NB139_137.out
        have hnc82 := NB137_139.out
        have hnb83 := NB139_138.out
        have hnc83 := NB138_139.out
        have hcz84_0 : wr.cell? ⟨gb139, 0, none⟩ = some (.bool true) := (blk_cell BK139.out 0).trans rfl
        have hcz84_1 : wr.cell? ⟨gb139, 1, none⟩ = some (.int .i64 0) := (blk_cell BK139.out 1).trans rfl
        have hcz84_2 : wr.cell? ⟨gb139, 2, none⟩ = some (u140002) := (blk_cell BK139.out 2).trans rfl
        have hfz84_0 := blk_frozen BK139.out 0
        have hfz84_1 := blk_frozen BK139.out 1
        have hfz84_2 := blk_frozen BK139.out 2
        have hnb85 := NB138_137.out
        have hnc85 := NB137_138.out
        have hcz86_0 : wr.cell? ⟨gb138, 0, none⟩ = some (.bool false) := (blk_cell BK138.out 0).trans rfl
        have hcz86_1 : wr.cell? ⟨gb138, 1, none⟩ = some (.int .i64 0) := (blk_cell BK138.out 1).trans rfl
        have hcz86_2 : wr.cell? ⟨gb138, 2, none⟩ = some (.slice none 0 0) := (blk_cell BK138.out 2).trans rfl
        have hfz86_0 := blk_frozen BK138.out 0
        have hfz86_1 := blk_frozen BK138.out 1
        have hfz86_2 := blk_frozen BK138.out 2
        obtain ⟨Ao87, co87, eo87⟩ := Kd.R_slice HO_140002.out
        subst eo87
        go_wp2
        refine bodyPost_ret (results_cell_row rfl _ _ gb138 27 #[.bool true, .int .i64 0, .slice Ao87 x140002_1.length co87] (0, 0) _ rfl (by (with_reducible repeat (first | refine blk_drewN ?_ _ | refine blk_drew ?_ | refine blk_alloc ?_ _)); refine blk_put (cs := #[.bool true, .int .i64 0, .slice none 0 0]) ?_ 2 _ rfl; (with_reducible repeat (first | refine blk_drewN ?_ _ | refine blk_drew ?_ | refine blk_alloc ?_ _)); refine blk_put (cs := #[.bool true, .int .i64 0, .slice none 0 0]) ?_ 1 _ rfl; (with_reducible repeat (first | refine blk_drewN ?_ _ | refine blk_drew ?_ | refine blk_alloc ?_ _)); refine blk_put (cs := #[.bool false, .int .i64 0, .slice none 0 0]) ?_ 0 _ rfl; (with_reducible repeat (first | refine blk_drewN ?_ _ | refine blk_drew ?_ | refine blk_alloc ?_ _)); exact BK138.out) Tryd.underlying27 rfl (by kernel_rfl)) rfl ?_
        exact ⟨_, by first | rfl | (simp [errW_none, errW_some] <;> rfl) | (simp [*, errW_none, errW_some] <;> rfl), by (with_reducible repeat (first | apply Kd.R_alloc | apply Kd.R_drewN | apply Kd.R_drew)); exact Kd.R_mono (Kd.R_far (p := ⟨gb138, 2, none⟩) (Kd.R_far (p := ⟨gb138, 1, none⟩) (Kd.R_far (p := ⟨gb138, 0, none⟩) (Kd.R_mono HO_140002.out (fun k_ hk => (⟨hk, hk.1⟩ : _ ∧ k_ ≠ gb138))) (fun _ hk => hk.2) (.bool true)) (fun _ hk => hk.2) (.int .i64 0)) (fun _ hk => hk.2) (.slice Ao87 x140002_1.length co87)) (fun _ hk => trivial), by repeat (first | (with_reducible first | exact HB.out | apply Fr.alloc | apply Fr.drewN | apply Fr.drew | refine Fr.set ?_ GE137.out (t := 63) (by repeat (first | exact Ty.of BK137.out | apply Ty.set | apply Ty.alloc | apply Ty.drewN | apply Ty.drew)) rfl | refine Fr.set ?_ GE138.out (t := 27) (by repeat (first | exact Ty.of BK138.out | apply Ty.set | apply Ty.alloc | apply Ty.drewN | apply Ty.drew)) rfl | refine Fr.set ?_ GE139.out (t := 27) (by repeat (first | exact Ty.of BK139.out | apply Ty.set | apply Ty.alloc | apply Ty.drewN | apply Ty.drew)) rfl) | exact HB.out)⟩
    ·rw [if_neg c61] at H
     have c61b0 : (a1_0 == 4) = false := beq_eq_false_iff_ne.mpr c61
     have c61b1 : (a1_0 != 4) = true := bne_iff_ne.mpr c61
     by_cases c88 : a1_0 = 5
     ·rw [if_pos c88] at H
      have c88b0 : (a1_0 == 5) = true := beq_iff_eq.mpr c88
      have c88b1 : (a1_0 != 5) = false := bne_eq_false_iff_eq.mpr c88
      clear c88
      replace H := ebind_ok H
      obtain ⟨⟨t161, st161⟩, A890, H⟩ := H
      try dsimp only at H
      have A89 := Aside0.mk A890
      clear A890
      by_cases c90 : 0 ≤ t161
      ·rw [if_pos c90] at H
       have c90b0 : decide (0 ≤ t161) = true := decide_eq_true c90
       clear c90
       by_cases c91 : t161 < (l1_3.length : Int)
       ·rw [if_pos c91] at H
        have c91b0 : decide (t161 < (l1_3.length : Int)) = true := decide_eq_true c91
        clear c91
        replace H := obind_ok H
        obtain ⟨⟨⟨t163, t164, t165⟩, st163⟩, A920, H⟩ := H
        try dsimp only at H
        have A92 := Aside0.mk A920
        clear A920
        simp only [Option.some.injEq, Except.ok.injEq, Prod.mk.injEq] at H
        obtain ⟨⟨rfl, rfl, rfl⟩, rfl⟩ := H
        go_enter Tryd.func86, Tryd.ntmps86
        try go_wp2_with (first | ((with_reducible refine gate_dst (N := 3) rfl ?_); refine box_event ?hg (N := 3) ?hd (cs := #[.int .i64 a1_0, .int .i64 a1_1, .int .i64 a1_2, .slice A1_3 l1_3.length c1_3]) (t := 63) ?hr ?_; (case hd => rfl); (case hg => rfl); (case hr => first | (go_simp; done) | (go_simp; rfl)); intro gb137 hg w93 hbox hb; have n0_ := Aside0.mk (Fr.step (w := w) (st := st) (by repeat (first | (with_reducible first | exact HB.out | apply Fr.alloc | apply Fr.drewN | apply Fr.drew) | exact HB.out)) hb); have n1_ := Aside0.mk (hbox); have n2_ := Aside0.mk ((by rw [hg]; exact (Fr.size (w := w) (st := st) (by repeat (first | (with_reducible first | exact HB.out | apply Fr.alloc | apply Fr.drewN | apply Fr.drew) | exact HB.out))) : w.heap.size ≤ gb137)); have n3_ := Aside0.mk ((by rw [hg]; exact (Fr.size (w := w) (st := st) (by repeat (first | (with_reducible first | exact HB.out | apply Fr.alloc | apply Fr.drewN | apply Fr.drew) | exact HB.out))) : w.heap.size ≤ gb137)); clear HB; have HB := n0_; have BK137 := n1_; have GW137 := n2_; have GE137 := n3_; clear n0_ n1_ n2_ n3_; clear hb hbox hg) | ((with_reducible refine gate_dst (N := 4) rfl ?_); refine box_event ?hg (N := 4) ?hd (cs := #[.bool false, .int .i64 0, .slice none 0 0]) (t := 27) ?hr ?_; (case hd => rfl); (case hg => rfl); (case hr => first | (go_simp; done) | (go_simp; rfl)); intro gb138 hg w94 hbox hb; have n0_ := Aside0.mk (blk_below (g := gb137) (o := .cells #[.int .i64 a1_0, .int .i64 a1_1, .int .i64 a1_2, .slice A1_3 l1_3.length c1_3] 63 (0, 0)) (by (with_reducible repeat (first | refine blk_drewN ?_ _ | refine blk_drew ?_ | refine blk_alloc ?_ _)); exact BK137.out) hb); have n1_ := Aside0.mk (Fr.step (w := w) (st := st) (by repeat (first | (with_reducible first | exact HB.out | apply Fr.alloc | apply Fr.drewN | apply Fr.drew | refine Fr.set ?_ GE137.out (t := 63) (by repeat (first | exact Ty.of BK137.out | apply Ty.set | apply Ty.alloc | apply Ty.drewN | apply Ty.drew)) rfl) | exact HB.out)) hb); have n2_ := Aside0.mk (hbox); have n3_ := Aside0.mk ((by rw [hg]; exact (Fr.size (w := w) (st := st) (by repeat (first | (with_reducible first | exact HB.out | apply Fr.alloc | apply Fr.drewN | apply Fr.drew | refine Fr.set ?_ GE137.out (t := 63) (by repeat (first | exact Ty.of BK137.out | apply Ty.set | apply Ty.alloc | apply Ty.drewN | apply Ty.drew)) rfl) | exact HB.out))) : w.heap.size ≤ gb138)); have n4_ := Aside0.mk ((by rw [hg]; exact (Fr.size (w := w) (st := st) (by repeat (first | (with_reducible first | exact HB.out | apply Fr.alloc | apply Fr.drewN | apply Fr.drew | refine Fr.set ?_ GE137.out (t := 63) (by repeat (first | exact Ty.of BK137.out | apply Ty.set | apply Ty.alloc | apply Ty.drewN | apply Ty.drew)) rfl) | exact HB.out))) : w.heap.size ≤ gb138)); have n5_ := Aside0.mk ((by rw [hg]; exact Nat.ne_of_lt (blk_lt (g := gb137) (o := .cells #[.int .i64 a1_0, .int .i64 a1_1, .int .i64 a1_2, .slice A1_3 l1_3.length c1_3] 63 (0, 0)) (by (with_reducible repeat (first | refine blk_drewN ?_ _ | refine blk_drew ?_ | refine blk_alloc ?_ _)); exact BK137.out)) : gb137 ≠ gb138)); have n6_ := Aside0.mk ((by rw [hg]; exact Nat.ne_of_gt (blk_lt (g := gb137) (o := .cells #[.int .i64 a1_0, .int .i64 a1_1, .int .i64 a1_2, .slice A1_3 l1_3.length c1_3] 63 (0, 0)) (by (with_reducible repeat (first | refine blk_drewN ?_ _ | refine blk_drew ?_ | refine blk_alloc ?_ _)); exact BK137.out)) : gb138 ≠ gb137)); clear BK137; clear HB; have BK137 := n0_; have HB := n1_; have BK138 := n2_; have GW138 := n3_; have GE138 := n4_; have NB137_138 := n5_; have NB138_137 := n6_; clear n0_ n1_ n2_ n3_ n4_ n5_ n6_; clear hb hbox hg) | ((with_reducible refine gate_dst (N := 5) rfl ?_); refine box_event ?hg (N := 5) ?hd (cs := #[.bool false, .int .i64 0, .slice none 0 0]) (t := 27) ?hr ?_; (case hd => rfl); (case hg => rfl); (case hr => first | (go_simp; done) | (go_simp; rfl)); intro gb139 hg w95 hbox hb; have n0_ := Aside0.mk (blk_below (g := gb137) (o := .cells #[.int .i64 a1_0, .int .i64 a1_1, .int .i64 a1_2, .slice A1_3 l1_3.length c1_3] 63 (0, 0)) (by (with_reducible repeat (first | refine blk_drewN ?_ _ | refine blk_drew ?_ | refine blk_alloc ?_ _)); exact BK137.out) hb); have n1_ := Aside0.mk (blk_below (g := gb138) (o := .cells #[.bool false, .int .i64 0, .slice none 0 0] 27 (0, 0)) (by (with_reducible repeat (first | refine blk_drewN ?_ _ | refine blk_drew ?_ | refine blk_alloc ?_ _)); exact BK138.out) hb); have n2_ := Aside0.mk (Fr.step (w := w) (st := st) (by repeat (first | (with_reducible first | exact HB.out | apply Fr.alloc | apply Fr.drewN | apply Fr.drew | refine Fr.set ?_ GE137.out (t := 63) (by repeat (first | exact Ty.of BK137.out | apply Ty.set | apply Ty.alloc | apply Ty.drewN | apply Ty.drew)) rfl | refine Fr.set ?_ GE138.out (t := 27) (by repeat (first | exact Ty.of BK138.out | apply Ty.set | apply Ty.alloc | apply Ty.drewN | apply Ty.drew)) rfl) | exact HB.out)) hb); have n3_ := Aside0.mk (hbox); have n4_ := Aside0.mk ((by rw [hg]; exact (Fr.size (w := w) (st := st) (by repeat (first | (with_reducible first | exact HB.out | apply Fr.alloc | apply Fr.drewN | apply Fr.drew | refine Fr.set ?_ GE137.out (t := 63) (by repeat (first | exact Ty.of BK137.out | apply Ty.set | apply Ty.alloc | apply Ty.drewN | apply Ty.drew)) rfl | refine Fr.set ?_ GE138.out (t := 27) (by repeat (first | exact Ty.of BK138.out | apply Ty.set | apply Ty.alloc | apply Ty.drewN | apply Ty.drew)) rfl) | exact HB.out))) : w.heap.size ≤ gb139)); have n5_ := Aside0.mk ((by rw [hg]; exact (Fr.size (w := w) (st := st) (by repeat (first | (with_reducible first | exact HB.out | apply Fr.alloc | apply Fr.drewN | apply Fr.drew | refine Fr.set ?_ GE137.out (t := 63) (by repeat (first | exact Ty.of BK137.out | apply Ty.set | apply Ty.alloc | apply Ty.drewN | apply Ty.drew)) rfl | refine Fr.set ?_ GE138.out (t := 27) (by repeat (first | exact Ty.of BK138.out | apply Ty.set | apply Ty.alloc | apply Ty.drewN | apply Ty.drew)) rfl) | exact HB.out))) : w.heap.size ≤ gb139)); have n6_ := Aside0.mk ((by rw [hg]; exact Nat.ne_of_lt (blk_lt (g := gb137) (o := .cells #[.int .i64 a1_0, .int .i64 a1_1, .int .i64 a1_2, .slice A1_3 l1_3.length c1_3] 63 (0, 0)) (by (with_reducible repeat (first | refine blk_drewN ?_ _ | refine blk_drew ?_ | refine blk_alloc ?_ _)); exact BK137.out)) : gb137 ≠ gb139)); have n7_ := Aside0.mk ((by rw [hg]; exact Nat.ne_of_gt (blk_lt (g := gb137) (o := .cells #[.int .i64 a1_0, .int .i64 a1_1, .int .i64 a1_2, .slice A1_3 l1_3.length c1_3] 63 (0, 0)) (by (with_reducible repeat (first | refine blk_drewN ?_ _ | refine blk_drew ?_ | refine blk_alloc ?_ _)); exact BK137.out)) : gb139 ≠ gb137)); have n8_ := Aside0.mk ((by rw [hg]; exact Nat.ne_of_lt (blk_lt (g := gb138) (o := .cells #[.bool false, .int .i64 0, .slice none 0 0] 27 (0, 0)) (by (with_reducible repeat (first | refine blk_drewN ?_ _ | refine blk_drew ?_ | refine blk_alloc ?_ _)); exact BK138.out)) : gb138 ≠ gb139)); have n9_ := Aside0.mk ((by rw [hg]; exact Nat.ne_of_gt (blk_lt (g := gb138) (o := .cells #[.bool false, .int .i64 0, .slice none 0 0] 27 (0, 0)) (by (with_reducible repeat (first | refine blk_drewN ?_ _ | refine blk_drew ?_ | refine blk_alloc ?_ _)); exact BK138.out)) : gb139 ≠ gb138)); clear BK137; clear BK138; clear HB; have BK137 := n0_; have BK138 := n1_; have HB := n2_; have BK139 := n3_; have GW139 := n4_; have GE139 := n5_; have NB137_139 := n6_; have NB139_137 := n7_; have NB138_139 := n8_; have NB139_138 := n9_; clear n0_ n1_ n2_ n3_ n4_ n5_ n6_ n7_ n8_ n9_; clear hb hbox hg; have hnb96 := NB139_137.out; have hnc96 := NB137_139.out; have hnb97 := NB139_138.out; have hnc97 := NB138_139.out; have hcz98_0 : w95.cell? ⟨gb139, 0, none⟩ = some (.bool false) := (blk_cell BK139.out 0).trans rfl; have hcz98_1 : w95.cell? ⟨gb139, 1, none⟩ = some (.int .i64 0) := (blk_cell BK139.out 1).trans rfl; have hcz98_2 : w95.cell? ⟨gb139, 2, none⟩ = some (.slice none 0 0) := (blk_cell BK139.out 2).trans rfl; have hfz98_0 := blk_frozen BK139.out 0; have hfz98_1 := blk_frozen BK139.out 1; have hfz98_2 := blk_frozen BK139.out 2; have hnb99 := NB137_138.out; have hnc99 := NB138_137.out; have hcz100_0 : w95.cell? ⟨gb137, 0, none⟩ = some (.int .i64 a1_0) := (blk_cell BK137.out 0).trans rfl; have hcz100_1 : w95.cell? ⟨gb137, 1, none⟩ = some (.int .i64 a1_1) := (blk_cell BK137.out 1).trans rfl; have hcz100_2 : w95.cell? ⟨gb137, 2, none⟩ = some (.int .i64 a1_2) := (blk_cell BK137.out 2).trans rfl; have hcz100_3 : w95.cell? ⟨gb137, 3, none⟩ = some (.slice A1_3 l1_3.length c1_3) := (blk_cell BK137.out 3).trans rfl; have hfz100_0 := blk_frozen BK137.out 0; have hfz100_1 := blk_frozen BK137.out 1; have hfz100_2 := blk_frozen BK137.out 2; have hfz100_3 := blk_frozen BK137.out 3))
        have n0_ : Aside0 ((((w95.setCell ⟨gb139, 0, none⟩ (.bool true)).setCell ⟨gb139, 1, none⟩ (.int .i64 0)).setCell ⟨gb139, 2, none⟩ (.slice none 0 0)).heap[gb137]? = some (.cells #[.int .i64 a1_0, .int .i64 a1_1, .int .i64 a1_2, .slice A1_3 l1_3.length c1_3] 63 (0, 0))) := ⟨by (with_reducible repeat (first | refine blk_drewN ?_ _ | refine blk_drew ?_ | refine blk_alloc ?_ _)); refine blk_far ?_ NB137_139.out _; (with_reducible repeat (first | refine blk_drewN ?_ _ | refine blk_drew ?_ | refine blk_alloc ?_ _)); refine blk_far ?_ NB137_139.out _; (with_reducible repeat (first | refine blk_drewN ?_ _ | refine blk_drew ?_ | refine blk_alloc ?_ _)); refine blk_far ?_ NB137_139.out _; (with_reducible repeat (first | refine blk_drewN ?_ _ | refine blk_drew ?_ | refine blk_alloc ?_ _)); exact BK137.out⟩
        have n1_ : Aside0 ((((w95.setCell ⟨gb139, 0, none⟩ (.bool true)).setCell ⟨gb139, 1, none⟩ (.int .i64 0)).setCell ⟨gb139, 2, none⟩ (.slice none 0 0)).heap[gb138]? = some (.cells #[.bool false, .int .i64 0, .slice none 0 0] 27 (0, 0))) := ⟨by (with_reducible repeat (first | refine blk_drewN ?_ _ | refine blk_drew ?_ | refine blk_alloc ?_ _)); refine blk_far ?_ NB138_139.out _; (with_reducible repeat (first | refine blk_drewN ?_ _ | refine blk_drew ?_ | refine blk_alloc ?_ _)); refine blk_far ?_ NB138_139.out _; (with_reducible repeat (first | refine blk_drewN ?_ _ | refine blk_drew ?_ | refine blk_alloc ?_ _)); refine blk_far ?_ NB138_139.out _; (with_reducible repeat (first | refine blk_drewN ?_ _ | refine blk_drew ?_ | refine blk_alloc ?_ _)); exact BK138.out⟩
        have n2_ : Aside0 ((((w95.setCell ⟨gb139, 0, none⟩ (.bool true)).setCell ⟨gb139, 1, none⟩ (.int .i64 0)).setCell ⟨gb139, 2, none⟩ (.slice none 0 0)).heap[gb139]? = some (.cells #[.bool true, .int .i64 0, .slice none 0 0] 27 (0, 0))) := ⟨by (with_reducible repeat (first | refine blk_drewN ?_ _ | refine blk_drew ?_ | refine blk_alloc ?_ _)); refine blk_put (cs := #[.bool true, .int .i64 0, .slice none 0 0]) ?_ 2 _ rfl; (with_reducible repeat (first | refine blk_drewN ?_ _ | refine blk_drew ?_ | refine blk_alloc ?_ _)); refine blk_put (cs := #[.bool true, .int .i64 0, .slice none 0 0]) ?_ 1 _ rfl; (with_reducible repeat (first | refine blk_drewN ?_ _ | refine blk_drew ?_ | refine blk_alloc ?_ _)); refine blk_put (cs := #[.bool false, .int .i64 0, .slice none 0 0]) ?_ 0 _ rfl; (with_reducible repeat (first | refine blk_drewN ?_ _ | refine blk_drew ?_ | refine blk_alloc ?_ _)); exact BK139.out⟩
        have n3_ : Aside0 (Fr S w0 w st (((w95.setCell ⟨gb139, 0, none⟩ (.bool true)).setCell ⟨gb139, 1, none⟩ (.int .i64 0)).setCell ⟨gb139, 2, none⟩ (.slice none 0 0))) := ⟨by repeat (first | (with_reducible first | exact HB.out | apply Fr.alloc | apply Fr.drewN | apply Fr.drew | refine Fr.set ?_ GE137.out (t := 63) (by repeat (first | exact Ty.of BK137.out | apply Ty.set | apply Ty.alloc | apply Ty.drewN | apply Ty.drew)) rfl | refine Fr.set ?_ GE138.out (t := 27) (by repeat (first | exact Ty.of BK138.out | apply Ty.set | apply Ty.alloc | apply Ty.drewN | apply Ty.drew)) rfl | refine Fr.set ?_ GE139.out (t := 27) (by repeat (first | exact Ty.of BK139.out | apply Ty.set | apply Ty.alloc | apply Ty.drewN | apply Ty.drew)) rfl) | exact HB.out)⟩
        (try clear BK137)
        (try clear BK138)
        (try clear BK139)
        (try clear HB)
        generalize (((w95.setCell ⟨gb139, 0, none⟩ (.bool true)).setCell ⟨gb139, 1, none⟩ (.int .i64 0)).setCell ⟨gb139, 2, none⟩ (.slice none 0 0)) = w101 at n0_ n1_ n2_ n3_ ⊢
        have BK137 := n0_
        have BK138 := n1_
        have BK139 := n2_
        have HB := n3_
        clear n0_ n1_ n2_ n3_
        have n0_ := Aside0.mk (blk_drew BK137.out)
        have n1_ := Aside0.mk (blk_drew BK138.out)
        have n2_ := Aside0.mk (blk_drew BK139.out)
        have n3_ := Aside0.mk (Fr.drew HB.out)
        clear BK137
        clear BK138
        clear BK139
        clear HB
        have BK137 := n0_
        have BK138 := n1_
        have BK139 := n2_
        have HB := n3_
        clear n0_ n1_ n2_ n3_
        have p162 : 0 ≤ (t161 : Int) := of_decide_eq_true (by first | (with_reducible assumption) | assumption)
        have q162 : t161 < (l1_3.length : Int) := of_decide_eq_true (by first | (with_reducible assumption) | assumption)
        obtain ⟨ad162, A162_3, c162_3, e162, hx162_0, hx162_1, hx162_2, hx162_3, hl162_3, hi162_3⟩ := at_T63 HR1_3.out t161 p162 q162
        have hw162_3 := hx162_3
        have hw162_2 := hx162_2
        have hw162_1 := hx162_1
        have hw162_0 := hx162_0
        cases e162
        replace hx162_0 := (HB.out.b.cell (World.block_lt_of_cell? w0 _ hx162_0)).trans hx162_0
        replace hx162_1 := (HB.out.b.cell (World.block_lt_of_cell? w0 _ hx162_1)).trans hx162_1
        replace hx162_2 := (HB.out.b.cell (World.block_lt_of_cell? w0 _ hx162_2)).trans hx162_2
        replace hx162_3 := (HB.out.b.cell (World.block_lt_of_cell? w0 _ hx162_3)).trans hx162_3
        have HR162_3 := Aside0.mk hi162_3
        have HC162_3 := Aside0.mk hl162_3
        clear hi162_3 hl162_3
        replace p162 := eq_true p162
        replace q162 := eq_true q162
        refine start_ (n := 13) (S := fun w' => w'.cell? ⟨gb137, 0, none⟩ = some (.int .i64 a1_0) ∧ w'.cell? ⟨gb137, 1, none⟩ = some (.int .i64 a1_1) ∧ w'.cell? ⟨gb137, 2, none⟩ = some (.int .i64 a1_2) ∧ w'.cell? ⟨gb137, 3, none⟩ = some (.slice (some ad162) l1_3.length c1_3) ∧ w'.cell? (ad162.add ((t161).toNat * 4)) = some (.int .i64 ((rd_T63 l1_3 t161).f0)) ∧ w'.cell? ⟨(ad162.add ((t161).toNat * 4)).block, (ad162.add ((t161).toNat * 4)).off + 1, none⟩ = some (.int .i64 ((rd_T63 l1_3 t161).f1)) ∧ w'.cell? ⟨(ad162.add ((t161).toNat * 4)).block, (ad162.add ((t161).toNat * 4)).off + 2, none⟩ = some (.int .i64 ((rd_T63 l1_3 t161).f2)) ∧ w'.cell? ⟨(ad162.add ((t161).toNat * 4)).block, (ad162.add ((t161).toNat * 4)).off + 3, none⟩ = some (.slice A162_3 ((rd_T63 l1_3 t161).f3).length c162_3)) (ds := []) #[false, false, false, false, false, false, false, false, false, false, false, false, false] (by kernel_rfl) rfl rfl ⟨(blk_cell BK137.out 0).trans rfl, (blk_cell BK137.out 1).trans rfl, (blk_cell BK137.out 2).trans rfl, (blk_cell BK137.out 3).trans rfl, ((HB.out.b.cell (World.block_lt_of_cell? w0 _ hw162_0)).trans hw162_0), ((HB.out.b.cell (World.block_lt_of_cell? w0 _ hw162_1)).trans hw162_1), ((HB.out.b.cell (World.block_lt_of_cell? w0 _ hw162_2)).trans hw162_2), ((HB.out.b.cell (World.block_lt_of_cell? w0 _ hw162_3)).trans hw162_3)⟩ (fun hHeld => ?_); refine with_tabW gen_made.tab19 gen_made.bits19 (fun HT_ HW_ => ?_)
        generalize w101.drew = w102 at BK137 BK138 BK139 HB HR162_3 hx162_0 hx162_1 hx162_2 hx162_3 hHeld ⊢
        refine pure_ (i := 0) (N := some 69) (v := ?_) (a' := ?_) #[true, false, false, false, false, false, false, false, false, false, false, false, false] rfl rfl (any_of HT_.out (by kernel_rfl)) (fun _ _ _ h => h) (Or.inl ⟨by rfl, ?_⟩) ?_ ?_
        rotate_left
        ·intro w'
         go_simp
         with_reducible rfl
        rotate_left
        ·simp only [Act.put, List.setIfInBounds_toArray, List.set_cons_zero, List.set_cons_succ, i64_w, i32_w]
         rfl
        refine pure_ (i := 1) (N := some 70) (v := ?_) (a' := ?_) #[true, true, false, false, false, false, false, false, false, false, false, false, false] rfl rfl (any_of HT_.out (by kernel_rfl)) (fun _ _ _ h => h) (Or.inl ⟨by rfl, ?_⟩) ?_ ?_
        rotate_left
        ·intro w'
         go_simp
         with_reducible rfl
        rotate_left
        ·simp only [Act.put, List.setIfInBounds_toArray, List.set_cons_zero, List.set_cons_succ, i64_w, i32_w]
         rfl
        refine pure_ (i := 3) (N := some 72) (v := ?_) (a' := ?_) #[true, true, false, true, false, false, false, false, false, false, false, false, false] rfl rfl (any_of HT_.out (by kernel_rfl)) (fun _ _ _ h => h) (Or.inl ⟨by rfl, ?_⟩) ?_ ?_
        rotate_left
        ·intro w'
         go_simp
         with_reducible rfl
        rotate_left
        ·simp only [Act.put, List.setIfInBounds_toArray, List.set_cons_zero, List.set_cons_succ, i64_w, i32_w]
         rfl
        refine pure_ (i := 4) (N := some 73) (v := ?_) (a' := ?_) #[true, true, false, true, true, false, false, false, false, false, false, false, false] rfl rfl (any_of HT_.out (by kernel_rfl)) (fun _ _ _ h => h) (Or.inl ⟨by rfl, ?_⟩) ?_ ?_
        rotate_left
        ·intro w'
         go_simp
         with_reducible rfl
        rotate_left
        ·simp only [Act.put, List.setIfInBounds_toArray, List.set_cons_zero, List.set_cons_succ, i64_w, i32_w]
         rfl
        refine take_ (i := 2) (N := some 71) (v := ?_) (a' := ?_) #[true, true, true, true, true, false, false, false, false, false, false, false, false] rfl rfl (take_ofW HT_.out HW_.out (by kernel_rfl)) (fun _ _ _ h => h) (Or.inl ⟨by rfl, ?_⟩) hHeld ?_ ?_
        rotate_left
        ·rintro w' ⟨s0, s1, s2, s3, s4, s5, s6, s7⟩
         go_simp
         with_reducible rfl
        rotate_left
        ·simp only [Act.put, List.setIfInBounds_toArray, List.set_cons_zero, List.set_cons_succ, i64_w, i32_w]
         rfl
        refine take_ (i := 5) (N := some 74) (v := ?_) (a' := ?_) #[true, true, true, true, true, true, false, false, false, false, false, false, false] rfl rfl (take_ofW HT_.out HW_.out (by kernel_rfl)) (fun _ _ _ h => h) (Or.inl ⟨by rfl, ?_⟩) hHeld ?_ ?_
        rotate_left
        ·rintro w' ⟨s0, s1, s2, s3, s4, s5, s6, s7⟩
         go_simp
         with_reducible rfl
        rotate_left
        ·simp only [Act.put, List.setIfInBounds_toArray, List.set_cons_zero, List.set_cons_succ, i64_w, i32_w]
         rfl
        refine pure_ (i := 6) (N := some 75) (v := ?_) (a' := ?_) #[true, true, true, true, true, true, true, false, false, false, false, false, false] rfl rfl (any_of HT_.out (by kernel_rfl)) (fun _ _ _ h => h) (Or.inl ⟨by rfl, ?_⟩) ?_ ?_
        rotate_left
        ·intro w'
         go_simp
         with_reducible rfl
        rotate_left
        ·simp only [Act.put, List.setIfInBounds_toArray, List.set_cons_zero, List.set_cons_succ, i64_w, i32_w]
         rfl
        refine pure_ (i := 7) (N := some 76) (v := ?_) (a' := ?_) #[true, true, true, true, true, true, true, true, false, false, false, false, false] rfl rfl (any_of HT_.out (by kernel_rfl)) (fun _ _ _ h => h) (Or.inl ⟨by rfl, ?_⟩) ?_ ?_
        rotate_left
        ·intro w'
         go_simp
         with_reducible rfl
        rotate_left
        ·simp only [Act.put, List.setIfInBounds_toArray, List.set_cons_zero, List.set_cons_succ, i64_w, i32_w]
         rfl
        refine one_ (i := 8) (N := some 77) #[true, true, true, true, true, true, true, true, true, false, false, false, false] rfl rfl (one_of HT_.out (by kernel_rfl)) (by decide) (fun K hK => ?_)
        refine goesC_ caps hF hn hbd #[.int .i64 (wrap64 ((l1_3.length : Int) - 1))] (by rfl) rfl rfl (by first | rfl | (go_simp; done)) (by (try simp only [List.map_toArray, List.map_cons, List.map_nil]); first | done | rfl | (simp only [List.length_drop, List.length_take]; rfl)) ?_
        refine (hch _ (wrap64 ((l1_3.length : Int) - 1)) t161 st161 _ (Fr.here (by repeat (first | (with_reducible first | exact HB.out | apply Fr.alloc | apply Fr.drewN | apply Fr.drew | refine Fr.set ?_ GE137.out (t := 63) (by repeat (first | exact Ty.of BK137.out | apply Ty.set | apply Ty.alloc | apply Ty.drewN | apply Ty.drew)) rfl | refine Fr.set ?_ GE138.out (t := 27) (by repeat (first | exact Ty.of BK138.out | apply Ty.set | apply Ty.alloc | apply Ty.drewN | apply Ty.drew)) rfl | refine Fr.set ?_ GE139.out (t := 27) (by repeat (first | exact Ty.of BK139.out | apply Ty.set | apply Ty.alloc | apply Ty.drewN | apply Ty.drew)) rfl) | exact HB.out))) A89.out).mono ?_
        rintro e w103 ⟨rfl, hb⟩
        refine ⟨_, rfl, ?_⟩
        have n0_ := Aside0.mk (Fr.blk_ (g := gb137) (t := 63) (cs := #[.int .i64 a1_0, .int .i64 a1_1, .int .i64 a1_2, .slice (some ad162) l1_3.length c1_3]) (by (with_reducible repeat (first | refine blk_drewN ?_ _ | refine blk_drew ?_ | refine blk_alloc ?_ _)); exact BK137.out) hb rfl)
        have n1_ := Aside0.mk (Fr.blk_ (g := gb138) (t := 27) (cs := #[.bool false, .int .i64 0, .slice none 0 0]) (by (with_reducible repeat (first | refine blk_drewN ?_ _ | refine blk_drew ?_ | refine blk_alloc ?_ _)); exact BK138.out) hb rfl)
        have n2_ := Aside0.mk (Fr.blk_ (g := gb139) (t := 27) (cs := #[.bool true, .int .i64 0, .slice none 0 0]) (by (with_reducible repeat (first | refine blk_drewN ?_ _ | refine blk_drew ?_ | refine blk_alloc ?_ _)); exact BK139.out) hb rfl)
        have n3_ := Aside0.mk (Fr.trans (w := w) (st := st) (by repeat (first | (with_reducible first | exact HB.out | apply Fr.alloc | apply Fr.drewN | apply Fr.drew | refine Fr.set ?_ GE137.out (t := 63) (by repeat (first | exact Ty.of BK137.out | apply Ty.set | apply Ty.alloc | apply Ty.drewN | apply Ty.drew)) rfl | refine Fr.set ?_ GE138.out (t := 27) (by repeat (first | exact Ty.of BK138.out | apply Ty.set | apply Ty.alloc | apply Ty.drewN | apply Ty.drew)) rfl | refine Fr.set ?_ GE139.out (t := 27) (by repeat (first | exact Ty.of BK139.out | apply Ty.set | apply Ty.alloc | apply Ty.drewN | apply Ty.drew)) rfl) | exact HB.out)) hb)
        clear BK137
        clear BK138
        clear BK139
        clear HB
        have BK137 := n0_
        have BK138 := n1_
        have BK139 := n2_
        have HB := n3_
        clear n0_ n1_ n2_ n3_
        (try clear hb)
        (try clear hb2)
        (try clear hk)
        (try clear hi)
        refine hK.out _ _ ⟨(blk_cell BK137.out 0).trans rfl, (blk_cell BK137.out 1).trans rfl, (blk_cell BK137.out 2).trans rfl, (blk_cell BK137.out 3).trans rfl, ((HB.out.b.cell (World.block_lt_of_cell? w0 _ hw162_0)).trans hw162_0), ((HB.out.b.cell (World.block_lt_of_cell? w0 _ hw162_1)).trans hw162_1), ((HB.out.b.cell (World.block_lt_of_cell? w0 _ hw162_2)).trans hw162_2), ((HB.out.b.cell (World.block_lt_of_cell? w0 _ hw162_3)).trans hw162_3)⟩ (fun hHeld => ?_)
        clear hK K
        refine norm_ (a' := ?_) ?_ ?_
        rotate_left
        ·show Act.put _ (some 77) _ = _
         simp only [Act.put, List.setIfInBounds_toArray, List.set_cons_zero, List.set_cons_succ, i64_w, i32_w]
         rfl
        refine pure_ (i := 9) (N := some 78) (v := ?_) (a' := ?_) #[true, true, true, true, true, true, true, true, true, true, false, false, false] rfl rfl (any_of HT_.out (by kernel_rfl)) (fun _ _ _ h => h) (Or.inl ⟨by rfl, ?_⟩) ?_ ?_
        rotate_left
        ·intro w'
         go_simp
         with_reducible rfl
        rotate_left
        ·simp only [Act.put, List.setIfInBounds_toArray, List.set_cons_zero, List.set_cons_succ, i64_w, i32_w]
         rfl
        refine take_ (i := 10) (N := some 79) (v := ?_) (a' := ?_) #[true, true, true, true, true, true, true, true, true, true, true, false, false] rfl rfl (take_ofW HT_.out HW_.out (by kernel_rfl)) (fun _ _ _ h => h) (Or.inl ⟨by rfl, ?_⟩) hHeld ?_ ?_
        rotate_left
        ·rintro w' ⟨s0, s1, s2, s3, s4, s5, s6, s7⟩
         go_simp
         with_reducible rfl
        rotate_left
        ·simp only [Act.put, List.setIfInBounds_toArray, List.set_cons_zero, List.set_cons_succ, i64_w, i32_w]
         rfl
        refine one_ (i := 11) (N := some 80) #[true, true, true, true, true, true, true, true, true, true, true, true, false] rfl rfl (one_of HT_.out (by kernel_rfl)) (by decide) (fun K hK => ?_)
        refine goes_ Tryd.func86 (by kernel_rfl) rfl #[.func (.func F) #[] caps, .agg #[.int .i64 ((rd_T63 l1_3 t161).f0), .int .i64 ((rd_T63 l1_3 t161).f1), .int .i64 ((rd_T63 l1_3 t161).f2), .slice A162_3 ((rd_T63 l1_3 t161).f3).length c162_3]] (by rfl) rfl rfl (by (try simp only [List.map_toArray, List.map_cons, List.map_nil]); first | done | rfl | (simp only [List.length_drop, List.length_take]; rfl)) ?_
        with_reducible refine (ih k (by omega) _ ((rd_T63 l1_3 t161).f0) ((rd_T63 l1_3 t161).f1) ((rd_T63 l1_3 t161).f2) _ _ ((rd_T63 l1_3 t161).f3) t163 t164 t165 st163 _ ?side0 ?side1 ?side2 A92.out).mono ?_
        (case side0 => exact Fr.here HB.out)
        (case side1 => exact HR162_3.out)
        (case side2 => exact HC162_3.out)
        rintro e w104 ⟨v166, rfl, ho0, hb⟩
        refine ⟨_, rfl, ?_⟩
        have n0_ := Aside0.mk (Kd.R_lower (Kd.R_newB (Kd.R_newB ho0 (g := gb138) (o := .cells #[.bool false, .int .i64 0, .slice none 0 0] 27 (0, 0)) (by (with_reducible repeat (first | refine blk_drewN ?_ _ | refine blk_drew ?_ | refine blk_alloc ?_ _)); exact BK138.out)) (g := gb139) (o := .cells #[.bool true, .int .i64 0, .slice none 0 0] 27 (0, 0)) (by (with_reducible repeat (first | refine blk_drewN ?_ _ | refine blk_drew ?_ | refine blk_alloc ?_ _)); exact BK139.out)) (Fr.size (w := w) (st := st161) (by repeat (first | (with_reducible first | exact HB.out | apply Fr.alloc | apply Fr.drewN | apply Fr.drew | refine Fr.set ?_ GE137.out (t := 63) (by repeat (first | exact Ty.of BK137.out | apply Ty.set | apply Ty.alloc | apply Ty.drewN | apply Ty.drew)) rfl | refine Fr.set ?_ GE138.out (t := 27) (by repeat (first | exact Ty.of BK138.out | apply Ty.set | apply Ty.alloc | apply Ty.drewN | apply Ty.drew)) rfl | refine Fr.set ?_ GE139.out (t := 27) (by repeat (first | exact Ty.of BK139.out | apply Ty.set | apply Ty.alloc | apply Ty.drewN | apply Ty.drew)) rfl) | exact HB.out))))
        have n1_ := Aside0.mk (Fr.blk_ (g := gb137) (t := 63) (cs := #[.int .i64 a1_0, .int .i64 a1_1, .int .i64 a1_2, .slice (some ad162) l1_3.length c1_3]) (by (with_reducible repeat (first | refine blk_drewN ?_ _ | refine blk_drew ?_ | refine blk_alloc ?_ _)); exact BK137.out) hb rfl)
        have n2_ := Aside0.mk (Fr.blk_ (g := gb138) (t := 27) (cs := #[.bool false, .int .i64 0, .slice none 0 0]) (by (with_reducible repeat (first | refine blk_drewN ?_ _ | refine blk_drew ?_ | refine blk_alloc ?_ _)); exact BK138.out) hb rfl)
        have n3_ := Aside0.mk (Fr.blk_ (g := gb139) (t := 27) (cs := #[.bool true, .int .i64 0, .slice none 0 0]) (by (with_reducible repeat (first | refine blk_drewN ?_ _ | refine blk_drew ?_ | refine blk_alloc ?_ _)); exact BK139.out) hb rfl)
        have n4_ := Aside0.mk (Fr.trans (w := w) (st := st161) (by repeat (first | (with_reducible first | exact HB.out | apply Fr.alloc | apply Fr.drewN | apply Fr.drew | refine Fr.set ?_ GE137.out (t := 63) (by repeat (first | exact Ty.of BK137.out | apply Ty.set | apply Ty.alloc | apply Ty.drewN | apply Ty.drew)) rfl | refine Fr.set ?_ GE138.out (t := 27) (by repeat (first | exact Ty.of BK138.out | apply Ty.set | apply Ty.alloc | apply Ty.drewN | apply Ty.drew)) rfl | refine Fr.set ?_ GE139.out (t := 27) (by repeat (first | exact Ty.of BK139.out | apply Ty.set | apply Ty.alloc | apply Ty.drewN | apply Ty.drew)) rfl) | exact HB.out)) hb)
        clear BK137
        clear BK138
        clear BK139
        clear HB
        have HO167 := n0_
        have BK137 := n1_
        have BK138 := n2_
        have BK139 := n3_
        have HB := n4_
        clear n0_ n1_ n2_ n3_ n4_
        (try clear hb)
        (try clear hb2)
        (try clear hk)
        (try clear hi)
        (try clear ho0)
        obtain ⟨Ao107, co107, eo107⟩ := Kd.R_slice HO167.out
        (first | subst eo107 | (injection eo107 with f1_ f2_ f3_; have f4_ := f1_.symm; have f5_ := f3_.symm; clear f1_ f2_ f3_; subst f4_; subst f5_))
        refine hK.out _ _ ⟨(blk_cell BK137.out 0).trans rfl, (blk_cell BK137.out 1).trans rfl, (blk_cell BK137.out 2).trans rfl, (blk_cell BK137.out 3).trans rfl, ((HB.out.b.cell (World.block_lt_of_cell? w0 _ hw162_0)).trans hw162_0), ((HB.out.b.cell (World.block_lt_of_cell? w0 _ hw162_1)).trans hw162_1), ((HB.out.b.cell (World.block_lt_of_cell? w0 _ hw162_2)).trans hw162_2), ((HB.out.b.cell (World.block_lt_of_cell? w0 _ hw162_3)).trans hw162_3)⟩ (fun hHeld => ?_)
        clear hK K
        refine norm_ (a' := ?_) ?_ ?_
        rotate_left
        ·show Act.put _ (some 80) _ = _
         simp only [Act.put, List.setIfInBounds_toArray, List.set_cons_zero, List.set_cons_succ, i64_w, i32_w]
         rfl
        refine one_ (i := 12) (N := none) #[true, true, true, true, true, true, true, true, true, true, true, true, true] rfl rfl (one_of HT_.out (by kernel_rfl)) (by decide) (fun K hK => ?_)
        have hs105 : w104.cell? ⟨gb138, 0, none⟩ = some (.bool false) := (blk_cell BK138.out 0).trans rfl
        have hfs105 := blk_frozen BK138.out 0
        have hns105_0 := NB137_138.out
        have hns105_2 := NB139_138.out
        have hms105_0 := NB138_137.out
        have hms105_2 := NB138_139.out
        have hs106 : w104.cell? ⟨gb138, 1, none⟩ = some (.int .i64 0) := (blk_cell BK138.out 1).trans rfl
        have hfs106 := blk_frozen BK138.out 1
        have hns106_0 := NB137_138.out
        have hns106_2 := NB139_138.out
        have hms106_0 := NB138_137.out
        have hms106_2 := NB138_139.out
        have hs108 : w104.cell? ⟨gb138, 2, none⟩ = some (.slice none 0 0) := (blk_cell BK138.out 2).trans rfl
        have hfs108 := blk_frozen BK138.out 2
        have hns108_0 := NB137_138.out
        have hns108_2 := NB139_138.out
        have hms108_0 := NB138_137.out
        have hms108_2 := NB138_139.out
        refine skip_ (w1 := ?_) (by rfl) rfl ?_ ?_
        rotate_left
        ·go_simp
         rfl
        refine hK.out _ _ ⟨((cell_far (p := ⟨gb138, _, none⟩) NB137_138.out _).trans (((cell_far (p := ⟨gb138, _, none⟩) NB137_138.out _).trans (((cell_far (p := ⟨gb138, _, none⟩) NB137_138.out _).trans (hHeld.1)))))), ((cell_far (p := ⟨gb138, _, none⟩) NB137_138.out _).trans (((cell_far (p := ⟨gb138, _, none⟩) NB137_138.out _).trans (((cell_far (p := ⟨gb138, _, none⟩) NB137_138.out _).trans (hHeld.2.1)))))), ((cell_far (p := ⟨gb138, _, none⟩) NB137_138.out _).trans (((cell_far (p := ⟨gb138, _, none⟩) NB137_138.out _).trans (((cell_far (p := ⟨gb138, _, none⟩) NB137_138.out _).trans (hHeld.2.2.1)))))), ((cell_far (p := ⟨gb138, _, none⟩) NB137_138.out _).trans (((cell_far (p := ⟨gb138, _, none⟩) NB137_138.out _).trans (((cell_far (p := ⟨gb138, _, none⟩) NB137_138.out _).trans (hHeld.2.2.2.1)))))), ((cell_far (p := ⟨gb138, _, none⟩) (by first | exact Nat.ne_of_lt (Nat.lt_of_lt_of_le (by have := World.block_lt_of_cell? _ _ hw162_0; first | rwa [add_block] at this | exact this) (Nat.le_trans HW0 GW138.out)) | (rw [add_block]; exact Nat.ne_of_lt (Nat.lt_of_lt_of_le (by have := World.block_lt_of_cell? _ _ hw162_0; first | rwa [add_block] at this | exact this) (Nat.le_trans HW0 GW138.out))) | (show (Addr.add _ _).block ≠ _; rw [add_block]; exact Nat.ne_of_lt (Nat.lt_of_lt_of_le (by have := World.block_lt_of_cell? _ _ hw162_0; first | rwa [add_block] at this | exact this) (Nat.le_trans HW0 GW138.out))) | (dsimp only; exact Nat.ne_of_lt (Nat.lt_of_lt_of_le (by have := World.block_lt_of_cell? _ _ hw162_0; first | rwa [add_block] at this | exact this) (Nat.le_trans HW0 GW138.out)))) _).trans (((cell_far (p := ⟨gb138, _, none⟩) (by first | exact Nat.ne_of_lt (Nat.lt_of_lt_of_le (by have := World.block_lt_of_cell? _ _ hw162_0; first | rwa [add_block] at this | exact this) (Nat.le_trans HW0 GW138.out)) | (rw [add_block]; exact Nat.ne_of_lt (Nat.lt_of_lt_of_le (by have := World.block_lt_of_cell? _ _ hw162_0; first | rwa [add_block] at this | exact this) (Nat.le_trans HW0 GW138.out))) | (show (Addr.add _ _).block ≠ _; rw [add_block]; exact Nat.ne_of_lt (Nat.lt_of_lt_of_le (by have := World.block_lt_of_cell? _ _ hw162_0; first | rwa [add_block] at this | exact this) (Nat.le_trans HW0 GW138.out))) | (dsimp only; exact Nat.ne_of_lt (Nat.lt_of_lt_of_le (by have := World.block_lt_of_cell? _ _ hw162_0; first | rwa [add_block] at this | exact this) (Nat.le_trans HW0 GW138.out)))) _).trans (((cell_far (p := ⟨gb138, _, none⟩) (by first | exact Nat.ne_of_lt (Nat.lt_of_lt_of_le (by have := World.block_lt_of_cell? _ _ hw162_0; first | rwa [add_block] at this | exact this) (Nat.le_trans HW0 GW138.out)) | (rw [add_block]; exact Nat.ne_of_lt (Nat.lt_of_lt_of_le (by have := World.block_lt_of_cell? _ _ hw162_0; first | rwa [add_block] at this | exact this) (Nat.le_trans HW0 GW138.out))) | (show (Addr.add _ _).block ≠ _; rw [add_block]; exact Nat.ne_of_lt (Nat.lt_of_lt_of_le (by have := World.block_lt_of_cell? _ _ hw162_0; first | rwa [add_block] at this | exact this) (Nat.le_trans HW0 GW138.out))) | (dsimp only; exact Nat.ne_of_lt (Nat.lt_of_lt_of_le (by have := World.block_lt_of_cell? _ _ hw162_0; first | rwa [add_block] at this | exact this) (Nat.le_trans HW0 GW138.out)))) _).trans (hHeld.2.2.2.2.1)))))), ((cell_far (p := ⟨gb138, _, none⟩) (by first | exact Nat.ne_of_lt (Nat.lt_of_lt_of_le (by have := World.block_lt_of_cell? _ _ hw162_1; first | rwa [add_block] at this | exact this) (Nat.le_trans HW0 GW138.out)) | (rw [add_block]; exact Nat.ne_of_lt (Nat.lt_of_lt_of_le (by have := World.block_lt_of_cell? _ _ hw162_1; first | rwa [add_block] at this | exact this) (Nat.le_trans HW0 GW138.out))) | (show (Addr.add _ _).block ≠ _; rw [add_block]; exact Nat.ne_of_lt (Nat.lt_of_lt_of_le (by have := World.block_lt_of_cell? _ _ hw162_1; first | rwa [add_block] at this | exact this) (Nat.le_trans HW0 GW138.out))) | (dsimp only; exact Nat.ne_of_lt (Nat.lt_of_lt_of_le (by have := World.block_lt_of_cell? _ _ hw162_1; first | rwa [add_block] at this | exact this) (Nat.le_trans HW0 GW138.out)))) _).trans (((cell_far (p := ⟨gb138, _, none⟩) (by first | exact Nat.ne_of_lt (Nat.lt_of_lt_of_le (by have := World.block_lt_of_cell? _ _ hw162_1; first | rwa [add_block] at this | exact this) (Nat.le_trans HW0 GW138.out)) | (rw [add_block]; exact Nat.ne_of_lt (Nat.lt_of_lt_of_le (by have := World.block_lt_of_cell? _ _ hw162_1; first | rwa [add_block] at this | exact this) (Nat.le_trans HW0 GW138.out))) | (show (Addr.add _ _).block ≠ _; rw [add_block]; exact Nat.ne_of_lt (Nat.lt_of_lt_of_le (by have := World.block_lt_of_cell? _ _ hw162_1; first | rwa [add_block] at this | exact this) (Nat.le_trans HW0 GW138.out))) | (dsimp only; exact Nat.ne_of_lt (Nat.lt_of_lt_of_le (by have := World.block_lt_of_cell? _ _ hw162_1; first | rwa [add_block] at this | exact this) (Nat.le_trans HW0 GW138.out)))) _).trans (((cell_far (p := ⟨gb138, _, none⟩) (by first | exact Nat.ne_of_lt (Nat.lt_of_lt_of_le (by have := World.block_lt_of_cell? _ _ hw162_1; first | rwa [add_block] at this | exact this) (Nat.le_trans HW0 GW138.out)) | (rw [add_block]; exact Nat.ne_of_lt (Nat.lt_of_lt_of_le (by have := World.block_lt_of_cell? _ _ hw162_1; first | rwa [add_block] at this | exact this) (Nat.le_trans HW0 GW138.out))) | (show (Addr.add _ _).block ≠ _; rw [add_block]; exact Nat.ne_of_lt (Nat.lt_of_lt_of_le (by have := World.block_lt_of_cell? _ _ hw162_1; first | rwa [add_block] at this | exact this) (Nat.le_trans HW0 GW138.out))) | (dsimp only; exact Nat.ne_of_lt (Nat.lt_of_lt_of_le (by have := World.block_lt_of_cell? _ _ hw162_1; first | rwa [add_block] at this | exact this) (Nat.le_trans HW0 GW138.out)))) _).trans (hHeld.2.2.2.2.2.1)))))), ((cell_far (p := ⟨gb138, _, none⟩) (by first | exact Nat.ne_of_lt (Nat.lt_of_lt_of_le (by have := World.block_lt_of_cell? _ _ hw162_2; first | rwa [add_block] at this | exact this) (Nat.le_trans HW0 GW138.out)) | (rw [add_block]; exact Nat.ne_of_lt (Nat.lt_of_lt_of_le (by have := World.block_lt_of_cell? _ _ hw162_2; first | rwa [add_block] at this | exact this) (Nat.le_trans HW0 GW138.out))) | (show (Addr.add _ _).block ≠ _; rw [add_block]; exact Nat.ne_of_lt (Nat.lt_of_lt_of_le (by have := World.block_lt_of_cell? _ _ hw162_2; first | rwa [add_block] at this | exact this) (Nat.le_trans HW0 GW138.out))) | (dsimp only; exact Nat.ne_of_lt (Nat.lt_of_lt_of_le (by have := World.block_lt_of_cell? _ _ hw162_2; first | rwa [add_block] at this | exact this) (Nat.le_trans HW0 GW138.out)))) _).trans (((cell_far (p := ⟨gb138, _, none⟩) (by first | exact Nat.ne_of_lt (Nat.lt_of_lt_of_le (by have := World.block_lt_of_cell? _ _ hw162_2; first | rwa [add_block] at this | exact this) (Nat.le_trans HW0 GW138.out)) | (rw [add_block]; exact Nat.ne_of_lt (Nat.lt_of_lt_of_le (by have := World.block_lt_of_cell? _ _ hw162_2; first | rwa [add_block] at this | exact this) (Nat.le_trans HW0 GW138.out))) | (show (Addr.add _ _).block ≠ _; rw [add_block]; exact Nat.ne_of_lt (Nat.lt_of_lt_of_le (by have := World.block_lt_of_cell? _ _ hw162_2; first | rwa [add_block] at this | exact this) (Nat.le_trans HW0 GW138.out))) | (dsimp only; exact Nat.ne_of_lt (Nat.lt_of_lt_of_le (by have := World.block_lt_of_cell? _ _ hw162_2; first | rwa [add_block] at this | exact this) (Nat.le_trans HW0 GW138.out)))) _).trans (((cell_far (p := ⟨gb138, _, none⟩) (by first | exact Nat.ne_of_lt (Nat.lt_of_lt_of_le (by have := World.block_lt_of_cell? _ _ hw162_2; first | rwa [add_block] at this | exact this) (Nat.le_trans HW0 GW138.out)) | (rw [add_block]; exact Nat.ne_of_lt (Nat.lt_of_lt_of_le (by have := World.block_lt_of_cell? _ _ hw162_2; first | rwa [add_block] at this | exact this) (Nat.le_trans HW0 GW138.out))) | (show (Addr.add _ _).block ≠ _; rw [add_block]; exact Nat.ne_of_lt (Nat.lt_of_lt_of_le (by have := World.block_lt_of_cell? _ _ hw162_2; first | rwa [add_block] at this | exact this) (Nat.le_trans HW0 GW138.out))) | (dsimp only; exact Nat.ne_of_lt (Nat.lt_of_lt_of_le (by have := World.block_lt_of_cell? _ _ hw162_2; first | rwa [add_block] at this | exact this) (Nat.le_trans HW0 GW138.out)))) _).trans (hHeld.2.2.2.2.2.2.1)))))), ((cell_far (p := ⟨gb138, _, none⟩) (by first | exact Nat.ne_of_lt (Nat.lt_of_lt_of_le (by have := World.block_lt_of_cell? _ _ hw162_3; first | rwa [add_block] at this | exact this) (Nat.le_trans HW0 GW138.out)) | (rw [add_block]; exact Nat.ne_of_lt (Nat.lt_of_lt_of_le (by have := World.block_lt_of_cell? _ _ hw162_3; first | rwa [add_block] at this | exact this) (Nat.le_trans HW0 GW138.out))) | (show (Addr.add _ _).block ≠ _; rw [add_block]; exact Nat.ne_of_lt (Nat.lt_of_lt_of_le (by have := World.block_lt_of_cell? _ _ hw162_3; first | rwa [add_block] at this | exact this) (Nat.le_trans HW0 GW138.out))) | (dsimp only; exact Nat.ne_of_lt (Nat.lt_of_lt_of_le (by have := World.block_lt_of_cell? _ _ hw162_3; first | rwa [add_block] at this | exact this) (Nat.le_trans HW0 GW138.out)))) _).trans (((cell_far (p := ⟨gb138, _, none⟩) (by first | exact Nat.ne_of_lt (Nat.lt_of_lt_of_le (by have := World.block_lt_of_cell? _ _ hw162_3; first | rwa [add_block] at this | exact this) (Nat.le_trans HW0 GW138.out)) | (rw [add_block]; exact Nat.ne_of_lt (Nat.lt_of_lt_of_le (by have := World.block_lt_of_cell? _ _ hw162_3; first | rwa [add_block] at this | exact this) (Nat.le_trans HW0 GW138.out))) | (show (Addr.add _ _).block ≠ _; rw [add_block]; exact Nat.ne_of_lt (Nat.lt_of_lt_of_le (by have := World.block_lt_of_cell? _ _ hw162_3; first | rwa [add_block] at this | exact this) (Nat.le_trans HW0 GW138.out))) | (dsimp only; exact Nat.ne_of_lt (Nat.lt_of_lt_of_le (by have := World.block_lt_of_cell? _ _ hw162_3; first | rwa [add_block] at this | exact this) (Nat.le_trans HW0 GW138.out)))) _).trans (((cell_far (p := ⟨gb138, _, none⟩) (by first | exact Nat.ne_of_lt (Nat.lt_of_lt_of_le (by have := World.block_lt_of_cell? _ _ hw162_3; first | rwa [add_block] at this | exact this) (Nat.le_trans HW0 GW138.out)) | (rw [add_block]; exact Nat.ne_of_lt (Nat.lt_of_lt_of_le (by have := World.block_lt_of_cell? _ _ hw162_3; first | rwa [add_block] at this | exact this) (Nat.le_trans HW0 GW138.out))) | (show (Addr.add _ _).block ≠ _; rw [add_block]; exact Nat.ne_of_lt (Nat.lt_of_lt_of_le (by have := World.block_lt_of_cell? _ _ hw162_3; first | rwa [add_block] at this | exact this) (Nat.le_trans HW0 GW138.out))) | (dsimp only; exact Nat.ne_of_lt (Nat.lt_of_lt_of_le (by have := World.block_lt_of_cell? _ _ hw162_3; first | rwa [add_block] at this | exact this) (Nat.le_trans HW0 GW138.out)))) _).trans (hHeld.2.2.2.2.2.2.2))))))⟩ (fun hHeld => ?_)
        clear hK K
        refine done_ (done_of HT_.out (by kernel_rfl)) ?_
        try go_wp2
        refine bodyPost_ret (results_cell_row rfl _ _ gb138 27 #[.bool t163, .int .i64 t164, .slice Ao107 t165.length co107] (0, 0) _ rfl (by (with_reducible repeat (first | refine blk_drewN ?_ _ | refine blk_drew ?_ | refine blk_alloc ?_ _)); refine blk_put (cs := #[.bool t163, .int .i64 t164, .slice none 0 0]) ?_ 2 _ rfl; (with_reducible repeat (first | refine blk_drewN ?_ _ | refine blk_drew ?_ | refine blk_alloc ?_ _)); refine blk_put (cs := #[.bool t163, .int .i64 0, .slice none 0 0]) ?_ 1 _ rfl; (with_reducible repeat (first | refine blk_drewN ?_ _ | refine blk_drew ?_ | refine blk_alloc ?_ _)); refine blk_put (cs := #[.bool false, .int .i64 0, .slice none 0 0]) ?_ 0 _ rfl; (with_reducible repeat (first | refine blk_drewN ?_ _ | refine blk_drew ?_ | refine blk_alloc ?_ _)); exact BK138.out) Tryd.underlying27 rfl (by kernel_rfl)) rfl ?_
        exact ⟨_, by first | rfl | (simp [errW_none, errW_some] <;> rfl) | (simp [*, errW_none, errW_some] <;> rfl), by (with_reducible repeat (first | apply Kd.R_alloc | apply Kd.R_drewN | apply Kd.R_drew)); exact Kd.R_mono (Kd.R_far (p := ⟨gb138, 2, none⟩) (Kd.R_far (p := ⟨gb138, 1, none⟩) (Kd.R_far (p := ⟨gb138, 0, none⟩) (Kd.R_mono HO167.out (fun k_ hk => (⟨hk, hk.1.2⟩ : _ ∧ k_ ≠ gb138))) (fun _ hk => hk.2) (.bool t163)) (fun _ hk => hk.2) (.int .i64 t164)) (fun _ hk => hk.2) (.slice Ao107 t165.length co107)) (fun _ hk => trivial), by repeat (first | (with_reducible first | exact HB.out | apply Fr.alloc | apply Fr.drewN | apply Fr.drew | refine Fr.set ?_ GE137.out (t := 63) (by repeat (first | exact Ty.of BK137.out | apply Ty.set | apply Ty.alloc | apply Ty.drewN | apply Ty.drew)) rfl | refine Fr.set ?_ GE138.out (t := 27) (by repeat (first | exact Ty.of BK138.out | apply Ty.set | apply Ty.alloc | apply Ty.drewN | apply Ty.drew)) rfl | refine Fr.set ?_ GE139.out (t := 27) (by repeat (first | exact Ty.of BK139.out | apply Ty.set | apply Ty.alloc | apply Ty.drewN | apply Ty.drew)) rfl) | exact HB.out)⟩
       ·rw [if_neg c91] at H
        exact absurd H (by simp)
      ·rw [if_neg c90] at H
       exact absurd H (by simp)
     ·rw [if_neg c88] at H
      have c88b0 : (a1_0 == 5) = false := beq_eq_false_iff_ne.mpr c88
      have c88b1 : (a1_0 != 5) = true := bne_iff_ne.mpr c88
      simp only [Option.some.injEq, Except.ok.injEq, Prod.mk.injEq] at H
      obtain ⟨⟨rfl, rfl, rfl⟩, rfl⟩ := H
      go_enter Tryd.func86, Tryd.ntmps86
      go_wp2_with (first | ((with_reducible refine gate_dst (N := 3) rfl ?_); refine box_event ?hg (N := 3) ?hd (cs := #[.int .i64 a1_0, .int .i64 a1_1, .int .i64 a1_2, .slice A1_3 l1_3.length c1_3]) (t := 63) ?hr ?_; (case hd => rfl); (case hg => rfl); (case hr => first | (go_simp; done) | (go_simp; rfl)); intro gb137 hg w109 hbox hb; have n0_ := Aside0.mk (Fr.step (w := w) (st := st) (by repeat (first | (with_reducible first | exact HB.out | apply Fr.alloc | apply Fr.drewN | apply Fr.drew) | exact HB.out)) hb); have n1_ := Aside0.mk (hbox); have n2_ := Aside0.mk ((by rw [hg]; exact (Fr.size (w := w) (st := st) (by repeat (first | (with_reducible first | exact HB.out | apply Fr.alloc | apply Fr.drewN | apply Fr.drew) | exact HB.out))) : w.heap.size ≤ gb137)); have n3_ := Aside0.mk ((by rw [hg]; exact (Fr.size (w := w) (st := st) (by repeat (first | (with_reducible first | exact HB.out | apply Fr.alloc | apply Fr.drewN | apply Fr.drew) | exact HB.out))) : w.heap.size ≤ gb137)); clear HB; have HB := n0_; have BK137 := n1_; have GW137 := n2_; have GE137 := n3_; clear n0_ n1_ n2_ n3_; clear hb hbox hg) | ((with_reducible refine gate_dst (N := 4) rfl ?_); refine box_event ?hg (N := 4) ?hd (cs := #[.bool false, .int .i64 0, .slice none 0 0]) (t := 27) ?hr ?_; (case hd => rfl); (case hg => rfl); (case hr => first | (go_simp; done) | (go_simp; rfl)); intro gb138 hg w110 hbox hb; have n0_ := Aside0.mk (blk_below (g := gb137) (o := .cells #[.int .i64 a1_0, .int .i64 a1_1, .int .i64 a1_2, .slice A1_3 l1_3.length c1_3] 63 (0, 0)) (by (with_reducible repeat (first | refine blk_drewN ?_ _ | refine blk_drew ?_ | refine blk_alloc ?_ _)); exact BK137.out) hb); have n1_ := Aside0.mk (Fr.step (w := w) (st := st) (by repeat (first | (with_reducible first | exact HB.out | apply Fr.alloc | apply Fr.drewN | apply Fr.drew | refine Fr.set ?_ GE137.out (t := 63) (by repeat (first | exact Ty.of BK137.out | apply Ty.set | apply Ty.alloc | apply Ty.drewN | apply Ty.drew)) rfl) | exact HB.out)) hb); have n2_ := Aside0.mk (hbox); have n3_ := Aside0.mk ((by rw [hg]; exact (Fr.size (w := w) (st := st) (by repeat (first | (with_reducible first | exact HB.out | apply Fr.alloc | apply Fr.drewN | apply Fr.drew | refine Fr.set ?_ GE137.out (t := 63) (by repeat (first | exact Ty.of BK137.out | apply Ty.set | apply Ty.alloc | apply Ty.drewN | apply Ty.drew)) rfl) | exact HB.out))) : w.heap.size ≤ gb138)); have n4_ := Aside0.mk ((by rw [hg]; exact (Fr.size (w := w) (st := st) (by repeat (first | (with_reducible first | exact HB.out | apply Fr.alloc | apply Fr.drewN | apply Fr.drew | refine Fr.set ?_ GE137.out (t := 63) (by repeat (first | exact Ty.of BK137.out | apply Ty.set | apply Ty.alloc | apply Ty.drewN | apply Ty.drew)) rfl) | exact HB.out))) : w.heap.size ≤ gb138)); have n5_ := Aside0.mk ((by rw [hg]; exact Nat.ne_of_lt (blk_lt (g := gb137) (o := .cells #[.int .i64 a1_0, .int .i64 a1_1, .int .i64 a1_2, .slice A1_3 l1_3.length c1_3] 63 (0, 0)) (by (with_reducible repeat (first | refine blk_drewN ?_ _ | refine blk_drew ?_ | refine blk_alloc ?_ _)); exact BK137.out)) : gb137 ≠ gb138)); have n6_ := Aside0.mk ((by rw [hg]; exact Nat.ne_of_gt (blk_lt (g := gb137) (o := .cells #[.int .i64 a1_0, .int .i64 a1_1, .int .i64 a1_2, .slice A1_3 l1_3.length c1_3] 63 (0, 0)) (by (with_reducible repeat (first | refine blk_drewN ?_ _ | refine blk_drew ?_ | refine blk_alloc ?_ _)); exact BK137.out)) : gb138 ≠ gb137)); clear BK137; clear HB; have BK137 := n0_; have HB := n1_; have BK138 := n2_; have GW138 := n3_; have GE138 := n4_; have NB137_138 := n5_; have NB138_137 := n6_; clear n0_ n1_ n2_ n3_ n4_ n5_ n6_; clear hb hbox hg) | ((with_reducible refine gate_dst (N := 5) rfl ?_); refine box_event ?hg (N := 5) ?hd (cs := #[.bool false, .int .i64 0, .slice none 0 0]) (t := 27) ?hr ?_; (case hd => rfl); (case hg => rfl); (case hr => first | (go_simp; done) | (go_simp; rfl)); intro gb139 hg w111 hbox hb; have n0_ := Aside0.mk (blk_below (g := gb137) (o := .cells #[.int .i64 a1_0, .int .i64 a1_1, .int .i64 a1_2, .slice A1_3 l1_3.length c1_3] 63 (0, 0)) (by (with_reducible repeat (first | refine blk_drewN ?_ _ | refine blk_drew ?_ | refine blk_alloc ?_ _)); exact BK137.out) hb); have n1_ := Aside0.mk (blk_below (g := gb138) (o := .cells #[.bool false, .int .i64 0, .slice none 0 0] 27 (0, 0)) (by (with_reducible repeat (first | refine blk_drewN ?_ _ | refine blk_drew ?_ | refine blk_alloc ?_ _)); exact BK138.out) hb); have n2_ := Aside0.mk (Fr.step (w := w) (st := st) (by repeat (first | (with_reducible first | exact HB.out | apply Fr.alloc | apply Fr.drewN | apply Fr.drew | refine Fr.set ?_ GE137.out (t := 63) (by repeat (first | exact Ty.of BK137.out | apply Ty.set | apply Ty.alloc | apply Ty.drewN | apply Ty.drew)) rfl | refine Fr.set ?_ GE138.out (t := 27) (by repeat (first | exact Ty.of BK138.out | apply Ty.set | apply Ty.alloc | apply Ty.drewN | apply Ty.drew)) rfl) | exact HB.out)) hb); have n3_ := Aside0.mk (hbox); have n4_ := Aside0.mk ((by rw [hg]; exact (Fr.size (w := w) (st := st) (by repeat (first | (with_reducible first | exact HB.out | apply Fr.alloc | apply Fr.drewN | apply Fr.drew | refine Fr.set ?_ GE137.out (t := 63) (by repeat (first | exact Ty.of BK137.out | apply Ty.set | apply Ty.alloc | apply Ty.drewN | apply Ty.drew)) rfl | refine Fr.set ?_ GE138.out (t := 27) (by repeat (first | exact Ty.of BK138.out | apply Ty.set | apply Ty.alloc | apply Ty.drewN | apply Ty.drew)) rfl) | exact HB.out))) : w.heap.size ≤ gb139)); have n5_ := Aside0.mk ((by rw [hg]; exact (Fr.size (w := w) (st := st) (by repeat (first | (with_reducible first | exact HB.out | apply Fr.alloc | apply Fr.drewN | apply Fr.drew | refine Fr.set ?_ GE137.out (t := 63) (by repeat (first | exact Ty.of BK137.out | apply Ty.set | apply Ty.alloc | apply Ty.drewN | apply Ty.drew)) rfl | refine Fr.set ?_ GE138.out (t := 27) (by repeat (first | exact Ty.of BK138.out | apply Ty.set | apply Ty.alloc | apply Ty.drewN | apply Ty.drew)) rfl) | exact HB.out))) : w.heap.size ≤ gb139)); have n6_ := Aside0.mk ((by rw [hg]; exact Nat.ne_of_lt (blk_lt (g := gb137) (o := .cells #[.int .i64 a1_0, .int .i64 a1_1, .int .i64 a1_2, .slice A1_3 l1_3.length c1_3] 63 (0, 0)) (by (with_reducible repeat (first | refine blk_drewN ?_ _ | refine blk_drew ?_ | refine blk_alloc ?_ _)); exact BK137.out)) : gb137 ≠ gb139)); have n7_ := Aside0.mk ((by rw [hg]; exact Nat.ne_of_gt (blk_lt (g := gb137) (o := .cells #[.int .i64 a1_0, .int .i64 a1_1, .int .i64 a1_2, .slice A1_3 l1_3.length c1_3] 63 (0, 0)) (by (with_reducible repeat (first | refine blk_drewN ?_ _ | refine blk_drew ?_ | refine blk_alloc ?_ _)); exact BK137.out)) : gb139 ≠ gb137)); have n8_ := Aside0.mk ((by rw [hg]; exact Nat.ne_of_lt (blk_lt (g := gb138) (o := .cells #[.bool false, .int .i64 0, .slice none 0 0] 27 (0, 0)) (by (with_reducible repeat (first | refine blk_drewN ?_ _ | refine blk_drew ?_ | refine blk_alloc ?_ _)); exact BK138.out)) : gb138 ≠ gb139)); have n9_ := Aside0.mk ((by rw [hg]; exact Nat.ne_of_gt (blk_lt (g := gb138) (o := .cells #[.bool false, .int .i64 0, .slice none 0 0] 27 (0, 0)) (by (with_reducible repeat (first | refine blk_drewN ?_ _ | refine blk_drew ?_ | refine blk_alloc ?_ _)); exact BK138.out)) : gb139 ≠ gb138)); clear BK137; clear BK138; clear HB; have BK137 := n0_; have BK138 := n1_; have HB := n2_; have BK139 := n3_; have GW139 := n4_; have GE139 := n5_; have NB137_139 := n6_; have NB139_137 := n7_; have NB138_139 := n8_; have NB139_138 := n9_; clear n0_ n1_ n2_ n3_ n4_ n5_ n6_ n7_ n8_ n9_; clear hb hbox hg; have hnb112 := NB139_137.out; have hnc112 := NB137_139.out; have hnb113 := NB139_138.out; have hnc113 := NB138_139.out; have hcz114_0 : w111.cell? ⟨gb139, 0, none⟩ = some (.bool false) := (blk_cell BK139.out 0).trans rfl; have hcz114_1 : w111.cell? ⟨gb139, 1, none⟩ = some (.int .i64 0) := (blk_cell BK139.out 1).trans rfl; have hcz114_2 : w111.cell? ⟨gb139, 2, none⟩ = some (.slice none 0 0) := (blk_cell BK139.out 2).trans rfl; have hfz114_0 := blk_frozen BK139.out 0; have hfz114_1 := blk_frozen BK139.out 1; have hfz114_2 := blk_frozen BK139.out 2; have hnb115 := NB137_138.out; have hnc115 := NB138_137.out; have hcz116_0 : w111.cell? ⟨gb137, 0, none⟩ = some (.int .i64 a1_0) := (blk_cell BK137.out 0).trans rfl; have hcz116_1 : w111.cell? ⟨gb137, 1, none⟩ = some (.int .i64 a1_1) := (blk_cell BK137.out 1).trans rfl; have hcz116_2 : w111.cell? ⟨gb137, 2, none⟩ = some (.int .i64 a1_2) := (blk_cell BK137.out 2).trans rfl; have hcz116_3 : w111.cell? ⟨gb137, 3, none⟩ = some (.slice A1_3 l1_3.length c1_3) := (blk_cell BK137.out 3).trans rfl; have hfz116_0 := blk_frozen BK137.out 0; have hfz116_1 := blk_frozen BK137.out 1; have hfz116_2 := blk_frozen BK137.out 2; have hfz116_3 := blk_frozen BK137.out 3; have hcz117_0 : w111.cell? ⟨gb138, 0, none⟩ = some (.bool false) := (blk_cell BK138.out 0).trans rfl; have hcz117_1 : w111.cell? ⟨gb138, 1, none⟩ = some (.int .i64 0) := (blk_cell BK138.out 1).trans rfl; have hcz117_2 : w111.cell? ⟨gb138, 2, none⟩ = some (.slice none 0 0) := (blk_cell BK138.out 2).trans rfl; have hfz117_0 := blk_frozen BK138.out 0; have hfz117_1 := blk_frozen BK138.out 1; have hfz117_2 := blk_frozen BK138.out 2))
      refine bodyPost_ret (results_cell_row rfl _ _ gb138 27 #[.bool true, .int .i64 0, .slice none 0 0] (0, 0) _ rfl (by (with_reducible repeat (first | refine blk_drewN ?_ _ | refine blk_drew ?_ | refine blk_alloc ?_ _)); refine blk_put (cs := #[.bool true, .int .i64 0, .slice none 0 0]) ?_ 2 _ rfl; (with_reducible repeat (first | refine blk_drewN ?_ _ | refine blk_drew ?_ | refine blk_alloc ?_ _)); refine blk_put (cs := #[.bool true, .int .i64 0, .slice none 0 0]) ?_ 1 _ rfl; (with_reducible repeat (first | refine blk_drewN ?_ _ | refine blk_drew ?_ | refine blk_alloc ?_ _)); refine blk_put (cs := #[.bool false, .int .i64 0, .slice none 0 0]) ?_ 0 _ rfl; (with_reducible repeat (first | refine blk_drewN ?_ _ | refine blk_drew ?_ | refine blk_alloc ?_ _)); refine blk_far ?_ NB138_139.out _; (with_reducible repeat (first | refine blk_drewN ?_ _ | refine blk_drew ?_ | refine blk_alloc ?_ _)); refine blk_far ?_ NB138_139.out _; (with_reducible repeat (first | refine blk_drewN ?_ _ | refine blk_drew ?_ | refine blk_alloc ?_ _)); refine blk_far ?_ NB138_139.out _; (with_reducible repeat (first | refine blk_drewN ?_ _ | refine blk_drew ?_ | refine blk_alloc ?_ _)); exact BK138.out) Tryd.underlying27 rfl (by kernel_rfl)) rfl ?_
      exact ⟨_, by first | rfl | (simp [errW_none, errW_some] <;> rfl) | (simp [*, errW_none, errW_some] <;> rfl), by first | exact Kd.R_nil _ _ _ _ _ | exact Kd.N_nil _ _ _ _ _ | exact Kd.V_nil _ _ _ _ _ | exact Kd.Q_nil _ _ _ _ _ | exact Kd.S_nil _ _ _ _ _, by repeat (first | (with_reducible first | exact HB.out | apply Fr.alloc | apply Fr.drewN | apply Fr.drew | refine Fr.set ?_ GE137.out (t := 63) (by repeat (first | exact Ty.of BK137.out | apply Ty.set | apply Ty.alloc | apply Ty.drewN | apply Ty.drew)) rfl | refine Fr.set ?_ GE138.out (t := 27) (by repeat (first | exact Ty.of BK138.out | apply Ty.set | apply Ty.alloc | apply Ty.drewN | apply Ty.drew)) rfl | refine Fr.set ?_ GE139.out (t := 27) (by repeat (first | exact Ty.of BK139.out | apply Ty.set | apply Ty.alloc | apply Ty.drewN | apply Ty.drew)) rfl) | exact HB.out)⟩

end Go.Proofs.YtgdomnlkafcddaaDoor.Q
namespace Go.Proofs.YtgdomnlkafcddaaDoor.Q
open Go.RowKit Go.Proofs.YtgdomnlkafcddaaDoorW.PrintWords Go.Proofs.YtgdomnlkafcddaaDoorW.PrintLast Go.Proofs.YtgdomnlkafcddaaDoorW.PrintMore
set_option linter.unusedVariables false
set_option linter.unusedSimpArgs false

def gen_Mend.g (k : Nat) (a0_0 : Int) (a0_1 : Int) (a0_2 : Int) (l0_3 : List (S63)) (l1 : List Int) : Option (List Int × Option Int) :=
 (gen_Check.f k a0_0 a0_1 a0_2 l0_3).bind fun e => match e with
  | some c => some ([], some c)
  | none => match gen_made.f (mendStp l1) k [] a0_0 a0_1 a0_2 l0_3 with
   | some (.ok (_, out)) => some (out, none)
   | _ => none
noncomputable def gen_Mend.f (a0_0 : Int) (a0_1 : Int) (a0_2 : Int) (l0_3 : List (S63)) (l1 : List Int) : Option (List Int × Option Int) := Olim fun k => gen_Mend.g k a0_0 a0_1 a0_2 l0_3 l1
set_option maxHeartbeats 8000000 in
set_option maxRecDepth 100000 in
theorem gen_Mend.calls (a0_0 : Int) (a0_1 : Int) (a0_2 : Int) (A0_3 : Option Addr) (c0_3 : Nat) (l0_3 : List (S63)) (A1 : Option Addr) (c1 : Nat) (l1 : List Int) (r1 : List Int) (r2 : Option Int) (w : World) (hr0_3 : Kd.C k63 w A0_3 l0_3.length l0_3) (hc0_3 : l0_3.length ≤ c0_3) (hr1 : Kd.C (Kd.int .i64) w A1 l1.length l1) (hc1 : l1.length ≤ c1) (h : gen_Mend.f a0_0 a0_1 a0_2 l0_3 l1 = some (r1, r2)) :
  Calls Tryd.prog 43 #[.agg #[.int .i64 a0_0, .int .i64 a0_1, .int .i64 a0_2, .slice A0_3 l0_3.length c0_3], .slice A1 l1.length c1] w fun e w' => ∃ v0_ : Value, e = .returned (.tuple #[v0_, errW r2]) ∧ Kd.R (Kd.int .i64) 3 w' w.heap.size (fun _ => True) v0_ r1 ∧ Below w.heap.size w w' := by
 obtain ⟨k, h⟩ := Olim_some h
 unfold gen_Mend.g at h
 have hu63 := Tryd.underlying63
 have hu30 := Tryd.underlying30
 have hmf : ∀ (fn : Fn) (first cap : Array Value) (w : World), (Instr.makeFunc fn first cap).run Tryd.prog w = .ok (.func fn first cap) w := fun _ _ _ _ => rfl
 obtain ⟨e, hA, h⟩ := Option.bind_eq_some_iff.mp h
 have A2 := Aside0.mk hA
 clear hA
 have HR0_3 := Aside0.mk hr0_3
 have HR1 := Aside0.mk hr1
 have HC1 := Aside0.mk hc1
 have HC0_3 := Aside0.mk hc0_3
 clear hr0_3 hr1 hc1 hc0_3
 rcases e with _ | c
 ·dsimp only at h
  split at h
  case h_2 => cases h
  rename_i res v3 out hm
  obtain ⟨v31, v32, v33⟩ := v3
  simp only [Option.some.injEq, Prod.mk.injEq] at h
  obtain ⟨rfl, rfl⟩ := h
  have HM := Aside0.mk hm
  clear hm
  go_enter Tryd.func43, Tryd.ntmps43
  go_wp2_with (first
   | ((with_reducible refine gate_dst (N := 2) rfl ?_); refine box_event ?hg (N := 2) ?hd (cs := #[.int .i64 a0_0, .int .i64 a0_1, .int .i64 a0_2, .slice A0_3 l0_3.length c0_3]) (t := 63) ?hr ?_; (case hd => rfl); (case hg => rfl); (case hr => first | (go_simp; done) | (go_simp; rfl)); intro g2 hg2 w2 hbox hb; have BA := Aside0.mk hbox; have HB := Aside0.mk hb; clear hbox hb hg2)
   | ((with_reducible refine gate_dst (N := 3) rfl ?_); refine box_event ?hg (N := 3) ?hd (cs := #[.slice A1 l1.length c1]) (t := 36) ?hr ?_; (case hd => rfl); (case hg => rfl); (case hr => first | (go_simp; done) | (go_simp; rfl)); intro g3 hg3 w3 hbox hb; have BA1 := Aside0.mk (blk_below BA.out hb); have BT := Aside0.mk hbox; have HB1 := Aside0.mk (below_step HB.out hb); have GT := Aside0.mk (hg3 ▸ HB.out.size : w.heap.size ≤ g3); have LT := Aside0.mk (blk_lt hbox); clear BA HB hbox hb hg3; have ha0 : w3.cell? ⟨g2, 0, none⟩ = some (.int .i64 a0_0) := (blk_cell BA1.out 0).trans rfl; have ha1 : w3.cell? ⟨g2, 1, none⟩ = some (.int .i64 a0_1) := (blk_cell BA1.out 1).trans rfl; have ha2 : w3.cell? ⟨g2, 2, none⟩ = some (.int .i64 a0_2) := (blk_cell BA1.out 2).trans rfl; have ha3 : w3.cell? ⟨g2, 3, none⟩ = some (.slice A0_3 l0_3.length c0_3) := (blk_cell BA1.out 3).trans rfl)
   | ((with_reducible refine gate_callee (f := 83) rfl ?_); refine goesL_ (some 9) rfl rfl Tryd.func83 (by kernel_rfl) rfl #[.agg #[.int .i64 a0_0, .int .i64 a0_1, .int .i64 a0_2, .slice A0_3 l0_3.length c0_3]] rfl (by (try simp only [List.map_toArray, List.map_cons, List.map_nil]); first | done | rfl) ?_; (with_reducible refine (gen_Check.calls k a0_0 a0_1 a0_2 _ _ l0_3 none _ ?side1 ?side2 A2.out).mono ?_); (case side1 => exact Kd.C_below HR0_3.out HB1.out); (case side2 => exact HC0_3.out); rintro e w4 ⟨rfl, hb⟩; refine ⟨.nilIface, rfl, ?_⟩; have BA2 := Aside0.mk (blk_below BA1.out hb); have BT2 := Aside0.mk (blk_below BT.out hb); have HB2 := Aside0.mk (below_step HB1.out hb); have LT2 := Aside0.mk (Nat.lt_of_lt_of_le LT.out hb.size); clear BA1 BT HB1 LT hb)
   | ((with_reducible refine gate_dst (N := 7) rfl ?_); refine box_event ?hg (N := 7) ?hd (cs := #[.slice none 0 0]) (t := 36) ?hr ?_; (case hd => rfl); (case hg => rfl); (case hr => first | (go_simp; done) | (go_simp; rfl)); intro g7 hg7 w7 hbox hb; have BA3 := Aside0.mk (blk_below BA2.out hb); have BT3 := Aside0.mk (blk_below BT2.out hb); have BO := Aside0.mk hbox; have HB3 := Aside0.mk (below_step HB2.out hb); have NE := Aside0.mk (show g7 ≠ g3 by have := LT2.out; omega); have GO := Aside0.mk (hg7 ▸ HB2.out.size : w.heap.size ≤ g7); clear BA2 BT2 HB2 hbox hb hg7; have hb0 : w7.cell? ⟨g2, 0, none⟩ = some (.int .i64 a0_0) := (blk_cell BA3.out 0).trans rfl; have hb1 : w7.cell? ⟨g2, 1, none⟩ = some (.int .i64 a0_1) := (blk_cell BA3.out 1).trans rfl; have hb2 : w7.cell? ⟨g2, 2, none⟩ = some (.int .i64 a0_2) := (blk_cell BA3.out 2).trans rfl; have hb3 : w7.cell? ⟨g2, 3, none⟩ = some (.slice A0_3 l0_3.length c0_3) := (blk_cell BA3.out 3).trans rfl)
   | ((with_reducible refine gate_callee (f := 86) rfl ?_); refine goesL_ (some 15) rfl rfl Tryd.func86 (by kernel_rfl) rfl #[.func (.func 85) #[] #[.pointer (some ⟨g7, 0, none⟩), .pointer (some ⟨g3, 0, none⟩)], .agg #[.int .i64 a0_0, .int .i64 a0_1, .int .i64 a0_2, .slice A0_3 l0_3.length c0_3]] rfl (by (try simp only [List.map_toArray, List.map_cons, List.map_nil]); first | done | rfl) ?_; refine (gen_made.calls (mendStp l1) (MendS w g7 g3 A1 c1 l1) 85 _ #[.pointer (some ⟨g7, 0, none⟩), .pointer (some ⟨g3, 0, none⟩)] w Tryd.func85 (by kernel_rfl) rfl (Mend1.calls w g7 g3 A1 c1 l1 HR1.out HC1.out) k [] a0_0 a0_1 a0_2 _ _ l0_3 v31 v32 v33 out _ ⟨HB3.out, HB3.out.size, Nat.le_refl _, fun _ _ _ _ _ => rfl, ⟨GO.out, NE.out, _, BO.out, Kd.R_nil _ _ _ _ _, BT3.out⟩, MendS.moves _ _ _ _ _ _⟩ HR0_3.out HC0_3.out HM.out).mono ?_; rintro e w9 ⟨v2, rfl, -, hF⟩; refine ⟨_, rfl, ?_⟩; obtain ⟨-, -, v, hbo, hRo, -⟩ := hF.st; obtain ⟨Ao, co, eo⟩ := Kd.R_slice hRo; subst eo; have HRo := Aside0.mk hRo; have HB4 := Aside0.mk hF.b; have hco : w9.cell? ⟨g7, 0, none⟩ = some (.slice Ao out.length co) := (blk_cell hbo 0).trans rfl; clear hRo hF hbo))
  go_ret2
  exact ⟨_, rfl, by first | exact HRo.out | trace_state, by first | exact HB4.out | trace_state⟩
 ·dsimp only at h
  simp only [Option.some.injEq, Prod.mk.injEq] at h
  obtain ⟨rfl, rfl⟩ := h
  go_enter Tryd.func43, Tryd.ntmps43
  go_wp2_with (first
   | ((with_reducible refine gate_dst (N := 2) rfl ?_); refine box_event ?hg (N := 2) ?hd (cs := #[.int .i64 a0_0, .int .i64 a0_1, .int .i64 a0_2, .slice A0_3 l0_3.length c0_3]) (t := 63) ?hr ?_; (case hd => rfl); (case hg => rfl); (case hr => first | (go_simp; done) | (go_simp; rfl)); intro g2 hg2 w2 hbox hb; have BA := Aside0.mk hbox; have HB := Aside0.mk hb; clear hbox hb hg2)
   | ((with_reducible refine gate_dst (N := 3) rfl ?_); refine box_event ?hg (N := 3) ?hd (cs := #[.slice A1 l1.length c1]) (t := 36) ?hr ?_; (case hd => rfl); (case hg => rfl); (case hr => first | (go_simp; done) | (go_simp; rfl)); intro g3 hg3 w3 hbox hb; have BA1 := Aside0.mk (blk_below BA.out hb); have BT := Aside0.mk hbox; have HB1 := Aside0.mk (below_step HB.out hb); have GT := Aside0.mk (hg3 ▸ HB.out.size : w.heap.size ≤ g3); have LT := Aside0.mk (blk_lt hbox); clear BA HB hbox hb hg3; have ha0 : w3.cell? ⟨g2, 0, none⟩ = some (.int .i64 a0_0) := (blk_cell BA1.out 0).trans rfl; have ha1 : w3.cell? ⟨g2, 1, none⟩ = some (.int .i64 a0_1) := (blk_cell BA1.out 1).trans rfl; have ha2 : w3.cell? ⟨g2, 2, none⟩ = some (.int .i64 a0_2) := (blk_cell BA1.out 2).trans rfl; have ha3 : w3.cell? ⟨g2, 3, none⟩ = some (.slice A0_3 l0_3.length c0_3) := (blk_cell BA1.out 3).trans rfl)
   | ((with_reducible refine gate_callee (f := 83) rfl ?_); refine goesL_ (some 9) rfl rfl Tryd.func83 (by kernel_rfl) rfl #[.agg #[.int .i64 a0_0, .int .i64 a0_1, .int .i64 a0_2, .slice A0_3 l0_3.length c0_3]] rfl (by (try simp only [List.map_toArray, List.map_cons, List.map_nil]); first | done | rfl) ?_; (with_reducible refine (gen_Check.calls k a0_0 a0_1 a0_2 _ _ l0_3 (some c) _ ?side1 ?side2 A2.out).mono ?_); (case side1 => exact Kd.C_below HR0_3.out HB1.out); (case side2 => exact HC0_3.out); rintro e w4 ⟨rfl, hb⟩; refine ⟨.iface 66 (.int .i64 c), rfl, ?_⟩; have BA2 := Aside0.mk (blk_below BA1.out hb); have BT2 := Aside0.mk (blk_below BT.out hb); have HB2 := Aside0.mk (below_step HB1.out hb); have LT2 := Aside0.mk (Nat.lt_of_lt_of_le LT.out hb.size); clear BA1 BT HB1 LT hb))
  go_ret2
  exact ⟨_, rfl, Kd.R_nil _ _ _ _ _, HB2.out⟩
end Go.Proofs.YtgdomnlkafcddaaDoor.Q
namespace Go.Proofs.YtgdomnlkafcddaaDoor.Q
open Go.RowKit Go.Proofs.YtgdomnlkafcddaaDoorW.PrintWords Go.Proofs.YtgdomnlkafcddaaDoorW.PrintLast Go.Proofs.YtgdomnlkafcddaaDoorW.PrintMore
set_option linter.unusedVariables false
set_option linter.unusedSimpArgs false
set_option maxHeartbeats 8000000 in
set_option maxRecDepth 100000 in
theorem catch_idle (p q : Addr) (w : World) :
  CallsD Tryd.prog 87 #[.pointer (some p), .pointer (some q)] .returning w fun e u' w' => e = .returned (.tuple #[]) ∧ u' = .returning ∧ w' = w := by
 refine callsD_of_wpS Tryd.func87 rfl fun c₀ cs hu => ?_
 apply wpS_seq
 apply wpS_region
 simp [wpOpsS, go_sem, recoverD, hu, Tryd.ntmps87, Exit.thenS]
 apply wpS_seq
 apply wpS_region
 simp [wpOpsS, go_sem, Exit.thenS]
 refine wpS_cond (t := false) (by simp [Act.eval, Array.replicate]) ?_
 simp only [Bool.false_eq_true, if_false]
 refine wpS_of_wp (wp_skip ?_)
 cases c₀
 simp_all [bodyPostS, results, Tryd.results87]
set_option maxHeartbeats 8000000 in
set_option maxRecDepth 100000 in
theorem catch_panicking (gv ge : Nat) (c : Int) (b n s x : Value) (w : World) (hv : w.heap[gv]? = some (Obj.cells #[b, n, s] 27 (0, 0))) (he : w.heap[ge]? = some (Obj.cells #[x] 30 (0, 0))) (hne : gv ≠ ge) :
  CallsD Tryd.prog 87 #[.pointer (some ⟨gv, 0, none⟩), .pointer (some ⟨ge, 0, none⟩)] (.panicking [{ v := .iface 66 (.int .i64 c), recovered := false }]) w fun e u' w' =>
   e = .returned (.tuple #[]) ∧ u' = .panicking [{ v := .iface 66 (.int .i64 c), recovered := true }] ∧ w' = (((w.setCell ⟨gv, 0, none⟩ (.bool false)).setCell ⟨gv, 1, none⟩ (.int .i64 0)).setCell ⟨gv, 2, none⟩ (.slice none 0 0)).setCell ⟨ge, 0, none⟩ (.iface 66 (.int .i64 c)) := by
 have hu27 := Tryd.underlying27
 have hu66 := Tryd.underlying66
 have hu20 := Tryd.underlying20
 have hcz0 : w.cell? ⟨gv, 0, none⟩ = some b := (blk_cell hv 0).trans rfl
 have hcz1 : w.cell? ⟨gv, 1, none⟩ = some n := (blk_cell hv 1).trans rfl
 have hcz2 : w.cell? ⟨gv, 2, none⟩ = some s := (blk_cell hv 2).trans rfl
 have hce0 : w.cell? ⟨ge, 0, none⟩ = some x := (blk_cell he 0).trans rfl
 have hfz0 := blk_frozen hv 0
 have hfz1 := blk_frozen hv 1
 have hfz2 := blk_frozen hv 2
 have hfe0 := blk_frozen he 0
 have hne' := Ne.symm hne
 have hta : ∀ w : World, (Instr.typeAssert (.iface 66 (.int .i64 c)) 20 66 true).run Tryd.prog w = .ok (.tuple #[.int .i64 c, .bool true]) w := fun _ => by kernel_rfl
 refine callsD_of_wpS Tryd.func87 rfl fun c₀ cs hu => ?_
 apply wpS_seq
 apply wpS_region
 simp [wpOpsS, go_sem, recoverD, hu, Tryd.ntmps87, Exit.thenS]
 refine wpS_of_wp ?_
 change Code.wp _ _ _ { tmps := #[.pointer (some ⟨gv, 0, none⟩), .pointer (some ⟨ge, 0, none⟩), .iface 66 (.int .i64 c), undef, undef, .iface 66 (.int .i64 c), undef, undef, undef, undef, undef, undef, undef, undef, undef, undef, undef, undef, undef], defers := [] } _
 go_wp2
 simp [bodyPostS, results, Tryd.results87]
end Go.Proofs.YtgdomnlkafcddaaDoor.Q
namespace Go.Proofs.YtgdomnlkafcddaaDoor.Q
open Go.RowKit Go.Proofs.YtgdomnlkafcddaaDoorW.PrintWords Go.Proofs.YtgdomnlkafcddaaDoorW.PrintLast Go.Proofs.YtgdomnlkafcddaaDoorW.PrintMore
set_option linter.unusedVariables false
set_option linter.unusedSimpArgs false

def playStp (l : List Int) (n : Nat) (m : Int) : Except Int (Int × Nat) := if n = l.length then .error 5 else if rd l (n : Int) < 0 then .error 1 else if m < rd l (n : Int) then .error 1 else .ok (rd l (n : Int), n + 1)
def PlayS (w0 : World) (ba bt : Nat) (At : Option Addr) (ct : Nat) (l : List Int) (n : Nat) (w : World) : Prop :=
 w0.heap.size ≤ ba ∧ ba ≠ bt ∧ n ≤ l.length ∧ w.heap[ba]? = some (Obj.cells #[.int .i64 (n : Int)] 3 (0, 0)) ∧ w.heap[bt]? = some (Obj.cells #[.slice At l.length ct] 36 (0, 0))
theorem PlayS.moves (w0 : World) (ba bt : Nat) (At : Option Addr) (ct : Nat) (l : List Int) : Moves (PlayS w0 ba bt At ct l) := by
 rintro n w w' ⟨h1, h2, h3, h4, h5⟩ hs hm
 exact ⟨h1, h2, h3, (hm _ _ _ h4 rfl).trans h4, (hm _ _ _ h5 rfl).trans h5⟩
theorem play_push {w0 : World} {ba bt : Nat} {At : Option Addr} {ct : Nat} {l : List Int} {n : Nat} {w : World} (hF : Fr (PlayS w0 ba bt At ct l) w0 w n w) (hn : n < l.length) :
  Fr (PlayS w0 ba bt At ct l) w0 w (n + 1) (w.setCell ⟨ba, 0, none⟩ (.int .i64 ((n + 1 : Nat) : Int))) := by
 obtain ⟨h2, hne, h3, h4, h5⟩ := hF.st
 refine ⟨hF.b.setCell h2 _, hF.b0, by simp [World.setCell], ?_, ?_, hF.mv⟩
 ·intro k cells t hk ht
  refine Below.heap_setCell w ⟨ba, 0, none⟩ _ k ?_
  intro hkb
  replace hkb : k = ba := hkb
  subst hkb
  have hk2 := hk
  rw [h4] at hk2
  injection hk2 with hk2
  injection hk2 with _ hk2
  subst hk2
  simp [inT] at ht
 ·exact ⟨h2, hne, hn, blk_put (cs := #[.int .i64 (n : Int)]) h4 0 _ rfl, blk_far h5 (Ne.symm hne) _⟩
set_option maxHeartbeats 8000000 in
set_option maxRecDepth 100000 in
theorem Play2.calls (w0 : World) (ba bt : Nat) (At : Option Addr) (ct : Nat) (l : List Int) (hr : Kd.C (Kd.int .i64) w0 At l.length l) (hc : l.length ≤ ct) (hl : l.length < 4611686018427387904) :
  ∀ (n : Nat) (m x : Int) (n' : Nat) (w : World), Fr (PlayS w0 ba bt At ct l) w0 w n w → playStp l n m = .ok (x, n') → Calls Tryd.prog 88 (#[.int .i64 m] ++ #[.pointer (some ⟨ba, 0, none⟩), .pointer (some ⟨bt, 0, none⟩)]) w fun e w' => e = .returned (.int .i64 x) ∧ Fr (PlayS w0 ba bt At ct l) w0 w n' w' := by
 intro n m x n' w hF hs
 unfold playStp at hs
 split at hs
 ·cases hs
 rename_i hne
 split at hs
 ·cases hs
 rename_i hx0
 split at hs
 ·cases hs
 rename_i hxm
 simp only [Except.ok.injEq, Prod.mk.injEq] at hs
 obtain ⟨hx, rfl⟩ := hs
 subst hx
 obtain ⟨h2, hnb, h3, hba, hbt⟩ := hF.st
 have hlt : n < l.length := by omega
 have hpush := Aside0.mk (play_push hF hlt)
 show Calls Tryd.prog 88 #[.int .i64 m, .pointer (some ⟨ba, 0, none⟩), .pointer (some ⟨bt, 0, none⟩)] w _
 have hca : w.cell? ⟨ba, 0, none⟩ = some (.int .i64 (n : Int)) := (blk_cell hba 0).trans rfl
 have hcb : w.cell? ⟨bt, 0, none⟩ = some (.slice At l.length ct) := (blk_cell hbt 0).trans rfl
 have hfa := blk_frozen hba 0
 obtain ⟨ad, ea, hat⟩ := Kd.at_int hr (n : Int) (by omega) (by omega)
 subst ea
 have hat' := (hF.b.cell (World.block_lt_of_cell? w0 _ hat)).trans hat
 simp only [Int.toNat_natCast] at hat'
 have p0 := eq_true (show 0 ≤ (n : Int) by omega)
 have p1 := eq_true (show (n : Int) < (l.length : Int) by omega)
 have p2 : ((n : Int) == (l.length : Int)) = false := beq_eq_false_iff_ne.mpr (by omega)
 have p3 : decide (rd l (n : Int) < 0) = false := decide_eq_false hx0
 have p4 : decide (m < rd l (n : Int)) = false := decide_eq_false hxm
 have p5 : decide (rd l (n : Int) > m) = false := decide_eq_false hxm
 have p6 : wrap64 ((n : Int) + 1) = ((n + 1 : Nat) : Int) := by
  unfold wrap64
  omega
 clear hba hbt hF
 go_enter Tryd.func88, Tryd.ntmps88
 go_wp2_with fail
 go_ret
 exact ⟨rfl, by rw [show ((n : Int) + 1) = ((n + 1 : Nat) : Int) from by omega]; exact hpush.out⟩
set_option maxHeartbeats 8000000 in
set_option maxRecDepth 100000 in
theorem Play2.panics (w0 : World) (ba bt : Nat) (At : Option Addr) (ct : Nat) (l : List Int) (hr : Kd.C (Kd.int .i64) w0 At l.length l) (hc : l.length ≤ ct) :
  ∀ (n : Nat) (m c : Int) (w : World), Fr (PlayS w0 ba bt At ct l) w0 w n w → playStp l n m = .error c → Calls Tryd.prog 88 (#[.int .i64 m] ++ #[.pointer (some ⟨ba, 0, none⟩), .pointer (some ⟨bt, 0, none⟩)]) w fun e w' => e = .panicked [{ v := .iface 66 (.int .i64 c), recovered := false }] ∧ Fr (PlayS w0 ba bt At ct l) w0 w n w' := by
 intro n m c w hF hs
 unfold playStp at hs
 obtain ⟨h2, hnb, h3, hba, hbt⟩ := hF.st
 show Calls Tryd.prog 88 #[.int .i64 m, .pointer (some ⟨ba, 0, none⟩), .pointer (some ⟨bt, 0, none⟩)] w _
 have hca : w.cell? ⟨ba, 0, none⟩ = some (.int .i64 (n : Int)) := (blk_cell hba 0).trans rfl
 have hcb : w.cell? ⟨bt, 0, none⟩ = some (.slice At l.length ct) := (blk_cell hbt 0).trans rfl
 have hfa := blk_frozen hba 0
 have HF := Aside0.mk hF
 clear hF hba hbt
 split at hs
 ·rename_i hne
  obtain rfl := Except.error.inj hs
  have p2 : ((n : Int) == (l.length : Int)) = true := beq_iff_eq.mpr (by omega)
  subst hne
  go_enter Tryd.func88, Tryd.ntmps88
  go_wp2_with fail
  exact (⟨rfl, rfl, HF.out⟩ : _ ∧ _ ∧ _)
 rename_i hne
 have hlt : n < l.length := by omega
 obtain ⟨ad, ea, hat⟩ := Kd.at_int hr (n : Int) (by omega) (by omega)
 subst ea
 have hat' := (HF.out.b.cell (World.block_lt_of_cell? w0 _ hat)).trans hat
 simp only [Int.toNat_natCast] at hat'
 have p0 := eq_true (show 0 ≤ (n : Int) by omega)
 have p1 := eq_true (show (n : Int) < (l.length : Int) by omega)
 have p2 : ((n : Int) == (l.length : Int)) = false := beq_eq_false_iff_ne.mpr (by omega)
 split at hs
 ·rename_i hx0
  obtain rfl := Except.error.inj hs
  have p3 : decide (rd l (n : Int) < 0) = true := decide_eq_true hx0
  go_enter Tryd.func88, Tryd.ntmps88
  go_wp2_with fail
  exact (⟨rfl, rfl, HF.out⟩ : _ ∧ _ ∧ _)
 rename_i hx0
 have p3 : decide (rd l (n : Int) < 0) = false := decide_eq_false hx0
 split at hs
 ·rename_i hxm
  obtain rfl := Except.error.inj hs
  have p4 : decide (m < rd l (n : Int)) = true := decide_eq_true hxm
  have p5 : decide (rd l (n : Int) > m) = true := decide_eq_true hxm
  go_enter Tryd.func88, Tryd.ntmps88
  go_wp2_with fail
  exact (⟨rfl, rfl, HF.out⟩ : _ ∧ _ ∧ _)
 cases hs
end Go.Proofs.YtgdomnlkafcddaaDoor.Q
namespace Go.Proofs.YtgdomnlkafcddaaDoor.Q
open Go.RowKit Go.Proofs.YtgdomnlkafcddaaDoorW.PrintWords Go.Proofs.YtgdomnlkafcddaaDoorW.PrintLast Go.Proofs.YtgdomnlkafcddaaDoorW.PrintMore
set_option linter.unusedVariables false
set_option linter.unusedSimpArgs false

def gen_Replay.g (k : Nat) (a0_0 : Int) (a0_1 : Int) (a0_2 : Int) (l0_3 : List (S63)) (l1 : List Int) : Option (Bool × Int × (List (S27)) × Option Int) :=
 (gen_Check.f k a0_0 a0_1 a0_2 l0_3).bind fun e => match e with
  | some c => some (false, 0, [], some c)
  | none => if l1.length < 4611686018427387904 then (match gen_made.f (playStp l1) k 0 a0_0 a0_1 a0_2 l0_3 with
   | some (.ok ((b, n, xs), t)) => if (t : Int) < (l1.length : Int) then some (false, 0, [], some 3) else some (b, n, xs, none)
   | _ => none) else none
noncomputable def gen_Replay.f (a0_0 : Int) (a0_1 : Int) (a0_2 : Int) (l0_3 : List (S63)) (l1 : List Int) : Option (Bool × Int × (List (S27)) × Option Int) := Olim fun k => gen_Replay.g k a0_0 a0_1 a0_2 l0_3 l1
theorem results44 (tmps : Array Value) (w : World) (gv ge : Nat) (cs : Array Value) (x : Value) (h4 : tmps.getD 4 undef = .pointer (some ⟨gv, 0, none⟩)) (h5 : tmps.getD 5 undef = .pointer (some ⟨ge, 0, none⟩)) (hg : w.heap[gv]? = some (Obj.cells cs 27 (0, 0))) (hcs : cs.size = 3) (he : w.heap[ge]? = some (Obj.cells #[x] 30 (0, 0))) :
  (results Tryd.f44 tmps).run Tryd.prog w = .ok (.tuple #[.agg cs, x]) w := by
 have h1 : tmps[4]?.getD undef = .pointer (some ⟨gv, 0, none⟩) := by simpa using h4
 have h2 : tmps[5]?.getD undef = .pointer (some ⟨ge, 0, none⟩) := by simpa using h5
 have hc : w.cell? ⟨ge, 0, none⟩ = some x := (blk_cell he 0).trans rfl
 have hu30 := Tryd.underlying30
 have h3 := run_loadVar_row (P := Tryd.prog) w gv 27 27 cs (0, 0) _ hg Tryd.underlying27 rfl (by rw [hcs]; kernel_rfl)
 have h9 : (loadVar 30 ⟨ge, 0, none⟩).run Tryd.prog w = .ok x w := by simp [go_sem, hc, hu30]
 simp [results, Tryd.results44, h1, h2, asAddr, h3, h9]
set_option maxHeartbeats 8000000 in
set_option maxRecDepth 100000 in
theorem gen_Replay.calls (a0_0 : Int) (a0_1 : Int) (a0_2 : Int) (A0_3 : Option Addr) (c0_3 : Nat) (l0_3 : List (S63)) (A1 : Option Addr) (c1 : Nat) (l1 : List Int) (r1 : Bool) (r2 : Int) (r3 : List (S27)) (r4 : Option Int) (w : World) (hr0_3 : Kd.C k63 w A0_3 l0_3.length l0_3) (hc0_3 : l0_3.length ≤ c0_3) (hr1 : Kd.C (Kd.int .i64) w A1 l1.length l1) (hc1 : l1.length ≤ c1) (h : gen_Replay.f a0_0 a0_1 a0_2 l0_3 l1 = some (r1, r2, r3, r4)) :
  Calls Tryd.prog 44 #[.agg #[.int .i64 a0_0, .int .i64 a0_1, .int .i64 a0_2, .slice A0_3 l0_3.length c0_3], .slice A1 l1.length c1] w fun e w' => ∃ v2_ : Value, e = .returned (.tuple #[.agg #[.bool r1, .int .i64 r2, v2_], errW r4]) ∧ Kd.R k27 27 w' w.heap.size (fun _ => True) v2_ r3 ∧ Below w.heap.size w w' := by
 obtain ⟨k, h⟩ := Olim_some h
 unfold gen_Replay.g at h
 have hu63 := Tryd.underlying63
 have hu30 := Tryd.underlying30
 have hu27 := Tryd.underlying27
 have hu66 := Tryd.underlying66
 have hmf : ∀ (fn : Fn) (first cap : Array Value) (w : World), (Instr.makeFunc fn first cap).run Tryd.prog w = .ok (.func fn first cap) w := fun _ _ _ _ => rfl
 obtain ⟨e, hA, h⟩ := Option.bind_eq_some_iff.mp h
 have A2 := Aside0.mk hA
 clear hA
 have HR0_3 := Aside0.mk hr0_3
 have HR1 := Aside0.mk hr1
 have HC1 := Aside0.mk hc1
 have HC0_3 := Aside0.mk hc0_3
 clear hr0_3 hr1 hc1 hc0_3
 rcases e with _ | c
 rotate_left
 ·dsimp only at h
  simp only [Option.some.injEq, Prod.mk.injEq] at h
  obtain ⟨rfl, rfl, rfl, rfl⟩ := h
  go_enter_defers Tryd.func44, Tryd.ntmps44
  go_wp2_with (first | ((with_reducible refine gate_dst (N := 2) rfl ?_); refine box_event ?hg (N := 2) ?hd (cs := #[.int .i64 a0_0, .int .i64 a0_1, .int .i64 a0_2, .slice A0_3 l0_3.length c0_3]) (t := 63) ?hr ?_; (case hd => rfl); (case hg => rfl); (case hr => first | (go_simp; done) | (go_simp; rfl)); intro g2 hg w2 hbox hb; have BG := Aside0.mk hbox; have HB := Aside0.mk hb; clear hbox hb hg) | ((with_reducible refine gate_dst (N := 3) rfl ?_); refine box_event ?hg (N := 3) ?hd (cs := #[.slice A1 l1.length c1]) (t := 36) ?hr ?_; (case hd => rfl); (case hg => rfl); (case hr => first | (go_simp; done) | (go_simp; rfl)); intro g3 hg w3 hbox hb; replace BG := Aside0.mk (blk_below BG.out hb); have BT := Aside0.mk hbox; replace HB := Aside0.mk (below_step HB.out hb); clear hbox hb hg) | ((with_reducible refine gate_dst (N := 4) rfl ?_); refine box_event ?hg (N := 4) ?hd (cs := #[.bool false, .int .i64 0, .slice none 0 0]) (t := 27) ?hr ?_; (case hd => rfl); (case hg => rfl); (case hr => first | (go_simp; done) | (go_simp; rfl)); intro g4 hg w4 hbox hb; replace BG := Aside0.mk (blk_below BG.out hb); replace BT := Aside0.mk (blk_below BT.out hb); have BV := Aside0.mk hbox; have GV := Aside0.mk (hg ▸ HB.out.size : w.heap.size ≤ g4); replace HB := Aside0.mk (below_step HB.out hb); clear hbox hb hg) | ((with_reducible refine gate_dst (N := 5) rfl ?_); refine box_event ?hg (N := 5) ?hd (cs := #[.nilIface]) (t := 30) ?hr ?_; (case hd => rfl); (case hg => rfl); (case hr => first | (go_simp; done) | (go_simp; rfl)); intro g5 hg w5 hbox hb; replace BG := Aside0.mk (blk_below BG.out hb); replace BT := Aside0.mk (blk_below BT.out hb); replace BV := Aside0.mk (blk_below BV.out hb); have BE := Aside0.mk hbox; have GE := Aside0.mk (hg ▸ HB.out.size : w.heap.size ≤ g5); replace HB := Aside0.mk (below_step HB.out hb); clear hbox hb hg; have ha0 : w5.cell? ⟨g2, 0, none⟩ = some (.int .i64 a0_0) := (blk_cell BG.out 0).trans rfl; have ha1 : w5.cell? ⟨g2, 1, none⟩ = some (.int .i64 a0_1) := (blk_cell BG.out 1).trans rfl; have ha2 : w5.cell? ⟨g2, 2, none⟩ = some (.int .i64 a0_2) := (blk_cell BG.out 2).trans rfl; have ha3 : w5.cell? ⟨g2, 3, none⟩ = some (.slice A0_3 l0_3.length c0_3) := (blk_cell BG.out 3).trans rfl) | ((with_reducible refine gate_callee (f := 83) rfl ?_); refine goesL_ (some 9) rfl rfl Tryd.func83 (by kernel_rfl) rfl #[.agg #[.int .i64 a0_0, .int .i64 a0_1, .int .i64 a0_2, .slice A0_3 l0_3.length c0_3]] rfl (by (try simp only [List.map_toArray, List.map_cons, List.map_nil]); first | done | rfl) ?_; (with_reducible refine (gen_Check.calls k a0_0 a0_1 a0_2 _ _ l0_3 (some c) _ ?side1 ?side2 A2.out).mono ?_); (case side1 => exact Kd.C_below HR0_3.out HB.out); (case side2 => exact HC0_3.out); rintro e w6 ⟨rfl, hb⟩; refine ⟨.iface 66 (.int .i64 c), rfl, ?_⟩; clear ha0 ha1 ha2 ha3; replace BG := Aside0.mk (blk_below BG.out hb); replace BT := Aside0.mk (blk_below BT.out hb); replace BV := Aside0.mk (blk_below BV.out hb); replace BE := Aside0.mk (blk_below BE.out hb); replace HB := Aside0.mk (below_step HB.out hb); clear hb; have NVE := Aside0.mk (blk_ne BV.out BE.out (by decide)); have hn1 := NVE.out; have hn2 := Ne.symm NVE.out; have hv0 : w6.cell? ⟨g4, 0, none⟩ = some (.bool false) := (blk_cell BV.out 0).trans rfl; have hv1 : w6.cell? ⟨g4, 1, none⟩ = some (.int .i64 0) := (blk_cell BV.out 1).trans rfl; have hv2 : w6.cell? ⟨g4, 2, none⟩ = some (.slice none 0 0) := (blk_cell BV.out 2).trans rfl; have hfv0 := blk_frozen BV.out 0; have hfv1 := blk_frozen BV.out 1; have hfv2 := blk_frozen BV.out 2; have he0 : w6.cell? ⟨g5, 0, none⟩ = some .nilIface := (blk_cell BE.out 0).trans rfl; have hfe0 := blk_frozen BE.out 0))
  exact ⟨_, results44 _ _ g4 g5 #[.bool false, .int .i64 0, .slice none 0 0] (.iface 66 (.int .i64 c)) rfl rfl (by refine blk_far ?_ NVE.out _; refine blk_put (cs := #[.bool false, .int .i64 0, .slice none 0 0]) ?_ 2 _ rfl; refine blk_put (cs := #[.bool false, .int .i64 0, .slice none 0 0]) ?_ 1 _ rfl; refine blk_put (cs := #[.bool false, .int .i64 0, .slice none 0 0]) ?_ 0 _ rfl; exact BV.out) rfl (by refine blk_put (cs := #[.nilIface]) ?_ 0 _ rfl; refine blk_far ?_ (Ne.symm NVE.out) _; refine blk_far ?_ (Ne.symm NVE.out) _; refine blk_far ?_ (Ne.symm NVE.out) _; exact BE.out), _, rfl, Kd.R_nil _ _ _ _ _, below_set (below_set (below_set (below_set HB.out GV.out) GV.out) GV.out) GE.out⟩
 dsimp only at h
 split at h
 case isFalse => cases h
 rename_i hlen
 have HL := Aside0.mk hlen
 clear hlen
 split at h
 case h_2 => cases h
 ·rename_i res v31 v32 v33 at_ hm
  have HM := Aside0.mk hm
  clear hm
  by_cases hlt : (at_ : Int) < (l1.length : Int)
  ·rw [if_pos hlt] at h
   have hd1 : decide ((at_ : Int) < (l1.length : Int)) = true := decide_eq_true hlt
   have hd2 : decide (at_ < l1.length) = true := decide_eq_true (by omega)
   have hd3 : (at_ < l1.length) = True := eq_true (by omega)
   clear hlt
   simp only [Option.some.injEq, Prod.mk.injEq] at h
   obtain ⟨rfl, rfl, rfl, rfl⟩ := h
   go_enter_defers Tryd.func44, Tryd.ntmps44
   go_wp2_with (first | ((with_reducible refine gate_dst (N := 2) rfl ?_); refine box_event ?hg (N := 2) ?hd (cs := #[.int .i64 a0_0, .int .i64 a0_1, .int .i64 a0_2, .slice A0_3 l0_3.length c0_3]) (t := 63) ?hr ?_; (case hd => rfl); (case hg => rfl); (case hr => first | (go_simp; done) | (go_simp; rfl)); intro g2 hg w2 hbox hb; have BG := Aside0.mk hbox; have HB := Aside0.mk hb; clear hbox hb hg) | ((with_reducible refine gate_dst (N := 3) rfl ?_); refine box_event ?hg (N := 3) ?hd (cs := #[.slice A1 l1.length c1]) (t := 36) ?hr ?_; (case hd => rfl); (case hg => rfl); (case hr => first | (go_simp; done) | (go_simp; rfl)); intro g3 hg w3 hbox hb; replace BG := Aside0.mk (blk_below BG.out hb); have BT := Aside0.mk hbox; replace HB := Aside0.mk (below_step HB.out hb); clear hbox hb hg) | ((with_reducible refine gate_dst (N := 4) rfl ?_); refine box_event ?hg (N := 4) ?hd (cs := #[.bool false, .int .i64 0, .slice none 0 0]) (t := 27) ?hr ?_; (case hd => rfl); (case hg => rfl); (case hr => first | (go_simp; done) | (go_simp; rfl)); intro g4 hg w4 hbox hb; replace BG := Aside0.mk (blk_below BG.out hb); replace BT := Aside0.mk (blk_below BT.out hb); have BV := Aside0.mk hbox; have GV := Aside0.mk (hg ▸ HB.out.size : w.heap.size ≤ g4); replace HB := Aside0.mk (below_step HB.out hb); clear hbox hb hg) | ((with_reducible refine gate_dst (N := 5) rfl ?_); refine box_event ?hg (N := 5) ?hd (cs := #[.nilIface]) (t := 30) ?hr ?_; (case hd => rfl); (case hg => rfl); (case hr => first | (go_simp; done) | (go_simp; rfl)); intro g5 hg w5 hbox hb; replace BG := Aside0.mk (blk_below BG.out hb); replace BT := Aside0.mk (blk_below BT.out hb); replace BV := Aside0.mk (blk_below BV.out hb); have BE := Aside0.mk hbox; have GE := Aside0.mk (hg ▸ HB.out.size : w.heap.size ≤ g5); replace HB := Aside0.mk (below_step HB.out hb); clear hbox hb hg; have ha0 : w5.cell? ⟨g2, 0, none⟩ = some (.int .i64 a0_0) := (blk_cell BG.out 0).trans rfl; have ha1 : w5.cell? ⟨g2, 1, none⟩ = some (.int .i64 a0_1) := (blk_cell BG.out 1).trans rfl; have ha2 : w5.cell? ⟨g2, 2, none⟩ = some (.int .i64 a0_2) := (blk_cell BG.out 2).trans rfl; have ha3 : w5.cell? ⟨g2, 3, none⟩ = some (.slice A0_3 l0_3.length c0_3) := (blk_cell BG.out 3).trans rfl) | ((with_reducible refine gate_callee (f := 83) rfl ?_); refine goesL_ (some 9) rfl rfl Tryd.func83 (by kernel_rfl) rfl #[.agg #[.int .i64 a0_0, .int .i64 a0_1, .int .i64 a0_2, .slice A0_3 l0_3.length c0_3]] rfl (by (try simp only [List.map_toArray, List.map_cons, List.map_nil]); first | done | rfl) ?_; (with_reducible refine (gen_Check.calls k a0_0 a0_1 a0_2 _ _ l0_3 none _ ?side1 ?side2 A2.out).mono ?_); (case side1 => exact Kd.C_below HR0_3.out HB.out); (case side2 => exact HC0_3.out); rintro e w6 ⟨rfl, hb⟩; refine ⟨.nilIface, rfl, ?_⟩; clear ha0 ha1 ha2 ha3; replace BG := Aside0.mk (blk_below BG.out hb); replace BT := Aside0.mk (blk_below BT.out hb); replace BV := Aside0.mk (blk_below BV.out hb); replace BE := Aside0.mk (blk_below BE.out hb); replace HB := Aside0.mk (below_step HB.out hb); clear hb) | ((with_reducible refine gate_dst (N := 7) rfl ?_); refine box_event ?hg (N := 7) ?hd (cs := #[.int .i64 0]) (t := 3) ?hr ?_; (case hd => rfl); (case hg => rfl); (case hr => first | (go_simp; done) | (go_simp; rfl)); intro g7 hg w7 hbox hb; replace BG := Aside0.mk (blk_below BG.out hb); replace BT := Aside0.mk (blk_below BT.out hb); replace BV := Aside0.mk (blk_below BV.out hb); replace BE := Aside0.mk (blk_below BE.out hb); have BA := Aside0.mk hbox; have GA := Aside0.mk (hg ▸ HB.out.size : w.heap.size ≤ g7); replace HB := Aside0.mk (below_step HB.out hb); clear hbox hb hg; have NAG := Aside0.mk (blk_ne BA.out BG.out (by decide)); have hng1 := NAG.out; have hng2 := Ne.symm NAG.out; have hz0 : w7.cell? ⟨g7, 0, none⟩ = some (.int .i64 0) := (blk_cell BA.out 0).trans rfl; have hz1 := blk_frozen BA.out 0; have hg0 : w7.cell? ⟨g2, 0, none⟩ = some (.int .i64 a0_0) := (blk_cell BG.out 0).trans rfl; have hg1 : w7.cell? ⟨g2, 1, none⟩ = some (.int .i64 a0_1) := (blk_cell BG.out 1).trans rfl; have hg2_ : w7.cell? ⟨g2, 2, none⟩ = some (.int .i64 a0_2) := (blk_cell BG.out 2).trans rfl; have hg3 : w7.cell? ⟨g2, 3, none⟩ = some (.slice A0_3 l0_3.length c0_3) := (blk_cell BG.out 3).trans rfl) | ((with_reducible refine gate_callee (f := 86) rfl ?_); refine goesL_ (some 17) rfl rfl Tryd.func86 (by kernel_rfl) rfl #[.func (.func 88) #[] #[.pointer (some ⟨g7, 0, none⟩), .pointer (some ⟨g3, 0, none⟩)], .agg #[.int .i64 a0_0, .int .i64 a0_1, .int .i64 a0_2, .slice A0_3 l0_3.length c0_3]] rfl (by (try simp only [List.map_toArray, List.map_cons, List.map_nil]); first | done | rfl) ?_; have NAV := Aside0.mk (blk_ne BA.out BV.out (by decide)); have NAE := Aside0.mk (blk_ne BA.out BE.out (by decide)); have NTA := Aside0.mk (blk_ne BT.out BA.out (by decide)); replace BG := Aside0.mk (blk_far BG.out (p := ⟨g7, 0, none⟩) (Ne.symm NAG.out) (.int .i64 0)); replace BT := Aside0.mk (blk_far BT.out (p := ⟨g7, 0, none⟩) NTA.out (.int .i64 0)); replace BV := Aside0.mk (blk_far BV.out (p := ⟨g7, 0, none⟩) (Ne.symm NAV.out) (.int .i64 0)); replace BE := Aside0.mk (blk_far BE.out (p := ⟨g7, 0, none⟩) (Ne.symm NAE.out) (.int .i64 0)); replace BA := Aside0.mk (blk_put (cs := #[.int .i64 0]) (cs' := #[.int .i64 ((0 : Nat) : Int)]) BA.out 0 (.int .i64 0) rfl); replace HB := Aside0.mk (below_set (j := 0) (v := .int .i64 0) HB.out GA.out); clear hz0 hz1 hg0 hg1 hg2_ hg3; have NVE := Aside0.mk (blk_ne BV.out BE.out (by decide)); refine (gen_made.calls (playStp l1) (PlayS w g7 g3 A1 c1 l1) 88 _ #[.pointer (some ⟨g7, 0, none⟩), .pointer (some ⟨g3, 0, none⟩)] w Tryd.func88 (by kernel_rfl) rfl (Play2.calls w g7 g3 A1 c1 l1 HR1.out HC1.out HL.out) k 0 a0_0 a0_1 a0_2 _ _ l0_3 v31 v32 v33 at_ _ ⟨HB.out, HB.out.size, Nat.le_refl _, fun _ _ _ _ _ => rfl, ⟨GA.out, Ne.symm NTA.out, Nat.zero_le _, BA.out, BT.out⟩, PlayS.moves _ _ _ _ _ _⟩ HR0_3.out HC0_3.out HM.out).mono ?_; rintro e w9 ⟨v2, rfl, hR2, hF⟩; refine ⟨_, rfl, ?_⟩; obtain ⟨-, -, -, hba, hbt⟩ := hF.st; obtain ⟨Ao, co, eo⟩ := Kd.R_slice hR2; subst eo; have HR2 := Aside0.mk (Kd.R_newB (Kd.R_newB hR2 BV.out) BE.out); replace BV := Aside0.mk (Fr.blk_ BV.out hF rfl); replace BE := Aside0.mk (Fr.blk_ BE.out hF rfl); have BA9 := Aside0.mk hba; have BT9 := Aside0.mk hbt; have HB9 := Aside0.mk hF.b; have HS9 := Aside0.mk HB.out.size; clear hR2 hF hba hbt BA BT BG HB; have hn1 := NVE.out; have hn2 := Ne.symm NVE.out; have hn3 := NAV.out; have hn4 := Ne.symm NAV.out; have hn5 := NAE.out; have hn6 := Ne.symm NAE.out; have NTV := Aside0.mk (blk_ne BT9.out BV.out (by decide)); have hn7 := NTV.out; have hn8 := Ne.symm NTV.out; have hv0 : w9.cell? ⟨g4, 0, none⟩ = some (.bool false) := (blk_cell BV.out 0).trans rfl; have hv1 : w9.cell? ⟨g4, 1, none⟩ = some (.int .i64 0) := (blk_cell BV.out 1).trans rfl; have hv2 : w9.cell? ⟨g4, 2, none⟩ = some (.slice none 0 0) := (blk_cell BV.out 2).trans rfl; have hfv0 := blk_frozen BV.out 0; have hfv1 := blk_frozen BV.out 1; have hfv2 := blk_frozen BV.out 2; have he0 : w9.cell? ⟨g5, 0, none⟩ = some .nilIface := (blk_cell BE.out 0).trans rfl; have hfe0 := blk_frozen BE.out 0; have hat0 : w9.cell? ⟨g7, 0, none⟩ = some (.int .i64 (at_ : Int)) := (blk_cell BA9.out 0).trans rfl; have htt0 : w9.cell? ⟨g3, 0, none⟩ = some (.slice A1 l1.length c1) := (blk_cell BT9.out 0).trans rfl))
   refine leaves_cons (f := 87) (args := #[.pointer (some ⟨g4, 0, none⟩), .pointer (some ⟨g5, 0, none⟩)]) (by simp) (by simp [go_sem]) ?_
   refine (catch_idle ⟨g4, 0, none⟩ ⟨g5, 0, none⟩ _).mono ?_
   rintro e u' w'' ⟨rfl, rfl, rfl⟩
   exact ⟨_, results44 _ _ g4 g5 #[.bool false, .int .i64 0, .slice none 0 0] (.iface 66 (.int .i64 3)) rfl rfl (by refine blk_far ?_ NVE.out _; refine blk_put (cs := #[.bool false, .int .i64 0, .slice Ao v33.length co]) ?_ 2 _ rfl; refine blk_put (cs := #[.bool false, .int .i64 v32, .slice Ao v33.length co]) ?_ 1 _ rfl; refine blk_put (cs := #[.bool v31, .int .i64 v32, .slice Ao v33.length co]) ?_ 0 _ rfl; refine blk_put (cs := #[.bool v31, .int .i64 v32, .slice none 0 0]) ?_ 2 _ rfl; refine blk_put (cs := #[.bool v31, .int .i64 0, .slice none 0 0]) ?_ 1 _ rfl; refine blk_put (cs := #[.bool false, .int .i64 0, .slice none 0 0]) ?_ 0 _ rfl; exact BV.out) rfl (by refine blk_put (cs := #[.nilIface]) ?_ 0 _ rfl; refine blk_far ?_ (Ne.symm NVE.out) _; refine blk_far ?_ (Ne.symm NVE.out) _; refine blk_far ?_ (Ne.symm NVE.out) _; refine blk_far ?_ (Ne.symm NVE.out) _; refine blk_far ?_ (Ne.symm NVE.out) _; refine blk_far ?_ (Ne.symm NVE.out) _; exact BE.out), _, rfl, Kd.R_nil _ _ _ _ _, below_set (below_set (below_set (below_set (below_set (below_set (below_set HB9.out GV.out) GV.out) GV.out) GV.out) GV.out) GV.out) GE.out⟩
  ·rw [if_neg hlt] at h
   have hd1 : decide ((at_ : Int) < (l1.length : Int)) = false := decide_eq_false hlt
   have hd2 : decide (at_ < l1.length) = false := decide_eq_false (by omega)
   have hd3 : (at_ < l1.length) = False := eq_false (by omega)
   clear hlt
   simp only [Option.some.injEq, Prod.mk.injEq] at h
   obtain ⟨rfl, rfl, rfl, rfl⟩ := h
   go_enter_defers Tryd.func44, Tryd.ntmps44
   go_wp2_with (first | ((with_reducible refine gate_dst (N := 2) rfl ?_); refine box_event ?hg (N := 2) ?hd (cs := #[.int .i64 a0_0, .int .i64 a0_1, .int .i64 a0_2, .slice A0_3 l0_3.length c0_3]) (t := 63) ?hr ?_; (case hd => rfl); (case hg => rfl); (case hr => first | (go_simp; done) | (go_simp; rfl)); intro g2 hg w2 hbox hb; have BG := Aside0.mk hbox; have HB := Aside0.mk hb; clear hbox hb hg) | ((with_reducible refine gate_dst (N := 3) rfl ?_); refine box_event ?hg (N := 3) ?hd (cs := #[.slice A1 l1.length c1]) (t := 36) ?hr ?_; (case hd => rfl); (case hg => rfl); (case hr => first | (go_simp; done) | (go_simp; rfl)); intro g3 hg w3 hbox hb; replace BG := Aside0.mk (blk_below BG.out hb); have BT := Aside0.mk hbox; replace HB := Aside0.mk (below_step HB.out hb); clear hbox hb hg) | ((with_reducible refine gate_dst (N := 4) rfl ?_); refine box_event ?hg (N := 4) ?hd (cs := #[.bool false, .int .i64 0, .slice none 0 0]) (t := 27) ?hr ?_; (case hd => rfl); (case hg => rfl); (case hr => first | (go_simp; done) | (go_simp; rfl)); intro g4 hg w4 hbox hb; replace BG := Aside0.mk (blk_below BG.out hb); replace BT := Aside0.mk (blk_below BT.out hb); have BV := Aside0.mk hbox; have GV := Aside0.mk (hg ▸ HB.out.size : w.heap.size ≤ g4); replace HB := Aside0.mk (below_step HB.out hb); clear hbox hb hg) | ((with_reducible refine gate_dst (N := 5) rfl ?_); refine box_event ?hg (N := 5) ?hd (cs := #[.nilIface]) (t := 30) ?hr ?_; (case hd => rfl); (case hg => rfl); (case hr => first | (go_simp; done) | (go_simp; rfl)); intro g5 hg w5 hbox hb; replace BG := Aside0.mk (blk_below BG.out hb); replace BT := Aside0.mk (blk_below BT.out hb); replace BV := Aside0.mk (blk_below BV.out hb); have BE := Aside0.mk hbox; have GE := Aside0.mk (hg ▸ HB.out.size : w.heap.size ≤ g5); replace HB := Aside0.mk (below_step HB.out hb); clear hbox hb hg; have ha0 : w5.cell? ⟨g2, 0, none⟩ = some (.int .i64 a0_0) := (blk_cell BG.out 0).trans rfl; have ha1 : w5.cell? ⟨g2, 1, none⟩ = some (.int .i64 a0_1) := (blk_cell BG.out 1).trans rfl; have ha2 : w5.cell? ⟨g2, 2, none⟩ = some (.int .i64 a0_2) := (blk_cell BG.out 2).trans rfl; have ha3 : w5.cell? ⟨g2, 3, none⟩ = some (.slice A0_3 l0_3.length c0_3) := (blk_cell BG.out 3).trans rfl) | ((with_reducible refine gate_callee (f := 83) rfl ?_); refine goesL_ (some 9) rfl rfl Tryd.func83 (by kernel_rfl) rfl #[.agg #[.int .i64 a0_0, .int .i64 a0_1, .int .i64 a0_2, .slice A0_3 l0_3.length c0_3]] rfl (by (try simp only [List.map_toArray, List.map_cons, List.map_nil]); first | done | rfl) ?_; (with_reducible refine (gen_Check.calls k a0_0 a0_1 a0_2 _ _ l0_3 none _ ?side1 ?side2 A2.out).mono ?_); (case side1 => exact Kd.C_below HR0_3.out HB.out); (case side2 => exact HC0_3.out); rintro e w6 ⟨rfl, hb⟩; refine ⟨.nilIface, rfl, ?_⟩; clear ha0 ha1 ha2 ha3; replace BG := Aside0.mk (blk_below BG.out hb); replace BT := Aside0.mk (blk_below BT.out hb); replace BV := Aside0.mk (blk_below BV.out hb); replace BE := Aside0.mk (blk_below BE.out hb); replace HB := Aside0.mk (below_step HB.out hb); clear hb) | ((with_reducible refine gate_dst (N := 7) rfl ?_); refine box_event ?hg (N := 7) ?hd (cs := #[.int .i64 0]) (t := 3) ?hr ?_; (case hd => rfl); (case hg => rfl); (case hr => first | (go_simp; done) | (go_simp; rfl)); intro g7 hg w7 hbox hb; replace BG := Aside0.mk (blk_below BG.out hb); replace BT := Aside0.mk (blk_below BT.out hb); replace BV := Aside0.mk (blk_below BV.out hb); replace BE := Aside0.mk (blk_below BE.out hb); have BA := Aside0.mk hbox; have GA := Aside0.mk (hg ▸ HB.out.size : w.heap.size ≤ g7); replace HB := Aside0.mk (below_step HB.out hb); clear hbox hb hg; have NAG := Aside0.mk (blk_ne BA.out BG.out (by decide)); have hng1 := NAG.out; have hng2 := Ne.symm NAG.out; have hz0 : w7.cell? ⟨g7, 0, none⟩ = some (.int .i64 0) := (blk_cell BA.out 0).trans rfl; have hz1 := blk_frozen BA.out 0; have hg0 : w7.cell? ⟨g2, 0, none⟩ = some (.int .i64 a0_0) := (blk_cell BG.out 0).trans rfl; have hg1 : w7.cell? ⟨g2, 1, none⟩ = some (.int .i64 a0_1) := (blk_cell BG.out 1).trans rfl; have hg2_ : w7.cell? ⟨g2, 2, none⟩ = some (.int .i64 a0_2) := (blk_cell BG.out 2).trans rfl; have hg3 : w7.cell? ⟨g2, 3, none⟩ = some (.slice A0_3 l0_3.length c0_3) := (blk_cell BG.out 3).trans rfl) | ((with_reducible refine gate_callee (f := 86) rfl ?_); refine goesL_ (some 17) rfl rfl Tryd.func86 (by kernel_rfl) rfl #[.func (.func 88) #[] #[.pointer (some ⟨g7, 0, none⟩), .pointer (some ⟨g3, 0, none⟩)], .agg #[.int .i64 a0_0, .int .i64 a0_1, .int .i64 a0_2, .slice A0_3 l0_3.length c0_3]] rfl (by (try simp only [List.map_toArray, List.map_cons, List.map_nil]); first | done | rfl) ?_; have NAV := Aside0.mk (blk_ne BA.out BV.out (by decide)); have NAE := Aside0.mk (blk_ne BA.out BE.out (by decide)); have NTA := Aside0.mk (blk_ne BT.out BA.out (by decide)); replace BG := Aside0.mk (blk_far BG.out (p := ⟨g7, 0, none⟩) (Ne.symm NAG.out) (.int .i64 0)); replace BT := Aside0.mk (blk_far BT.out (p := ⟨g7, 0, none⟩) NTA.out (.int .i64 0)); replace BV := Aside0.mk (blk_far BV.out (p := ⟨g7, 0, none⟩) (Ne.symm NAV.out) (.int .i64 0)); replace BE := Aside0.mk (blk_far BE.out (p := ⟨g7, 0, none⟩) (Ne.symm NAE.out) (.int .i64 0)); replace BA := Aside0.mk (blk_put (cs := #[.int .i64 0]) (cs' := #[.int .i64 ((0 : Nat) : Int)]) BA.out 0 (.int .i64 0) rfl); replace HB := Aside0.mk (below_set (j := 0) (v := .int .i64 0) HB.out GA.out); clear hz0 hz1 hg0 hg1 hg2_ hg3; have NVE := Aside0.mk (blk_ne BV.out BE.out (by decide)); refine (gen_made.calls (playStp l1) (PlayS w g7 g3 A1 c1 l1) 88 _ #[.pointer (some ⟨g7, 0, none⟩), .pointer (some ⟨g3, 0, none⟩)] w Tryd.func88 (by kernel_rfl) rfl (Play2.calls w g7 g3 A1 c1 l1 HR1.out HC1.out HL.out) k 0 a0_0 a0_1 a0_2 _ _ l0_3 v31 v32 v33 at_ _ ⟨HB.out, HB.out.size, Nat.le_refl _, fun _ _ _ _ _ => rfl, ⟨GA.out, Ne.symm NTA.out, Nat.zero_le _, BA.out, BT.out⟩, PlayS.moves _ _ _ _ _ _⟩ HR0_3.out HC0_3.out HM.out).mono ?_; rintro e w9 ⟨v2, rfl, hR2, hF⟩; refine ⟨_, rfl, ?_⟩; obtain ⟨-, -, -, hba, hbt⟩ := hF.st; obtain ⟨Ao, co, eo⟩ := Kd.R_slice hR2; subst eo; have HR2 := Aside0.mk (Kd.R_newB (Kd.R_newB hR2 BV.out) BE.out); replace BV := Aside0.mk (Fr.blk_ BV.out hF rfl); replace BE := Aside0.mk (Fr.blk_ BE.out hF rfl); have BA9 := Aside0.mk hba; have BT9 := Aside0.mk hbt; have HB9 := Aside0.mk hF.b; have HS9 := Aside0.mk HB.out.size; clear hR2 hF hba hbt BA BT BG HB; have hn1 := NVE.out; have hn2 := Ne.symm NVE.out; have hn3 := NAV.out; have hn4 := Ne.symm NAV.out; have hn5 := NAE.out; have hn6 := Ne.symm NAE.out; have NTV := Aside0.mk (blk_ne BT9.out BV.out (by decide)); have hn7 := NTV.out; have hn8 := Ne.symm NTV.out; have hv0 : w9.cell? ⟨g4, 0, none⟩ = some (.bool false) := (blk_cell BV.out 0).trans rfl; have hv1 : w9.cell? ⟨g4, 1, none⟩ = some (.int .i64 0) := (blk_cell BV.out 1).trans rfl; have hv2 : w9.cell? ⟨g4, 2, none⟩ = some (.slice none 0 0) := (blk_cell BV.out 2).trans rfl; have hfv0 := blk_frozen BV.out 0; have hfv1 := blk_frozen BV.out 1; have hfv2 := blk_frozen BV.out 2; have he0 : w9.cell? ⟨g5, 0, none⟩ = some .nilIface := (blk_cell BE.out 0).trans rfl; have hfe0 := blk_frozen BE.out 0; have hat0 : w9.cell? ⟨g7, 0, none⟩ = some (.int .i64 (at_ : Int)) := (blk_cell BA9.out 0).trans rfl; have htt0 : w9.cell? ⟨g3, 0, none⟩ = some (.slice A1 l1.length c1) := (blk_cell BT9.out 0).trans rfl))
   refine leaves_cons (f := 87) (args := #[.pointer (some ⟨g4, 0, none⟩), .pointer (some ⟨g5, 0, none⟩)]) (by simp) (by simp [go_sem]) ?_
   refine (catch_idle ⟨g4, 0, none⟩ ⟨g5, 0, none⟩ _).mono ?_
   rintro e u' w'' ⟨rfl, rfl, rfl⟩
   refine ⟨_, results44 _ _ g4 g5 #[.bool v31, .int .i64 v32, .slice Ao v33.length co] .nilIface rfl rfl (by refine blk_far ?_ NVE.out _; refine blk_put (cs := #[.bool v31, .int .i64 v32, .slice Ao v33.length co]) ?_ 2 _ rfl; refine blk_put (cs := #[.bool v31, .int .i64 v32, .slice Ao v33.length co]) ?_ 1 _ rfl; refine blk_put (cs := #[.bool v31, .int .i64 v32, .slice Ao v33.length co]) ?_ 0 _ rfl; refine blk_put (cs := #[.bool v31, .int .i64 v32, .slice none 0 0]) ?_ 2 _ rfl; refine blk_put (cs := #[.bool v31, .int .i64 0, .slice none 0 0]) ?_ 1 _ rfl; refine blk_put (cs := #[.bool false, .int .i64 0, .slice none 0 0]) ?_ 0 _ rfl; exact BV.out) rfl (by refine blk_put (cs := #[.nilIface]) ?_ 0 _ rfl; refine blk_far ?_ (Ne.symm NVE.out) _; refine blk_far ?_ (Ne.symm NVE.out) _; refine blk_far ?_ (Ne.symm NVE.out) _; refine blk_far ?_ (Ne.symm NVE.out) _; refine blk_far ?_ (Ne.symm NVE.out) _; refine blk_far ?_ (Ne.symm NVE.out) _; exact BE.out), _, rfl, ?_, below_set (below_set (below_set (below_set (below_set (below_set (below_set HB9.out GV.out) GV.out) GV.out) GV.out) GV.out) GV.out) GE.out⟩
   refine Kd.R_lower (Kd.R_mono (ok := fun k => (True ∧ k ≠ g4) ∧ k ≠ g5) ?_ (fun _ _ => trivial)) HS9.out
   refine Kd.R_far (p := ⟨g5, 0, none⟩) ?_ (fun _ hk => hk.2) _
   refine Kd.R_far (p := ⟨g4, 2, none⟩) ?_ (fun _ hk => hk.1.2) _
   refine Kd.R_far (p := ⟨g4, 1, none⟩) ?_ (fun _ hk => hk.1.2) _
   refine Kd.R_far (p := ⟨g4, 0, none⟩) ?_ (fun _ hk => hk.1.2) _
   refine Kd.R_far (p := ⟨g4, 2, none⟩) ?_ (fun _ hk => hk.1.2) _
   refine Kd.R_far (p := ⟨g4, 1, none⟩) ?_ (fun _ hk => hk.1.2) _
   refine Kd.R_far (p := ⟨g4, 0, none⟩) ?_ (fun _ hk => hk.1.2) _
   exact HR2.out
end Go.Proofs.YtgdomnlkafcddaaDoor.Q
namespace Go.Proofs.YtgdomnlkafcddaaDoor.Q
open Go.RowKit Go.Proofs.YtgdomnlkafcddaaDoorW.PrintWords Go.Proofs.YtgdomnlkafcddaaDoorW.PrintLast Go.Proofs.YtgdomnlkafcddaaDoorW.PrintMore
set_option linter.unusedVariables false
set_option linter.unusedSimpArgs false

theorem LeO.obind {α β : Type} {x y : Option (Except Int α)} {f g : α → Option (Except Int β)} (h : LeO x y) (hf : ∀ a, LeO (f a) (g a)) : LeO (obind x f) (obind y g) := by
 intro r hr
 match x, h, hr with
 | some (.ok a), h, hr =>
  rw [h _ rfl]
  exact hf a r hr
 | some (.error c), h, hr =>
  rw [h _ rfl]
  exact hr
theorem gen_made.mono_l {σ : Type} (stp : σ → Int → Except Int (Int × σ)) : ∀ k, (∀ y0 y1 y2 y3 y4, LeO (gen_made.f stp k y0 y1 y2 y3 y4) (gen_made.f stp (k + 1) y0 y1 y2 y3 y4)) ∧ (∀ y0 y1 y2 y3 y4 y5 y6, LeO (gen_made.l0 stp k y0 y1 y2 y3 y4 y5 y6) (gen_made.l0 stp (k + 1) y0 y1 y2 y3 y4 y5 y6)) ∧ (∀ y0 y1 y2 y3 y4 y5 y6 y7 y8 y9, LeO (gen_made.l1 stp k y0 y1 y2 y3 y4 y5 y6 y7 y8 y9) (gen_made.l1 stp (k + 1) y0 y1 y2 y3 y4 y5 y6 y7 y8 y9))
 | 0 => ⟨fun _ _ _ _ _ r h => by simp [gen_made.f] at h, fun _ _ _ _ _ _ _ r h => by simp [gen_made.l0] at h, fun _ _ _ _ _ _ _ _ _ _ r h => by simp [gen_made.l1] at h⟩
 | k + 1 => by
  obtain ⟨ih0, ih1, ih2⟩ := gen_made.mono_l stp k
  refine ⟨?_, ?_, ?_⟩
  ·intro y0 y1 y2 y3 y4
   unfold gen_made.f
   repeat' first
   | (with_reducible exact ih0 _ _ _ _ _)
   | (with_reducible exact ih1 _ _ _ _ _ _ _)
   | (with_reducible exact ih2 _ _ _ _ _ _ _ _ _ _)
   | (with_reducible exact LeO.refl _)
   | (with_reducible refine LeO.ite ?_ ?_)
   | (with_reducible refine LeO.obind ?_ (fun _ => ?_))
   | (unfold ebind; refine LeO.obind (LeO.refl _) (fun _ => ?_))
  ·intro y0 y1 y2 y3 y4 y5 y6
   unfold gen_made.l0
   repeat' first
   | (with_reducible exact ih0 _ _ _ _ _)
   | (with_reducible exact ih1 _ _ _ _ _ _ _)
   | (with_reducible exact LeO.refl _)
   | (with_reducible refine LeO.ite ?_ ?_)
   | (with_reducible refine LeO.obind ?_ (fun _ => ?_))
  ·intro y0 y1 y2 y3 y4 y5 y6 y7 y8 y9
   unfold gen_made.l1
   repeat' first
   | (with_reducible exact ih0 _ _ _ _ _)
   | (with_reducible exact ih2 _ _ _ _ _ _ _ _ _ _)
   | (with_reducible exact LeO.refl _)
   | (with_reducible refine LeO.ite ?_ ?_)
   | (with_reducible refine LeO.obind ?_ (fun _ => ?_))
section
variable {σ : Type} {stp : σ → Int → Except Int (Int × σ)}
theorem gen_made.fle {k k' : Nat} (hk : k ≤ k') {st : σ} {a b c : Int} {l : List S63} {r : Except Int ((Bool × Int × List S27) × σ)} (h : gen_made.f stp k st a b c l = some r) : gen_made.f stp k' st a b c l = some r :=
 LeO.le (f := fun k => gen_made.f stp k st a b c l) (fun k => (gen_made.mono_l stp k).1 _ _ _ _ _) hk h
theorem gen_made.le0 {k k' : Nat} (hk : k ≤ k') {st : σ} {l : List S63} {a b : Int} {t : Bool} {c : Int} {d : List S27} {r : Except Int ((Bool × Int × List S27) × σ)} (h : gen_made.l0 stp k st l a b t c d = some r) : gen_made.l0 stp k' st l a b t c d = some r :=
 LeO.le (f := fun k => gen_made.l0 stp k st l a b t c d) (fun k => (gen_made.mono_l stp k).2.1 _ _ _ _ _ _ _) hk h
theorem gen_made.le1 {k k' : Nat} (hk : k ≤ k') {st : σ} {a b g0 g1 g2 : Int} {l : List S63} {t : Bool} {c : Int} {d : List S27} {r : Except Int ((Bool × Int × List S27) × σ)} (h : gen_made.l1 stp k st a b g0 g1 g2 l t c d = some r) : gen_made.l1 stp k' st a b g0 g1 g2 l t c d = some r :=
 LeO.le (f := fun k => gen_made.l1 stp k st a b g0 g1 g2 l t c d) (fun k => (gen_made.mono_l stp k).2.2 _ _ _ _ _ _ _ _ _ _) hk h
end
def OKv : Nat → S27 → Prop
 | 0, _ => False
 | n + 1, x => x.f2.length ≤ 30 ∧ -9223372036854775808 ≤ x.f1 ∧ x.f1 ≤ 9223372036854775807 ∧ ∀ y ∈ x.f2, OKv n y
theorem OKv.succ : ∀ (n : Nat) (x : S27), OKv n x → OKv (n + 1) x
 | 0, _, h => h.elim
 | n + 1, x, ⟨h1, h2, h3, h4⟩ => ⟨h1, h2, h3, fun y hy => OKv.succ n y (h4 y hy)⟩
def Cn : Nat → Nat
 | 0 => 0
 | n + 1 => 1 + 30 * Cn n
def val27 (v : Bool × Int × List S27) : S27 := ⟨v.1, v.2.1, v.2.2⟩
theorem mend_step (l s : List Int) (m : Int) (hm : 0 ≤ m) (hs : s.length < 17592186044415) : ∃ x, 0 ≤ x ∧ x ≤ m ∧ mendStp l s m = .ok (x, s ++ [x]) ∧ ∀ e, playStp (s ++ [x] ++ e) s.length m = .ok (x, s.length + 1) := by
 refine ⟨mendAt l s m, ?_, ?_, by simp [mendStp, hs], fun e => ?_⟩
 ·unfold mendAt
  split
  ·split <;> omega
  ·omega
 ·unfold mendAt
  repeat' split
  all_goals omega
 ·have h0 : 0 ≤ mendAt l s m := by
   unfold mendAt
   split
   ·split <;> omega
   ·omega
  have h1 : mendAt l s m ≤ m := by
   unfold mendAt
   repeat' split
   all_goals omega
  have hr : rd (s ++ [mendAt l s m] ++ e) (s.length : Int) = mendAt l s m := by simp [rd]
  unfold playStp
  rw [hr, if_neg (by simp), if_neg (by omega), if_neg (by omega)]
theorem wrap64_bnd (n : Int) : -9223372036854775808 ≤ wrap64 n ∧ wrap64 n ≤ 9223372036854775807 := by
 unfold wrap64
 omega
/-- What is said of one generator. -/
def MadeOk (n : Nat) (l : List Int) (x : S63) : Prop :=
 ∀ s : List Int, s.length + Cn n ≤ 17592186044415 → ∃ k v d, gen_made.f (mendStp l) k s x.f0 x.f1 x.f2 x.f3 = some (.ok (v, s ++ d)) ∧ OKv n (val27 v) ∧ d.length ≤ Cn n ∧
  ∀ e, gen_made.f (playStp (s ++ d ++ e)) k s.length x.f0 x.f1 x.f2 x.f3 = some (.ok (v, (s ++ d).length))
theorem made_loop0 (n : Nat) (l : List Int) (xs : List S63) (hl : xs.length ≤ 30) (ih : ∀ y ∈ xs, MadeOk n l y) :
  ∀ (j i : Nat), i + j = xs.length → ∀ (s : List Int) (acc : List S27), acc.length = i → (∀ y ∈ acc, OKv n y) → s.length + j * Cn n ≤ 17592186044415 →
   ∃ k acc' d, gen_made.l0 (mendStp l) k s xs (xs.length : Int) (i : Int) true 0 acc = some (.ok ((true, 0, acc'), s ++ d)) ∧ acc'.length = xs.length ∧ (∀ y ∈ acc', OKv n y) ∧ d.length ≤ j * Cn n ∧
    ∀ e, gen_made.l0 (playStp (s ++ d ++ e)) k s.length xs (xs.length : Int) (i : Int) true 0 acc = some (.ok ((true, 0, acc'), (s ++ d).length)) := by
 intro j
 induction j with
 | zero =>
  intro i hi s acc ha hv hs
  have hlt : ¬ (i : Int) < (xs.length : Int) := by omega
  refine ⟨1, acc, [], ?_, by omega, hv, by simp, fun e => ?_⟩
  ·simp [gen_made.l0, hlt]
  ·simp [gen_made.l0, hlt]
 | succ j ihj =>
  intro i hi s acc ha hv hs
  have hlt : (i : Int) < (xs.length : Int) := by omega
  have h0 : (0 : Int) ≤ (i : Int) := by omega
  have hi' : i < xs.length := by omega
  have hw3 : wrap64 ((i : Int) + 1) = ((i + 1 : Nat) : Int) := by rw [wrap64_id (by omega) (by omega)]; omega
  rw [Nat.succ_mul] at hs
  obtain ⟨k1, v, d, h1, hv1, hd1, p1⟩ := ih xs[i] (List.getElem_mem hi') s (by omega)
  obtain ⟨k2, acc', d2, h2, ha2, hv2, hd2, p2⟩ := ihj (i + 1) (by omega) (s ++ d) (acc ++ [val27 v]) (by simp [ha]) (by
   intro y hy
   rcases List.mem_append.1 hy with hy | hy
   ·exact hv y hy
   ·rw [List.mem_singleton.1 hy]; exact hv1) (by rw [List.length_append]; omega)
  have hacc : acc.length < 3518437208883 := by omega
  refine ⟨max k1 k2 + 1, acc', d ++ d2, ?_, ha2, hv2, by rw [List.length_append, Nat.succ_mul]; omega, fun e => ?_⟩
  ·simp only [gen_made.l0, if_pos hlt, if_pos h0, rd_T63_at hi', hw3]
   rw [gen_made.fle (Nat.le_max_left k1 k2) h1]
   simp only [obind, if_pos hacc]
   rw [← List.append_assoc]
   exact gen_made.le0 (Nat.le_max_right k1 k2) h2
  ·have q1 := p1 (d2 ++ e)
   have q2 := p2 e
   rw [show s ++ d ++ (d2 ++ e) = s ++ (d ++ d2) ++ e by simp] at q1
   rw [show s ++ d ++ d2 ++ e = s ++ (d ++ d2) ++ e by simp, show (s ++ d ++ d2).length = (s ++ (d ++ d2)).length by simp] at q2
   simp only [gen_made.l0, if_pos hlt, if_pos h0, rd_T63_at hi', hw3]
   rw [gen_made.fle (Nat.le_max_left k1 k2) q1]
   simp only [obind, if_pos hacc]
   exact gen_made.le0 (Nat.le_max_right k1 k2) q2
theorem made_loop1 (n : Nat) (l : List Int) (xs : List S63) (hl : 0 < xs.length) (g0 g1 g2 : Int) (ih : MadeOk n l xs[0]) (c : Nat) (hc : c ≤ 30) :
  ∀ (j i : Nat), i + j = c → ∀ (s : List Int) (acc : List S27), acc.length = i → (∀ y ∈ acc, OKv n y) → s.length + j * Cn n ≤ 17592186044415 →
   ∃ k acc' d, gen_made.l1 (mendStp l) k s (c : Int) (i : Int) g0 g1 g2 xs true 0 acc = some (.ok ((true, 0, acc'), s ++ d)) ∧ acc'.length = c ∧ (∀ y ∈ acc', OKv n y) ∧ d.length ≤ j * Cn n ∧
    ∀ e, gen_made.l1 (playStp (s ++ d ++ e)) k s.length (c : Int) (i : Int) g0 g1 g2 xs true 0 acc = some (.ok ((true, 0, acc'), (s ++ d).length)) := by
 intro j
 induction j with
 | zero =>
  intro i hi s acc ha hv hs
  have hlt : ¬ (i : Int) < (c : Int) := by omega
  refine ⟨1, acc, [], ?_, by omega, hv, by simp, fun e => ?_⟩
  ·simp [gen_made.l1, hlt]
  ·simp [gen_made.l1, hlt]
 | succ j ihj =>
  intro i hi s acc ha hv hs
  have hlt : (i : Int) < (c : Int) := by omega
  have h0 : (0 : Int) < (xs.length : Int) := by omega
  have hr : rd_T63 xs 0 = xs[0] := by simpa using rd_T63_at (n := 0) hl
  have hw3 : wrap64 ((i : Int) + 1) = ((i + 1 : Nat) : Int) := by rw [wrap64_id (by omega) (by omega)]; omega
  rw [Nat.succ_mul] at hs
  obtain ⟨k1, v, d, h1, hv1, hd1, p1⟩ := ih s (by omega)
  obtain ⟨k2, acc', d2, h2, ha2, hv2, hd2, p2⟩ := ihj (i + 1) (by omega) (s ++ d) (acc ++ [val27 v]) (by simp [ha]) (by
   intro y hy
   rcases List.mem_append.1 hy with hy | hy
   ·exact hv y hy
   ·rw [List.mem_singleton.1 hy]; exact hv1) (by rw [List.length_append]; omega)
  have hacc : acc.length < 3518437208883 := by omega
  refine ⟨max k1 k2 + 1, acc', d ++ d2, ?_, ha2, hv2, by rw [List.length_append, Nat.succ_mul]; omega, fun e => ?_⟩
  ·simp only [gen_made.l1, if_pos hlt, if_pos h0, hr, hw3]
   rw [gen_made.fle (Nat.le_max_left k1 k2) h1]
   simp only [obind, if_pos hacc]
   rw [← List.append_assoc]
   exact gen_made.le1 (Nat.le_max_right k1 k2) h2
  ·have q1 := p1 (d2 ++ e)
   have q2 := p2 e
   rw [show s ++ d ++ (d2 ++ e) = s ++ (d ++ d2) ++ e by simp] at q1
   rw [show s ++ d ++ d2 ++ e = s ++ (d ++ d2) ++ e by simp, show (s ++ d ++ d2).length = (s ++ (d ++ d2)).length by simp] at q2
   simp only [gen_made.l1, if_pos hlt, if_pos h0, hr, hw3]
   rw [gen_made.fle (Nat.le_max_left k1 k2) q1]
   simp only [obind, if_pos hacc]
   exact gen_made.le1 (Nat.le_max_right k1 k2) q2
theorem made_ok : ∀ (n : Nat) (l : List Int) (x : S63), OKg n x → MadeOk n l x := by
 intro n l
 induction n with
 | zero => intro x h; exact h.elim
 | succ n ihn =>
  intro x ⟨hl, hone, hs⟩ s hb
  have hC : Cn (n + 1) = 1 + 30 * Cn n := rfl
  rw [hC] at hb
  rcases hone with ⟨h1, h3, hA⟩ | ⟨h1, h3, hA⟩ | h1 | ⟨h1, hA, hA5, h3⟩ | ⟨h1, h3⟩
  ·refine ⟨1, (false, x.f1, []), [], ?_, ⟨by simp [val27], by simp [val27]; omega, by simp [val27]; omega, by simp [val27]⟩, by simp, fun e => ?_⟩
   ·simp [gen_made.f, h1]
   ·simp [gen_made.f, h1]
  ·have hw : wrap64 (x.f2 - x.f1) = x.f2 - x.f1 := wrap64_id (by omega) (by omega)
   obtain ⟨c, c0, c1, hc, pc⟩ := mend_step l s (x.f2 - x.f1) (by omega) (by omega)
   have hbd := wrap64_bnd (x.f1 + c)
   refine ⟨1, (false, wrap64 (x.f1 + c), []), [c], ?_, ⟨by simp [val27], by simpa [val27] using hbd.1, by simpa [val27] using hbd.2, by simp [val27]⟩, by simp [hC], fun e => ?_⟩
   ·simp only [gen_made.f, h1, hw, if_true, show ¬ (2 : Int) = 1 by decide, if_false, ebind, obind, hc]
   ·simp only [gen_made.f, h1, hw, if_true, show ¬ (2 : Int) = 1 by decide, if_false, ebind, obind, pc e, List.length_append, List.length_cons, List.length_nil, Nat.zero_add]
  ·obtain ⟨k, acc', d, h2, ha, hv, hd, p2⟩ := made_loop0 n l x.f3 hl (fun y hy => ihn y (hs y hy)) x.f3.length 0 (by omega) s [] rfl (by simp) (by have := Nat.mul_le_mul_right (Cn n) hl; omega)
   refine ⟨k + 1, (true, 0, acc'), d, ?_, ⟨by simp [val27]; omega, by simp [val27], by simp [val27], by simpa [val27] using hv⟩, by have := Nat.mul_le_mul_right (Cn n) hl; omega, fun e => ?_⟩
   ·simp only [gen_made.f, h1, show ¬ (3 : Int) = 1 by decide, show ¬ (3 : Int) = 2 by decide, if_false, if_true]
    exact h2
   ·simp only [gen_made.f, h1, show ¬ (3 : Int) = 1 by decide, show ¬ (3 : Int) = 2 by decide, if_false, if_true]
    exact p2 e
  ·obtain ⟨c, c0, c1, hc, pc⟩ := mend_step l s x.f1 hA (by omega)
   obtain ⟨cn, rfl⟩ := Int.eq_ofNat_of_zero_le c0
   have h3' : 0 < x.f3.length := by omega
   have hle : cn * Cn n ≤ 30 * Cn n := Nat.mul_le_mul_right _ (by omega)
   obtain ⟨k, acc', d, h2, ha, hv, hd, p2⟩ := made_loop1 n l x.f3 h3' x.f0 x.f1 x.f2 (ihn _ (hs _ (List.getElem_mem h3'))) cn (by omega) cn 0 (by omega) (s ++ [(cn : Int)]) [] rfl (by simp) (by rw [List.length_append]; simp; omega)
   refine ⟨k + 1, (true, 0, acc'), (cn : Int) :: d, ?_, ⟨by simp [val27]; omega, by simp [val27], by simp [val27], by simpa [val27] using hv⟩, by simp; omega, fun e => ?_⟩
   ·simp only [gen_made.f, h1, show ¬ (4 : Int) = 1 by decide, show ¬ (4 : Int) = 2 by decide, show ¬ (4 : Int) = 3 by decide, if_false, if_true, ebind, obind]
    rw [hc]
    simp only []
    rw [h1] at h2
    simpa using h2
   ·have q := pc (d ++ e)
    have q2 := p2 e
    rw [show s ++ [(cn : Int)] ++ (d ++ e) = s ++ ((cn : Int) :: d) ++ e by simp] at q
    rw [show s ++ [(cn : Int)] ++ d ++ e = s ++ ((cn : Int) :: d) ++ e by simp, show (s ++ [(cn : Int)] ++ d).length = (s ++ ((cn : Int) :: d)).length by simp, show (s ++ [(cn : Int)]).length = s.length + 1 by simp, h1] at q2
    simp only [gen_made.f, h1, show ¬ (4 : Int) = 1 by decide, show ¬ (4 : Int) = 2 by decide, show ¬ (4 : Int) = 3 by decide, if_false, if_true, ebind, obind]
    rw [q]
    exact q2
  ·have hw : wrap64 ((x.f3.length : Int) - 1) = (x.f3.length : Int) - 1 := wrap64_id (by omega) (by omega)
   obtain ⟨c, c0, c1, hc, pc⟩ := mend_step l s ((x.f3.length : Int) - 1) (by omega) (by omega)
   obtain ⟨cn, rfl⟩ := Int.eq_ofNat_of_zero_le c0
   have hcn : cn < x.f3.length := by omega
   have hci : ((cn : Nat) : Int) < (x.f3.length : Int) := by omega
   obtain ⟨k, v, d, h2, hv, hd, p2⟩ := ihn _ (hs _ (List.getElem_mem hcn)) (s ++ [(cn : Int)]) (by rw [List.length_append]; simp; omega)
   refine ⟨k + 1, v, (cn : Int) :: d, ?_, ?_, by simp; omega, fun e => ?_⟩
   ·simp only [gen_made.f, h1, hw, show ¬ (5 : Int) = 1 by decide, show ¬ (5 : Int) = 2 by decide, show ¬ (5 : Int) = 3 by decide, show ¬ (5 : Int) = 4 by decide, if_false, if_true, ebind, obind]
    rw [hc]
    simp only [if_pos c0, if_pos hci, rd_T63_at hcn]
    rw [h2]
    simp
   ·exact OKv.succ n _ hv
   ·have q := pc (d ++ e)
    have q2 := p2 e
    rw [show s ++ [(cn : Int)] ++ (d ++ e) = s ++ ((cn : Int) :: d) ++ e by simp] at q
    rw [show s ++ [(cn : Int)] ++ d ++ e = s ++ ((cn : Int) :: d) ++ e by simp, show (s ++ [(cn : Int)] ++ d).length = (s ++ ((cn : Int) :: d)).length by simp, show (s ++ [(cn : Int)]).length = s.length + 1 by simp] at q2
    simp only [gen_made.f, h1, hw, show ¬ (5 : Int) = 1 by decide, show ¬ (5 : Int) = 2 by decide, show ¬ (5 : Int) = 3 by decide, show ¬ (5 : Int) = 4 by decide, if_false, if_true, ebind, obind]
    rw [q]
    simp only [if_pos c0, if_pos hci, rd_T63_at hcn]
    rw [q2]
theorem gen_Mend.gmono (a b c : Int) (l : List S63) (l1 : List Int) (k : Nat) : LeO (gen_Mend.g k a b c l l1) (gen_Mend.g (k + 1) a b c l l1) := by
 unfold gen_Mend.g
 refine LeO.bind (gen_Check.mono _ _ _ _ k) (fun e => ?_)
 cases e with
 | some c => exact LeO.refl _
 | none =>
  intro r hr
  dsimp only at hr ⊢
  rcases hm : gen_made.f (mendStp l1) k [] a b c l with _ | (c' | v)
  ·rw [hm] at hr; cases hr
  ·rw [hm] at hr; cases hr
  ·rw [(gen_made.mono_l (mendStp l1) k).1 _ _ _ _ _ _ hm]
   rw [hm] at hr
   exact hr
theorem gen_Replay.gmono (a b c : Int) (l : List S63) (l1 : List Int) (k : Nat) : LeO (gen_Replay.g k a b c l l1) (gen_Replay.g (k + 1) a b c l l1) := by
 unfold gen_Replay.g
 refine LeO.bind (gen_Check.mono _ _ _ _ k) (fun e => ?_)
 cases e with
 | some c => exact LeO.refl _
 | none =>
  dsimp only
  refine LeO.ite ?_ (LeO.refl _)
  intro r hr
  rcases hm : gen_made.f (playStp l1) k 0 a b c l with _ | (c' | v)
  ·rw [hm] at hr; cases hr
  ·rw [hm] at hr; cases hr
  ·rw [(gen_made.mono_l (playStp l1) k).1 _ _ _ _ _ _ hm]
   rw [hm] at hr
   exact hr
/-- A generator is wrong, and Mend and Replay tell so alike whatever the numbers; or it is right, and what is mended is replayed. -/
theorem gen_law (x : S63) : (∃ c, (∀ l, gen_Mend.f x.f0 x.f1 x.f2 x.f3 l = some ([], some c)) ∧ ∀ l, gen_Replay.f x.f0 x.f1 x.f2 x.f3 l = some (false, 0, [], some c)) ∨
  (OKg 6 x ∧ ∀ l, ∃ m v, gen_Mend.f x.f0 x.f1 x.f2 x.f3 l = some (m, none) ∧ OKv 6 (val27 v) ∧ m.length ≤ Cn 6 ∧ gen_Replay.f x.f0 x.f1 x.f2 x.f3 m = some (v.1, v.2.1, v.2.2, none)) := by
 obtain ⟨k, e, hk, he⟩ := check_halts x
 cases e with
 | some c =>
  refine .inl ⟨c, fun l => Olim_of (fun k => gen_Mend.gmono _ _ _ _ _ k) (k := k) ?_, fun l => Olim_of (fun k => gen_Replay.gmono _ _ _ _ _ k) (k := k) ?_⟩
  ·unfold gen_Mend.g
   rw [hk]
   rfl
  ·unfold gen_Replay.g
   rw [hk]
   rfl
 | none =>
  refine .inr ⟨he rfl, fun l => ?_⟩
  have hC : Cn 6 = 25137931 := by decide
  obtain ⟨k2, v, d, h2, hv, hd, p2⟩ := made_ok 6 l x (he rfl) [] (by rw [hC]; decide)
  rw [List.nil_append] at h2
  have p3 := p2 []
  rw [List.nil_append, List.append_nil, List.length_nil] at p3
  refine ⟨d, v, Olim_of (fun k => gen_Mend.gmono _ _ _ _ _ k) (k := max k k2) ?_, hv, hd, Olim_of (fun k => gen_Replay.gmono _ _ _ _ _ k) (k := max k k2) ?_⟩
  ·unfold gen_Mend.g
   rw [gen_Check.fle (Nat.le_max_left k k2) hk]
   simp only [Option.bind_some]
   rw [gen_made.fle (Nat.le_max_right k k2) h2]
  ·unfold gen_Replay.g
   rw [gen_Check.fle (Nat.le_max_left k k2) hk]
   simp only [Option.bind_some]
   rw [if_pos (by omega), gen_made.fle (Nat.le_max_right k k2) p3]
   obtain ⟨v1, v2, v3⟩ := v
   simp
end Go.Proofs.YtgdomnlkafcddaaDoor.Q
namespace Go.Proofs.YtgdomnlkafcddaaDoor.Q
open Go.RowKit Go.Proofs.YtgdomnlkafcddaaDoorW.PrintWords Go.Proofs.YtgdomnlkafcddaaDoorW.PrintLast Go.Proofs.YtgdomnlkafcddaaDoorW.PrintMore
set_option linter.unusedVariables false
set_option linter.unusedSimpArgs false
theorem play_step (T : List Int) (s : Nat) (hs : s ≤ T.length) (m : Int) : (∃ x, 0 ≤ x ∧ x ≤ m ∧ s < T.length ∧ playStp T s m = .ok (x, s + 1)) ∨ ∃ c, playStp T s m = .error c := by
 unfold playStp
 by_cases h1 : s = T.length
 ·exact .inr ⟨5, by rw [if_pos h1]⟩
 rw [if_neg h1]
 by_cases h2 : rd T (s : Int) < 0
 ·exact .inr ⟨1, by rw [if_pos h2]⟩
 rw [if_neg h2]
 by_cases h3 : m < rd T (s : Int)
 ·exact .inr ⟨1, by rw [if_pos h3]⟩
 rw [if_neg h3]
 exact .inl ⟨_, by omega, by omega, by omega, rfl⟩
end Go.Proofs.YtgdomnlkafcddaaDoor.Q
