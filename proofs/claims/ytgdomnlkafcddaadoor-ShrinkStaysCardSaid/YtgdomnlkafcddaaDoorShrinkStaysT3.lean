/- Part 3 of the proof for ShrinkStays: contracts of functions, step by step over the code; What is replayed to its end: the value is right in form, and the numbers are small. rose.Less's first closure (function 73): numbers are mended; what comes of them is taken if it is less. DERIVED: THE SHELF's CONTRACTS AT THIS DUMP, IN PLAIN WORDS (tools/lay-plain.mjs out of 'TrydMore3.lean', which tools/lay-shelf.mjs wrote): THE SAME DECLARATIONS UNDER THE SAME NAMES: 'import', 'namespace', 'open', 'def', 'theorem' AND NOTHING ELSE: no command of the shelf's: FOR A HAND-IN. Each laying: the table of numbers ('.._ren') and one theorem, a field a fact of the dump's own or the kernel's comparison; each contract: ONE APPLICATION. slices.Clone at []int (function 75), by the shelf. rose.Less's second closure (function 74): a copy with one number in another's place. slices.Delete at []int (function 76), of a row of the call's own, by the shelf. rose.Less (function 33): what it tells, by its closures' contracts. The plain law of lesser tapes: rose.Less answers, whatever the generator and the numbers; what it tells is mended and less. errors.As at a target of type *api.Errno, by Go's own text: an error that is an Errno is found at once. After the guide's worked text ToyasAs. plain.Told: 0 of nil, of an Errno its number; it only makes memory. Plain laws of the statements' own helpers: lists copied, compared, spoiled; errors compared. An expression that is a number alone: expr.each, Check (functions 101, 57). An expression that is a number alone: expr.Eval (function 47) and its deferred closure (94), expr.Fails (130). An expression that is a number alone: expr.Fails (function 130). shrink.fails (function 91), Walk's closure (93), slices.IndexFunc (92), where the expression is a number alone and the tape is replayed. slices.IndexFunc (function 92) over Walk's closure, where every tape fails. shrink.Walk (function 46), where the expression is a number alone.. -/
import Derived.Test.YtgdomnlkafcddaaDoorShrinkStaysT1
import Derived.Test.YtgdomnlkafcddaaDoorShrinkStaysT2
import Derived.Shelf.Slices.Clone
import Derived.Shelf.Slices.Delete
import Derived.Test.YtgdomnlkafcddaaDoorProg
import Derived.WalkKit
import Derived.LaidEql
import Derived.Stop.Asserts
import Derived.RowKitTokens
import Derived.WalkSpells
import Derived.BigQuiet
import Derived.Recover
namespace Go.Proofs.YtgdomnlkafcddaaDoor.Q
open Go.RowKit Go.Proofs.YtgdomnlkafcddaaDoorW.PrintWords Go.Proofs.YtgdomnlkafcddaaDoorW.PrintLast Go.Proofs.YtgdomnlkafcddaaDoorW.PrintMore
attribute [local go_sem] max2_int min2_int max_two min_two max_three min_three max_four min_four   -- for this text's walks alone
set_option linter.unusedVariables false
set_option linter.unusedSimpArgs false

/-! ### val_check: function 98 -/
mutual
def val_check.j0 : Nat → Int → Bool → Bool → Int → List (S27) → Option (Option Int)
 | 0, _, _, _, _, _ => none
 | k + 1, x1, x25, x465000, x465001, x465002 => if x25 = true then (some (some 3)) else (if x1 ≥ 6 then (some (some 4)) else (val_check.l0 k x1 x465002 (x465002.length : Int) 0))
def val_check.l0 : Nat → Int → List (S27) → Int → Int → Option (Option Int)
 | 0, _, _, _, _ => none
 | k + 1, x1, x31, x32, x33 => if x33 < x32 then (if 0 ≤ x33 then (if x33 < (x31.length : Int) then ((val_check.f k ((rd_T27 x31 x33).f0) ((rd_T27 x31 x33).f1) ((rd_T27 x31 x33).f2) (wrap64 (x1 + 1))).bind fun t467 => (if t467.isNone = true then (val_check.l0 k x1 x31 x32 (wrap64 (x33 + 1))) else (some (some (t467.getD 0))))) else (none)) else (none)) else (some none)
def val_check.f : Nat → Bool → Int → List (S27) → Int → Option (Option Int)
 | 0, _, _, _, _ => none
 | k + 1, a0_0, a0_1, l0_2, a1 => if a0_0 = true then (if a0_1 = 0 then (val_check.j0 k a1 false a0_0 a0_1 l0_2) else (val_check.j0 k a1 true a0_0 a0_1 l0_2)) else (val_check.j0 k a1 (decide ((l0_2.length : Int) > 0)) a0_0 a0_1 l0_2)
end
theorem val_check.mono_l : ∀ k, (∀ y0 y1 y2 y3, LeO (val_check.f k y0 y1 y2 y3) (val_check.f (k + 1) y0 y1 y2 y3)) ∧ (∀ y0 y1 y2 y3 y4, LeO (val_check.j0 k y0 y1 y2 y3 y4) (val_check.j0 (k + 1) y0 y1 y2 y3 y4)) ∧ (∀ y0 y1 y2 y3, LeO (val_check.l0 k y0 y1 y2 y3) (val_check.l0 (k + 1) y0 y1 y2 y3))
 | 0 => ⟨fun _ _ _ _ r h => by simp [val_check.f] at h, fun _ _ _ _ _ r h => by simp [val_check.j0] at h, fun _ _ _ _ r h => by simp [val_check.l0] at h⟩
 | k + 1 => by
  obtain ⟨ih0, ih1, ih2⟩ := val_check.mono_l k
  refine ⟨?_, ?_, ?_⟩
  ·intro y0 y1 y2 y3
   unfold val_check.f
   repeat' first
   | (with_reducible exact ih0 _ _ _ _)
   | (with_reducible exact ih1 _ _ _ _ _)
   | (with_reducible exact ih2 _ _ _ _)
   | (with_reducible exact LeO.refl _)
   | (with_reducible exact LeO.none _)
   | (with_reducible refine LeO.ite ?_ ?_)
   | (with_reducible refine LeO.bind ?_ (fun _ => ?_))
   | exact ih0 _ _ _ _
   | exact ih1 _ _ _ _ _
   | exact ih2 _ _ _ _
   | exact LeO.none _
   | refine LeO.ite ?_ ?_
   | refine LeO.bind ?_ (fun _ => ?_)
  ·intro y0 y1 y2 y3 y4
   unfold val_check.j0
   repeat' first
   | (with_reducible exact ih0 _ _ _ _)
   | (with_reducible exact ih1 _ _ _ _ _)
   | (with_reducible exact ih2 _ _ _ _)
   | (with_reducible exact LeO.refl _)
   | (with_reducible exact LeO.none _)
   | (with_reducible refine LeO.ite ?_ ?_)
   | (with_reducible refine LeO.bind ?_ (fun _ => ?_))
   | exact ih0 _ _ _ _
   | exact ih1 _ _ _ _ _
   | exact ih2 _ _ _ _
   | exact LeO.none _
   | refine LeO.ite ?_ ?_
   | refine LeO.bind ?_ (fun _ => ?_)
  ·intro y0 y1 y2 y3
   unfold val_check.l0
   repeat' first
   | (with_reducible exact ih0 _ _ _ _)
   | (with_reducible exact ih1 _ _ _ _ _)
   | (with_reducible exact ih2 _ _ _ _)
   | (with_reducible exact LeO.refl _)
   | (with_reducible exact LeO.none _)
   | (with_reducible refine LeO.ite ?_ ?_)
   | (with_reducible refine LeO.bind ?_ (fun _ => ?_))
   | exact ih0 _ _ _ _
   | exact ih1 _ _ _ _ _
   | exact ih2 _ _ _ _
   | exact LeO.none _
   | refine LeO.ite ?_ ?_
   | refine LeO.bind ?_ (fun _ => ?_)
theorem val_check.mono : ∀ a0 a1 a2 a3 k, LeO (val_check.f k a0 a1 a2 a3) (val_check.f (k + 1) a0 a1 a2 a3) := by
 intro a0 a1 a2 a3 k
 obtain ⟨ih0, ih1, ih2⟩ := val_check.mono_l k
 exact ih0 a0 a1 a2 a3
set_option maxHeartbeats 8000000 in
set_option maxRecDepth 100000 in
theorem val_check.calls (k : Nat) : ∀ (a0_0 : Bool) (a0_1 : Int) (A0_2 : Option Addr) (c0_2 : Nat) (l0_2 : List (S27)) (a1 : Int) (r : Option Int) (w : World) (hr0_2 : Kd.C k27 w A0_2 l0_2.length l0_2) (hc0_2 : l0_2.length ≤ c0_2) (h : val_check.f k a0_0 a0_1 l0_2 a1 = some r),
  Calls Tryd.prog 98 #[.agg #[.bool a0_0, .int .i64 a0_1, .slice A0_2 l0_2.length c0_2], .int .i64 a1] w fun e w' => e = .returned (errW r) ∧ Below w.heap.size w w' := by
 induction k using Nat.strongRecOn with
 | _ k ih =>
 intro a0_0 a0_1 A0_2 c0_2 l0_2 a1 r w hr0_2 hc0_2 h
 cases k with
 | zero => exact absurd h (by simp [val_check.f])
 | succ k =>
 simp only [val_check.f] at h
 have hu27 := Tryd.underlying27
 have hu30 := Tryd.underlying30
 have hu66 := Tryd.underlying66
 have HR0_2 := Aside0.mk hr0_2
 have HC0_2 := Aside0.mk hc0_2
 clear hr0_2 hc0_2
 have HB := Aside0.mk (Below.refl w.heap.size w)
 have H : (if a0_0 = true then (if a0_1 = 0 then (val_check.j0 k a1 false a0_0 a0_1 l0_2) else (val_check.j0 k a1 true a0_0 a0_1 l0_2)) else (val_check.j0 k a1 (decide ((l0_2.length : Int) > 0)) a0_0 a0_1 l0_2)) = some r := h
 clear h
 have HC3 := Aside0.mk H
 clear H
 go_enter Tryd.func98, Tryd.ntmps98
 go_upto_region 1 with (first | ((with_reducible refine gate_dst (N := 2) rfl ?_); (try (refine gate_guard (by rfl) ?_; dsimp only)); refine box_event ?hg (N := 2) ?hd (cs := #[.bool a0_0, .int .i64 a0_1, .slice A0_2 l0_2.length c0_2]) (t := 27) ?hr ?_; (case hd => rfl); (case hg => rfl); (case hr => first | (go_simp; done) | (go_simp; rfl)); intro gb464 hg w4 hbox hb; have n0_ := Aside0.mk (below_step (by repeat (first | (with_reducible first | exact HB.out | apply below_alloc | apply pw_below_drewN | apply below_drew1) | exact HB.out)) hb); have n1_ := Aside0.mk (hbox); have n2_ := Aside0.mk ((by rw [hg]; exact (below_size (by repeat (first | (with_reducible first | exact HB.out | apply below_alloc | apply pw_below_drewN | apply below_drew1) | exact HB.out))) : w.heap.size ≤ gb464)); have n3_ := Aside0.mk ((by rw [hg]; exact (below_size (by repeat (first | (with_reducible first | exact HB.out | apply below_alloc | apply pw_below_drewN | apply below_drew1) | exact HB.out))) : w.heap.size ≤ gb464)); clear HB; have HB := n0_; have BK464 := n1_; have GW464 := n2_; have GE464 := n3_; clear n0_ n1_ n2_ n3_; clear hb hbox hg))
 (try simp only [Act.put, List.setIfInBounds_toArray, List.set_cons_zero, List.set_cons_succ])
 go_cut [25] (fun v25 wc => ∃ (kq : Nat) (x25_2 : Bool), v25 = .bool x25_2 ∧ Aside0 (val_check.j0 kq a1 x25_2 a0_0 a0_1 l0_2 = some r) ∧ Aside0 (kq ≤ k) ∧ Aside0 (wc.heap[gb464]? = some (.cells #[.bool a0_0, .int .i64 a0_1, (.slice A0_2 l0_2.length c0_2)] 27 (0, 0))) ∧ Aside0 (Below w.heap.size w wc))
 case first =>
  have H := HC3.out
  clear HC3
  by_cases c5 : a0_0 = true
  ·subst c5
   have H1 : (if a0_1 = 0 then (val_check.j0 k a1 false true a0_1 l0_2) else (val_check.j0 k a1 true true a0_1 l0_2)) = some r := by rw [if_pos rfl] at H; exact H
   clear H
   have H := H1
   clear H1
   by_cases c6 : a0_1 = 0
   ·rw [if_pos c6] at H
    have c6b0 : (a0_1 == 0) = true := beq_iff_eq.mpr c6
    have c6b1 : (a0_1 != 0) = false := bne_eq_false_iff_eq.mpr c6
    clear c6
    (first | rw [c6b0] | (simp only [i64_w, i32_w]; rw [c6b0]) | skip)
    have H' := Aside0.mk H
    clear H
    have hcz7_0 : w4.cell? ⟨gb464, 0, none⟩ = some (.bool true) := (blk_cell BK464.out 0).trans rfl
    have hcz7_1 : w4.cell? ⟨gb464, 1, none⟩ = some (.int .i64 a0_1) := (blk_cell BK464.out 1).trans rfl
    have hcz7_2 : w4.cell? ⟨gb464, 2, none⟩ = some (.slice A0_2 l0_2.length c0_2) := (blk_cell BK464.out 2).trans rfl
    have hfz7_0 := blk_frozen BK464.out 0
    have hfz7_1 := blk_frozen BK464.out 1
    have hfz7_2 := blk_frozen BK464.out 2
    go_wp2
    go_meet
    case rel => exact ⟨_, (false), (by first | rfl | (simp; done) | (simp [*]; done)), H', ⟨by first | omega | exact Nat.le_refl _⟩, ⟨by (with_reducible repeat (first | refine blk_drewN ?_ _ | refine blk_drew ?_ | refine blk_alloc ?_ _)); exact BK464.out⟩, ⟨by repeat (first | (with_reducible first | exact HB.out | apply below_alloc | apply pw_below_drewN | apply below_drew1 | refine below_set ?_ GE464.out) | exact HB.out)⟩⟩
   ·rw [if_neg c6] at H
    have c6b0 : (a0_1 == 0) = false := beq_eq_false_iff_ne.mpr c6
    have c6b1 : (a0_1 != 0) = true := bne_iff_ne.mpr c6
    (first | rw [c6b0] | (simp only [i64_w, i32_w]; rw [c6b0]) | skip)
    have H' := Aside0.mk H
    clear H
    have hcz8_0 : w4.cell? ⟨gb464, 0, none⟩ = some (.bool true) := (blk_cell BK464.out 0).trans rfl
    have hcz8_1 : w4.cell? ⟨gb464, 1, none⟩ = some (.int .i64 a0_1) := (blk_cell BK464.out 1).trans rfl
    have hcz8_2 : w4.cell? ⟨gb464, 2, none⟩ = some (.slice A0_2 l0_2.length c0_2) := (blk_cell BK464.out 2).trans rfl
    have hfz8_0 := blk_frozen BK464.out 0
    have hfz8_1 := blk_frozen BK464.out 1
    have hfz8_2 := blk_frozen BK464.out 2
    go_wp2
    go_meet
    case rel => exact ⟨_, (true), (by first | rfl | (simp; done) | (simp [*]; done)), H', ⟨by first | omega | exact Nat.le_refl _⟩, ⟨by (with_reducible repeat (first | refine blk_drewN ?_ _ | refine blk_drew ?_ | refine blk_alloc ?_ _)); exact BK464.out⟩, ⟨by repeat (first | (with_reducible first | exact HB.out | apply below_alloc | apply pw_below_drewN | apply below_drew1 | refine below_set ?_ GE464.out) | exact HB.out)⟩⟩
  ·replace c5 := Bool.eq_false_iff.mpr c5
   subst c5
   have H1 : (val_check.j0 k a1 (decide ((l0_2.length : Int) > 0)) false a0_1 l0_2) = some r := by rw [if_neg (show ¬ (false = true) by decide)] at H; exact H
   clear H
   have H := H1
   clear H1
   have H' := Aside0.mk H
   clear H
   have hcz9_0 : w4.cell? ⟨gb464, 0, none⟩ = some (.bool false) := (blk_cell BK464.out 0).trans rfl
   have hcz9_1 : w4.cell? ⟨gb464, 1, none⟩ = some (.int .i64 a0_1) := (blk_cell BK464.out 1).trans rfl
   have hcz9_2 : w4.cell? ⟨gb464, 2, none⟩ = some (.slice A0_2 l0_2.length c0_2) := (blk_cell BK464.out 2).trans rfl
   have hfz9_0 := blk_frozen BK464.out 0
   have hfz9_1 := blk_frozen BK464.out 1
   have hfz9_2 := blk_frozen BK464.out 2
   go_wp2
   go_meet
   case rel => exact ⟨_, (decide ((l0_2.length : Int) > 0)), (by first | rfl | (simp; done) | (simp [*]; done)), H', ⟨by first | omega | exact Nat.le_refl _⟩, ⟨by (with_reducible repeat (first | refine blk_drewN ?_ _ | refine blk_drew ?_ | refine blk_alloc ?_ _)); exact BK464.out⟩, ⟨by repeat (first | (with_reducible first | exact HB.out | apply below_alloc | apply pw_below_drewN | apply below_drew1 | refine below_set ?_ GE464.out) | exact HB.out)⟩⟩
 case rest =>
  clear HC3
  try clear p2
  try clear c5
  try clear c6
  try clear c6b0
  try clear c6b1
  try clear c9
  try clear hcz7_0
  try clear hcz7_1
  try clear hcz7_2
  try clear hcz8_0
  try clear hcz8_1
  try clear hcz8_2
  try clear hcz9_0
  try clear hcz9_1
  try clear hcz9_2
  try clear hfz7_0
  try clear hfz7_1
  try clear hfz7_2
  try clear hfz8_0
  try clear hfz8_1
  try clear hfz8_2
  try clear hfz9_0
  try clear hfz9_1
  try clear hfz9_2
  obtain ⟨kq, x25_2, rfl, HA, HJ2, BK464, HB⟩ := hcut
  cases kq with
  | zero => exact absurd HA.out (by simp [val_check.j0])
  | succ kj2 =>
   have H := HA.out
   clear HA
   simp only [val_check.j0] at H
   by_cases c10 : x25_2 = true
   ·subst c10
    have H1 : (some (some 3)) = some r := by rw [if_pos rfl] at H; exact H
    clear H
    have H := H1
    clear H1
    obtain rfl := Option.some.inj H
    go_wp2
    go_ret
    exact ⟨by first | rfl | (simp [errW_none, errW_some] <;> rfl) | (simp [*, errW_none, errW_some] <;> rfl), by repeat (first | (with_reducible first | exact HB.out | apply below_alloc | apply pw_below_drewN | apply below_drew1 | refine below_set ?_ GE464.out) | exact HB.out)⟩
   ·replace c10 := Bool.eq_false_iff.mpr c10
    subst c10
    have H1 : (if a1 ≥ 6 then (some (some 4)) else (val_check.l0 kj2 a1 l0_2 (l0_2.length : Int) 0)) = some r := by rw [if_neg (show ¬ (false = true) by decide)] at H; exact H
    clear H
    have H := H1
    clear H1
    by_cases c11 : a1 ≥ 6
    ·rw [if_pos c11] at H
     have c11b0 : decide (6 ≤ a1) = true := decide_eq_true c11
     clear c11
     obtain rfl := Option.some.inj H
     go_wp2
     go_ret
     exact ⟨by first | rfl | (simp [errW_none, errW_some] <;> rfl) | (simp [*, errW_none, errW_some] <;> rfl), by repeat (first | (with_reducible first | exact HB.out | apply below_alloc | apply pw_below_drewN | apply below_drew1 | refine below_set ?_ GE464.out) | exact HB.out)⟩
    ·rw [if_neg c11] at H
     have c11b0 : decide (6 ≤ a1) = false := decide_eq_false c11
     clear c11
     have H' := Aside0.mk H
     clear H
     have hcz12_0 : wc.cell? ⟨gb464, 0, none⟩ = some (.bool a0_0) := (blk_cell BK464.out 0).trans rfl
     have hcz12_1 : wc.cell? ⟨gb464, 1, none⟩ = some (.int .i64 a0_1) := (blk_cell BK464.out 1).trans rfl
     have hcz12_2 : wc.cell? ⟨gb464, 2, none⟩ = some (.slice A0_2 l0_2.length c0_2) := (blk_cell BK464.out 2).trans rfl
     have hfz12_0 := blk_frozen BK464.out 0
     have hfz12_1 := blk_frozen BK464.out 1
     have hfz12_2 := blk_frozen BK464.out 2
     go_wp2
     go_loopg [33] kj2 (fun kq v33 w' => ∃ (x33_2 : Int), v33 = .int .i64 x33_2 ∧ Aside0 (val_check.l0 kq a1 l0_2 (l0_2.length : Int) x33_2 = some r) ∧ Aside0 (kq ≤ kj2) ∧ Aside0 (w'.heap[gb464]? = some (.cells #[.bool a0_0, .int .i64 a0_1, (.slice A0_2 l0_2.length c0_2)] 27 (0, 0))) ∧ Aside0 (Below w.heap.size w w'))
     case atStart => exact ⟨(0), (by first | rfl | (simp; done) | (simp [*]; done)), H', ⟨Nat.le_refl _⟩, ⟨by (with_reducible repeat (first | refine blk_drewN ?_ _ | refine blk_drew ?_ | refine blk_alloc ?_ _)); exact BK464.out⟩, ⟨by repeat (first | (with_reducible first | exact HB.out | apply below_alloc | apply pw_below_drewN | apply below_drew1 | refine below_set ?_ GE464.out) | exact HB.out)⟩⟩
     case round =>
      clear H'
      try clear c1
      try clear p2
      try clear c5
      try clear c6
      try clear c6b0
      try clear c6b1
      try clear c9
      try clear c10
      try clear c11
      try clear c11b0
      try clear hcz12_0
      try clear hcz12_1
      try clear hcz12_2
      try clear hcz7_0
      try clear hcz7_1
      try clear hcz7_2
      try clear hcz8_0
      try clear hcz8_1
      try clear hcz8_2
      try clear hcz9_0
      try clear hcz9_1
      try clear hcz9_2
      try clear hfz12_0
      try clear hfz12_1
      try clear hfz12_2
      try clear hfz7_0
      try clear hfz7_1
      try clear hfz7_2
      try clear hfz8_0
      try clear hfz8_1
      try clear hfz8_2
      try clear hfz9_0
      try clear hfz9_1
      try clear hfz9_2
      try clear p2
      obtain ⟨x33_2, rfl, HA, HK2, BK464, HB⟩ := hrel
      cases gk with
      | zero => exact absurd HA.out (by simp [val_check.l0])
      | succ k2 =>
       have H := HA.out
       clear HA
       simp only [val_check.l0] at H
       by_cases c13 : x33_2 < (l0_2.length : Int)
       ·rw [if_pos c13] at H
        have c13b0 : decide (x33_2 < (l0_2.length : Int)) = true := decide_eq_true c13
        clear c13
        by_cases c14 : 0 ≤ x33_2
        ·rw [if_pos c14] at H
         have c14b0 : decide (0 ≤ x33_2) = true := decide_eq_true c14
         clear c14
         by_cases c15 : x33_2 < (l0_2.length : Int)
         ·rw [if_pos c15] at H
          have c15b0 : decide (x33_2 < (l0_2.length : Int)) = true := decide_eq_true c15
          clear c15
          replace H := Option.bind_eq_some_iff.mp H
          obtain ⟨t467, A160, H⟩ := H
          replace H : (if t467.isNone = true then (val_check.l0 k2 a1 l0_2 (l0_2.length : Int) (wrap64 (x33_2 + 1))) else (some (some (t467.getD 0)))) = some r := H
          have A16 := Aside0.mk A160
          clear A160
          rcases t467 with _ | q468
          ·have H1 : (val_check.l0 k2 a1 l0_2 (l0_2.length : Int) (wrap64 (x33_2 + 1))) = some r := by rw [if_pos (show (none : Option Int).isNone = true by rfl)] at H; exact H
           clear H
           have H := H1
           clear H1
           try simp only [errW_none, errW_some]
           have H' := Aside0.mk H
           clear H
           have p465 : 0 ≤ (x33_2 : Int) := of_decide_eq_true (by first | (with_reducible assumption) | assumption)
           have q465 : x33_2 < (l0_2.length : Int) := of_decide_eq_true (by first | (with_reducible assumption) | assumption)
           obtain ⟨ad465, A465_2, c465_2, e465, hx465_0, hx465_1, hx465_2, hl465_2, hi465_2⟩ := at_T27 HR0_2.out x33_2 p465 q465
           cases e465
           replace hx465_0 := (HB.out.cell (World.block_lt_of_cell? w _ hx465_0)).trans hx465_0
           replace hx465_1 := (HB.out.cell (World.block_lt_of_cell? w _ hx465_1)).trans hx465_1
           replace hx465_2 := (HB.out.cell (World.block_lt_of_cell? w _ hx465_2)).trans hx465_2
           have HR465_2 := Aside0.mk hi465_2
           have HC465_2 := Aside0.mk hl465_2
           clear hi465_2 hl465_2
           replace p465 := eq_true p465
           replace q465 := eq_true q465
           go_wp2_with (first | ((with_reducible refine gate_dst (N := 6) rfl ?_); (try (refine gate_guard (by rfl) ?_; dsimp only)); refine box_event ?hg (N := 6) ?hd (cs := #[.bool false, .int .i64 0, .slice none 0 0]) (t := 27) ?hr ?_; (case hd => rfl); (case hg => rfl); (case hr => first | (go_simp; done) | (go_simp; rfl)); intro gb466 hg w17 hbox hb; have n0_ := Aside0.mk (blk_below (g := gb464) (o := .cells #[.bool a0_0, .int .i64 a0_1, .slice (some ad465) l0_2.length c0_2] 27 (0, 0)) (by (with_reducible repeat (first | refine blk_drewN ?_ _ | refine blk_drew ?_ | refine blk_alloc ?_ _)); exact BK464.out) hb); have n1_ := Aside0.mk (below_step (by repeat (first | (with_reducible first | exact HB.out | apply below_alloc | apply pw_below_drewN | apply below_drew1 | refine below_set ?_ GE464.out) | exact HB.out)) hb); have n2_ := Aside0.mk (hbox); have n3_ := Aside0.mk ((by rw [hg]; exact (below_size (by repeat (first | (with_reducible first | exact HB.out | apply below_alloc | apply pw_below_drewN | apply below_drew1 | refine below_set ?_ GE464.out) | exact HB.out))) : w.heap.size ≤ gb466)); have n4_ := Aside0.mk ((by rw [hg]; exact (below_size (by repeat (first | (with_reducible first | exact HB.out | apply below_alloc | apply pw_below_drewN | apply below_drew1 | refine below_set ?_ GE464.out) | exact HB.out))) : w.heap.size ≤ gb466)); have n5_ := Aside0.mk ((by rw [hg]; exact Nat.ne_of_lt (blk_lt (g := gb464) (o := .cells #[.bool a0_0, .int .i64 a0_1, .slice (some ad465) l0_2.length c0_2] 27 (0, 0)) (by (with_reducible repeat (first | refine blk_drewN ?_ _ | refine blk_drew ?_ | refine blk_alloc ?_ _)); exact BK464.out)) : gb464 ≠ gb466)); have n6_ := Aside0.mk ((by rw [hg]; exact Nat.ne_of_gt (blk_lt (g := gb464) (o := .cells #[.bool a0_0, .int .i64 a0_1, .slice (some ad465) l0_2.length c0_2] 27 (0, 0)) (by (with_reducible repeat (first | refine blk_drewN ?_ _ | refine blk_drew ?_ | refine blk_alloc ?_ _)); exact BK464.out)) : gb466 ≠ gb464)); clear BK464; clear HB; have BK464 := n0_; have HB := n1_; have BK466 := n2_; have GW466 := n3_; have GE466 := n4_; have NB464_466 := n5_; have NB466_464 := n6_; clear n0_ n1_ n2_ n3_ n4_ n5_ n6_; clear hb hbox hg; have hnb18 := NB466_464.out; have hnc18 := NB464_466.out; have hcz19_0 : w17.cell? ⟨gb466, 0, none⟩ = some (.bool false) := (blk_cell BK466.out 0).trans rfl; have hcz19_1 : w17.cell? ⟨gb466, 1, none⟩ = some (.int .i64 0) := (blk_cell BK466.out 1).trans rfl; have hcz19_2 : w17.cell? ⟨gb466, 2, none⟩ = some (.slice none 0 0) := (blk_cell BK466.out 2).trans rfl; have hfz19_0 := blk_frozen BK466.out 0; have hfz19_1 := blk_frozen BK466.out 1; have hfz19_2 := blk_frozen BK466.out 2) | ((with_reducible refine gate_callee (f := 98) rfl ?_); refine goesL_ (some 40) rfl rfl Tryd.func98 (by kernel_rfl) rfl #[.agg #[.bool ((rd_T27 l0_2 x33_2).f0), .int .i64 ((rd_T27 l0_2 x33_2).f1), .slice A465_2 ((rd_T27 l0_2 x33_2).f2).length c465_2], .int .i64 (wrap64 (a1 + 1))] rfl (by (try simp only [List.map_toArray, List.map_cons, List.map_nil]); first | done | rfl | (simp only [List.length_drop, List.length_take]; rfl)) ?_; (with_reducible refine (ih k2 (by have := HJ2.out; have := HK2.out; omega) ((rd_T27 l0_2 x33_2).f0) ((rd_T27 l0_2 x33_2).f1) _ _ ((rd_T27 l0_2 x33_2).f2) (wrap64 (a1 + 1)) none _ ?side1 ?side2 A16.out).mono ?_); (case side1 => exact Kd.C_below HR465_2.out (by repeat (first | (with_reducible first | exact HB.out | apply below_alloc | apply pw_below_drewN | apply below_drew1 | refine below_set ?_ GE464.out | refine below_set ?_ GE466.out) | exact HB.out))); (case side2 => exact HC465_2.out); rintro e w20 ⟨rfl, hb⟩; refine ⟨_, rfl, ?_⟩; have n0_ := Aside0.mk (blk_below (g := gb464) (o := .cells #[.bool a0_0, .int .i64 a0_1, .slice (some ad465) l0_2.length c0_2] 27 (0, 0)) (by (with_reducible repeat (first | refine blk_drewN ?_ _ | refine blk_drew ?_ | refine blk_alloc ?_ _)); refine blk_far ?_ NB464_466.out _; (with_reducible repeat (first | refine blk_drewN ?_ _ | refine blk_drew ?_ | refine blk_alloc ?_ _)); refine blk_far ?_ NB464_466.out _; (with_reducible repeat (first | refine blk_drewN ?_ _ | refine blk_drew ?_ | refine blk_alloc ?_ _)); refine blk_far ?_ NB464_466.out _; (with_reducible repeat (first | refine blk_drewN ?_ _ | refine blk_drew ?_ | refine blk_alloc ?_ _)); exact BK464.out) hb); have n1_ := Aside0.mk (blk_below (g := gb466) (o := .cells #[.bool ((rd_T27 l0_2 x33_2).f0), .int .i64 ((rd_T27 l0_2 x33_2).f1), .slice A465_2 ((rd_T27 l0_2 x33_2).f2).length c465_2] 27 (0, 0)) (by (with_reducible repeat (first | refine blk_drewN ?_ _ | refine blk_drew ?_ | refine blk_alloc ?_ _)); refine blk_put (cs := #[.bool ((rd_T27 l0_2 x33_2).f0), .int .i64 ((rd_T27 l0_2 x33_2).f1), .slice none 0 0]) ?_ 2 _ rfl; (with_reducible repeat (first | refine blk_drewN ?_ _ | refine blk_drew ?_ | refine blk_alloc ?_ _)); refine blk_put (cs := #[.bool ((rd_T27 l0_2 x33_2).f0), .int .i64 0, .slice none 0 0]) ?_ 1 _ rfl; (with_reducible repeat (first | refine blk_drewN ?_ _ | refine blk_drew ?_ | refine blk_alloc ?_ _)); refine blk_put (cs := #[.bool false, .int .i64 0, .slice none 0 0]) ?_ 0 _ rfl; (with_reducible repeat (first | refine blk_drewN ?_ _ | refine blk_drew ?_ | refine blk_alloc ?_ _)); exact BK466.out) hb); have n2_ := Aside0.mk (below_step (by repeat (first | (with_reducible first | exact HB.out | apply below_alloc | apply pw_below_drewN | apply below_drew1 | refine below_set ?_ GE464.out | refine below_set ?_ GE466.out) | exact HB.out)) hb); clear BK464; clear BK466; clear HB; have BK464 := n0_; have BK466 := n1_; have HB := n2_; clear n0_ n1_ n2_; (try clear hb); (try clear hb2); (try clear hk); (try clear hi); (try simp only [errW_none, errW_some])))
           go_roundg k2
           case measure => have := HJ2.out; have := HK2.out; omega
           case rel => exact ⟨(wrap64 (x33_2 + 1)), (by first | rfl | (simp; done) | (simp [*]; done)), H', ⟨by have := HJ2.out; have := HK2.out; omega⟩, ⟨by (with_reducible repeat (first | refine blk_drewN ?_ _ | refine blk_drew ?_ | refine blk_alloc ?_ _)); exact BK464.out⟩, ⟨by repeat (first | (with_reducible first | exact HB.out | apply below_alloc | apply pw_below_drewN | apply below_drew1 | refine below_set ?_ GE464.out | refine below_set ?_ GE466.out) | exact HB.out)⟩⟩
          ·have H1 : (some (some q468)) = some r := by rw [if_neg (show ¬ (some q468).isNone = true by simp)] at H; exact H
           clear H
           have H := H1
           clear H1
           try simp only [errW_none, errW_some]
           obtain rfl := Option.some.inj H
           have p465 : 0 ≤ (x33_2 : Int) := of_decide_eq_true (by first | (with_reducible assumption) | assumption)
           have q465 : x33_2 < (l0_2.length : Int) := of_decide_eq_true (by first | (with_reducible assumption) | assumption)
           obtain ⟨ad465, A465_2, c465_2, e465, hx465_0, hx465_1, hx465_2, hl465_2, hi465_2⟩ := at_T27 HR0_2.out x33_2 p465 q465
           cases e465
           replace hx465_0 := (HB.out.cell (World.block_lt_of_cell? w _ hx465_0)).trans hx465_0
           replace hx465_1 := (HB.out.cell (World.block_lt_of_cell? w _ hx465_1)).trans hx465_1
           replace hx465_2 := (HB.out.cell (World.block_lt_of_cell? w _ hx465_2)).trans hx465_2
           have HR465_2 := Aside0.mk hi465_2
           have HC465_2 := Aside0.mk hl465_2
           clear hi465_2 hl465_2
           replace p465 := eq_true p465
           replace q465 := eq_true q465
           go_wp2_with (first | ((with_reducible refine gate_dst (N := 6) rfl ?_); (try (refine gate_guard (by rfl) ?_; dsimp only)); refine box_event ?hg (N := 6) ?hd (cs := #[.bool false, .int .i64 0, .slice none 0 0]) (t := 27) ?hr ?_; (case hd => rfl); (case hg => rfl); (case hr => first | (go_simp; done) | (go_simp; rfl)); intro gb466 hg w21 hbox hb; have n0_ := Aside0.mk (blk_below (g := gb464) (o := .cells #[.bool a0_0, .int .i64 a0_1, .slice (some ad465) l0_2.length c0_2] 27 (0, 0)) (by (with_reducible repeat (first | refine blk_drewN ?_ _ | refine blk_drew ?_ | refine blk_alloc ?_ _)); exact BK464.out) hb); have n1_ := Aside0.mk (below_step (by repeat (first | (with_reducible first | exact HB.out | apply below_alloc | apply pw_below_drewN | apply below_drew1 | refine below_set ?_ GE464.out) | exact HB.out)) hb); have n2_ := Aside0.mk (hbox); have n3_ := Aside0.mk ((by rw [hg]; exact (below_size (by repeat (first | (with_reducible first | exact HB.out | apply below_alloc | apply pw_below_drewN | apply below_drew1 | refine below_set ?_ GE464.out) | exact HB.out))) : w.heap.size ≤ gb466)); have n4_ := Aside0.mk ((by rw [hg]; exact (below_size (by repeat (first | (with_reducible first | exact HB.out | apply below_alloc | apply pw_below_drewN | apply below_drew1 | refine below_set ?_ GE464.out) | exact HB.out))) : w.heap.size ≤ gb466)); have n5_ := Aside0.mk ((by rw [hg]; exact Nat.ne_of_lt (blk_lt (g := gb464) (o := .cells #[.bool a0_0, .int .i64 a0_1, .slice (some ad465) l0_2.length c0_2] 27 (0, 0)) (by (with_reducible repeat (first | refine blk_drewN ?_ _ | refine blk_drew ?_ | refine blk_alloc ?_ _)); exact BK464.out)) : gb464 ≠ gb466)); have n6_ := Aside0.mk ((by rw [hg]; exact Nat.ne_of_gt (blk_lt (g := gb464) (o := .cells #[.bool a0_0, .int .i64 a0_1, .slice (some ad465) l0_2.length c0_2] 27 (0, 0)) (by (with_reducible repeat (first | refine blk_drewN ?_ _ | refine blk_drew ?_ | refine blk_alloc ?_ _)); exact BK464.out)) : gb466 ≠ gb464)); clear BK464; clear HB; have BK464 := n0_; have HB := n1_; have BK466 := n2_; have GW466 := n3_; have GE466 := n4_; have NB464_466 := n5_; have NB466_464 := n6_; clear n0_ n1_ n2_ n3_ n4_ n5_ n6_; clear hb hbox hg; have hnb22 := NB466_464.out; have hnc22 := NB464_466.out; have hcz23_0 : w21.cell? ⟨gb466, 0, none⟩ = some (.bool false) := (blk_cell BK466.out 0).trans rfl; have hcz23_1 : w21.cell? ⟨gb466, 1, none⟩ = some (.int .i64 0) := (blk_cell BK466.out 1).trans rfl; have hcz23_2 : w21.cell? ⟨gb466, 2, none⟩ = some (.slice none 0 0) := (blk_cell BK466.out 2).trans rfl; have hfz23_0 := blk_frozen BK466.out 0; have hfz23_1 := blk_frozen BK466.out 1; have hfz23_2 := blk_frozen BK466.out 2) | ((with_reducible refine gate_callee (f := 98) rfl ?_); refine goesL_ (some 40) rfl rfl Tryd.func98 (by kernel_rfl) rfl #[.agg #[.bool ((rd_T27 l0_2 x33_2).f0), .int .i64 ((rd_T27 l0_2 x33_2).f1), .slice A465_2 ((rd_T27 l0_2 x33_2).f2).length c465_2], .int .i64 (wrap64 (a1 + 1))] rfl (by (try simp only [List.map_toArray, List.map_cons, List.map_nil]); first | done | rfl | (simp only [List.length_drop, List.length_take]; rfl)) ?_; (with_reducible refine (ih k2 (by have := HJ2.out; have := HK2.out; omega) ((rd_T27 l0_2 x33_2).f0) ((rd_T27 l0_2 x33_2).f1) _ _ ((rd_T27 l0_2 x33_2).f2) (wrap64 (a1 + 1)) (some q468) _ ?side1 ?side2 A16.out).mono ?_); (case side1 => exact Kd.C_below HR465_2.out (by repeat (first | (with_reducible first | exact HB.out | apply below_alloc | apply pw_below_drewN | apply below_drew1 | refine below_set ?_ GE464.out | refine below_set ?_ GE466.out) | exact HB.out))); (case side2 => exact HC465_2.out); rintro e w24 ⟨rfl, hb⟩; refine ⟨_, rfl, ?_⟩; have n0_ := Aside0.mk (blk_below (g := gb464) (o := .cells #[.bool a0_0, .int .i64 a0_1, .slice (some ad465) l0_2.length c0_2] 27 (0, 0)) (by (with_reducible repeat (first | refine blk_drewN ?_ _ | refine blk_drew ?_ | refine blk_alloc ?_ _)); refine blk_far ?_ NB464_466.out _; (with_reducible repeat (first | refine blk_drewN ?_ _ | refine blk_drew ?_ | refine blk_alloc ?_ _)); refine blk_far ?_ NB464_466.out _; (with_reducible repeat (first | refine blk_drewN ?_ _ | refine blk_drew ?_ | refine blk_alloc ?_ _)); refine blk_far ?_ NB464_466.out _; (with_reducible repeat (first | refine blk_drewN ?_ _ | refine blk_drew ?_ | refine blk_alloc ?_ _)); exact BK464.out) hb); have n1_ := Aside0.mk (blk_below (g := gb466) (o := .cells #[.bool ((rd_T27 l0_2 x33_2).f0), .int .i64 ((rd_T27 l0_2 x33_2).f1), .slice A465_2 ((rd_T27 l0_2 x33_2).f2).length c465_2] 27 (0, 0)) (by (with_reducible repeat (first | refine blk_drewN ?_ _ | refine blk_drew ?_ | refine blk_alloc ?_ _)); refine blk_put (cs := #[.bool ((rd_T27 l0_2 x33_2).f0), .int .i64 ((rd_T27 l0_2 x33_2).f1), .slice none 0 0]) ?_ 2 _ rfl; (with_reducible repeat (first | refine blk_drewN ?_ _ | refine blk_drew ?_ | refine blk_alloc ?_ _)); refine blk_put (cs := #[.bool ((rd_T27 l0_2 x33_2).f0), .int .i64 0, .slice none 0 0]) ?_ 1 _ rfl; (with_reducible repeat (first | refine blk_drewN ?_ _ | refine blk_drew ?_ | refine blk_alloc ?_ _)); refine blk_put (cs := #[.bool false, .int .i64 0, .slice none 0 0]) ?_ 0 _ rfl; (with_reducible repeat (first | refine blk_drewN ?_ _ | refine blk_drew ?_ | refine blk_alloc ?_ _)); exact BK466.out) hb); have n2_ := Aside0.mk (below_step (by repeat (first | (with_reducible first | exact HB.out | apply below_alloc | apply pw_below_drewN | apply below_drew1 | refine below_set ?_ GE464.out | refine below_set ?_ GE466.out) | exact HB.out)) hb); clear BK464; clear BK466; clear HB; have BK464 := n0_; have BK466 := n1_; have HB := n2_; clear n0_ n1_ n2_; (try clear hb); (try clear hb2); (try clear hk); (try clear hi); (try simp only [errW_none, errW_some])))
           go_ret
           exact ⟨by first | rfl | (simp [errW_none, errW_some] <;> rfl) | (simp [*, errW_none, errW_some] <;> rfl), by repeat (first | (with_reducible first | exact HB.out | apply below_alloc | apply pw_below_drewN | apply below_drew1 | refine below_set ?_ GE464.out | refine below_set ?_ GE466.out) | exact HB.out)⟩
         ·rw [if_neg c15] at H
          exact absurd H (by simp)
        ·rw [if_neg c14] at H
         exact absurd H (by simp)
       ·rw [if_neg c13] at H
        have c13b0 : decide (x33_2 < (l0_2.length : Int)) = false := decide_eq_false c13
        clear c13
        obtain rfl := Option.some.inj H
        go_wp2
        go_ret
        exact ⟨by first | rfl | (simp [errW_none, errW_some] <;> rfl) | (simp [*, errW_none, errW_some] <;> rfl), by repeat (first | (with_reducible first | exact HB.out | apply below_alloc | apply pw_below_drewN | apply below_drew1 | refine below_set ?_ GE464.out) | exact HB.out)⟩

end Go.Proofs.YtgdomnlkafcddaaDoor.Q
namespace Go.Proofs.YtgdomnlkafcddaaDoor.Q
open Go.RowKit Go.Proofs.YtgdomnlkafcddaaDoorW.PrintWords Go.Proofs.YtgdomnlkafcddaaDoorW.PrintLast Go.Proofs.YtgdomnlkafcddaaDoorW.PrintMore
attribute [local go_sem] max2_int min2_int max_two min_two max_three min_three max_four min_four   -- for this text's walks alone
set_option linter.unusedVariables false
set_option linter.unusedSimpArgs false

/-! ### val_Check: function 54 -/
def val_Check.f (k : Nat) (a0_0 : Bool) (a0_1 : Int) (l0_2 : List (S27)) : Option (Option Int) := (val_check.f k a0_0 a0_1 l0_2 0).bind fun t470 => (some t470)
theorem val_Check.mono : ∀ a0 a1 a2 k, LeO (val_Check.f k a0 a1 a2) (val_Check.f (k + 1) a0 a1 a2) := by
 intro a0 a1 a2 k
 unfold val_Check.f
 repeat' first
   | (with_reducible exact val_check.mono _ _ _ _ _)
   | (with_reducible exact LeO.refl _)
   | (with_reducible exact LeO.none _)
   | (with_reducible refine LeO.ite ?_ ?_)
   | (with_reducible refine LeO.bind ?_ (fun _ => ?_))
   | exact val_check.mono _ _ _ _ _
   | exact LeO.none _
   | refine LeO.ite ?_ ?_
   | refine LeO.bind ?_ (fun _ => ?_)
set_option maxHeartbeats 8000000 in
set_option maxRecDepth 100000 in
theorem val_Check.calls (k : Nat) (a0_0 : Bool) (a0_1 : Int) (A0_2 : Option Addr) (c0_2 : Nat) (l0_2 : List (S27)) (r : Option Int) (w : World) (hr0_2 : Kd.C k27 w A0_2 l0_2.length l0_2) (hc0_2 : l0_2.length ≤ c0_2) (h : val_Check.f k a0_0 a0_1 l0_2 = some r) :
  Calls Tryd.prog 54 #[.agg #[.bool a0_0, .int .i64 a0_1, .slice A0_2 l0_2.length c0_2]] w fun e w' => e = .returned (errW r) ∧ Below w.heap.size w w' := by
 have hu27 := Tryd.underlying27
 have HR0_2 := Aside0.mk hr0_2
 have HC0_2 := Aside0.mk hc0_2
 clear hr0_2 hc0_2
 have HB := Aside0.mk (Below.refl w.heap.size w)
 have H : ((val_check.f k a0_0 a0_1 l0_2 0).bind fun t470 => (some t470)) = some r := h
 clear h
 replace H := Option.bind_eq_some_iff.mp H
 obtain ⟨t470, A20, H⟩ := H
 replace H : (some t470) = some r := H
 have A2 := Aside0.mk A20
 clear A20
 obtain rfl := Option.some.inj H
 go_enter Tryd.func54, Tryd.ntmps54
 go_wp2_with (first | ((with_reducible refine gate_dst (N := 1) rfl ?_); refine box_event ?hg (N := 1) ?hd (cs := #[.bool a0_0, .int .i64 a0_1, .slice A0_2 l0_2.length c0_2]) (t := 27) ?hr ?_; (case hd => rfl); (case hg => rfl); (case hr => first | (go_simp; done) | (go_simp; rfl)); intro gb469 hg w3 hbox hb; have n0_ := Aside0.mk (below_step (by repeat (first | (with_reducible first | exact HB.out | apply below_alloc | apply pw_below_drewN | apply below_drew1) | exact HB.out)) hb); have n1_ := Aside0.mk (hbox); have n2_ := Aside0.mk ((by rw [hg]; exact (below_size (by repeat (first | (with_reducible first | exact HB.out | apply below_alloc | apply pw_below_drewN | apply below_drew1) | exact HB.out))) : w.heap.size ≤ gb469)); have n3_ := Aside0.mk ((by rw [hg]; exact (below_size (by repeat (first | (with_reducible first | exact HB.out | apply below_alloc | apply pw_below_drewN | apply below_drew1) | exact HB.out))) : w.heap.size ≤ gb469)); clear HB; have HB := n0_; have BK469 := n1_; have GW469 := n2_; have GE469 := n3_; clear n0_ n1_ n2_ n3_; clear hb hbox hg; have hcz4_0 : w3.cell? ⟨gb469, 0, none⟩ = some (.bool a0_0) := (blk_cell BK469.out 0).trans rfl; have hcz4_1 : w3.cell? ⟨gb469, 1, none⟩ = some (.int .i64 a0_1) := (blk_cell BK469.out 1).trans rfl; have hcz4_2 : w3.cell? ⟨gb469, 2, none⟩ = some (.slice A0_2 l0_2.length c0_2) := (blk_cell BK469.out 2).trans rfl; have hfz4_0 := blk_frozen BK469.out 0; have hfz4_1 := blk_frozen BK469.out 1; have hfz4_2 := blk_frozen BK469.out 2) | ((with_reducible refine gate_callee (f := 98) rfl ?_); refine goesL_ (some 4) rfl rfl Tryd.func98 (by kernel_rfl) rfl #[.agg #[.bool a0_0, .int .i64 a0_1, .slice A0_2 l0_2.length c0_2], .int .i64 0] rfl (by (try simp only [List.map_toArray, List.map_cons, List.map_nil]); first | done | rfl | (simp only [List.length_drop, List.length_take]; rfl)) ?_; (with_reducible refine (val_check.calls k a0_0 a0_1 _ _ l0_2 0 t470 _ ?side1 ?side2 A2.out).mono ?_); (case side1 => repeat (first | exact (Kd.C_below HR0_2.out HB.out) | (with_reducible refine Kd.C_alloc ?_ _) | (with_reducible refine Kd.C_drewN ?_ _) | (with_reducible refine Kd.C_drew ?_))); (case side2 => exact HC0_2.out); rintro e w5 ⟨rfl, hb⟩; refine ⟨_, rfl, ?_⟩; have n0_ := Aside0.mk (blk_below (g := gb469) (o := .cells #[.bool a0_0, .int .i64 a0_1, .slice A0_2 l0_2.length c0_2] 27 (0, 0)) (by (with_reducible repeat (first | refine blk_drewN ?_ _ | refine blk_drew ?_ | refine blk_alloc ?_ _)); exact BK469.out) hb); have n1_ := Aside0.mk (below_step (by repeat (first | (with_reducible first | exact HB.out | apply below_alloc | apply pw_below_drewN | apply below_drew1 | refine below_set ?_ GE469.out) | exact HB.out)) hb); clear BK469; clear HB; have BK469 := n0_; have HB := n1_; clear n0_ n1_; (try clear hb); (try clear hb2); (try clear hk); (try clear hi); (try simp only [errW_none, errW_some])))
 go_ret
 exact ⟨by first | rfl | (simp [errW_none, errW_some] <;> rfl) | (simp [*, errW_none, errW_some] <;> rfl), by repeat (first | (with_reducible first | exact HB.out | apply below_alloc | apply pw_below_drewN | apply below_drew1 | refine below_set ?_ GE469.out) | exact HB.out)⟩

end Go.Proofs.YtgdomnlkafcddaaDoor.Q
namespace Go.Proofs.YtgdomnlkafcddaaDoor.Q
open Go.RowKit Go.Proofs.YtgdomnlkafcddaaDoorW.PrintWords Go.Proofs.YtgdomnlkafcddaaDoorW.PrintLast Go.Proofs.YtgdomnlkafcddaaDoorW.PrintMore
set_option linter.unusedVariables false
set_option linter.unusedSimpArgs false
def Form : Nat → S27 → Prop
 | 0, _ => False
 | n + 1, v => v.f2.length ≤ 30 ∧ ((v.f0 = true ∧ v.f1 = 0) ∨ (v.f0 = false ∧ v.f2 = [])) ∧ ∀ y ∈ v.f2, Form n y
theorem Form.succ : ∀ (n : Nat) (v : S27), Form n v → Form (n + 1) v
 | 0, _, h => h.elim
 | n + 1, v, ⟨h1, h2, h3⟩ => ⟨h1, h2, fun y hy => Form.succ n y (h3 y hy)⟩
def Ate (T : List Int) (s s' : Nat) : Prop := s ≤ s' ∧ s' ≤ T.length ∧ ∀ q : Nat, s ≤ q → q < s' → 0 ≤ rd T (q : Int) ∧ rd T (q : Int) ≤ 1000
theorem Ate.refl {T : List Int} {s : Nat} (h : s ≤ T.length) : Ate T s s := ⟨Nat.le_refl _, h, fun q h1 h2 => by omega⟩
theorem Ate.trans {T : List Int} {s t u : Nat} (h1 : Ate T s t) (h2 : Ate T t u) : Ate T s u :=
 ⟨Nat.le_trans h1.1 h2.1, h2.2.1, fun q a b => by
  by_cases h : q < t
  ·exact h1.2.2 q a h
  ·exact h2.2.2 q (by omega) b⟩
theorem stp_ate {T : List Int} {s : Nat} {m : Int} {t : Int × Nat} (hs : s ≤ T.length) (hm : m ≤ 1000) (h : playStp T s m = .ok t) : Ate T s t.2 ∧ 0 ≤ t.1 ∧ t.1 ≤ m := by
 rcases play_step T s hs m with ⟨x, h0, h1, h2, h3⟩ | ⟨c, h3⟩
 ·rw [h3] at h
  unfold playStp at h3
  injection h with h
  subst h
  have hr : rd T (s : Int) = x := by
   split at h3
   ·cases h3
   ·split at h3
    ·cases h3
    ·split at h3
     ·cases h3
     ·injection h3 with h3
      injection h3
  refine ⟨⟨Nat.le_succ _, h2, fun q a b => ?_⟩, h0, h1⟩
  have : q = s := by omega
  subst this
  omega
 ·rw [h3] at h
  cases h
def MG (T : List Int) (n : Nat) (y : S63) : Prop :=
 ∀ (k s : Nat) v (s' : Nat), s ≤ T.length → gen_made.f (playStp T) k s y.f0 y.f1 y.f2 y.f3 = some (.ok (v, s')) → Ate T s s' ∧ Form n (val27 v)
theorem form_l0 (T : List Int) (n : Nat) (xs : List S63) (hl : xs.length ≤ 30) (hm : ∀ y ∈ xs, MG T n y) : ∀ (k s i : Nat) (b2 : List S27) v (s' : Nat), s ≤ T.length → i ≤ xs.length → b2.length = i → (∀ y ∈ b2, Form n y) → gen_made.l0 (playStp T) k s xs (xs.length : Int) (i : Int) true 0 b2 = some (.ok (v, s')) → Ate T s s' ∧ Form (n + 1) (val27 v) := by
 intro k
 induction k with
 | zero => intro s i b2 v s' hs hi hb hf h; simp [gen_made.l0] at h
 | succ k ih =>
  intro s i b2 v s' hs hi hb hf h
  by_cases hlt : i < xs.length
  ·have h0 : (i : Int) < (xs.length : Int) := by omega
   have h1 : (0 : Int) ≤ (i : Int) := by omega
   have hw3 : wrap64 ((i : Int) + 1) = ((i + 1 : Nat) : Int) := by rw [wrap64_id (by omega) (by omega)]; omega
   simp only [gen_made.l0, if_pos h0, if_pos h1, rd_T63_at hlt, hw3] at h
   obtain ⟨t, h2, h3⟩ := obind_ok h
   split at h3
   ·obtain ⟨ha, hg⟩ := hm _ (List.getElem_mem hlt) k s t.1 t.2 hs h2
    obtain ⟨ha2, hg2⟩ := ih t.2 (i + 1) _ v s' ha.2.1 hlt (by simp [hb]) (by
     intro y hy
     rcases List.mem_append.1 hy with hy | hy
     ·exact hf y hy
     ·rw [List.mem_singleton.1 hy]; exact hg) h3
    exact ⟨ha.trans ha2, hg2⟩
   ·cases h3
  ·have h0 : ¬ (i : Int) < (xs.length : Int) := by omega
   simp only [gen_made.l0, if_neg h0] at h
   injection h with h
   injection h with h
   injection h with hv h
   subst h hv
   exact ⟨Ate.refl hs, by show b2.length ≤ 30; omega, .inl ⟨rfl, rfl⟩, hf⟩
theorem form_l1 (T : List Int) (n : Nat) (xs : List S63) (hl : 0 < xs.length) (hm : MG T n xs[0]) (g0 g1 g2 : Int) (c : Nat) (hc : c ≤ 30) : ∀ (k s i : Nat) (b2 : List S27) v (s' : Nat), s ≤ T.length → i ≤ c → b2.length = i → (∀ y ∈ b2, Form n y) → gen_made.l1 (playStp T) k s (c : Int) (i : Int) g0 g1 g2 xs true 0 b2 = some (.ok (v, s')) → Ate T s s' ∧ Form (n + 1) (val27 v) := by
 intro k
 induction k with
 | zero => intro s i b2 v s' hs hi hb hf h; simp [gen_made.l1] at h
 | succ k ih =>
  intro s i b2 v s' hs hi hb hf h
  by_cases hlt : i < c
  ·have h0 : (i : Int) < (c : Int) := by omega
   have h1 : (0 : Int) < (xs.length : Int) := by omega
   have hr0 : rd_T63 xs 0 = xs[0] := by simpa using rd_T63_at (n := 0) hl
   have hw3 : wrap64 ((i : Int) + 1) = ((i + 1 : Nat) : Int) := by rw [wrap64_id (by omega) (by omega)]; omega
   simp only [gen_made.l1, if_pos h0, if_pos h1, hr0, hw3] at h
   obtain ⟨t, h2, h3⟩ := obind_ok h
   split at h3
   ·obtain ⟨ha, hg⟩ := hm k s t.1 t.2 hs h2
    obtain ⟨ha2, hg2⟩ := ih t.2 (i + 1) _ v s' ha.2.1 hlt (by simp [hb]) (by
     intro y hy
     rcases List.mem_append.1 hy with hy | hy
     ·exact hf y hy
     ·rw [List.mem_singleton.1 hy]; exact hg) h3
    exact ⟨ha.trans ha2, hg2⟩
   ·cases h3
  ·have h0 : ¬ (i : Int) < (c : Int) := by omega
   simp only [gen_made.l1, if_neg h0] at h
   injection h with h
   injection h with h
   injection h with hv h
   subst h hv
   exact ⟨Ate.refl hs, by show b2.length ≤ 30; omega, .inl ⟨rfl, rfl⟩, hf⟩
theorem made_form (T : List Int) : ∀ (n : Nat) (x : S63), OKg n x → MG T n x := by
 intro n
 induction n with
 | zero => intro x h; exact h.elim
 | succ n ihn =>
  intro x ⟨hl, hone, hsub⟩ k s v s' hs h
  cases k with
  | zero => simp [gen_made.f] at h
  | succ k =>
  rcases hone with ⟨h1, h3, hA⟩ | ⟨h1, h3, hA⟩ | h1 | ⟨h1, hA, hA5, h3⟩ | ⟨h1, h3⟩
  ·simp only [gen_made.f, h1, if_true] at h
   injection h with h
   injection h with h
   injection h with hv h
   subst h hv
   exact ⟨Ate.refl hs, by simp [val27], .inr ⟨rfl, rfl⟩, by simp [val27]⟩
  ·have hw : wrap64 (x.f2 - x.f1) = x.f2 - x.f1 := wrap64_id (by omega) (by omega)
   simp only [gen_made.f, h1, hw, if_true, show ¬ (2 : Int) = 1 by decide, if_false] at h
   obtain ⟨t, h2, h4⟩ := ebind_ok h
   obtain ⟨ha, _, _⟩ := stp_ate hs (by omega) h2
   injection h4 with h4
   injection h4 with h4
   injection h4 with hv h4
   subst h4 hv
   exact ⟨ha, by simp [val27], .inr ⟨rfl, rfl⟩, by simp [val27]⟩
  ·simp only [gen_made.f, h1, show ¬ (3 : Int) = 1 by decide, show ¬ (3 : Int) = 2 by decide, if_false, if_true] at h
   exact form_l0 T n x.f3 hl (fun y hy => ihn y (hsub y hy)) k s 0 [] v s' hs (Nat.zero_le _) rfl (by simp) h
  ·simp only [gen_made.f, h1, show ¬ (4 : Int) = 1 by decide, show ¬ (4 : Int) = 2 by decide, show ¬ (4 : Int) = 3 by decide, if_false, if_true] at h
   have h3' : 0 < x.f3.length := by omega
   obtain ⟨t, h2, h4⟩ := ebind_ok h
   obtain ⟨ha, h0, h5⟩ := stp_ate hs (by omega) h2
   obtain ⟨c, hc⟩ := Int.eq_ofNat_of_zero_le h0
   rw [hc] at h4 h5
   obtain ⟨ha2, hg⟩ := form_l1 T n x.f3 h3' (ihn _ (hsub _ (List.getElem_mem h3'))) _ _ _ c (by omega) k t.2 0 [] v s' ha.2.1 (Nat.zero_le _) rfl (by simp) h4
   exact ⟨ha.trans ha2, hg⟩
  ·have hw : wrap64 ((x.f3.length : Int) - 1) = (x.f3.length : Int) - 1 := wrap64_id (by omega) (by omega)
   simp only [gen_made.f, h1, hw, show ¬ (5 : Int) = 1 by decide, show ¬ (5 : Int) = 2 by decide, show ¬ (5 : Int) = 3 by decide, show ¬ (5 : Int) = 4 by decide, if_false, if_true] at h
   obtain ⟨t, h2, h4⟩ := ebind_ok h
   obtain ⟨ha, h0, h5⟩ := stp_ate hs (by omega) h2
   obtain ⟨c, hc⟩ := Int.eq_ofNat_of_zero_le h0
   rw [hc] at h4 h5
   have hcn : c < x.f3.length := by omega
   rw [if_pos (by omega), if_pos (by omega)] at h4
   obtain ⟨t2, h6, h7⟩ := obind_ok h4
   rw [rd_T63_at hcn] at h6
   injection h7 with h7
   injection h7 with h7
   injection h7 with hv h7
   subst h7 hv
   obtain ⟨ha2, hg⟩ := ihn _ (hsub _ (List.getElem_mem hcn)) k t.2 t2.1 t2.2 ha.2.1 h6
   exact ⟨ha.trans ha2, Form.succ n _ hg⟩
theorem val_check.fle {k k' : Nat} (hk : k ≤ k') {a : Bool} {b : Int} {l : List S27} {d : Int} {r : Option Int} (h : val_check.f k a b l d = some r) : val_check.f k' a b l d = some r :=
 LeO.le (f := fun k => val_check.f k a b l d) (fun k => (val_check.mono_l k).1 _ _ _ _) hk h
theorem val_check.lle {k k' : Nat} (hk : k ≤ k') {a : Int} {l : List S27} {c d : Int} {r : Option Int} (h : val_check.l0 k a l c d = some r) : val_check.l0 k' a l c d = some r :=
 LeO.le (f := fun k => val_check.l0 k a l c d) (fun k => (val_check.mono_l k).2.2 _ _ _ _) hk h
theorem rd_T27_at {xs : List S27} {n : Nat} (h : n < xs.length) : rd_T27 xs (n : Int) = xs[n] := by
 simp [rd_T27, h]
theorem check_loop (d : Int) (hd0 : 0 ≤ d) (hd1 : d ≤ 6) (xs : List S27) (hl : xs.length ≤ 30) (ih : ∀ y ∈ xs, ∃ k, val_check.f k y.f0 y.f1 y.f2 (d + 1) = some none) :
  ∀ (j i : Nat), i + j = xs.length → ∃ k, val_check.l0 k d xs (xs.length : Int) (i : Int) = some none := by
 intro j
 induction j with
 | zero =>
  intro i hi
  have hlt : ¬ (i : Int) < (xs.length : Int) := by omega
  exact ⟨1, by simp [val_check.l0, hlt]⟩
 | succ j ihj =>
  intro i hi
  have hlt : (i : Int) < (xs.length : Int) := by omega
  have h0 : (0 : Int) ≤ (i : Int) := by omega
  have hi' : i < xs.length := by omega
  have hw3 : wrap64 ((i : Int) + 1) = ((i + 1 : Nat) : Int) := by rw [wrap64_id (by omega) (by omega)]; omega
  have hwd : wrap64 (d + 1) = d + 1 := wrap64_id (by omega) (by omega)
  obtain ⟨k1, hk1⟩ := ih xs[i] (List.getElem_mem hi')
  obtain ⟨k2, hk2⟩ := ihj (i + 1) (by omega)
  refine ⟨max k1 k2 + 1, ?_⟩
  simp only [val_check.l0, if_pos hlt, if_pos h0, rd_T27_at hi', hw3, hwd]
  rw [val_check.fle (Nat.le_max_left k1 k2) hk1]
  simp only [Option.bind_some, Option.isNone_none, if_true]
  exact val_check.lle (Nat.le_max_right k1 k2) hk2
theorem check_form : ∀ (n : Nat) (d : Int), d + n = 6 → 0 ≤ d → ∀ v : S27, Form n v → ∃ k, val_check.f k v.f0 v.f1 v.f2 d = some none := by
 intro n
 induction n with
 | zero => intro d _ _ v h; exact h.elim
 | succ n ihn =>
  intro d hd h0 v ⟨hl, hf, hs⟩
  obtain ⟨k, hk⟩ := check_loop d h0 (by omega) v.f2 hl (fun y hy => ihn (d + 1) (by omega) (by omega) y (hs y hy)) v.f2.length 0 (by omega)
  have hd6 : ¬ d ≥ 6 := by omega
  refine ⟨k + 2, ?_⟩
  rcases hf with ⟨h1, h2⟩ | ⟨h1, h2⟩
  ·simp only [val_check.f, h1, h2, if_true, val_check.j0, Bool.false_eq_true, if_false, if_neg hd6]
   exact hk
  ·have hz : decide ((v.f2.length : Int) > 0) = false := by rw [h2]; rfl
   simp only [val_check.f, h1, Bool.false_eq_true, if_false, hz, val_check.j0, if_neg hd6]
   exact hk
/-- What is replayed to its end. -/
theorem replay_form {x : S63} (hx : OKg 6 x) {T : List Int} {r1 : Bool} {r2 : Int} {r3 : List S27} (h : gen_Replay.f x.f0 x.f1 x.f2 x.f3 T = some (r1, r2, r3, none)) : (∃ k, val_Check.f k r1 r2 r3 = some none) ∧ ∀ q : Nat, q < T.length → 0 ≤ rd T (q : Int) ∧ rd T (q : Int) ≤ 1000 := by
 obtain ⟨k, h⟩ := Olim_some h
 unfold gen_Replay.g at h
 obtain ⟨e, h1, h2⟩ := Option.bind_eq_some_iff.1 h
 cases e with
 | some c => simp at h2
 | none =>
  simp only at h2
  split at h2
  ·cases hm : gen_made.f (playStp T) k 0 x.f0 x.f1 x.f2 x.f3 with
   | none => rw [hm] at h2; simp at h2
   | some r =>
    rw [hm] at h2
    cases r with
    | error c => simp at h2
    | ok v =>
     obtain ⟨⟨v1, v2, v3⟩, s'⟩ := v
     obtain ⟨ha, hf⟩ := made_form T 6 x hx k 0 (v1, v2, v3) s' (Nat.zero_le _) hm
     simp only at h2
     split at h2
     ·simp at h2
     ·rename_i hlt
      simp only [Option.some.injEq, Prod.mk.injEq] at h2
      obtain ⟨rfl, rfl, rfl, _⟩ := h2
      obtain ⟨k2, hk2⟩ := check_form 6 0 rfl (Int.le_refl 0) _ hf
      refine ⟨⟨k2, by unfold val_Check.f; rw [show val_check.f k2 v1 v2 v3 0 = some none from hk2]; rfl⟩, fun q hq => ha.2.2 q (Nat.zero_le _) (by omega)⟩
  ·simp at h2
end Go.Proofs.YtgdomnlkafcddaaDoor.Q
namespace Go.Proofs.YtgdomnlkafcddaaDoor.Q
open Go.RowKit Go.Proofs.YtgdomnlkafcddaaDoorW.PrintWords Go.Proofs.YtgdomnlkafcddaaDoorW.PrintLast Go.Proofs.YtgdomnlkafcddaaDoorW.PrintMore
attribute [local go_sem] max2_int min2_int max_two min_two max_three min_three max_four min_four   -- for this text's walks alone
set_option linter.unusedVariables false
set_option linter.unusedSimpArgs false

/-! ### cmp_isNaN_int: function 173 -/
def cmp_isNaN_int.f (a0 : Int) : Option (Bool) := some (a0 != a0)
set_option maxHeartbeats 8000000 in
set_option maxRecDepth 100000 in
theorem cmp_isNaN_int.calls (a0 : Int) (r : Bool) (w : World) (h : cmp_isNaN_int.f a0 = some r) :
  Calls Tryd.prog 173 #[.int .i64 a0] w fun e w' => e = .returned (.bool r) ∧ Drawn0 w w' := by
 have H : (some (a0 != a0)) = some r := h
 clear h
 obtain rfl := Option.some.inj H
 go_enter Tryd.func173, Tryd.ntmps173
 go_wp2
 go_ret
 exact ⟨by first | rfl | (simp; done) | (simp [*]; done), by repeat (first | exact Drawn0.refl _ | apply Drawn0.step)⟩

end Go.Proofs.YtgdomnlkafcddaaDoor.Q
namespace Go.Proofs.YtgdomnlkafcddaaDoor.Q
open Go.RowKit Go.Proofs.YtgdomnlkafcddaaDoorW.PrintWords Go.Proofs.YtgdomnlkafcddaaDoorW.PrintLast Go.Proofs.YtgdomnlkafcddaaDoorW.PrintMore
attribute [local go_sem] max2_int min2_int max_two min_two max_three min_three max_four min_four   -- for this text's walks alone
set_option linter.unusedVariables false
set_option linter.unusedSimpArgs false

/-! ### cmp_Compare_int: function 145 -/
def cmp_Compare_int.f (a0 : Int) (a1 : Int) : Option (Int) := (cmp_isNaN_int.f a0).bind fun t180 => ((cmp_isNaN_int.f a1).bind fun t181 => (if t180 = true then (if t181 = true then (some 0) else (some (-1))) else (if t181 = true then (some 1) else (if a0 < a1 then (some (-1)) else (if a0 > a1 then (some 1) else (some 0))))))
set_option maxHeartbeats 8000000 in
set_option maxRecDepth 100000 in
theorem cmp_Compare_int.calls (a0 : Int) (a1 : Int) (r : Int) (w : World) (h : cmp_Compare_int.f a0 a1 = some r) :
  Calls Tryd.prog 145 #[.int .i64 a0, .int .i64 a1] w fun e w' => e = .returned (.int .i64 r) ∧ Drawn0 w w' := by
 have H : ((cmp_isNaN_int.f a0).bind fun t180 => ((cmp_isNaN_int.f a1).bind fun t181 => (if t180 = true then (if t181 = true then (some 0) else (some (-1))) else (if t181 = true then (some 1) else (if a0 < a1 then (some (-1)) else (if a0 > a1 then (some 1) else (some 0))))))) = some r := h
 clear h
 replace H := Option.bind_eq_some_iff.mp H
 obtain ⟨t180, A30, H⟩ := H
 replace H : ((cmp_isNaN_int.f a1).bind fun t181 => (if t180 = true then (if t181 = true then (some 0) else (some (-1))) else (if t181 = true then (some 1) else (if a0 < a1 then (some (-1)) else (if a0 > a1 then (some 1) else (some 0)))))) = some r := H
 have A3 := Aside0.mk A30
 clear A30
 replace H := Option.bind_eq_some_iff.mp H
 obtain ⟨t181, A40, H⟩ := H
 replace H : (if t180 = true then (if t181 = true then (some 0) else (some (-1))) else (if t181 = true then (some 1) else (if a0 < a1 then (some (-1)) else (if a0 > a1 then (some 1) else (some 0))))) = some r := H
 have A4 := Aside0.mk A40
 clear A40
 by_cases c5 : t180 = true
 ·subst c5
  have H1 : (if t181 = true then (some 0) else (some (-1))) = some r := by rw [if_pos rfl] at H; exact H
  clear H
  have H := H1
  clear H1
  by_cases c6 : t181 = true
  ·subst c6
   have H1 : (some 0) = some r := by rw [if_pos rfl] at H; exact H
   clear H
   have H := H1
   clear H1
   obtain rfl := Option.some.inj H
   go_enter Tryd.func145, Tryd.ntmps145
   go_wp2_with (first | ((with_reducible refine gate_callee (f := 173) rfl ?_); refine goesL_ (some 8) rfl rfl Tryd.func173 (by kernel_rfl) rfl #[.int .i64 a0] rfl (by (try simp only [List.map_toArray, List.map_cons, List.map_nil]); first | done | rfl | (simp only [List.length_drop, List.length_take]; rfl)) ?_; (with_reducible refine (cmp_isNaN_int.calls a0 true _ A3.out).mono ?_); rintro e w' ⟨rfl, ⟨nd, rfl⟩⟩; refine ⟨_, rfl, ?_⟩) | ((with_reducible refine gate_callee (f := 173) rfl ?_); refine goesL_ (some 10) rfl rfl Tryd.func173 (by kernel_rfl) rfl #[.int .i64 a1] rfl (by (try simp only [List.map_toArray, List.map_cons, List.map_nil]); first | done | rfl | (simp only [List.length_drop, List.length_take]; rfl)) ?_; (with_reducible refine (cmp_isNaN_int.calls a1 true _ A4.out).mono ?_); rintro e w' ⟨rfl, ⟨nd, rfl⟩⟩; refine ⟨_, rfl, ?_⟩))
   go_ret
   exact ⟨by first | rfl | (simp; done) | (simp [*]; done), by repeat (first | exact Drawn0.refl _ | apply Drawn0.step)⟩
  ·replace c6 := Bool.eq_false_iff.mpr c6
   subst c6
   have H1 : (some (-1)) = some r := by rw [if_neg (show ¬ (false = true) by decide)] at H; exact H
   clear H
   have H := H1
   clear H1
   obtain rfl := Option.some.inj H
   go_enter Tryd.func145, Tryd.ntmps145
   go_wp2_with (first | ((with_reducible refine gate_callee (f := 173) rfl ?_); refine goesL_ (some 8) rfl rfl Tryd.func173 (by kernel_rfl) rfl #[.int .i64 a0] rfl (by (try simp only [List.map_toArray, List.map_cons, List.map_nil]); first | done | rfl | (simp only [List.length_drop, List.length_take]; rfl)) ?_; (with_reducible refine (cmp_isNaN_int.calls a0 true _ A3.out).mono ?_); rintro e w' ⟨rfl, ⟨nd, rfl⟩⟩; refine ⟨_, rfl, ?_⟩) | ((with_reducible refine gate_callee (f := 173) rfl ?_); refine goesL_ (some 10) rfl rfl Tryd.func173 (by kernel_rfl) rfl #[.int .i64 a1] rfl (by (try simp only [List.map_toArray, List.map_cons, List.map_nil]); first | done | rfl | (simp only [List.length_drop, List.length_take]; rfl)) ?_; (with_reducible refine (cmp_isNaN_int.calls a1 false _ A4.out).mono ?_); rintro e w' ⟨rfl, ⟨nd, rfl⟩⟩; refine ⟨_, rfl, ?_⟩))
   go_ret
   exact ⟨by first | rfl | (simp; done) | (simp [*]; done), by repeat (first | exact Drawn0.refl _ | apply Drawn0.step)⟩
 ·replace c5 := Bool.eq_false_iff.mpr c5
  subst c5
  have H1 : (if t181 = true then (some 1) else (if a0 < a1 then (some (-1)) else (if a0 > a1 then (some 1) else (some 0)))) = some r := by rw [if_neg (show ¬ (false = true) by decide)] at H; exact H
  clear H
  have H := H1
  clear H1
  by_cases c7 : t181 = true
  ·subst c7
   have H1 : (some 1) = some r := by rw [if_pos rfl] at H; exact H
   clear H
   have H := H1
   clear H1
   obtain rfl := Option.some.inj H
   go_enter Tryd.func145, Tryd.ntmps145
   go_wp2_with (first | ((with_reducible refine gate_callee (f := 173) rfl ?_); refine goesL_ (some 8) rfl rfl Tryd.func173 (by kernel_rfl) rfl #[.int .i64 a0] rfl (by (try simp only [List.map_toArray, List.map_cons, List.map_nil]); first | done | rfl | (simp only [List.length_drop, List.length_take]; rfl)) ?_; (with_reducible refine (cmp_isNaN_int.calls a0 false _ A3.out).mono ?_); rintro e w' ⟨rfl, ⟨nd, rfl⟩⟩; refine ⟨_, rfl, ?_⟩) | ((with_reducible refine gate_callee (f := 173) rfl ?_); refine goesL_ (some 10) rfl rfl Tryd.func173 (by kernel_rfl) rfl #[.int .i64 a1] rfl (by (try simp only [List.map_toArray, List.map_cons, List.map_nil]); first | done | rfl | (simp only [List.length_drop, List.length_take]; rfl)) ?_; (with_reducible refine (cmp_isNaN_int.calls a1 true _ A4.out).mono ?_); rintro e w' ⟨rfl, ⟨nd, rfl⟩⟩; refine ⟨_, rfl, ?_⟩))
   go_ret
   exact ⟨by first | rfl | (simp; done) | (simp [*]; done), by repeat (first | exact Drawn0.refl _ | apply Drawn0.step)⟩
  ·replace c7 := Bool.eq_false_iff.mpr c7
   subst c7
   have H1 : (if a0 < a1 then (some (-1)) else (if a0 > a1 then (some 1) else (some 0))) = some r := by rw [if_neg (show ¬ (false = true) by decide)] at H; exact H
   clear H
   have H := H1
   clear H1
   by_cases c8 : a0 < a1
   ·rw [if_pos c8] at H
    have c8b0 : decide (a0 < a1) = true := decide_eq_true c8
    clear c8
    obtain rfl := Option.some.inj H
    go_enter Tryd.func145, Tryd.ntmps145
    go_wp2_with (first | ((with_reducible refine gate_callee (f := 173) rfl ?_); refine goesL_ (some 8) rfl rfl Tryd.func173 (by kernel_rfl) rfl #[.int .i64 a0] rfl (by (try simp only [List.map_toArray, List.map_cons, List.map_nil]); first | done | rfl | (simp only [List.length_drop, List.length_take]; rfl)) ?_; (with_reducible refine (cmp_isNaN_int.calls a0 false _ A3.out).mono ?_); rintro e w' ⟨rfl, ⟨nd, rfl⟩⟩; refine ⟨_, rfl, ?_⟩) | ((with_reducible refine gate_callee (f := 173) rfl ?_); refine goesL_ (some 10) rfl rfl Tryd.func173 (by kernel_rfl) rfl #[.int .i64 a1] rfl (by (try simp only [List.map_toArray, List.map_cons, List.map_nil]); first | done | rfl | (simp only [List.length_drop, List.length_take]; rfl)) ?_; (with_reducible refine (cmp_isNaN_int.calls a1 false _ A4.out).mono ?_); rintro e w' ⟨rfl, ⟨nd, rfl⟩⟩; refine ⟨_, rfl, ?_⟩))
    go_ret
    exact ⟨by first | rfl | (simp; done) | (simp [*]; done), by repeat (first | exact Drawn0.refl _ | apply Drawn0.step)⟩
   ·rw [if_neg c8] at H
    have c8b0 : decide (a0 < a1) = false := decide_eq_false c8
    clear c8
    by_cases c9 : a0 > a1
    ·rw [if_pos c9] at H
     have c9b0 : decide (a1 < a0) = true := decide_eq_true c9
     clear c9
     obtain rfl := Option.some.inj H
     go_enter Tryd.func145, Tryd.ntmps145
     go_wp2_with (first | ((with_reducible refine gate_callee (f := 173) rfl ?_); refine goesL_ (some 8) rfl rfl Tryd.func173 (by kernel_rfl) rfl #[.int .i64 a0] rfl (by (try simp only [List.map_toArray, List.map_cons, List.map_nil]); first | done | rfl | (simp only [List.length_drop, List.length_take]; rfl)) ?_; (with_reducible refine (cmp_isNaN_int.calls a0 false _ A3.out).mono ?_); rintro e w' ⟨rfl, ⟨nd, rfl⟩⟩; refine ⟨_, rfl, ?_⟩) | ((with_reducible refine gate_callee (f := 173) rfl ?_); refine goesL_ (some 10) rfl rfl Tryd.func173 (by kernel_rfl) rfl #[.int .i64 a1] rfl (by (try simp only [List.map_toArray, List.map_cons, List.map_nil]); first | done | rfl | (simp only [List.length_drop, List.length_take]; rfl)) ?_; (with_reducible refine (cmp_isNaN_int.calls a1 false _ A4.out).mono ?_); rintro e w' ⟨rfl, ⟨nd, rfl⟩⟩; refine ⟨_, rfl, ?_⟩))
     go_ret
     exact ⟨by first | rfl | (simp; done) | (simp [*]; done), by repeat (first | exact Drawn0.refl _ | apply Drawn0.step)⟩
    ·rw [if_neg c9] at H
     have c9b0 : decide (a1 < a0) = false := decide_eq_false c9
     clear c9
     obtain rfl := Option.some.inj H
     go_enter Tryd.func145, Tryd.ntmps145
     go_wp2_with (first | ((with_reducible refine gate_callee (f := 173) rfl ?_); refine goesL_ (some 8) rfl rfl Tryd.func173 (by kernel_rfl) rfl #[.int .i64 a0] rfl (by (try simp only [List.map_toArray, List.map_cons, List.map_nil]); first | done | rfl | (simp only [List.length_drop, List.length_take]; rfl)) ?_; (with_reducible refine (cmp_isNaN_int.calls a0 false _ A3.out).mono ?_); rintro e w' ⟨rfl, ⟨nd, rfl⟩⟩; refine ⟨_, rfl, ?_⟩) | ((with_reducible refine gate_callee (f := 173) rfl ?_); refine goesL_ (some 10) rfl rfl Tryd.func173 (by kernel_rfl) rfl #[.int .i64 a1] rfl (by (try simp only [List.map_toArray, List.map_cons, List.map_nil]); first | done | rfl | (simp only [List.length_drop, List.length_take]; rfl)) ?_; (with_reducible refine (cmp_isNaN_int.calls a1 false _ A4.out).mono ?_); rintro e w' ⟨rfl, ⟨nd, rfl⟩⟩; refine ⟨_, rfl, ?_⟩))
     go_ret
     exact ⟨by first | rfl | (simp; done) | (simp [*]; done), by repeat (first | exact Drawn0.refl _ | apply Drawn0.step)⟩

end Go.Proofs.YtgdomnlkafcddaaDoor.Q
namespace Go.Proofs.YtgdomnlkafcddaaDoor.Q
open Go.RowKit Go.Proofs.YtgdomnlkafcddaaDoorW.PrintWords Go.Proofs.YtgdomnlkafcddaaDoorW.PrintLast Go.Proofs.YtgdomnlkafcddaaDoorW.PrintMore
attribute [local go_sem] max2_int min2_int max_two min_two max_three min_three max_four min_four   -- for this text's walks alone
set_option linter.unusedVariables false
set_option linter.unusedSimpArgs false

/-! ### slices_Compare_int_int: function 115 -/
def slices_Compare_int_int.l0 : Nat → List Int → List Int → List Int → Int → Int → Option (Int)
 | 0, _, _, _, _, _ => none
 | k + 1, x0, x1, x9, x10, x11 => if x11 < x10 then (if 0 ≤ x11 then (if x11 < (x9.length : Int) then (if x11 ≥ (x1.length : Int) then (some 1) else (if x11 < (x1.length : Int) then ((cmp_Compare_int.f (rd x9 x11) (rd x1 x11)).bind fun t184 => (if t184 = 0 then (slices_Compare_int_int.l0 k x0 x1 x9 x10 (wrap64 (x11 + 1))) else (some t184))) else (none))) else (none)) else (none)) else (if (x0.length : Int) < (x1.length : Int) then (some (-1)) else (some 0))
def slices_Compare_int_int.f (k : Nat) (l0 : List Int) (l1 : List Int) : Option (Int) := slices_Compare_int_int.l0 k l0 l1 l0 (l0.length : Int) 0
theorem slices_Compare_int_int.mono_l : ∀ k, (∀ y0 y1 y2 y3 y4, LeO (slices_Compare_int_int.l0 k y0 y1 y2 y3 y4) (slices_Compare_int_int.l0 (k + 1) y0 y1 y2 y3 y4))
 | 0 => fun _ _ _ _ _ r h => by simp [slices_Compare_int_int.l0] at h
 | k + 1 => by
  have ih0 := slices_Compare_int_int.mono_l k
  ·intro y0 y1 y2 y3 y4
   unfold slices_Compare_int_int.l0
   repeat' first
   | (with_reducible exact ih0 _ _ _ _ _)
   | (with_reducible exact LeO.refl _)
   | (with_reducible exact LeO.none _)
   | (with_reducible refine LeO.ite ?_ ?_)
   | (with_reducible refine LeO.bind ?_ (fun _ => ?_))
   | exact ih0 _ _ _ _ _
   | exact LeO.none _
   | refine LeO.ite ?_ ?_
   | refine LeO.bind ?_ (fun _ => ?_)
theorem slices_Compare_int_int.mono : ∀ a0 a1 k, LeO (slices_Compare_int_int.f k a0 a1) (slices_Compare_int_int.f (k + 1) a0 a1) := by
 intro a0 a1 k
 have ih0 := slices_Compare_int_int.mono_l k
 unfold slices_Compare_int_int.f
 repeat' first
   | (with_reducible exact ih0 _ _ _ _ _)
   | (with_reducible exact LeO.refl _)
   | (with_reducible exact LeO.none _)
   | (with_reducible refine LeO.ite ?_ ?_)
   | (with_reducible refine LeO.bind ?_ (fun _ => ?_))
   | exact ih0 _ _ _ _ _
   | exact LeO.none _
   | refine LeO.ite ?_ ?_
   | refine LeO.bind ?_ (fun _ => ?_)
set_option maxHeartbeats 8000000 in
set_option maxRecDepth 100000 in
theorem slices_Compare_int_int.calls (k : Nat) (A0 : Option Addr) (c0 : Nat) (l0 : List Int) (A1 : Option Addr) (c1 : Nat) (l1 : List Int) (r : Int) (w : World) (hr0 : Kd.C (Kd.int .i64) w A0 l0.length l0) (hc0 : l0.length ≤ c0) (hr1 : Kd.C (Kd.int .i64) w A1 l1.length l1) (hc1 : l1.length ≤ c1) (h : slices_Compare_int_int.f k l0 l1 = some r) :
  Calls Tryd.prog 115 #[.slice A0 l0.length c0, .slice A1 l1.length c1] w fun e w' => e = .returned (.int .i64 r) ∧ Drawn0 w w' := by
 have HR0 := Aside0.mk hr0
 have HC0 := Aside0.mk hc0
 clear hr0 hc0
 have HR1 := Aside0.mk hr1
 have HC1 := Aside0.mk hc1
 clear hr1 hc1
 have H : (slices_Compare_int_int.l0 k l0 l1 l0 (l0.length : Int) 0) = some r := h
 clear h
 have H' := Aside0.mk H
 clear H
 go_enter Tryd.func115, Tryd.ntmps115
 go_wp2
 go_loopg [11] k (fun kq v11 w' => ∃ (x11_1 : Int), v11 = .int .i64 x11_1 ∧ Aside0 (slices_Compare_int_int.l0 kq l0 l1 l0 (l0.length : Int) x11_1 = some r) ∧ Aside0 (kq ≤ k) ∧ Drawn0 w w')
 case atStart => exact ⟨(0), (by first | rfl | (simp; done) | (simp [*]; done)), H', ⟨Nat.le_refl _⟩, by repeat (first | exact Drawn0.refl _ | apply Drawn0.step)⟩
 case round =>
  clear H'
  try clear c1
  try clear p2
  obtain ⟨x11_1, rfl, HA, HK1, ⟨m1, rfl⟩⟩ := hrel
  cases gk with
  | zero => exact absurd HA.out (by simp [slices_Compare_int_int.l0])
  | succ k1 =>
   have H := HA.out
   clear HA
   simp only [slices_Compare_int_int.l0] at H
   by_cases c3 : x11_1 < (l0.length : Int)
   ·rw [if_pos c3] at H
    have c3b0 : decide (x11_1 < (l0.length : Int)) = true := decide_eq_true c3
    clear c3
    by_cases c4 : 0 ≤ x11_1
    ·rw [if_pos c4] at H
     have c4b0 : decide (0 ≤ x11_1) = true := decide_eq_true c4
     clear c4
     by_cases c5 : x11_1 < (l0.length : Int)
     ·rw [if_pos c5] at H
      have c5b0 : decide (x11_1 < (l0.length : Int)) = true := decide_eq_true c5
      clear c5
      by_cases c6 : x11_1 ≥ (l1.length : Int)
      ·rw [if_pos c6] at H
       have c6b0 : decide ((l1.length : Int) ≤ x11_1) = true := decide_eq_true c6
       clear c6
       obtain rfl := Option.some.inj H
       have p182 : 0 ≤ (x11_1 : Int) := of_decide_eq_true (by first | (with_reducible assumption) | assumption)
       have q182 : x11_1 < (l0.length : Int) := of_decide_eq_true (by first | (with_reducible assumption) | assumption)
       obtain ⟨ad182, e182, hx182_0⟩ := Kd.at_int HR0.out x11_1 p182 q182
       cases e182
       replace p182 := eq_true p182
       replace q182 := eq_true q182
       go_wp2
       go_ret
       exact ⟨by first | rfl | (simp; done) | (simp [*]; done), by repeat (first | exact Drawn0.refl _ | apply Drawn0.step)⟩
      ·rw [if_neg c6] at H
       have c6b0 : decide ((l1.length : Int) ≤ x11_1) = false := decide_eq_false c6
       clear c6
       by_cases c7 : x11_1 < (l1.length : Int)
       ·rw [if_pos c7] at H
        have c7b0 : decide (x11_1 < (l1.length : Int)) = true := decide_eq_true c7
        clear c7
        replace H := Option.bind_eq_some_iff.mp H
        obtain ⟨t184, A80, H⟩ := H
        replace H : (if t184 = 0 then (slices_Compare_int_int.l0 k1 l0 l1 l0 (l0.length : Int) (wrap64 (x11_1 + 1))) else (some t184)) = some r := H
        have A8 := Aside0.mk A80
        clear A80
        by_cases c9 : t184 = 0
        ·rw [if_pos c9] at H
         have c9b0 : (t184 == 0) = true := beq_iff_eq.mpr c9
         have c9b1 : (t184 != 0) = false := bne_eq_false_iff_eq.mpr c9
         clear c9
         have H' := Aside0.mk H
         clear H
         have p182 : 0 ≤ (x11_1 : Int) := of_decide_eq_true (by first | (with_reducible assumption) | assumption)
         have q182 : x11_1 < (l0.length : Int) := of_decide_eq_true (by first | (with_reducible assumption) | assumption)
         obtain ⟨ad182, e182, hx182_0⟩ := Kd.at_int HR0.out x11_1 p182 q182
         cases e182
         replace p182 := eq_true p182
         replace q182 := eq_true q182
         have p183 : 0 ≤ (x11_1 : Int) := of_decide_eq_true (by first | (with_reducible assumption) | assumption)
         have q183 : x11_1 < (l1.length : Int) := of_decide_eq_true (by first | (with_reducible assumption) | assumption)
         obtain ⟨ad183, e183, hx183_0⟩ := Kd.at_int HR1.out x11_1 p183 q183
         cases e183
         replace p183 := eq_true p183
         replace q183 := eq_true q183
         go_wp2_with (first | ((with_reducible refine gate_callee (f := 145) rfl ?_); refine goesL_ (some 26) rfl rfl Tryd.func145 (by kernel_rfl) rfl #[.int .i64 (rd l0 x11_1), .int .i64 (rd l1 x11_1)] rfl (by (try simp only [List.map_toArray, List.map_cons, List.map_nil]); first | done | rfl | (simp only [List.length_drop, List.length_take]; rfl)) ?_; (with_reducible refine (cmp_Compare_int.calls (rd l0 x11_1) (rd l1 x11_1) t184 _ A8.out).mono ?_); rintro e w' ⟨rfl, ⟨nd, rfl⟩⟩; refine ⟨_, rfl, ?_⟩))
         go_roundg k1
         case measure => have := HK1.out; omega
         case rel => exact ⟨(wrap64 (x11_1 + 1)), (by first | rfl | (simp; done) | (simp [*]; done)), H', ⟨by have := HK1.out; omega⟩, by repeat (first | exact Drawn0.refl _ | apply Drawn0.step)⟩
        ·rw [if_neg c9] at H
         have c9b0 : (t184 == 0) = false := beq_eq_false_iff_ne.mpr c9
         have c9b1 : (t184 != 0) = true := bne_iff_ne.mpr c9
         obtain rfl := Option.some.inj H
         have p182 : 0 ≤ (x11_1 : Int) := of_decide_eq_true (by first | (with_reducible assumption) | assumption)
         have q182 : x11_1 < (l0.length : Int) := of_decide_eq_true (by first | (with_reducible assumption) | assumption)
         obtain ⟨ad182, e182, hx182_0⟩ := Kd.at_int HR0.out x11_1 p182 q182
         cases e182
         replace p182 := eq_true p182
         replace q182 := eq_true q182
         have p183 : 0 ≤ (x11_1 : Int) := of_decide_eq_true (by first | (with_reducible assumption) | assumption)
         have q183 : x11_1 < (l1.length : Int) := of_decide_eq_true (by first | (with_reducible assumption) | assumption)
         obtain ⟨ad183, e183, hx183_0⟩ := Kd.at_int HR1.out x11_1 p183 q183
         cases e183
         replace p183 := eq_true p183
         replace q183 := eq_true q183
         go_wp2_with (first | ((with_reducible refine gate_callee (f := 145) rfl ?_); refine goesL_ (some 26) rfl rfl Tryd.func145 (by kernel_rfl) rfl #[.int .i64 (rd l0 x11_1), .int .i64 (rd l1 x11_1)] rfl (by (try simp only [List.map_toArray, List.map_cons, List.map_nil]); first | done | rfl | (simp only [List.length_drop, List.length_take]; rfl)) ?_; (with_reducible refine (cmp_Compare_int.calls (rd l0 x11_1) (rd l1 x11_1) t184 _ A8.out).mono ?_); rintro e w' ⟨rfl, ⟨nd, rfl⟩⟩; refine ⟨_, rfl, ?_⟩))
         go_ret
         exact ⟨by first | rfl | (simp; done) | (simp [*]; done), by repeat (first | exact Drawn0.refl _ | apply Drawn0.step)⟩
       ·rw [if_neg c7] at H
        exact absurd H (by simp)
     ·rw [if_neg c5] at H
      exact absurd H (by simp)
    ·rw [if_neg c4] at H
     exact absurd H (by simp)
   ·rw [if_neg c3] at H
    have c3b0 : decide (x11_1 < (l0.length : Int)) = false := decide_eq_false c3
    clear c3
    by_cases c10 : (l0.length : Int) < (l1.length : Int)
    ·rw [if_pos c10] at H
     have c10b0 : decide ((l0.length : Int) < (l1.length : Int)) = true := decide_eq_true c10
     have c10b1 : decide (l0.length < l1.length) = true := decide_eq_true (Int.ofNat_lt.mp c10)
     clear c10
     obtain rfl := Option.some.inj H
     go_wp2
     go_ret
     exact ⟨by first | rfl | (simp; done) | (simp [*]; done), by repeat (first | exact Drawn0.refl _ | apply Drawn0.step)⟩
    ·rw [if_neg c10] at H
     have c10b0 : decide ((l0.length : Int) < (l1.length : Int)) = false := decide_eq_false c10
     have c10b1 : decide (l0.length < l1.length) = false := decide_eq_false (fun h => c10 (Int.ofNat_lt.mpr h))
     clear c10
     obtain rfl := Option.some.inj H
     go_wp2
     go_ret
     exact ⟨by first | rfl | (simp; done) | (simp [*]; done), by repeat (first | exact Drawn0.refl _ | apply Drawn0.step)⟩

end Go.Proofs.YtgdomnlkafcddaaDoor.Q
namespace Go.Proofs.YtgdomnlkafcddaaDoor.Q
open Go.RowKit Go.Proofs.YtgdomnlkafcddaaDoorW.PrintWords Go.Proofs.YtgdomnlkafcddaaDoorW.PrintLast Go.Proofs.YtgdomnlkafcddaaDoorW.PrintMore
attribute [local go_sem] max2_int min2_int max_two min_two max_three min_three max_four min_four   -- for this text's walks alone
set_option linter.unusedVariables false
set_option linter.unusedSimpArgs false

/-! ### tape_Less: function 70 -/
def tape_Less.f (k : Nat) (l0 : List Int) (l1 : List Int) : Option (Bool) := if (l0.length : Int) = (l1.length : Int) then ((slices_Compare_int_int.f k l0 l1).bind fun t185 => (some (decide (t185 < 0)))) else (some (decide ((l0.length : Int) < (l1.length : Int))))
theorem tape_Less.mono : ∀ a0 a1 k, LeO (tape_Less.f k a0 a1) (tape_Less.f (k + 1) a0 a1) := by
 intro a0 a1 k
 unfold tape_Less.f
 repeat' first
   | (with_reducible exact slices_Compare_int_int.mono _ _ _)
   | (with_reducible exact LeO.refl _)
   | (with_reducible exact LeO.none _)
   | (with_reducible refine LeO.ite ?_ ?_)
   | (with_reducible refine LeO.bind ?_ (fun _ => ?_))
   | exact slices_Compare_int_int.mono _ _ _
   | exact LeO.none _
   | refine LeO.ite ?_ ?_
   | refine LeO.bind ?_ (fun _ => ?_)
set_option maxHeartbeats 8000000 in
set_option maxRecDepth 100000 in
theorem tape_Less.calls (k : Nat) (A0 : Option Addr) (c0 : Nat) (l0 : List Int) (A1 : Option Addr) (c1 : Nat) (l1 : List Int) (r : Bool) (w : World) (hr0 : Kd.C (Kd.int .i64) w A0 l0.length l0) (hc0 : l0.length ≤ c0) (hr1 : Kd.C (Kd.int .i64) w A1 l1.length l1) (hc1 : l1.length ≤ c1) (h : tape_Less.f k l0 l1 = some r) :
  Calls Tryd.prog 70 #[.slice A0 l0.length c0, .slice A1 l1.length c1] w fun e w' => e = .returned (.bool r) ∧ Drawn0 w w' := by
 have HR0 := Aside0.mk hr0
 have HC0 := Aside0.mk hc0
 clear hr0 hc0
 have HR1 := Aside0.mk hr1
 have HC1 := Aside0.mk hc1
 clear hr1 hc1
 have H : (if (l0.length : Int) = (l1.length : Int) then ((slices_Compare_int_int.f k l0 l1).bind fun t185 => (some (decide (t185 < 0)))) else (some (decide ((l0.length : Int) < (l1.length : Int))))) = some r := h
 clear h
 by_cases c3 : (l0.length : Int) = (l1.length : Int)
 ·rw [if_pos c3] at H
  have c3b0 : ((l0.length : Int) == (l1.length : Int)) = true := beq_iff_eq.mpr c3
  have c3b1 : ((l0.length : Int) != (l1.length : Int)) = false := bne_eq_false_iff_eq.mpr c3
  have c3b2 : (l0.length == l1.length) = true := by first | simpa using c3 | (simp at c3 ⊢; omega)
  clear c3
  replace H := Option.bind_eq_some_iff.mp H
  obtain ⟨t185, A40, H⟩ := H
  replace H : (some (decide (t185 < 0))) = some r := H
  have A4 := Aside0.mk A40
  clear A40
  obtain rfl := Option.some.inj H
  go_enter Tryd.func70, Tryd.ntmps70
  go_wp2_with (first | ((with_reducible refine gate_callee (f := 115) rfl ?_); refine goesL_ (some 17) rfl rfl Tryd.func115 (by kernel_rfl) rfl #[.slice A0 l0.length c0, .slice A1 l1.length c1] rfl (by (try simp only [List.map_toArray, List.map_cons, List.map_nil]); first | done | rfl | (simp only [List.length_drop, List.length_take]; rfl)) ?_; (with_reducible refine (slices_Compare_int_int.calls k _ _ l0 _ _ l1 t185 _ ?side1 ?side2 ?side3 ?side4 A4.out).mono ?_); (case side1 => repeat (first | exact HR0.out | (with_reducible refine Kd.C_alloc ?_ _) | (with_reducible refine Kd.C_drewN ?_ _) | (with_reducible refine Kd.C_drew ?_))); (case side2 => exact HC0.out); (case side3 => repeat (first | exact HR1.out | (with_reducible refine Kd.C_alloc ?_ _) | (with_reducible refine Kd.C_drewN ?_ _) | (with_reducible refine Kd.C_drew ?_))); (case side4 => exact HC1.out); rintro e w' ⟨rfl, ⟨nd, rfl⟩⟩; refine ⟨_, rfl, ?_⟩))
  go_ret
  exact ⟨by first | rfl | (simp; done) | (simp [*]; done), by repeat (first | exact Drawn0.refl _ | apply Drawn0.step)⟩
 ·rw [if_neg c3] at H
  have c3b0 : ((l0.length : Int) == (l1.length : Int)) = false := beq_eq_false_iff_ne.mpr c3
  have c3b1 : ((l0.length : Int) != (l1.length : Int)) = true := bne_iff_ne.mpr c3
  have c3b2 : (l0.length == l1.length) = false := by first | simpa using c3 | (simp at c3 ⊢; omega)
  obtain rfl := Option.some.inj H
  go_enter Tryd.func70, Tryd.ntmps70
  go_wp2
  go_ret
  exact ⟨by first | rfl | (simp; done) | (simp [*]; done), by repeat (first | exact Drawn0.refl _ | apply Drawn0.step)⟩

end Go.Proofs.YtgdomnlkafcddaaDoor.Q
namespace Go.Proofs.YtgdomnlkafcddaaDoor.Q
open Go.RowKit Go.Proofs.YtgdomnlkafcddaaDoorW.PrintWords Go.Proofs.YtgdomnlkafcddaaDoorW.PrintLast Go.Proofs.YtgdomnlkafcddaaDoorW.PrintMore
set_option linter.unusedVariables false
set_option linter.unusedSimpArgs false
set_option linter.unusedSectionVars false
noncomputable def rose_try (k : Nat) (a0 a1 a2 : Int) (l3 : List S63) (l m : List Int) (out : List (List Int)) : Option (Option Int × List (List Int)) :=
 (gen_Mend.f a0 a1 a2 l3 m).bind fun r => match r.2 with
  | some c => some (some c, out)
  | none => (tape_Less.f k r.1 l).bind fun b => if b = true then (if out.length < 5864062014805 then some (none, out ++ [r.1]) else none) else some (none, out)
def TryPost (w0 w : World) (bo : Nat) (ov : Value) (w' : World) (r2 : List (List Int)) : Prop :=
 ∃ ov', w'.heap[bo]? = some (Obj.cells #[ov'] 49 (0, 0)) ∧ Kd.S (Kd.slice 3 (Kd.int .i64)) 36 w' w0.heap.size (fun _ => True) ov' r2 ∧ KeepBut w w' bo ov.ownBlock ∧
  (ov'.ownBlock = ov.ownBlock ∨ ∃ b, ov'.ownBlock = some b ∧ w.heap.size ≤ b) ∧ Below w0.heap.size w0 w'
theorem TryPost.same {w0 w w' : World} {bo : Nat} {ov : Value} {out : List (List Int)} (hbo : w.heap[bo]? = some (Obj.cells #[ov] 49 (0, 0))) (HO : Kd.S (Kd.slice 3 (Kd.int .i64)) 36 w w0.heap.size (fun _ => True) ov out) (hB : Below w0.heap.size w0 w) (hb : Below w.heap.size w w') : TryPost w0 w bo ov w' out :=
 ⟨ov, blk_below hbo hb, Kd.S_below HO hb, KeepBut.of_below hb _ _, .inl rfl, below_step hB hb⟩
section
variable (k : Nat) (a0 a1 a2 : Int) (A3 : Option Addr) (c3 : Nat) (l3 : List S63) (A : Option Addr) (c : Nat) (l : List Int) (Am : Option Addr) (cm : Nat) (m : List Int) (bg bl bo : Nat) (ov : Value) (out : List (List Int)) (w0 w : World)
 (hbg : w.heap[bg]? = some (Obj.cells #[.int .i64 a0, .int .i64 a1, .int .i64 a2, .slice A3 l3.length c3] 63 (0, 0)))
 (hbl : w.heap[bl]? = some (Obj.cells #[.slice A l.length c] 36 (0, 0)))
 (hbo : w.heap[bo]? = some (Obj.cells #[ov] 49 (0, 0)))
 (hr3 : Kd.C k63 w A3 l3.length l3) (hc3 : l3.length ≤ c3) (hr : Kd.C (Kd.int .i64) w A l.length l) (hc : l.length ≤ c) (hm : Kd.C (Kd.int .i64) w Am m.length m) (hcm : m.length ≤ cm)
 (HO : Kd.S (Kd.slice 3 (Kd.int .i64)) 36 w w0.heap.size (fun _ => True) ov out) (hB : Below w0.heap.size w0 w) (hbase : w0.heap.size ≤ bo)
include hbg hbl hbo hr3 hc3 hr hc hm hcm HO hB hbase
set_option maxHeartbeats 4000000 in
set_option maxRecDepth 100000 in
theorem rose_try.err (x : List Int) (q : Int) (h : gen_Mend.f a0 a1 a2 l3 m = some (x, some q)) :
  Calls Tryd.prog 73 #[.slice Am m.length cm, .pointer (some ⟨bg, 0, none⟩), .pointer (some ⟨bl, 0, none⟩), .pointer (some ⟨bo, 0, none⟩)] w fun e w' => e = .returned (.iface 66 (.int .i64 q)) ∧ TryPost w0 w bo ov w' out := by
 have hu63 := Tryd.underlying63
 have hu30 := Tryd.underlying30
 have HA := Aside0.mk h
 have HR3 := Aside0.mk hr3
 have HC3 := Aside0.mk hc3
 have HM := Aside0.mk hm
 have HCM := Aside0.mk hcm
 have HP := fun w' => TryPost.same (w' := w') hbo HO hB
 have HP' := Aside0.mk HP
 have g0 : w.cell? ⟨bg, 0, none⟩ = some (.int .i64 a0) := (blk_cell hbg 0).trans rfl
 have g1 : w.cell? ⟨bg, 1, none⟩ = some (.int .i64 a1) := (blk_cell hbg 1).trans rfl
 have g2 : w.cell? ⟨bg, 2, none⟩ = some (.int .i64 a2) := (blk_cell hbg 2).trans rfl
 have g3 : w.cell? ⟨bg, 3, none⟩ = some (.slice A3 l3.length c3) := (blk_cell hbg 3).trans rfl
 clear h hr3 hc3 hm hcm HP hbg hbl hbo hr hc HO hB hbase
 go_enter Tryd.func73, Tryd.ntmps73
 go_wp2_with (first | ((with_reducible refine gate_callee (f := 43) rfl ?_); refine goesL_ (some 10) rfl rfl Tryd.func43 (by kernel_rfl) rfl #[.agg #[.int .i64 a0, .int .i64 a1, .int .i64 a2, .slice A3 l3.length c3], .slice Am m.length cm] rfl (by (try simp only [List.map_toArray, List.map_cons, List.map_nil]); first | done | rfl) ?_; (with_reducible refine (gen_Mend.calls a0 a1 a2 _ _ l3 _ _ m x (some q) _ HR3.out HC3.out HM.out HCM.out HA.out).mono ?_); rintro e w1 ⟨v, rfl, ho, hb⟩; refine ⟨_, rfl, ?_⟩; have HB := Aside0.mk hb; clear ho hb; (try simp only [errW_none, errW_some])))
 go_ret
 exact ⟨rfl, HP'.out _ HB.out⟩
set_option maxHeartbeats 4000000 in
set_option maxRecDepth 100000 in
theorem rose_try.no (x : List Int) (h : gen_Mend.f a0 a1 a2 l3 m = some (x, none)) (h2 : tape_Less.f k x l = some false) :
  Calls Tryd.prog 73 #[.slice Am m.length cm, .pointer (some ⟨bg, 0, none⟩), .pointer (some ⟨bl, 0, none⟩), .pointer (some ⟨bo, 0, none⟩)] w fun e w' => e = .returned .nilIface ∧ TryPost w0 w bo ov w' out := by
 have hu63 := Tryd.underlying63
 have hu30 := Tryd.underlying30
 have HA := Aside0.mk h
 have HA2 := Aside0.mk h2
 have HR3 := Aside0.mk hr3
 have HC3 := Aside0.mk hc3
 have HR := Aside0.mk hr
 have HC := Aside0.mk hc
 have HM := Aside0.mk hm
 have HCM := Aside0.mk hcm
 have HBL := Aside0.mk hbl
 have HP := fun w' => TryPost.same (w' := w') hbo HO hB
 have HP' := Aside0.mk HP
 have g0 : w.cell? ⟨bg, 0, none⟩ = some (.int .i64 a0) := (blk_cell hbg 0).trans rfl
 have g1 : w.cell? ⟨bg, 1, none⟩ = some (.int .i64 a1) := (blk_cell hbg 1).trans rfl
 have g2 : w.cell? ⟨bg, 2, none⟩ = some (.int .i64 a2) := (blk_cell hbg 2).trans rfl
 have g3 : w.cell? ⟨bg, 3, none⟩ = some (.slice A3 l3.length c3) := (blk_cell hbg 3).trans rfl
 clear h h2 hr3 hc3 hr hc hm hcm HP hbg hbl hbo HO hB hbase
 go_enter Tryd.func73, Tryd.ntmps73
 go_wp2_with (first
  | ((with_reducible refine gate_callee (f := 43) rfl ?_); refine goesL_ (some 10) rfl rfl Tryd.func43 (by kernel_rfl) rfl #[.agg #[.int .i64 a0, .int .i64 a1, .int .i64 a2, .slice A3 l3.length c3], .slice Am m.length cm] rfl (by (try simp only [List.map_toArray, List.map_cons, List.map_nil]); first | done | rfl) ?_; (with_reducible refine (gen_Mend.calls a0 a1 a2 _ _ l3 _ _ m x none _ HR3.out HC3.out HM.out HCM.out HA.out).mono ?_); rintro e w1 ⟨v, rfl, ho, hb⟩; refine ⟨_, rfl, ?_⟩; have HB := Aside0.mk hb; have HO := Aside0.mk ho; obtain ⟨Ao, co, eo⟩ := Kd.R_slice ho; subst eo; have hl1 : w1.cell? ⟨bl, 0, none⟩ = some (.slice A l.length c) := (blk_cell (blk_below HBL.out hb) 0).trans rfl; clear ho hb; (try simp only [errW_none, errW_some]))
  | (go_at_call 70; (with_reducible refine (tape_Less.calls k _ _ x _ _ l false _ (Kd.R_reads' HO.out).2.2 (Kd.R_reads' HO.out).2.1 (Kd.C_below HR.out HB.out) HC.out HA2.out).mono ?_); rintro e w2 ⟨rfl, hd⟩; have HB2 := Aside0.mk (below_step HB.out hd.below); clear hd))
 go_ret
 exact ⟨rfl, HP'.out _ HB2.out⟩
set_option maxHeartbeats 4000000 in
set_option maxRecDepth 100000 in
theorem rose_try.yes (x : List Int) (h : gen_Mend.f a0 a1 a2 l3 m = some (x, none)) (h2 : tape_Less.f k x l = some true) (hlen : out.length < 5864062014805) :
  Calls Tryd.prog 73 #[.slice Am m.length cm, .pointer (some ⟨bg, 0, none⟩), .pointer (some ⟨bl, 0, none⟩), .pointer (some ⟨bo, 0, none⟩)] w fun e w' => e = .returned .nilIface ∧ TryPost w0 w bo ov w' (out ++ [x]) := by
 obtain ⟨Av, cv, rfl⟩ := Kd.S_slice HO
 have hu63 := Tryd.underlying63
 have hu30 := Tryd.underlying30
 have HA := Aside0.mk h
 have HA2 := Aside0.mk h2
 have HR3 := Aside0.mk hr3
 have HC3 := Aside0.mk hc3
 have HR := Aside0.mk hr
 have HC := Aside0.mk hc
 have HM := Aside0.mk hm
 have HCM := Aside0.mk hcm
 have HBL := Aside0.mk hbl
 have HBO := Aside0.mk hbo
 have HS := Aside0.mk HO
 have HB0 := Aside0.mk hB
 have HBA := Aside0.mk hbase
 have HL := Aside0.mk hlen
 have g0 : w.cell? ⟨bg, 0, none⟩ = some (.int .i64 a0) := (blk_cell hbg 0).trans rfl
 have g1 : w.cell? ⟨bg, 1, none⟩ = some (.int .i64 a1) := (blk_cell hbg 1).trans rfl
 have g2 : w.cell? ⟨bg, 2, none⟩ = some (.int .i64 a2) := (blk_cell hbg 2).trans rfl
 have g3 : w.cell? ⟨bg, 3, none⟩ = some (.slice A3 l3.length c3) := (blk_cell hbg 3).trans rfl
 clear h h2 hr3 hc3 hr hc hm hcm hbg hbl hbo HO hB hbase hlen
 go_enter Tryd.func73, Tryd.ntmps73
 go_wp2_with (first
  | ((with_reducible refine gate_callee (f := 43) rfl ?_); refine goesL_ (some 10) rfl rfl Tryd.func43 (by kernel_rfl) rfl #[.agg #[.int .i64 a0, .int .i64 a1, .int .i64 a2, .slice A3 l3.length c3], .slice Am m.length cm] rfl (by (try simp only [List.map_toArray, List.map_cons, List.map_nil]); first | done | rfl) ?_; (with_reducible refine (gen_Mend.calls a0 a1 a2 _ _ l3 _ _ m x none _ HR3.out HC3.out HM.out HCM.out HA.out).mono ?_); rintro e w1 ⟨v, rfl, ho, hb⟩; refine ⟨_, rfl, ?_⟩; have HB := Aside0.mk hb; have HO := Aside0.mk ho; obtain ⟨Ao, co, eo⟩ := Kd.R_slice ho; subst eo; have hl1 : w1.cell? ⟨bl, 0, none⟩ = some (.slice A l.length c) := (blk_cell (blk_below HBL.out hb) 0).trans rfl; clear ho hb; (try simp only [errW_none, errW_some]))
  | (go_at_call 70; (with_reducible refine (tape_Less.calls k _ _ x _ _ l true _ (Kd.R_reads' HO.out).2.2 (Kd.R_reads' HO.out).2.1 (Kd.C_below HR.out HB.out) HC.out HA2.out).mono ?_); rintro e w2 ⟨rfl, hd⟩; have HB2 := Aside0.mk (below_step HB.out hd.below); have HO2 := Aside0.mk (Kd.R_below HO.out hd.below); have HBO2 := Aside0.mk (blk_below HBO.out HB2.out); have hv2 : w2.cell? ⟨bo, 0, none⟩ = some (.slice Av out.length cv) := (blk_cell HBO2.out 0).trans rfl; have HS2 := Aside0.mk (Kd.S_elder' HS.out (Kd.R_base HO2.out) HB2.out); have HB02 := Aside0.mk (below_step HB0.out HB2.out); clear hd)
  | ((with_reducible refine gate_builtin (b := .append) (xs := #[.tmp 20, .tmp 22]) rfl ?_); at_builtin; refine Kd.S_append (Kd.slice 3 (Kd.int .i64)) (w0 := w0) w0.heap.size rfl (.tmp 20) (.tmp 22) 49 36 (.slice none 0 0) 24 rfl Tryd.underlying49 info36 rfl (by decide) (by omega) (.slice Av out.length cv) out x [.slice Ao x.length co] (fun _ => True) (fun k_ => some k_ = (.slice Ao x.length co : Value).ownBlock) rfl rfl ?aP ?aN ?aF ?aO ?aB ?aS ?aL ?_; (case aP => exact Kd.M_row (Kd.R_mono (Kd.R_tight rfl (Kd.R_lower HO2.out HB0.out.size)) (fun _ h_ => h_))); (case aN => exact (fun k_ hk_ => ⟨trivial, fun e_ => absurd (Kd.R_base HO2.out k_ hk_.symm) (Nat.not_le.2 (Kd.S_lt HS.out k_ e_.symm))⟩)); (case aF => exact (fun _ _ => trivial)); (case aO => exact Kd.S_mono HS2.out (fun k_ hk => ⟨trivial, fun e_ => hk.2 e_⟩)); (case aB => exact HB02.out); (case aS => exact HB02.out.size); (case aL => have := HL.out; omega); intro v1 w3 ho hb hg hat; have HB3 := Aside0.mk hb; have HO3 := Aside0.mk ho; have HG := Aside0.mk hg; have HAT := Aside0.mk hat; have HBO3 := Aside0.mk (blk_grown HBO2.out hg (Kd.S_ne HS2.out HBO2.out (by decide))); obtain ⟨Aq, cq, eq⟩ := Kd.S_slice ho; subst eq; have hv3 : w3.cell? ⟨bo, 0, none⟩ = some (.slice Av out.length cv) := (blk_cell HBO3.out 0).trans rfl; have hf3 := blk_frozen HBO3.out 0; clear ho hb hg hat))
 go_ret
 have HO4 := HO3.out
 have hat := HAT.out
 rw [show (out ++ [x]).length = out.length + 1 by simp] at HO4 hat
 refine ⟨rfl, _, (blk_set HBO3.out 0 _).trans rfl, Kd.S_set HO4 HBO3.out (by decide) 0 _, ((KeepBut.of_below HB2.out bo _).trans (KeepBut.of_grown HG.out bo) (.inl rfl)).set_ 0 _, ?_, below_set HB3.out HBA.out⟩
 rcases hat with h | ⟨b, h1, h2⟩
 ·exact .inl h
 ·exact .inr ⟨b, h1, Nat.le_trans HB2.out.size h2⟩
theorem rose_try.calls (r1 : Option Int) (r2 : List (List Int)) (h : rose_try k a0 a1 a2 l3 l m out = some (r1, r2)) :
  Calls Tryd.prog 73 #[.slice Am m.length cm, .pointer (some ⟨bg, 0, none⟩), .pointer (some ⟨bl, 0, none⟩), .pointer (some ⟨bo, 0, none⟩)] w fun e w' => e = .returned (errW r1) ∧ TryPost w0 w bo ov w' r2 := by
 unfold rose_try at h
 obtain ⟨⟨x, q⟩, hM, h⟩ := Option.bind_eq_some_iff.mp h
 cases q with
 | some q =>
  simp only [Option.some.injEq, Prod.mk.injEq] at h
  obtain ⟨rfl, rfl⟩ := h
  exact rose_try.err a0 a1 a2 A3 c3 l3 A c l Am cm m bg bl bo ov out w0 w hbg hbl hbo hr3 hc3 hr hc hm hcm HO hB hbase x q hM
 | none =>
  obtain ⟨b, hL, h⟩ := Option.bind_eq_some_iff.mp h
  cases b with
  | false =>
   simp only [Bool.false_eq_true, if_false, Option.some.injEq, Prod.mk.injEq] at h
   obtain ⟨rfl, rfl⟩ := h
   exact rose_try.no k a0 a1 a2 A3 c3 l3 A c l Am cm m bg bl bo ov out w0 w hbg hbl hbo hr3 hc3 hr hc hm hcm HO hB hbase x hM hL
  | true =>
   simp only [if_true] at h
   split at h
   ·rename_i hlen
    simp only [Option.some.injEq, Prod.mk.injEq] at h
    obtain ⟨rfl, rfl⟩ := h
    exact rose_try.yes k a0 a1 a2 A3 c3 l3 A c l Am cm m bg bl bo ov out w0 w hbg hbl hbo hr3 hc3 hr hc hm hcm HO hB hbase x hM hL hlen
   ·cases h
end
end Go.Proofs.YtgdomnlkafcddaaDoor.Q
namespace Go.Proofs
open Go.Shelf
def Tryd.lays2_15_ren : Go.Shelf.Ren := ⟨fun | 15 => 75 | n => n, fun | 22 => 36 | 3 => 3 | 4 => 4 | n => n, fun | n => n⟩
theorem Tryd.lays2_15 : Go.Proofs.Lays2.n15 Tryd.prog Tryd.lays2_15_ren := {
 mixed := by kernel_rfl
 f15 := Tryd.func75.trans (congrArg some (by kernel_rfl))
 t3 := Tryd.underlying3
 a3 := Tryd.isAgg3
 z3 := Tryd.sizeOf3
 v3 := Tryd.zeroValue3
 t4 := Tryd.underlying4
 a4 := Tryd.isAgg4
 z4 := Tryd.sizeOf4
 v4 := Tryd.zeroValue4
 t22 := Tryd.underlying36
 a22 := Tryd.isAgg36
 z22 := Tryd.sizeOf36
 v22 := Tryd.zeroValue36
 i3 := by kernel_rfl }
open Go.RowKit in
theorem Tryd.slices_Clone_int (b off n c : Nat) (zs : List Int) (w : World) (hz : n ≤ zs.length) (hbig : n * 8 ≤ 140737488355328) (hc : ∀ j, j < zs.length → w.cell? ⟨b, off + j, none⟩ = some (.int .i64 (zs.getD j 0))) :
  Calls Tryd.prog 75 #[.slice (some ⟨b, off, none⟩) n c] w fun e w' => ∃ v', e = .returned v' ∧ w'.ownsRow w.heap.size 3 1 v' n ((zs.take n).map (Value.int .i64)) ∧ v' ≠ .slice none 0 0 ∧ Below w.heap.size w w' := Any.slices_Clone_int Tryd.lays2_15 b off n c zs w hz hbig hc
open Go.RowKit in
theorem Tryd.slices_Clone_int_nil (n c : Nat) (w : World) :
  Calls Tryd.prog 75 #[.slice none n c] w fun e w' => e = .returned (.slice none 0 0) ∧ w' = w := Any.slices_Clone_int_nil Tryd.lays2_15 n c w
open Go.RowKit in
theorem Tryd.slices_Clone_int_zero (a : Addr) (c : Nat) (w : World) :
  Calls Tryd.prog 75 #[.slice (some a) 0 c] w fun e w' => ∃ v', e = .returned v' ∧ w'.ownsRow w.heap.size 3 1 v' 0 [] ∧ v' ≠ .slice none 0 0 ∧ Below w.heap.size w w' := Any.slices_Clone_int_zero Tryd.lays2_15 a c w
def Tryd.lays2_23_ren : Go.Shelf.Ren := ⟨fun | 23 => 76 | n => n, fun | 22 => 36 | 3 => 3 | 4 => 4 | 0 => 0 | n => n, fun | n => n⟩
theorem Tryd.lays2_23 : Go.Proofs.Lays2.n23 Tryd.prog Tryd.lays2_23_ren := {
 mixed := by kernel_rfl
 f23 := Tryd.func76.trans (congrArg some (by kernel_rfl))
 t0 := Tryd.underlying0
 a0 := Tryd.isAgg0
 z0 := Tryd.sizeOf0
 v0 := Tryd.zeroValue0
 t3 := Tryd.underlying3
 a3 := Tryd.isAgg3
 z3 := Tryd.sizeOf3
 v3 := Tryd.zeroValue3
 t4 := Tryd.underlying4
 a4 := Tryd.isAgg4
 z4 := Tryd.sizeOf4
 v4 := Tryd.zeroValue4
 t22 := Tryd.underlying36
 a22 := Tryd.isAgg36
 z22 := Tryd.sizeOf36
 v22 := Tryd.zeroValue36
 i3 := by kernel_rfl }
open Go.RowKit Go.Sort in
theorem Tryd.slices_Delete_int (blk off cap i j : Nat) (zs : List Int) (w : World) (hH : Go.Sort.Holds (Value.int .i64) w blk off zs.toArray) (hcap : zs.length ≤ cap) (hm : cap ≤ 9223372036854775807) (hij : i ≤ j) (hj : j ≤ zs.length) :
  Calls Tryd.prog 76 #[.slice (some ⟨blk, off, none⟩) zs.length cap, .int .i64 i, .int .i64 j] w fun e w' => e = .returned (.slice (some ⟨blk, off, none⟩) (zs.length - (j - i)) cap) ∧ ∃ q, w' = putRow (Value.int .i64) (Go.Sort.ahead w q) blk off (zs.take i ++ zs.drop j ++ List.replicate (j - i) 0).toArray := Any.slices_Delete_int Tryd.lays2_23 blk off cap i j zs w hH hcap hm hij hj
end Go.Proofs
namespace Go.Proofs.YtgdomnlkafcddaaDoor.Q
open Go.RowKit Go.Proofs.YtgdomnlkafcddaaDoorW.PrintWords Go.Proofs.YtgdomnlkafcddaaDoorW.PrintLast Go.Proofs.YtgdomnlkafcddaaDoorW.PrintMore
def slices_Clone.f (l0 : List Int) : Option (List Int) := if l0.length * 8 ≤ 140737488355328 then some l0 else none
theorem slices_Clone.calls (A0 : Option Addr) (c0 : Nat) (l0 : List Int) (r : List Int) (w : World) (hr0 : Kd.C (Kd.int .i64) w A0 l0.length l0) (h : slices_Clone.f l0 = some r) :
  Calls Tryd.prog 75 #[.slice A0 l0.length c0] w fun e w' => ∃ v0_ : Value, e = .returned v0_ ∧ Kd.R (Kd.int .i64) 3 w' w.heap.size (fun _ => True) v0_ r ∧ Below w.heap.size w w' := by
 unfold slices_Clone.f at h
 split at h
 case isFalse => cases h
 rename_i hb
 obtain rfl := Option.some.inj h
 cases A0 with
 | none =>
  have h0 : l0 = [] := by
   cases l0 with
   | nil => rfl
   | cons x r =>
    obtain ⟨ad, e, _⟩ := Kd.at_int hr0 0 (Int.le_refl 0) (by simp)
    cases e
  subst h0
  refine (Tryd.slices_Clone_int_nil 0 c0 w).mono ?_
  rintro e w' ⟨rfl, rfl⟩
  exact ⟨_, rfl, Kd.R_nil _ _ _ _ _, Below.refl _ _⟩
 | some ad =>
  by_cases h0 : l0.length = 0
  ·obtain rfl := List.length_eq_zero_iff.1 h0
   refine (Tryd.slices_Clone_int_zero ad c0 w).mono ?_
   rintro e w' ⟨v', rfl, ho, _, hb'⟩
   exact ⟨v', rfl, Kd.R_of_own (enc := Value.int .i64) (xs := []) ho (fun _ _ => trivial), hb'⟩
  ·have hall : ∀ j, j < l0.length → w.cell? (ad.add j) = some (.int .i64 (l0.getD j 0)) := by
    intro j hj
    obtain ⟨ad', e, hc'⟩ := Kd.at_int hr0 (j : Int) (by omega) (by omega)
    injection e with e
    subst e
    rw [Int.toNat_natCast] at hc'
    rw [hc']
    simp [rd]
   obtain ⟨bk, o, sp⟩ := ad
   have hs : sp = none := by
    have h1 := hall 0 (by omega)
    simp only [Addr.add, if_true, World.cell?] at h1
    cases sp with
    | none => rfl
    | some s => split at h1 <;> simp at h1
   subst hs
   refine (Tryd.slices_Clone_int bk o l0.length c0 l0 w (Nat.le_refl _) hb (fun j hj => ?_)).mono ?_
   ·have h1 := hall j hj
    unfold Addr.add at h1
    split at h1
    ·rename_i hj0
     subst hj0
     simpa using h1
    ·exact h1
   ·rintro e w' ⟨v', rfl, ho, _, hb'⟩
    rw [List.take_length] at ho
    exact ⟨v', rfl, Kd.R_of_own (enc := Value.int .i64) ho (fun _ _ => trivial), hb'⟩
end Go.Proofs.YtgdomnlkafcddaaDoor.Q
namespace Go.Proofs.YtgdomnlkafcddaaDoor.Q
open Go.RowKit Go.Proofs.YtgdomnlkafcddaaDoorW.PrintWords Go.Proofs.YtgdomnlkafcddaaDoorW.PrintLast Go.Proofs.YtgdomnlkafcddaaDoorW.PrintMore
set_option linter.unusedVariables false
set_option linter.unusedSimpArgs false
set_option maxHeartbeats 8000000 in
set_option maxRecDepth 100000 in
theorem rose_with.calls (bt : Nat) (A : Option Addr) (c : Nat) (l : List Int) (w : World) (hbt : w.heap[bt]? = some (Obj.cells #[.slice A l.length c] 36 (0, 0))) (hr : Kd.C (Kd.int .i64) w A l.length l) (hb : l.length * 8 ≤ 140737488355328) (i x : Int) (h0 : 0 ≤ i) (h1 : i < (l.length : Int)) :
  Calls Tryd.prog 74 #[.int .i64 i, .int .i64 x, .pointer (some ⟨bt, 0, none⟩)] w fun e w' => ∃ v, e = .returned v ∧ Kd.R (Kd.int .i64) 3 w' w.heap.size (fun _ => True) v (l.set i.toNat x) ∧ Below w.heap.size w w' := by
 have hcb : w.cell? ⟨bt, 0, none⟩ = some (.slice A l.length c) := (blk_cell hbt 0).trans rfl
 have HR := Aside0.mk hr
 have hcl : slices_Clone.f l = some l := by simp [slices_Clone.f, hb]
 have HCL := Aside0.mk hcl
 have p0 := eq_true h0
 have p1 := eq_true h1
 clear hr hcl
 go_enter Tryd.func74, Tryd.ntmps74
 go_wp2_with (first | ((with_reducible refine gate_callee (f := 75) rfl ?_); refine goesL_ (some 8) rfl rfl Tryd.func75 (by kernel_rfl) rfl #[.slice A l.length c] rfl (by (try simp only [List.map_toArray, List.map_cons, List.map_nil]); first | done | rfl) ?_; (with_reducible refine (slices_Clone.calls A c l l _ HR.out HCL.out).mono ?_); rintro e w1 ⟨v, rfl, ho, hb1⟩; refine ⟨_, rfl, ?_⟩; obtain ⟨go, co, eo, gb, gl, cl, HG⟩ := Kd.R_form ho (by omega); subst eo; obtain ⟨hx0, hf0⟩ := Kd.R_celln 0 ho i h0 h1; have HP := Aside0.mk (Kd.R_putg ho i x); have GB := Aside0.mk gb; have HB := Aside0.mk hb1; clear ho hb1 gb gl cl HG))
 go_ret
 exact ⟨_, rfl, HP.out.1, below_set HB.out GB.out⟩
end Go.Proofs.YtgdomnlkafcddaaDoor.Q
namespace Go.Proofs.YtgdomnlkafcddaaDoor.Q
open Go.RowKit Go.Proofs.YtgdomnlkafcddaaDoorW.PrintWords Go.Proofs.YtgdomnlkafcddaaDoorW.PrintLast Go.Proofs.YtgdomnlkafcddaaDoorW.PrintMore
theorem heap_putRow {α : Type} [Inhabited α] (enc : α → Value) (w : World) (blk off : Nat) (d : Array α) {cur : Array Value} {e : TypeId} {fr : Nat × Nat} (h : w.heap[blk]? = some (Obj.cells cur e fr)) :
  (Sort.putRow enc w blk off d).heap[blk]? = some (Obj.cells (Sort.putCells enc off d cur) e fr) := by
 unfold Sort.putRow Sort.mapBlock
 simp only [Array.getElem?_modify, if_true, h, Option.map_some, Sort.onCells]
theorem heap_putRow_far {α : Type} [Inhabited α] (enc : α → Value) (w : World) (blk off : Nat) (d : Array α) (k : Nat) (h : k ≠ blk) : (Sort.putRow enc w blk off d).heap[k]? = w.heap[k]? := by
 unfold Sort.putRow Sort.mapBlock
 simp only [Array.getElem?_modify]
 rw [if_neg (fun e => h e.symm)]
theorem slices_Delete.calls (v : Value) (xs : List Int) (i j : Nat) (w : World) (base : Nat) (ok : Nat → Prop) (HO : Kd.R (Kd.int .i64) 3 w base ok v xs) (hij : i < j) (hj : j ≤ xs.length) :
  Calls Tryd.prog 76 #[v, .int .i64 i, .int .i64 j] w fun e w' => ∃ v', e = .returned v' ∧ Kd.R (Kd.int .i64) 3 w' base ok v' (xs.take i ++ xs.drop j) ∧ v'.ownBlock = v.ownBlock ∧ w.grownBy w' v.ownBlock := by
 have ho := Kd.own_of_R HO
 obtain ⟨hlen, hor⟩ := ho
 rcases hor with ⟨_, hn⟩ | ⟨g, cap, cur, rfl, hb, hh, hnc, hcm, hcs, htk⟩
 ·omega
 rw [Nat.mul_one] at htk hcs
 have hcell : ∀ q, q < xs.length → cur[q]? = some (Value.int .i64 (xs.getD q 0)) := by
  intro q hq
  have h1 : (cur.toList.take xs.length)[q]? = (encs (Value.int .i64) xs)[q]? := by rw [htk]
  rw [List.getElem?_take, if_pos hq, Array.getElem?_toList] at h1
  rw [h1]
  simp [encs, hq]
 have hH : Sort.Holds (Value.int .i64) w g 0 xs.toArray := by
  intro q hq
  have hq' : q < xs.length := by simpa using hq
  refine ⟨?_, blk_frozen hh _⟩
  rw [Nat.zero_add, blk_cell hh q, hcell q hq']
  simp [hq']
 refine (Tryd.slices_Delete_int g 0 cap i j xs w hH hnc (Nat.le_trans hcm (by decide)) (Nat.le_of_lt hij) hj).mono ?_
 rintro e w' ⟨rfl, q, rfl⟩
 have hD : (xs.take i ++ xs.drop j).length = xs.length - (j - i) := by simp; omega
 refine ⟨_, rfl, Kd.R_of_own (enc := Value.int .i64) ?_ (fun k hk => HO.1 k hk), rfl, ?_⟩
 ·refine ⟨by simp [encs], .inr ⟨g, cap, _, by rw [hD], hb, heap_putRow _ _ g 0 _ (show (Sort.ahead w q).heap[g]? = _ from hh), by omega, hcm, by simp [Sort.putCells, hcs], ?_⟩⟩
  apply List.ext_getElem?
  intro p
  rw [Nat.mul_one, List.getElem?_take]
  split
  ·rename_i hp
   have hp2 : p < xs.length := by omega
   rw [Array.getElem?_toList]
   simp only [Sort.putCells, Array.getElem?_mapIdx, hcell p hp2, Option.map_some, encs, List.getElem?_map]
   have hsz : p < (xs.take i ++ xs.drop j ++ List.replicate (j - i) (0 : Int)).toArray.size := by simp; omega
   rw [if_pos ⟨Nat.zero_le _, by omega⟩, Nat.sub_zero]
   have e1 : (xs.take i ++ xs.drop j ++ List.replicate (j - i) (0 : Int))[p]'(by simpa using hsz) = (xs.take i ++ xs.drop j)[p] := List.getElem_append_left hp
   rw [getElem!_pos _ p hsz, List.getElem_toArray, e1, List.getElem?_eq_getElem hp]
   rfl
  ·rename_i hp
   rw [List.getElem?_eq_none]
   simp [encs]
   omega
 ·refine ⟨rfl, rfl, rfl, by simp [Sort.putRow, Sort.mapBlock, Sort.ahead], fun k hk hne => heap_putRow_far _ _ g 0 _ k (fun e => hne (by rw [e]; rfl))⟩
end Go.Proofs.YtgdomnlkafcddaaDoor.Q
namespace Go.Proofs.YtgdomnlkafcddaaDoor.Q
open Go.RowKit Go.Proofs.YtgdomnlkafcddaaDoorW.PrintWords Go.Proofs.YtgdomnlkafcddaaDoorW.PrintLast Go.Proofs.YtgdomnlkafcddaaDoorW.PrintMore
set_option linter.unusedVariables false
set_option linter.unusedSimpArgs false
def rose_tries (l : List Int) (i : Nat) : List (List Int) := if 0 < rd l (i : Int) then [l.set i 0, l.set i (wrap64 ((rd l (i : Int)).tdiv 2)), l.set i (wrap64 (rd l (i : Int) - 1))] else []
def rose_ms (l : List Int) (i : Nat) : List (List Int) := rose_tries l i ++ [l.take i ++ l.drop (i + 1)]
noncomputable def rose_in (k : Nat) (a0 a1 a2 : Int) (l3 : List S63) (l : List Int) : List (List Int) → List (List Int) → Option (Option Int × List (List Int))
 | [], out => some (none, out)
 | m :: ms, out => (rose_try k a0 a1 a2 l3 l m out).bind fun r => match r.1 with
  | some c => some (some c, r.2)
  | none => rose_in k a0 a1 a2 l3 l ms r.2
noncomputable def rose_out (k : Nat) (a0 a1 a2 : Int) (l3 : List S63) (l : List Int) : Nat → Nat → List (List Int) → Option (Option Int × List (List Int))
 | 0, _, out => some (none, out)
 | n + 1, i, out => (rose_in k a0 a1 a2 l3 l (rose_ms l i) out).bind fun r => match r.1 with
  | some c => some (some c, r.2)
  | none => rose_out k a0 a1 a2 l3 l n (i + 1) r.2
noncomputable def rose_Less.g (k : Nat) (a0 a1 a2 : Int) (l3 : List S63) (l : List Int) : Option (List (List Int) × Option Int) :=
 (gen_Replay.f a0 a1 a2 l3 l).bind fun r => match r.2.2.2 with
  | some c => some ([], some c)
  | none => if l.length < 1000000000000 then ((rose_out k a0 a1 a2 l3 l l.length 0 []).bind fun r => match r.1 with
   | some c => some ([], some c)
   | none => some (r.2, none)) else none
noncomputable def rose_Less.f (a0 a1 a2 : Int) (l3 : List S63) (l : List Int) : Option (List (List Int) × Option Int) := Olim fun k => rose_Less.g k a0 a1 a2 l3 l
/-- What holds of the told tapes while more are tried; w: the world when the variable for them is made. -/
structure RoseS (w w' : World) (bo : Nat) (ov : Value) (out : List (List Int)) : Prop where
 o : w'.heap[bo]? = some (Obj.cells #[ov] 49 (0, 0))
 s : Kd.S (Kd.slice 3 (Kd.int .i64)) 36 w' w.heap.size (fun _ => True) ov out
 b : Below w.heap.size w w'
 ge : w.heap.size ≤ bo
section
variable {w w' w1 : World} {bo : Nat} {ov : Value} {out : List (List Int)}
theorem RoseS.step (h : RoseS w w' bo ov out) (hb : Below w'.heap.size w' w1) : RoseS w w1 bo ov out :=
 ⟨blk_below h.o hb, Kd.S_below h.s hb, below_step h.b hb, h.ge⟩
theorem RoseS.tried (h : RoseS w w' bo ov out) {r2 : List (List Int)} (ht : TryPost w w' bo ov w1 r2) : ∃ ov', RoseS w w1 bo ov' r2 ∧
  ∀ {α : Type} {d : Kd α} {e : Nat} {v : Value} {xs : List α}, d.R e w' w.heap.size (fun k => k ≠ bo ∧ some k ≠ ov.ownBlock) v xs → d.R e w1 w.heap.size (fun k => k ≠ bo ∧ some k ≠ ov'.ownBlock) v xs := by
 obtain ⟨ov', h1, h2, h3, h4, h5⟩ := ht
 refine ⟨ov', ⟨h1, h2, h5, h.ge⟩, fun hR => ?_⟩
 refine Kd.R_mono (Kd.R_move (Kd.R_bound hR) (fun k hk => h3.2 k hk.2.2.1 hk.1.1 hk.1.2)) (fun k hk => ⟨hk.1.1, ?_⟩)
 rcases h4 with h4 | ⟨b, hb, hle⟩
 ·rw [h4]; exact hk.1.2
 ·rw [hb]
  intro he
  injection he with he
  have := hk.2.2.1
  omega
theorem below_none {w w1 : World} (h : w.grownBy w1 none) : Below w.heap.size w w1 := ⟨h.os, h.tape, h.output, h.size, fun i hi => h.block i hi (by simp)⟩
/-- What is made in the round is apart from the told tapes. -/
theorem RoseS.apart (h : RoseS w w' bo ov out) {α : Type} {d : Kd α} {e : Nat} {v : Value} {xs : List α} (hR : d.R e w1 w.heap.size (fun k => w'.heap.size ≤ k) v xs) : d.R e w1 w.heap.size (fun k => k ≠ bo ∧ some k ≠ ov.ownBlock) v xs :=
 Kd.R_mono hR (fun k hk => ⟨by have := blk_lt h.o; omega, fun he => by have := Kd.S_lt h.s k he.symm; omega⟩)
end
def RoseT (wS wr wc : World) (v : Value) (ts : List (List Int)) : Prop :=
 Below wr.heap.size wr wc ∧ Kd.R (Kd.slice 3 (Kd.int .i64)) 36 wc wS.heap.size (fun k => wr.heap.size ≤ k) v ts
set_option maxHeartbeats 8000000 in
set_option maxRecDepth 100000 in
theorem rose_Less.calls (a0 a1 a2 : Int) (A3 : Option Addr) (c3 : Nat) (l3 : List S63) (A : Option Addr) (c : Nat) (l : List Int) (r1 : List (List Int)) (r2 : Option Int) (w : World)
  (hr3 : Kd.C k63 w A3 l3.length l3) (hc3 : l3.length ≤ c3) (hr : Kd.C (Kd.int .i64) w A l.length l) (hc : l.length ≤ c) (h : rose_Less.f a0 a1 a2 l3 l = some (r1, r2)) :
  Calls Tryd.prog 33 #[.agg #[.int .i64 a0, .int .i64 a1, .int .i64 a2, .slice A3 l3.length c3], .slice A l.length c] w fun e w' => ∃ v : Value, e = .returned (.tuple #[v, errW r2]) ∧ Kd.S (Kd.slice 3 (Kd.int .i64)) 36 w' w.heap.size (fun _ => True) v r1 ∧ Below w.heap.size w w' := by
 obtain ⟨k, h⟩ := Olim_some h
 unfold rose_Less.g at h
 have hu63 := Tryd.underlying63
 have hu30 := Tryd.underlying30
 have hmf : ∀ (fn : Fn) (first cap : Array Value) (w : World), (Instr.makeFunc fn first cap).run Tryd.prog w = .ok (.func fn first cap) w := fun _ _ _ _ => rfl
 obtain ⟨⟨t1, t2, t3, t4⟩, hA, h⟩ := Option.bind_eq_some_iff.mp h
 have A1 := Aside0.mk hA
 clear hA
 have HR3 := Aside0.mk hr3
 have HR := Aside0.mk hr
 have HC := Aside0.mk hc
 have HC3 := Aside0.mk hc3
 clear hr3 hr hc hc3
 rcases t4 with _ | q
 ·dsimp only at h
  split at h
  case isFalse => cases h
  rename_i hlen
  obtain ⟨⟨e1, o1⟩, hO, h⟩ := Option.bind_eq_some_iff.mp h
  have HO := Aside0.mk hO
  have HL := Aside0.mk hlen
  have HH := Aside0.mk h
  clear hO hlen h
  go_enter Tryd.func33, Tryd.ntmps33
  go_wp2_with (first
   | ((with_reducible refine gate_dst (N := 2) rfl ?_); refine box_event ?hg (N := 2) ?hd (cs := #[.int .i64 a0, .int .i64 a1, .int .i64 a2, .slice A3 l3.length c3]) (t := 63) ?hr ?_; (case hd => rfl); (case hg => rfl); (case hr => first | (go_simp; done) | (go_simp; rfl)); intro g2 hg2 w2 hbox hb; have BA := Aside0.mk hbox; have HB := Aside0.mk hb; clear hbox hb hg2)
   | ((with_reducible refine gate_dst (N := 3) rfl ?_); refine box_event ?hg (N := 3) ?hd (cs := #[.slice A l.length c]) (t := 36) ?hr ?_; (case hd => rfl); (case hg => rfl); (case hr => first | (go_simp; done) | (go_simp; rfl)); intro g3 hg3 w3 hbox hb; have BA1 := Aside0.mk (blk_below BA.out hb); have BT := Aside0.mk hbox; have HB1 := Aside0.mk (below_step HB.out hb); clear BA HB hbox hb hg3; have ha0 : w3.cell? ⟨g2, 0, none⟩ = some (.int .i64 a0) := (blk_cell BA1.out 0).trans rfl; have ha1 : w3.cell? ⟨g2, 1, none⟩ = some (.int .i64 a1) := (blk_cell BA1.out 1).trans rfl; have ha2 : w3.cell? ⟨g2, 2, none⟩ = some (.int .i64 a2) := (blk_cell BA1.out 2).trans rfl; have ha3 : w3.cell? ⟨g2, 3, none⟩ = some (.slice A3 l3.length c3) := (blk_cell BA1.out 3).trans rfl; have hl0 : w3.cell? ⟨g3, 0, none⟩ = some (.slice A l.length c) := (blk_cell BT.out 0).trans rfl)
   | ((with_reducible refine gate_callee (f := 44) rfl ?_); refine goesL_ (some 20) rfl rfl Tryd.func44 (by kernel_rfl) rfl #[.agg #[.int .i64 a0, .int .i64 a1, .int .i64 a2, .slice A3 l3.length c3], .slice A l.length c] rfl (by (try simp only [List.map_toArray, List.map_cons, List.map_nil]); first | done | rfl) ?_; (with_reducible refine (gen_Replay.calls a0 a1 a2 _ _ l3 _ _ l t1 t2 t3 none _ (Kd.C_below HR3.out HB1.out) HC3.out (Kd.C_below HR.out HB1.out) HC.out A1.out).mono ?_); rintro e w4 ⟨v4, rfl, ho, hb⟩; refine ⟨_, rfl, ?_⟩; have BA2 := Aside0.mk (blk_below BA1.out hb); have BT2 := Aside0.mk (blk_below BT.out hb); have HB2 := Aside0.mk (below_step HB1.out hb); obtain ⟨Ar, cr, er⟩ := Kd.R_slice ho; subst er; clear BA1 BT HB1 ho hb; (try simp only [errW_none, errW_some]))
   | ((with_reducible refine gate_dst (N := 6) rfl ?_); refine box_event ?hg (N := 6) ?hd (cs := #[.bool false, .int .i64 0, .slice none 0 0]) (t := 27) ?hr ?_; (case hd => rfl); (case hg => rfl); (case hr => first | (go_simp; done) | (go_simp; rfl)); intro g6 hg6 w6 hbox hb; have BA3 := Aside0.mk (blk_below BA2.out hb); have BT3 := Aside0.mk (blk_below BT2.out hb); have BV := Aside0.mk hbox; have HB3 := Aside0.mk (below_step HB2.out hb); have GV := Aside0.mk (hg6 ▸ HB2.out.size : w.heap.size ≤ g6); have hf60 := blk_frozen hbox 0; have hf61 := blk_frozen hbox 1; have hf62 := blk_frozen hbox 2; have hv60 : w6.cell? ⟨g6, 0, none⟩ = some (.bool false) := (blk_cell hbox 0).trans rfl; have hv61 : w6.cell? ⟨g6, 1, none⟩ = some (.int .i64 0) := (blk_cell hbox 1).trans rfl; have hv62 : w6.cell? ⟨g6, 2, none⟩ = some (.slice none 0 0) := (blk_cell hbox 2).trans rfl; clear BA2 BT2 HB2 hbox hb hg6)
   | ((with_reducible refine gate_dst (N := 8) rfl ?_); refine box_event ?hg (N := 8) ?hd (cs := #[.slice none 0 0]) (t := 49) ?hr ?_; (case hd => rfl); (case hg => rfl); (case hr => first | (go_simp; done) | (go_simp; rfl)); intro g8 hg8 w8 hbox hb; have n2 : g2 ≠ g6 := blk_ne BA3.out BV.out (by decide); have n3 : g3 ≠ g6 := blk_ne BT3.out BV.out (by decide); obtain ⟨wS, hbS, hgS, hwS, hS2, hS3⟩ : ∃ W : World, Below W.heap.size W w8 ∧ g8 = W.heap.size ∧ Below w.heap.size w W ∧ W.heap[g2]? = some (Obj.cells #[.int .i64 a0, .int .i64 a1, .int .i64 a2, .slice A3 l3.length c3] 63 (0, 0)) ∧ W.heap[g3]? = some (Obj.cells #[.slice A l.length c] 36 (0, 0)) := ⟨_, hb, hg8, below_set (below_set (below_set HB3.out GV.out) GV.out) GV.out, blk_far (blk_far (blk_far BA3.out n2 _) n2 _) n2 _, blk_far (blk_far (blk_far BT3.out n3 _) n3 _) n3 _⟩; have HS := Aside0.mk (show RoseS wS w8 g8 (.slice none 0 0) [] from ⟨hbox, Kd.S_nil _ _ _ _ _, hbS, Nat.le_of_eq hgS.symm⟩); have HW := Aside0.mk hwS; have HG := Aside0.mk hS2; have HT := Aside0.mk hS3; have hl8 : w8.cell? ⟨g3, 0, none⟩ = some (.slice A l.length c) := (blk_cell (blk_below hS3 hbS) 0).trans rfl; clear n2 n3 hbS hgS hwS hS2 hS3 hb hg8 hbox BA3 BT3 BV HB3 GV))
  have HRS := Aside0.mk (Kd.C_below HR.out HW.out)
  have HRS3 := Aside0.mk (Kd.C_below HR3.out HW.out)
  have HIN := Aside0.mk (show l.length * 8 ≤ 140737488355328 by have := HL.out; omega)
  have hlb : l.length ≤ 1000000000000 := Nat.le_of_lt HL.out
  go_loopg [30] l.length (fun kq v30 w' => ∃ (i : Nat) (ov : Value) (out : List (List Int)), v30 = .int .i64 (i : Int) ∧ Aside0 (i + kq = l.length) ∧ Aside0 (rose_out k a0 a1 a2 l3 l kq i out = some (e1, o1)) ∧ Aside0 (RoseS wS w' g8 ov out))
  case atStart => exact ⟨0, _, [], rfl, ⟨Nat.zero_add _⟩, HO, HS⟩
  case round =>
   clear HO HS A1
   obtain ⟨i, ov, out, rfl, HI, HO, HS⟩ := hrel
   cases gk with
   | zero =>
    have hge : decide ((i : Int) < (l.length : Int)) = false := decide_eq_false (by have := HI.out; omega)
    have hgn : decide (i < l.length) = false := decide_eq_false (by have := HI.out; omega)
    have h9 := HO.out
    simp only [rose_out, Option.some.injEq, Prod.mk.injEq] at h9
    obtain ⟨rfl, rfl⟩ := h9
    have h8 := HH.out
    simp only [Option.some.injEq, Prod.mk.injEq] at h8
    obtain ⟨rfl, rfl⟩ := h8
    have ho8 : wr.cell? ⟨g8, 0, none⟩ = some ov := (blk_cell HS.out.o 0).trans rfl
    obtain ⟨Aq, cq, eq⟩ := Kd.S_slice HS.out.s
    subst eq
    go_wp2
    go_ret2
    exact ⟨_, rfl, Kd.S_lower HS.out.s HW.out.size, below_step HW.out (HS.out.b)⟩
   | succ kn =>
    have hi : i < l.length := by have := HI.out; omega
    have p0 : 0 ≤ (i : Int) := by omega
    have p1 : (i : Int) < (l.length : Int) := by omega
    have hlt : decide ((i : Int) < (l.length : Int)) = true := decide_eq_true p1
    have hln : decide (i < l.length) = true := decide_eq_true hi
    have P0 := Aside0.mk p0
    have P1 := Aside0.mk p1
    obtain ⟨ad, eA, hx⟩ := Kd.at_int (Kd.C_below HRS.out HS.out.b) (i : Int) p0 p1
    rw [Int.toNat_natCast] at hx
    cases eA
    have hl8 : wr.cell? ⟨g3, 0, none⟩ = some (.slice (some ad) l.length c) := (blk_cell (blk_below HT.out HS.out.b) 0).trans rfl
    obtain ⟨wo, rfl⟩ : ∃ wo : World, wo = wr := ⟨_, rfl⟩
    have q0 := eq_true p0
    have q1 := eq_true p1
    clear p0 p1
    go_upto_if 36 with (fail)
    go_cut [13] (fun v13 wc => Aside0 (RoseT wS wo wc v13 (rose_tries l i)))
    case first =>
     by_cases hx0 : 0 < rd l (i : Int)
     ·have hts : rose_tries l i = [l.set i 0, l.set i (wrap64 ((rd l (i : Int)).tdiv 2)), l.set i (wrap64 (rd l (i : Int) - 1))] := by unfold rose_tries; rw [if_pos hx0]
      have HTS := Aside0.mk hts
      clear hts
      go_wp2_with (first
       | ((with_reducible refine gate_dst (N := 40) rfl ?_); refine goesCL_ (some 40) rfl rfl #[.pointer (some ⟨g3, 0, none⟩)] Tryd.func74 (by kernel_rfl) rfl #[.int .i64 (i : Int), .int .i64 0] rfl (by first | rfl | (go_simp; done)) (by (try simp only [List.map_toArray, List.map_cons, List.map_nil]); first | done | rfl) ?_; refine (rose_with.calls g3 (some ad) c l _ (blk_below HT.out HS.out.b) (Kd.C_below HRS.out HS.out.b) HIN.out (i : Int) 0 P0.out P1.out).mono ?_; rintro e w10 ⟨v10, rfl, ho, hb⟩; refine ⟨_, rfl, ?_⟩; obtain ⟨B10, d10, e10⟩ := Kd.R_slice ho; rw [List.length_set] at e10; subst e10; have HS10 := Aside0.mk (HS.out.step hb); have R10 := Aside0.mk (Kd.R_lower (Kd.R_mono (Kd.R_bound ho) (fun k hk => (hk.2.1 : wo.heap.size ≤ k))) HS.out.b.size); have Z10 := Aside0.mk hb; clear ho hb)
       | ((with_reducible refine gate_dst (N := 45) rfl ?_); refine goesCL_ (some 45) rfl rfl #[.pointer (some ⟨g3, 0, none⟩)] Tryd.func74 (by kernel_rfl) rfl #[.int .i64 (i : Int), .int .i64 (wrap64 ((rd l (i : Int)).tdiv 2))] rfl (by first | rfl | (go_simp; done)) (by (try simp only [List.map_toArray, List.map_cons, List.map_nil]); first | done | rfl) ?_; refine (rose_with.calls g3 (some ad) c l _ (blk_below HT.out HS10.out.b) (Kd.C_below HRS.out HS10.out.b) HIN.out (i : Int) _ P0.out P1.out).mono ?_; rintro e w11 ⟨v11, rfl, ho, hb⟩; refine ⟨_, rfl, ?_⟩; obtain ⟨B11, d11, e11⟩ := Kd.R_slice ho; rw [List.length_set] at e11; subst e11; have HS11 := Aside0.mk (HS10.out.step hb); have R11 := Aside0.mk (Kd.R_lower (Kd.R_mono (Kd.R_bound ho) (fun k hk => (Nat.le_trans Z10.out.size hk.2.1 : wo.heap.size ≤ k))) HS10.out.b.size); have R10' := Aside0.mk (Kd.R_below R10.out hb); have Z11 := Aside0.mk (below_step Z10.out hb); clear ho hb HS10 R10 Z10)
       | ((with_reducible refine gate_dst (N := 50) rfl ?_); refine goesCL_ (some 50) rfl rfl #[.pointer (some ⟨g3, 0, none⟩)] Tryd.func74 (by kernel_rfl) rfl #[.int .i64 (i : Int), .int .i64 (wrap64 (rd l (i : Int) - 1))] rfl (by first | rfl | (go_simp; done)) (by (try simp only [List.map_toArray, List.map_cons, List.map_nil]); first | done | rfl) ?_; refine (rose_with.calls g3 (some ad) c l _ (blk_below HT.out HS11.out.b) (Kd.C_below HRS.out HS11.out.b) HIN.out (i : Int) _ P0.out P1.out).mono ?_; rintro e w12 ⟨v12, rfl, ho, hb⟩; refine ⟨_, rfl, ?_⟩; obtain ⟨B12, d12, e12⟩ := Kd.R_slice ho; rw [List.length_set] at e12; subst e12; have HS12 := Aside0.mk (HS11.out.step hb); have R12 := Aside0.mk (Kd.R_lower (Kd.R_mono (Kd.R_bound ho) (fun k hk => (Nat.le_trans Z11.out.size hk.2.1 : wo.heap.size ≤ k))) HS11.out.b.size); have R11' := Aside0.mk (Kd.R_below R11.out hb); have R10 := Aside0.mk (Kd.R_below R10'.out hb); have Z12 := Aside0.mk (below_step Z11.out hb); clear ho hb HS11 R11 R10' Z11)
       | ((with_reducible refine gate_dst (N := 51) rfl ?_); refine Kd.R_lit (Kd.slice 3 (Kd.int .i64)) (w0 := wS) wS.heap.size 36 ?hg (N := 51) ?hd (xs := [l.set i 0, l.set i (wrap64 ((rd l (i : Int)).tdiv 2)), l.set i (wrap64 (rd l (i : Int) - 1))]) (inner := [.slice B10 l.length d10, .slice B11 l.length d11, .slice B12 l.length d12]) (ok := fun k => wo.heap.size ≤ k) (okp := fun k => wo.heap.size ≤ k) ?hr ?hp (fun _ hk => hk) Z12.out.size HS12.out.b HS12.out.b.size (by simp) ?_; (case hd => rfl); (case hg => rfl); (case hr => first | (go_simp; done) | (go_simp; rfl)); (case hp => exact Reps.one (Kd.M_row R10.out) (Reps.one (Kd.M_row R11'.out) (Reps.one (Kd.M_row R12.out) (Reps.none _ _)))); intro v13 w13 ho hb hg hnew; have HS13 := Aside0.mk (HS12.out.step (below_none hg)); have Z13 := Aside0.mk (below_step Z12.out (below_none hg)); obtain ⟨h0, inner, hown, hrep⟩ := ho; obtain ⟨Aq, cq, eq, hread⟩ := own_reads_row hown hrep rfl; subst eq; have RD := Aside0.mk hread; clear h0 inner hown hrep hread hb hg hnew HS12 Z12 R10 R11' R12)
       | ((with_reducible refine gate_builtin (b := .append) (xs := #[.tmp 37, .tmp 51]) rfl ?_); at_builtin; refine Kd.R_append_rows (Kd.slice 3 (Kd.int .i64)) (Rr := fun x cs => (Kd.slice 3 (Kd.int .i64)).M w13 wS.heap.size (fun k => (wo.heap.size ≤ k) ∧ some k ≠ (Value.slice Aq 3 cq).ownBlock) x cs) (w0 := wS) wS.heap.size rfl (.tmp 37) (.tmp 51) 49 36 (.slice none 0 0) 24 rfl Tryd.underlying49 info36 rfl (by decide) (by omega) (.slice none 0 0) [] [l.set i 0, l.set i (wrap64 ((rd l (i : Int)).tdiv 2)), l.set i (wrap64 (rd l (i : Int) - 1))] Aq 3 cq (fun k => wo.heap.size ≤ k) (fun k => (wo.heap.size ≤ k) ∧ some k ≠ (Value.slice Aq 3 cq).ownBlock) rfl rfl (Kd.R_nil _ _ _ _ _) RD.out (fun _ _ hk => hk) (fun k hk => ⟨hk.1, by simp [Value.ownBlock]⟩) (fun k hk => Nat.le_trans Z13.out.size hk) HS13.out.b HS13.out.b.size (by simp) ?_; intro v14 w14 ho hb hg hat; have HS14 := Aside0.mk (HS13.out.step (below_none hg)); have R14 := Aside0.mk ho; have Z14 := Aside0.mk (below_step Z13.out (below_none hg)); clear ho hb hg hat HS13 Z13 RD))
      go_meet
      case rel => exact ⟨Z14.out, by rw [HTS.out]; exact R14.out⟩
     ·have hts : rose_tries l i = [] := by unfold rose_tries; rw [if_neg hx0]
      have HTS := Aside0.mk hts
      have hxf : decide (0 < rd l (i : Int)) = false := decide_eq_false hx0
      clear hts
      go_wp2
      go_meet
      case rel => exact ⟨Below.refl _ _, by rw [HTS.out]; exact Kd.R_nil _ _ _ _ _⟩
    case rest =>
     obtain ⟨hz, hr2⟩ := hcut.out
     obtain ⟨B13, d13, e13⟩ := Kd.R_slice hr2
     subst e13
     have HR2 := Aside0.mk hr2
     have Z2 := Aside0.mk hz
     have hl9 : wc.cell? ⟨g3, 0, none⟩ = some (.slice (some ad) l.length c) := (blk_cell (blk_below (blk_below HT.out HS.out.b) hz) 0).trans rfl
     clear hr2 hz hcut
     have hcl : slices_Clone.f l = some l := by simp [slices_Clone.f, HIN.out]
     have HCL := Aside0.mk hcl
     clear hcl
     obtain ⟨dl, hdl⟩ : ∃ dl : List Int, dl = l.take i ++ l.drop (i + 1) := ⟨_, rfl⟩
     have HDL := Aside0.mk hdl
     clear hdl
     obtain ⟨ms, hms⟩ : ∃ ms : List (List Int), ms = rose_ms l i := ⟨_, rfl⟩
     have HMS := Aside0.mk hms
     clear hms
     have HTL := Aside0.mk (show (rose_tries l i).length ≤ 3 by unfold rose_tries; split <;> simp)
     have HII := Aside0.mk hi
     go_wp2_with (first
      | ((with_reducible refine gate_callee (f := 75) rfl ?_); refine goesL_ (some 55) rfl rfl Tryd.func75 (by kernel_rfl) rfl #[.slice (some ad) l.length c] rfl (by (try simp only [List.map_toArray, List.map_cons, List.map_nil]); first | done | rfl) ?_; (with_reducible refine (slices_Clone.calls _ c l l _ (Kd.C_below HRS.out (below_step HS.out.b Z2.out)) HCL.out).mono ?_); rintro e w15 ⟨v15, rfl, ho, hb⟩; refine ⟨_, rfl, ?_⟩; have HB15 := Aside0.mk hb; have RC := Aside0.mk ho; clear ho hb)
      | ((with_reducible refine gate_callee (f := 76) rfl ?_); refine goesL_ (some 59) rfl rfl Tryd.func76 (by kernel_rfl) rfl #[v15, .int .i64 (i : Int), .int .i64 ((i : Int) + 1)] rfl (by (try simp only [List.map_toArray, List.map_cons, List.map_nil]); first | done | rfl) ?_; refine calls_of_args (show (#[v15, .int .i64 (i : Int), .int .i64 ((i : Int) + 1)] : Array Value) = #[v15, .int .i64 ((i : Nat) : Int), .int .i64 (((i + 1 : Nat)) : Int)] by simp) ?_; refine (slices_Delete.calls v15 l i (i + 1) _ _ _ RC.out (Nat.lt_succ_self i) HII.out).mono ?_; rintro e w16 ⟨v16, rfl, hR, hO, hg⟩; refine ⟨_, rfl, ?_⟩; rw [← HDL.out] at hR; have HB16 := Aside0.mk (HB15.out.grown hg HB15.out.size (Kd.R_base RC.out)); have R16 := Aside0.mk hR; obtain ⟨B16, d16, e16⟩ := Kd.R_slice hR; subst e16; clear hR hO hg HB15 RC)
      | ((with_reducible refine gate_builtin (b := .append) (xs := #[.tmp 53, .tmp 60]) rfl ?_); at_builtin; refine Kd.R_append (Kd.slice 3 (Kd.int .i64)) (w0 := wS) wS.heap.size rfl (.tmp 53) (.tmp 60) 49 36 (.slice none 0 0) 24 rfl Tryd.underlying49 info36 rfl (by decide) (by omega) (.slice B13 (rose_tries l i).length d13) (rose_tries l i) dl [.slice B16 dl.length d16] (fun k => wo.heap.size ≤ k) (fun k => some k = (Value.slice B16 dl.length d16).ownBlock) rfl rfl ?aP ?aN ?aF ?aO ?aB ?aS ?aL ?_; (case aP => exact Kd.M_row (Kd.R_mono (Kd.R_tight rfl (Kd.R_lower R16.out (Nat.le_trans HS.out.b.size Z2.out.size))) (fun _ h_ => h_))); (case aN => exact (fun k_ hk_ => ⟨Nat.le_trans Z2.out.size (Kd.R_base R16.out k_ hk_.symm), fun e_ => absurd (Kd.R_base R16.out k_ hk_.symm) (Nat.not_le.2 (Kd.R_lt HR2.out k_ e_.symm))⟩)); (case aF => exact (fun k hk => Nat.le_trans (Nat.le_trans Z2.out.size HB16.out.size) hk)); (case aO => exact Kd.R_below HR2.out HB16.out); (case aB => exact below_step (below_step HS.out.b Z2.out) HB16.out); (case aS => exact Nat.le_trans (Nat.le_trans HS.out.b.size Z2.out.size) HB16.out.size); (case aL => have := HTL.out; omega); intro v17 w17 ho hb hg hat; have Z17 := Aside0.mk ((below_step Z2.out HB16.out).grown hg (Nat.le_trans Z2.out.size HB16.out.size) (fun k hk => HR2.out.1 k hk)); have hq : Kd.R (Kd.slice 3 (Kd.int .i64)) 36 w17 wS.heap.size (fun k => wo.heap.size ≤ k) v17 ms := (by rw [HMS.out, rose_ms, ← HDL.out]; exact ho); have R17 := Aside0.mk hq; obtain ⟨B17, d17, e17⟩ := Kd.R_slice hq; subst e17; clear hq ho hb hg hat HR2 R16 HB16 Z2))
     have HS5 := Aside0.mk (HS.out.step Z17.out)
     have HM5 := Aside0.mk (HS.out.apart R17.out)
     clear HS R17 Z17 hl8 hl9 hx
     have h9 := HO.out
     unfold rose_out at h9
     rw [← HMS.out] at h9
     have HN := Aside0.mk (show (rose_in k a0 a1 a2 l3 l (ms.drop 0) out).bind (fun r => match r.1 with | some c => some (some c, r.2) | none => rose_out k a0 a1 a2 l3 l kn (i + 1) r.2) = some (e1, o1) from h9)
     have HML := Aside0.mk (show ms.length ≤ 4 by rw [HMS.out, rose_ms, List.length_append]; have := HTL.out; simp; omega)
     have hml : ms.length ≤ 4 := HML.out
     clear h9 HO
     go_loopg [63] ms.length (fun kq v63 w' => ∃ (j : Nat) (ov : Value) (out : List (List Int)), v63 = .int .i64 (j : Int) ∧ Aside0 (j + kq = ms.length) ∧ Aside0 ((rose_in k a0 a1 a2 l3 l (ms.drop j) out).bind (fun r => match r.1 with | some c => some (some c, r.2) | none => rose_out k a0 a1 a2 l3 l kn (i + 1) r.2) = some (e1, o1)) ∧ Aside0 (RoseS wS w' g8 ov out) ∧ Aside0 (Kd.R (Kd.slice 3 (Kd.int .i64)) 36 w' wS.heap.size (fun k => k ≠ g8 ∧ some k ≠ ov.ownBlock) (.slice B17 ms.length d17) ms))
     case atStart => exact ⟨0, _, _, rfl, ⟨Nat.zero_add _⟩, HN, HS5, HM5⟩
     case round =>
      clear HN HS5 HM5
      obtain ⟨j, ov, out, rfl, HJ, HN, HS, HM⟩ := hrel
      cases gk with
      | zero =>
       have hge : decide ((j : Int) < (ms.length : Int)) = false := decide_eq_false (by have := HJ.out; omega)
       have hgn : decide (j < ms.length) = false := decide_eq_false (by have := HJ.out; omega)
       have h9 := HN.out
       rw [List.drop_eq_nil_of_le (by have := HJ.out; omega)] at h9
       simp only [rose_in, Option.bind_some] at h9
       have HO := Aside0.mk h9
       clear h9 HN
       go_wp2
       go_roundg kn
       case measure => omega
       case rel => exact ⟨i + 1, ov, out, by first | rfl | simp, ⟨by have := HI.out; omega⟩, HO, HS⟩
      | succ kj =>
       have hj : j < ms.length := by have := HJ.out; omega
       have hlt2 : decide ((j : Int) < (ms.length : Int)) = true := decide_eq_true (by omega)
       have hlt3 : decide (j < ms.length) = true := decide_eq_true hj
       have h9 := HN.out
       rw [List.drop_eq_getElem_cons hj] at h9
       simp only [rose_in] at h9
       obtain ⟨⟨x1, x2⟩, hB, h9⟩ := Option.bind_eq_some_iff.mp h9
       obtain ⟨⟨y1, y2⟩, hT, hB⟩ := Option.bind_eq_some_iff.mp hB
       obtain ⟨ad2, A2, c2, ea2, hx2, hl2, hi2⟩ := at_L1 (Kd.R_reads' HM.out).2.2 (j : Int) (by omega) (by omega)
       rw [Int.toNat_natCast] at hx2
       have er : rd_L1 ms (j : Int) = ms[j] := by simp [rd_L1, hj]
       rw [er] at hx2 hl2 hi2
       cases ea2
       have HI2 := Aside0.mk hi2
       have HL2 := Aside0.mk hl2
       clear hi2 hl2 er HN
       rcases y1 with _ | q
       ·have h10 : (rose_in k a0 a1 a2 l3 l (ms.drop (j + 1)) y2).bind (fun r => match r.1 with | some c => some (some c, r.2) | none => rose_out k a0 a1 a2 l3 l kn (i + 1) r.2) = some (e1, o1) := by
         simp only at hB
         rw [hB]
         exact h9
        have HN := Aside0.mk h10
        have HTT := Aside0.mk hT
        clear h9 h10 hB hT
        go_wp2_with (first | ((with_reducible refine gate_dst (N := 69) rfl ?_); refine goesCL_ (some 69) rfl rfl #[.pointer (some ⟨g2, 0, none⟩), .pointer (some ⟨g3, 0, none⟩), .pointer (some ⟨g8, 0, none⟩)] Tryd.func73 (by kernel_rfl) rfl #[.slice A2 (ms[j]).length c2] rfl (by first | rfl | (go_simp; done)) (by (try simp only [List.map_toArray, List.map_cons, List.map_nil]); first | done | rfl) ?_; refine (rose_try.calls k a0 a1 a2 A3 c3 l3 (some ad) c l A2 c2 ms[j] g2 g3 g8 ov out wS _ (blk_below HG.out HS.out.b) (blk_below HT.out HS.out.b) HS.out.o (Kd.C_below HRS3.out HS.out.b) HC3.out (Kd.C_below HRS.out HS.out.b) HC.out HI2.out HL2.out HS.out.s HS.out.b HS.out.ge none y2 HTT.out).mono ?_; rintro e w20 ⟨rfl, hT⟩; refine ⟨_, rfl, ?_⟩; obtain ⟨ov1, hs1, hmv⟩ := HS.out.tried hT; have HS1 := Aside0.mk hs1; have HM1 := Aside0.mk (hmv HM.out); clear hT hs1 hmv HS HM; (try simp only [errW_none, errW_some])))
        go_roundg kj
        case measure => omega
        case rel => exact ⟨j + 1, ov1, y2, by first | rfl | simp, ⟨by have := HJ.out; omega⟩, HN, HS1, HM1⟩
       ·simp only [Option.some.injEq, Prod.mk.injEq] at hB
        obtain ⟨rfl, rfl⟩ := hB
        simp only [Option.some.injEq, Prod.mk.injEq] at h9
        obtain ⟨rfl, rfl⟩ := h9
        have h8 := HH.out
        simp only [Option.some.injEq, Prod.mk.injEq] at h8
        obtain ⟨rfl, rfl⟩ := h8
        have HTT := Aside0.mk hT
        clear hT
        go_wp2_with (first | ((with_reducible refine gate_dst (N := 69) rfl ?_); refine goesCL_ (some 69) rfl rfl #[.pointer (some ⟨g2, 0, none⟩), .pointer (some ⟨g3, 0, none⟩), .pointer (some ⟨g8, 0, none⟩)] Tryd.func73 (by kernel_rfl) rfl #[.slice A2 (ms[j]).length c2] rfl (by first | rfl | (go_simp; done)) (by (try simp only [List.map_toArray, List.map_cons, List.map_nil]); first | done | rfl) ?_; refine (rose_try.calls k a0 a1 a2 A3 c3 l3 (some ad) c l A2 c2 ms[j] g2 g3 g8 ov out wS _ (blk_below HG.out HS.out.b) (blk_below HT.out HS.out.b) HS.out.o (Kd.C_below HRS3.out HS.out.b) HC3.out (Kd.C_below HRS.out HS.out.b) HC.out HI2.out HL2.out HS.out.s HS.out.b HS.out.ge (some q) y2 HTT.out).mono ?_; rintro e w20 ⟨rfl, hT⟩; refine ⟨_, rfl, ?_⟩; obtain ⟨ov1, hs1, hmv⟩ := HS.out.tried hT; have HS1 := Aside0.mk hs1; have HM1 := Aside0.mk (hmv HM.out); clear hT hs1 hmv HS HM; (try simp only [errW_none, errW_some])))
        go_ret2
        exact ⟨_, rfl, Kd.S_nil _ _ _ _ _, below_step HW.out HS1.out.b⟩
 ·dsimp only at h
  simp only [Option.some.injEq, Prod.mk.injEq] at h
  obtain ⟨rfl, rfl⟩ := h
  go_enter Tryd.func33, Tryd.ntmps33
  go_wp2_with (first
   | ((with_reducible refine gate_dst (N := 2) rfl ?_); refine box_event ?hg (N := 2) ?hd (cs := #[.int .i64 a0, .int .i64 a1, .int .i64 a2, .slice A3 l3.length c3]) (t := 63) ?hr ?_; (case hd => rfl); (case hg => rfl); (case hr => first | (go_simp; done) | (go_simp; rfl)); intro g2 hg2 w2 hbox hb; have BA := Aside0.mk hbox; have HB := Aside0.mk hb; clear hbox hb hg2)
   | ((with_reducible refine gate_dst (N := 3) rfl ?_); refine box_event ?hg (N := 3) ?hd (cs := #[.slice A l.length c]) (t := 36) ?hr ?_; (case hd => rfl); (case hg => rfl); (case hr => first | (go_simp; done) | (go_simp; rfl)); intro g3 hg3 w3 hbox hb; have BA1 := Aside0.mk (blk_below BA.out hb); have BT := Aside0.mk hbox; have HB1 := Aside0.mk (below_step HB.out hb); clear BA HB hbox hb hg3; have ha0 : w3.cell? ⟨g2, 0, none⟩ = some (.int .i64 a0) := (blk_cell BA1.out 0).trans rfl; have ha1 : w3.cell? ⟨g2, 1, none⟩ = some (.int .i64 a1) := (blk_cell BA1.out 1).trans rfl; have ha2 : w3.cell? ⟨g2, 2, none⟩ = some (.int .i64 a2) := (blk_cell BA1.out 2).trans rfl; have ha3 : w3.cell? ⟨g2, 3, none⟩ = some (.slice A3 l3.length c3) := (blk_cell BA1.out 3).trans rfl; have hl0 : w3.cell? ⟨g3, 0, none⟩ = some (.slice A l.length c) := (blk_cell BT.out 0).trans rfl)
   | ((with_reducible refine gate_callee (f := 44) rfl ?_); refine goesL_ (some 20) rfl rfl Tryd.func44 (by kernel_rfl) rfl #[.agg #[.int .i64 a0, .int .i64 a1, .int .i64 a2, .slice A3 l3.length c3], .slice A l.length c] rfl (by (try simp only [List.map_toArray, List.map_cons, List.map_nil]); first | done | rfl) ?_; (with_reducible refine (gen_Replay.calls a0 a1 a2 _ _ l3 _ _ l t1 t2 t3 (some q) _ (Kd.C_below HR3.out HB1.out) HC3.out (Kd.C_below HR.out HB1.out) HC.out A1.out).mono ?_); rintro e w4 ⟨v4, rfl, ho, hb⟩; refine ⟨_, rfl, ?_⟩; have BA2 := Aside0.mk (blk_below BA1.out hb); have BT2 := Aside0.mk (blk_below BT.out hb); have HB2 := Aside0.mk (below_step HB1.out hb); obtain ⟨Ar, cr, er⟩ := Kd.R_slice ho; subst er; clear BA1 BT HB1 ho hb; (try simp only [errW_none, errW_some]))
   | ((with_reducible refine gate_dst (N := 6) rfl ?_); refine box_event ?hg (N := 6) ?hd (cs := #[.bool false, .int .i64 0, .slice none 0 0]) (t := 27) ?hr ?_; (case hd => rfl); (case hg => rfl); (case hr => first | (go_simp; done) | (go_simp; rfl)); intro g6 hg6 w6 hbox hb; have BA3 := Aside0.mk (blk_below BA2.out hb); have BT3 := Aside0.mk (blk_below BT2.out hb); have BV := Aside0.mk hbox; have HB3 := Aside0.mk (below_step HB2.out hb); have GV := Aside0.mk (hg6 ▸ HB2.out.size : w.heap.size ≤ g6); have hf60 := blk_frozen hbox 0; have hf61 := blk_frozen hbox 1; have hf62 := blk_frozen hbox 2; have hv60 : w6.cell? ⟨g6, 0, none⟩ = some (.bool false) := (blk_cell hbox 0).trans rfl; have hv61 : w6.cell? ⟨g6, 1, none⟩ = some (.int .i64 0) := (blk_cell hbox 1).trans rfl; have hv62 : w6.cell? ⟨g6, 2, none⟩ = some (.slice none 0 0) := (blk_cell hbox 2).trans rfl; clear BA2 BT2 HB2 hbox hb hg6))
  go_ret2
  exact ⟨_, rfl, Kd.S_nil _ _ _ _ _, below_set (below_set (below_set HB3.out GV.out) GV.out) GV.out⟩
end Go.Proofs.YtgdomnlkafcddaaDoor.Q
namespace Go.Proofs.YtgdomnlkafcddaaDoor.Q
open Go.RowKit Go.Proofs.YtgdomnlkafcddaaDoorW.PrintWords Go.Proofs.YtgdomnlkafcddaaDoorW.PrintLast Go.Proofs.YtgdomnlkafcddaaDoorW.PrintMore
set_option linter.unusedVariables false
set_option linter.unusedSimpArgs false
theorem cmp_ok (a b : Int) : ∃ c, cmp_Compare_int.f a b = some c := by
 unfold cmp_Compare_int.f cmp_isNaN_int.f
 simp only [Option.bind_some, bne_self_eq_false, Bool.false_eq_true, if_false]
 by_cases h1 : a < b
 ·exact ⟨_, if_pos h1⟩
 ·rw [if_neg h1]
  by_cases h2 : a > b
  ·exact ⟨_, if_pos h2⟩
  ·exact ⟨_, if_neg h2⟩
theorem compare_loop (a b : List Int) (ha : a.length < 4611686018427387904) : ∀ (j i : Nat), i + j = a.length → ∃ k r, slices_Compare_int_int.l0 k a b a (a.length : Int) (i : Int) = some r := by
 intro j
 induction j with
 | zero =>
  intro i hi
  have hlt : ¬ (i : Int) < (a.length : Int) := by omega
  by_cases h : (a.length : Int) < (b.length : Int)
  ·exact ⟨1, -1, by simp only [slices_Compare_int_int.l0]; rw [if_neg hlt, if_pos h]⟩
  ·exact ⟨1, 0, by simp only [slices_Compare_int_int.l0]; rw [if_neg hlt, if_neg h]⟩
 | succ j ih =>
  intro i hi
  have hlt : (i : Int) < (a.length : Int) := by omega
  have h0 : (0 : Int) ≤ (i : Int) := by omega
  have hw3 : wrap64 ((i : Int) + 1) = ((i + 1 : Nat) : Int) := by rw [wrap64_id (by omega) (by omega)]; omega
  by_cases hb : (i : Int) ≥ (b.length : Int)
  ·exact ⟨1, 1, by simp only [slices_Compare_int_int.l0]; rw [if_pos hlt, if_pos h0, if_pos hlt, if_pos hb]⟩
  ·obtain ⟨c, hc⟩ := cmp_ok (rd a (i : Int)) (rd b (i : Int))
   obtain ⟨k, r, hk⟩ := ih (i + 1) (by omega)
   by_cases h : c = 0
   ·exact ⟨k + 1, r, by simp only [slices_Compare_int_int.l0]; rw [if_pos hlt, if_pos h0, if_pos hlt, if_neg hb, if_pos (by omega), hc, Option.bind_some, if_pos h, hw3]; exact hk⟩
   ·exact ⟨k + 1, c, by simp only [slices_Compare_int_int.l0]; rw [if_pos hlt, if_pos h0, if_pos hlt, if_neg hb, if_pos (by omega), hc, Option.bind_some, if_neg h]⟩
theorem less_halts (a b : List Int) (ha : a.length < 4611686018427387904) : ∃ k r, tape_Less.f k a b = some r := by
 by_cases h : (a.length : Int) = (b.length : Int)
 ·obtain ⟨k, r, hk⟩ := compare_loop a b ha a.length 0 (by omega)
  refine ⟨k, decide (r < 0), ?_⟩
  unfold tape_Less.f slices_Compare_int_int.f
  rw [if_pos h]
  rw [show slices_Compare_int_int.l0 k a b a (a.length : Int) 0 = some r from hk]
  rfl
 ·refine ⟨0, decide ((a.length : Int) < (b.length : Int)), ?_⟩
  unfold tape_Less.f
  rw [if_neg h]
theorem tape_Less.fle {k k' : Nat} (hk : k ≤ k') {a b : List Int} {r : Bool} (h : tape_Less.f k a b = some r) : tape_Less.f k' a b = some r :=
 LeO.le (f := fun k => tape_Less.f k a b) (fun k => tape_Less.mono _ _ k) hk h
section
variable {k k' : Nat} {a0 a1 a2 : Int} {l3 : List S63} {l : List Int}
theorem rose_try.fle (hk : k ≤ k') {m : List Int} {out : List (List Int)} {r : Option Int × List (List Int)} (h : rose_try k a0 a1 a2 l3 l m out = some r) : rose_try k' a0 a1 a2 l3 l m out = some r := by
 unfold rose_try at h ⊢
 obtain ⟨⟨x, q⟩, hM, h⟩ := Option.bind_eq_some_iff.mp h
 rw [hM]
 cases q with
 | some q => exact h
 | none =>
  obtain ⟨b, hL, h⟩ := Option.bind_eq_some_iff.mp h
  simp only [Option.bind_some]
  rw [tape_Less.fle hk hL]
  exact h
theorem rose_in.fle (hk : k ≤ k') : ∀ {ms : List (List Int)} {out : List (List Int)} {r : Option Int × List (List Int)}, rose_in k a0 a1 a2 l3 l ms out = some r → rose_in k' a0 a1 a2 l3 l ms out = some r
 | [], _, _, h => h
 | m :: ms, out, r, h => by
  simp only [rose_in] at h ⊢
  obtain ⟨⟨y1, y2⟩, hT, h⟩ := Option.bind_eq_some_iff.mp h
  rw [rose_try.fle hk hT]
  simp only [Option.bind_some]
  cases y1 with
  | some q => exact h
  | none => exact rose_in.fle hk h
theorem rose_out.fle (hk : k ≤ k') : ∀ {n i : Nat} {out : List (List Int)} {r : Option Int × List (List Int)}, rose_out k a0 a1 a2 l3 l n i out = some r → rose_out k' a0 a1 a2 l3 l n i out = some r
 | 0, _, _, _, h => h
 | n + 1, i, out, r, h => by
  simp only [rose_out] at h ⊢
  obtain ⟨⟨y1, y2⟩, hT, h⟩ := Option.bind_eq_some_iff.mp h
  rw [rose_in.fle hk hT]
  simp only [Option.bind_some]
  cases y1 with
  | some q => exact h
  | none => exact rose_out.fle hk h
theorem rose_Less.gle (hk : k ≤ k') {r : List (List Int) × Option Int} (h : rose_Less.g k a0 a1 a2 l3 l = some r) : rose_Less.g k' a0 a1 a2 l3 l = some r := by
 unfold rose_Less.g at h ⊢
 obtain ⟨⟨t1, t2, t3, t4⟩, hR, h⟩ := Option.bind_eq_some_iff.mp h
 rw [hR]
 simp only [Option.bind_some]
 cases t4 with
 | some q => exact h
 | none =>
  dsimp only at h ⊢
  by_cases hl : l.length < 1000000000000
  ·rw [if_pos hl] at h ⊢
   obtain ⟨y, hO, h⟩ := Option.bind_eq_some_iff.mp h
   rw [rose_out.fle hk hO]
   exact h
  ·rw [if_neg hl] at h
   cases h
theorem rose_Less.of {r : List (List Int) × Option Int} (h : rose_Less.g k a0 a1 a2 l3 l = some r) : rose_Less.f a0 a1 a2 l3 l = some r := Olim_of (fun k => LeO.of fun _ h => rose_Less.gle (Nat.le_succ k) h) h
end
/-- What is told of the tape l: it is mended of something, and less. -/
def Lesser (x : S63) (l r : List Int) : Prop := r.length ≤ Cn 6 ∧ (∃ k, tape_Less.f k r l = some true) ∧ ∃ m, gen_Mend.f x.f0 x.f1 x.f2 x.f3 m = some (r, none)
section
variable (x : S63) (hok : ∀ l, ∃ m v, gen_Mend.f x.f0 x.f1 x.f2 x.f3 l = some (m, none) ∧ OKv 6 (val27 v) ∧ m.length ≤ Cn 6 ∧ gen_Replay.f x.f0 x.f1 x.f2 x.f3 m = some (v.1, v.2.1, v.2.2, none)) (l : List Int)
include hok
theorem rose_try_ok (m : List Int) (out : List (List Int)) (ho : out.length < 5864062014805) : ∃ k out', rose_try k x.f0 x.f1 x.f2 x.f3 l m out = some (none, out') ∧ out'.length ≤ out.length + 1 ∧ ∀ r ∈ out', r ∈ out ∨ Lesser x l r := by
 have hC : Cn 6 = 25137931 := by decide
 obtain ⟨y, v, hM, _, hy, _⟩ := hok m
 obtain ⟨k, b, hL⟩ := less_halts y l (by omega)
 cases b with
 | false =>
  refine ⟨k, out, ?_, by omega, fun r hr => .inl hr⟩
  unfold rose_try
  rw [hM]
  simp only [Option.bind_some]
  rw [hL]
  rfl
 | true =>
  refine ⟨k, out ++ [y], ?_, by simp, fun r hr => ?_⟩
  ·unfold rose_try
   rw [hM]
   simp only [Option.bind_some]
   rw [hL]
   simp only [Option.bind_some, if_true]
   rw [if_pos ho]
  ·rcases List.mem_append.1 hr with hr | hr
   ·exact .inl hr
   ·rw [List.mem_singleton.1 hr]
    exact .inr ⟨hy, ⟨k, hL⟩, m, hM⟩
theorem rose_in_ok : ∀ (ms out : List (List Int)), out.length + ms.length ≤ 5864062014805 → ∃ k out', rose_in k x.f0 x.f1 x.f2 x.f3 l ms out = some (none, out') ∧ out'.length ≤ out.length + ms.length ∧ ∀ r ∈ out', r ∈ out ∨ Lesser x l r
 | [], out, _ => ⟨0, out, rfl, by simp, fun r hr => .inl hr⟩
 | m :: ms, out, h => by
  rw [List.length_cons] at h
  obtain ⟨k1, o1, h1, h2, h3⟩ := rose_try_ok x hok l m out (by omega)
  obtain ⟨k2, o2, g1, g2, g3⟩ := rose_in_ok ms o1 (by omega)
  refine ⟨max k1 k2, o2, ?_, by rw [List.length_cons]; omega, fun r hr => ?_⟩
  ·simp only [rose_in]
   rw [rose_try.fle (Nat.le_max_left k1 k2) h1]
   exact rose_in.fle (Nat.le_max_right k1 k2) g1
  ·rcases g3 r hr with hr | hr
   ·exact h3 r hr
   ·exact .inr hr
theorem rose_out_ok : ∀ (n i : Nat) (out : List (List Int)), out.length + n * 4 ≤ 5864062014805 → ∃ k out', rose_out k x.f0 x.f1 x.f2 x.f3 l n i out = some (none, out') ∧ out'.length ≤ out.length + n * 4 ∧ ∀ r ∈ out', r ∈ out ∨ Lesser x l r
 | 0, i, out, _ => ⟨0, out, rfl, by simp, fun r hr => .inl hr⟩
 | n + 1, i, out, h => by
  rw [Nat.succ_mul] at h
  have hms : (rose_ms l i).length ≤ 4 := by
   unfold rose_ms rose_tries
   split <;> simp
  obtain ⟨k1, o1, h1, h2, h3⟩ := rose_in_ok x hok l (rose_ms l i) out (by omega)
  obtain ⟨k2, o2, g1, g2, g3⟩ := rose_out_ok n (i + 1) o1 (by omega)
  refine ⟨max k1 k2, o2, ?_, by rw [Nat.succ_mul]; omega, fun r hr => ?_⟩
  ·simp only [rose_out]
   rw [rose_in.fle (Nat.le_max_left k1 k2) h1]
   exact rose_out.fle (Nat.le_max_right k1 k2) g1
  ·rcases g3 r hr with hr | hr
   ·exact h3 r hr
   ·exact .inr hr
end
/-- Less answers, where the tape is replayed; what it tells is less. -/
theorem rose_ok2 (x : S63) (hall : ∀ l, ∃ m v, gen_Mend.f x.f0 x.f1 x.f2 x.f3 l = some (m, none) ∧ OKv 6 (val27 v) ∧ m.length ≤ Cn 6 ∧ gen_Replay.f x.f0 x.f1 x.f2 x.f3 m = some (v.1, v.2.1, v.2.2, none)) (l : List Int) (hl : l.length < 1000000000) {b : Bool} {n : Int} {xs : List S27} (hR : gen_Replay.f x.f0 x.f1 x.f2 x.f3 l = some (b, n, xs, none)) : ∃ r, rose_Less.f x.f0 x.f1 x.f2 x.f3 l = some (r, none) ∧ ∀ y ∈ r, Lesser x l y := by
 obtain ⟨k, o, h1, h2, h3⟩ := rose_out_ok x hall l l.length 0 [] (by simp; omega)
 refine ⟨o, rose_Less.of (k := k) ?_, fun y hy => (h3 y hy).resolve_left (by simp)⟩
 unfold rose_Less.g
 rw [hR]
 simp only [Option.bind_some]
 rw [if_pos (by omega), h1]
 rfl
end Go.Proofs.YtgdomnlkafcddaaDoor.Q
namespace Go.Proofs.YtgdomnlkafcddaaDoor.Q
open Go.RowKit Go.Proofs.YtgdomnlkafcddaaDoorW.PrintWords Go.Proofs.YtgdomnlkafcddaaDoorW.PrintLast Go.Proofs.YtgdomnlkafcddaaDoorW.PrintMore
attribute [local go_sem] max2_int min2_int max_two min_two max_three min_three max_four min_four   -- for this text's walks alone
set_option linter.unusedVariables false
set_option linter.unusedSimpArgs false

/-! ### assayerlaw5_ints: function 28 -/
def assayerlaw5_ints.f (l0 : List Int) : Option (List Int) := (some (([] : List Int) : List Int)).bind fun y101 => (if y101.length + l0.length < 17592186044416 then (some (y101 ++ l0)) else (none))
set_option maxHeartbeats 8000000 in
set_option maxRecDepth 100000 in
theorem assayerlaw5_ints.calls (A0 : Option Addr) (c0 : Nat) (l0 : List Int) (r : List Int) (w : World) (hr0 : Kd.C (Kd.int .i64) w A0 l0.length l0) (hc0 : l0.length ≤ c0) (h : assayerlaw5_ints.f l0 = some r) :
  Calls Tryd.prog 28 #[.slice A0 l0.length c0] w fun e w' => ∃ v0_ : Value, e = .returned (v0_) ∧ Kd.R (Kd.int .i64) 3 w' w.heap.size (fun _ => True) v0_ r ∧ Below w.heap.size w w' := by
 have HR0 := Aside0.mk hr0
 have HC0 := Aside0.mk hc0
 clear hr0 hc0
 have HB := Aside0.mk (Below.refl w.heap.size w)
 have H : ((some (([] : List Int) : List Int)).bind fun y101 => (if y101.length + l0.length < 17592186044416 then (some (y101 ++ l0)) else (none))) = some r := h
 clear h
 obtain ⟨y101, hy101⟩ : ∃ y_ : List Int, y_ = (([] : List Int)) := ⟨_, rfl⟩
 replace H : (if y101.length + l0.length < 17592186044416 then (some (y101 ++ l0)) else (none)) = some r := by first | (rw [hy101]; with_reducible exact H) | (have H2_ := (Option.bind_some _ _).symm.trans H; rw [hy101]; with_reducible exact H2_) | (have H2_ := (Option.bind_some _ _).symm.trans H; with_reducible exact H2_) | with_reducible exact H | (rw [hy101]; exact H) | exact H
 have Ny101 := Aside0.mk hy101
 clear hy101
 by_cases c2 : y101.length + l0.length < 17592186044416
 ·rw [if_pos c2] at H
  have LMc2 := Aside0.mk c2
  clear c2
  obtain ⟨y104, hy104⟩ : ∃ y_ : List Int, y_ = (y101 ++ l0) := ⟨_, rfl⟩
  replace H : (some y104) = some r := by first | (rw [hy104]; with_reducible exact H) | (have H2_ := (Option.bind_some _ _).symm.trans H; rw [hy104]; with_reducible exact H2_) | (have H2_ := (Option.bind_some _ _).symm.trans H; with_reducible exact H2_) | with_reducible exact H | (rw [hy104]; exact H) | exact H
  have Ny104 := Aside0.mk hy104
  clear hy104
  obtain rfl := Option.some.inj H
  go_enter Tryd.func28, Tryd.ntmps28
  go_wp2_with (first | ((with_reducible refine gate_dst (N := 3) rfl ?_); refine Kd.R_lit (Kd.int .i64) _ 3 ?hg (N := 3) ?hd (xs := ([] : List Int)) (inner := []) (ok := fun _ => True) (okp := fun _ => True) ?hr ?hp (fun _ hk => hk) trivial (Below.refl _ _) (Nat.le_refl _) (by simp) ?_; (case hd => rfl); (case hg => rfl); (case hr => first | (go_simp; done) | (go_simp; rfl)); (case hp => exact (Reps.none _ _)); intro v102 w3 ho4 hb hg_ hnew_; clear hg_ hnew_; (first | rw [← Ny101.out] at ho4 | (simp only [Int.reduceToNat] at ho4; rw [← Ny101.out] at ho4)); have n0_ := Aside0.mk (Kd.R_lower ho4 (below_size (by repeat (first | (with_reducible first | exact HB.out | apply below_alloc | apply pw_below_drewN | apply below_drew1) | exact HB.out)))); have n1_ := Aside0.mk (below_step (by repeat (first | (with_reducible first | exact HB.out | apply below_alloc | apply pw_below_drewN | apply below_drew1) | exact HB.out)) hb); clear HB; have HO103 := n0_; have HB := n1_; clear n0_ n1_; clear hb ho4) | ((with_reducible refine gate_builtin (b := .append) (xs := #[.tmp 3, .tmp 4]) rfl ?_); at_builtin; refine Kd.R_append_rows (Kd.int .i64) (w0 := w) w.heap.size rfl (.tmp 3) (.tmp 4) 36 3 (.int .i64 0) 8 rfl Tryd.underlying36 info3 rfl (by decide) (by omega) v102 y101 l0 _ _ _ (fun _ => True) (fun _ => False) rfl rfl ?aO ?aR (fun _ _ h => h) (fun _ h => h.elim) ?aF ?aB ?aS ?aL ?_; (case aR => repeat (first | exact (Kd.C_below HR0.out HB.out) | (with_reducible refine Kd.C_alloc ?_ _) | (with_reducible refine Kd.C_drewN ?_ _) | (with_reducible refine Kd.C_drew ?_))); (case aB => exact (by repeat (first | (with_reducible first | exact HB.out | apply below_alloc | apply pw_below_drewN | apply below_drew1) | exact HB.out))); (case aF => exact (fun _ _ => trivial)); (case aO => exact (by (with_reducible repeat (first | apply Kd.R_alloc | apply Kd.R_drewN | apply Kd.R_drew)); exact HO103.out)); (case aS => exact (below_size (by repeat (first | (with_reducible first | exact HB.out | apply below_alloc | apply pw_below_drewN | apply below_drew1) | exact HB.out)))); (case aL => have := LMc2.out; omega); intro v105 w5 ho hb hg hat; rw [← Ny104.out] at ho; have n0_ := Aside0.mk (hb); have n1_ := Aside0.mk (ho); clear HB; clear HO103; have HB := n0_; have HO106 := n1_; clear n0_ n1_; clear ho hb hg hat))
  go_ret
  exact ⟨_, by first | rfl | (simp [errW_none, errW_some] <;> rfl) | (simp [*, errW_none, errW_some] <;> rfl), by (with_reducible repeat (first | apply Kd.R_alloc | apply Kd.R_drewN | apply Kd.R_drew)); exact HO106.out, by repeat (first | (with_reducible first | exact HB.out | apply below_alloc | apply pw_below_drewN | apply below_drew1) | exact HB.out)⟩
 ·rw [if_neg c2] at H
  exact absurd H (by simp)

end Go.Proofs.YtgdomnlkafcddaaDoor.Q
namespace Go.Proofs.YtgdomnlkafcddaaDoor.Q
open Go.RowKit Go.Proofs.YtgdomnlkafcddaaDoorW.PrintWords Go.Proofs.YtgdomnlkafcddaaDoorW.PrintLast Go.Proofs.YtgdomnlkafcddaaDoorW.PrintMore
attribute [local go_sem] max2_int min2_int max_two min_two max_three min_three max_four min_four   -- for this text's walks alone
set_option linter.unusedVariables false
set_option linter.unusedSimpArgs false

/-! ### assayerlaw5_spoil: function 29 -/
def assayerlaw5_spoil.l0 : Nat → List Int → Int → Int → Option (List Int)
 | 0, _, _, _ => none
 | k + 1, x0, x1, x4 => if x4 < (x0.length : Int) then (if 0 ≤ x4 then (assayerlaw5_spoil.l0 k (x0.set (x4 : Int).toNat x1) x1 (wrap64 (x4 + 1))) else (none)) else (some x0)
def assayerlaw5_spoil.f (k : Nat) (l0 : List Int) (a1 : Int) : Option (List Int) := assayerlaw5_spoil.l0 k l0 a1 0
theorem assayerlaw5_spoil.mono_l : ∀ k, (∀ y0 y1 y2, LeO (assayerlaw5_spoil.l0 k y0 y1 y2) (assayerlaw5_spoil.l0 (k + 1) y0 y1 y2))
 | 0 => fun _ _ _ r h => by simp [assayerlaw5_spoil.l0] at h
 | k + 1 => by
  have ih0 := assayerlaw5_spoil.mono_l k
  ·intro y0 y1 y2
   unfold assayerlaw5_spoil.l0
   repeat' first
   | (with_reducible exact ih0 _ _ _)
   | (with_reducible exact LeO.refl _)
   | (with_reducible exact LeO.none _)
   | (with_reducible refine LeO.ite ?_ ?_)
   | (with_reducible refine LeO.bind ?_ (fun _ => ?_))
   | exact ih0 _ _ _
   | exact LeO.none _
   | refine LeO.ite ?_ ?_
   | refine LeO.bind ?_ (fun _ => ?_)
theorem assayerlaw5_spoil.mono : ∀ a0 a1 k, LeO (assayerlaw5_spoil.f k a0 a1) (assayerlaw5_spoil.f (k + 1) a0 a1) := by
 intro a0 a1 k
 have ih0 := assayerlaw5_spoil.mono_l k
 unfold assayerlaw5_spoil.f
 repeat' first
   | (with_reducible exact ih0 _ _ _)
   | (with_reducible exact LeO.refl _)
   | (with_reducible exact LeO.none _)
   | (with_reducible refine LeO.ite ?_ ?_)
   | (with_reducible refine LeO.bind ?_ (fun _ => ?_))
   | exact ih0 _ _ _
   | exact LeO.none _
   | refine LeO.ite ?_ ?_
   | refine LeO.bind ?_ (fun _ => ?_)
set_option maxHeartbeats 8000000 in
set_option maxRecDepth 100000 in
theorem assayerlaw5_spoil.calls (k : Nat) (P0_ : Nat → Prop) (u9000_ : Value) (l0 : List Int) (a1 : Int) (r : List Int) (w0 w : World) (hB : Below w0.heap.size w0 w) (ho0 : Kd.R (Kd.int .i64) 3 w w0.heap.size P0_ u9000_ l0) (h : assayerlaw5_spoil.f k l0 a1 = some r) :
  Calls Tryd.prog 29 #[u9000_, .int .i64 a1] w fun e w' => e = .returned (.tuple #[]) ∧ Kd.R (Kd.int .i64) 3 w' w0.heap.size (fun k_ => (P0_ k_ ∨ w.heap.size ≤ k_)) u9000_ r ∧ Below w0.heap.size w0 w' ∧ Kept w w' (fun k_ => P0_ k_) := by
 have HO0 := Aside0.mk (show Kd.R (Kd.int .i64) 3 w w0.heap.size (fun k_ => (P0_ k_ ∨ w.heap.size ≤ k_)) u9000_ l0 from Kd.R_mono ho0 (fun k_ hk => (.inl hk)))
 have HK := Aside0.mk (Kept.refl w (fun k_ => P0_ k_))
 have HW0 := Aside0.mk hB.size
 have HB := Aside0.mk hB
 clear hB
 have H : (assayerlaw5_spoil.l0 k l0 a1 0) = some r := h
 clear h
 have H' := Aside0.mk H
 clear H
 go_enter Tryd.func29, Tryd.ntmps29
 go_wp2
 go_loopg [4] k (fun kq v4 w' => ∃ (x0_1 : List Int) (x4_1 : Int), v4 = .int .i64 x4_1 ∧ Aside0 (assayerlaw5_spoil.l0 kq x0_1 a1 x4_1 = some r) ∧ Aside0 (kq ≤ k) ∧ Aside0 (Kd.R (Kd.int .i64) 3 w' w0.heap.size (fun k_ => (P0_ k_ ∨ w.heap.size ≤ k_)) u9000_ x0_1) ∧ Aside0 (Kept w w' (fun k_ => P0_ k_)) ∧ Aside0 (Below w0.heap.size w0 w'))
 case atStart => exact ⟨(l0), (0), (by first | rfl | (simp; done) | (simp [*]; done)), H', ⟨Nat.le_refl _⟩, ⟨by (with_reducible repeat (first | apply Kd.R_alloc | apply Kd.R_drewN | apply Kd.R_drew)); exact HO0.out⟩, ⟨by repeat (first | (with_reducible first | exact HK.out | apply Kept.alloc | apply Kept.drewN | apply Kept.drew) | exact HK.out)⟩, ⟨by repeat (first | (with_reducible first | exact HB.out | apply below_alloc | apply pw_below_drewN | apply below_drew1) | exact HB.out)⟩⟩
 case round =>
  clear H'
  try clear c2
  try clear p2
  obtain ⟨x0_1, x4_1, rfl, HA, HK1, HO_0, HK, HB⟩ := hrel
  cases gk with
  | zero => exact absurd HA.out (by simp [assayerlaw5_spoil.l0])
  | succ k1 =>
   have H := HA.out
   clear HA
   simp only [assayerlaw5_spoil.l0] at H
   by_cases c3 : x4_1 < (x0_1.length : Int)
   ·rw [if_pos c3] at H
    have c3b0 : decide (x4_1 < (x0_1.length : Int)) = true := decide_eq_true c3
    clear c3
    by_cases c4 : 0 ≤ x4_1
    ·rw [if_pos c4] at H
     have c4b0 : decide (0 ≤ x4_1) = true := decide_eq_true c4
     clear c4
     obtain ⟨y192, hy192⟩ : ∃ y_ : List Int, y_ = (x0_1.set (x4_1 : Int).toNat a1) := ⟨_, rfl⟩
     replace H : (assayerlaw5_spoil.l0 k1 y192 a1 (wrap64 (x4_1 + 1))) = some r := by first | (rw [hy192]; with_reducible exact H) | (have H2_ := (Option.bind_some _ _).symm.trans H; rw [hy192]; with_reducible exact H2_) | (have H2_ := (Option.bind_some _ _).symm.trans H; with_reducible exact H2_) | with_reducible exact H | (rw [hy192]; exact H) | exact H
     have Ny192 := Aside0.mk hy192
     clear hy192
     have H' := Aside0.mk H
     clear H
     obtain ⟨Ao6, co6, eo6⟩ := Kd.R_slice HO_0.out
     subst eo6
     have p5 : 0 ≤ (x4_1 : Int) := of_decide_eq_true (by first | (with_reducible assumption) | assumption)
     have q5 : (x4_1 : Int) < ((x0_1.length : Int) : Int) := of_decide_eq_true (by first | (with_reducible assumption) | assumption)
     obtain ⟨go5, co5, eo5, gb5, gl5, cl5, HG5⟩ := Kd.R_form HO_0.out (by omega)
     (first | cases eo5 | (injection eo5 with ea_ en_ ec_; (first | subst ea_ | (injection ea_ with ea_; subst ea_)); subst ec_; clear en_))
     have GB5 := Aside0.mk gb5
     have GG5 := Aside0.mk HG5
     clear gb5 gl5 HG5
     have HMgo5 := Aside0.mk (show (P0_ go5 ∨ w.heap.size ≤ go5) from (HO_0.out.1 _ rfl))
     obtain ⟨hx5_0, hf5_0⟩ := Kd.R_celln 0 HO_0.out (x4_1 : Int) p5 q5
     replace p5 := eq_true p5
     replace q5 := eq_true q5
     have HP7 := Kd.R_putg HO_0.out (x4_1 : Int) a1
     go_wp2_with (first | ((with_reducible refine gate_store (t := 3) (p := 14) rfl ?_); refine store_event (t := 3) (p := 14) (v := ?vo_w8) (w1 := (wr.setCell ⟨go5, (x4_1 : Int).toNat, none⟩ (.int .i64 a1))) ?hg ?ho ?hn ?hr ?_; (case ho => rfl); (case hg => rfl); (case hn => rfl); (case hr => first | (go_simp; done) | (go_simp; rfl)); intro w8 hw; have hg : wr.grownBy w8 (some go5) := (by rw [hw]; exact HP7.2); have hp_ : Kd.R (Kd.int .i64) 3 w8 w0.heap.size (fun k_ => (P0_ k_ ∨ w.heap.size ≤ k_)) (.slice (some ⟨go5, 0, none⟩) x0_1.length co6) y192 := (by rw [hw, Ny192.out]; exact HP7.1); clear HP7; have n0_ := Aside0.mk (hp_); have n1_ := Aside0.mk ((by rw [hw]; exact below_set (HB.out) GB5.out : Below w0.heap.size w0 w8)); have n2_ := Aside0.mk (Kept.of_grown (S := (fun k_ => P0_ k_)) hg (by repeat (first | (with_reducible first | exact HK.out | apply Kept.alloc | apply Kept.drewN | apply Kept.drew) | exact HK.out)) (fun k_ e_ => (HO_0.out.1 k_ e_))); clear HO_0; clear HB; clear HK; have HO_0 := n0_; have HB := n1_; have HK := n2_; clear n0_ n1_ n2_; clear hg hw hp_))
     go_roundg k1
     case measure => have := HK1.out; omega
     case rel => exact ⟨(y192), (wrap64 (x4_1 + 1)), (by first | rfl | (simp; done) | (simp [*]; done)), H', ⟨by have := HK1.out; omega⟩, ⟨by (with_reducible repeat (first | apply Kd.R_alloc | apply Kd.R_drewN | apply Kd.R_drew)); exact HO_0.out⟩, ⟨by repeat (first | (with_reducible first | exact HK.out | apply Kept.alloc | apply Kept.drewN | apply Kept.drew) | exact HK.out)⟩, ⟨by repeat (first | (with_reducible first | exact HB.out | apply below_alloc | apply pw_below_drewN | apply below_drew1) | exact HB.out)⟩⟩
    ·rw [if_neg c4] at H
     exact absurd H (by simp)
   ·rw [if_neg c3] at H
    have c3b0 : decide (x4_1 < (x0_1.length : Int)) = false := decide_eq_false c3
    clear c3
    obtain rfl := Option.some.inj H
    obtain ⟨Ao9, co9, eo9⟩ := Kd.R_slice HO_0.out
    subst eo9
    go_wp2
    first | go_end0 | ((try simp only [Exit.inBlock, Exit.then]); refine bodyPost_ret (results_none rfl _ _ _) rfl ?_)
    exact ⟨by first | rfl | (simp [errW_none, errW_some] <;> rfl) | (simp [*, errW_none, errW_some] <;> rfl), by (with_reducible repeat (first | apply Kd.R_alloc | apply Kd.R_drewN | apply Kd.R_drew)); exact HO_0.out, by repeat (first | (with_reducible first | exact HB.out | apply below_alloc | apply pw_below_drewN | apply below_drew1) | exact HB.out), by repeat (first | (with_reducible first | exact HK.out | apply Kept.alloc | apply Kept.drewN | apply Kept.drew) | exact HK.out)⟩

end Go.Proofs.YtgdomnlkafcddaaDoor.Q
namespace Go.Proofs.YtgdomnlkafcddaaDoor.Q
open Go.RowKit Go.Proofs.YtgdomnlkafcddaaDoorW.PrintWords Go.Proofs.YtgdomnlkafcddaaDoorW.PrintLast Go.Proofs.YtgdomnlkafcddaaDoorW.PrintMore
attribute [local go_sem] max2_int min2_int max_two min_two max_three min_three max_four min_four   -- for this text's walks alone
set_option linter.unusedVariables false
set_option linter.unusedSimpArgs false

/-! ### assayersame_Ints: function 30 -/
def assayersame_Ints.l0 : Nat → List Int → List Int → Int → Option (Bool)
 | 0, _, _, _ => none
 | k + 1, x0, x1, x5 => if x5 < (x0.length : Int) then (if 0 ≤ x5 then (if x5 < (x1.length : Int) then (if (rd x0 x5) = (rd x1 x5) then (assayersame_Ints.l0 k x0 x1 (wrap64 (x5 + 1))) else (some false)) else (none)) else (none)) else (some true)
def assayersame_Ints.f (k : Nat) (l0 : List Int) (l1 : List Int) : Option (Bool) := if (l0.length : Int) = (l1.length : Int) then (assayersame_Ints.l0 k l0 l1 0) else (some false)
theorem assayersame_Ints.mono_l : ∀ k, (∀ y0 y1 y2, LeO (assayersame_Ints.l0 k y0 y1 y2) (assayersame_Ints.l0 (k + 1) y0 y1 y2))
 | 0 => fun _ _ _ r h => by simp [assayersame_Ints.l0] at h
 | k + 1 => by
  have ih0 := assayersame_Ints.mono_l k
  ·intro y0 y1 y2
   unfold assayersame_Ints.l0
   repeat' first
   | (with_reducible exact ih0 _ _ _)
   | (with_reducible exact LeO.refl _)
   | (with_reducible exact LeO.none _)
   | (with_reducible refine LeO.ite ?_ ?_)
   | (with_reducible refine LeO.bind ?_ (fun _ => ?_))
   | exact ih0 _ _ _
   | exact LeO.none _
   | refine LeO.ite ?_ ?_
   | refine LeO.bind ?_ (fun _ => ?_)
theorem assayersame_Ints.mono : ∀ a0 a1 k, LeO (assayersame_Ints.f k a0 a1) (assayersame_Ints.f (k + 1) a0 a1) := by
 intro a0 a1 k
 have ih0 := assayersame_Ints.mono_l k
 unfold assayersame_Ints.f
 repeat' first
   | (with_reducible exact ih0 _ _ _)
   | (with_reducible exact LeO.refl _)
   | (with_reducible exact LeO.none _)
   | (with_reducible refine LeO.ite ?_ ?_)
   | (with_reducible refine LeO.bind ?_ (fun _ => ?_))
   | exact ih0 _ _ _
   | exact LeO.none _
   | refine LeO.ite ?_ ?_
   | refine LeO.bind ?_ (fun _ => ?_)
set_option maxHeartbeats 8000000 in
set_option maxRecDepth 100000 in
theorem assayersame_Ints.calls (k : Nat) (A0 : Option Addr) (c0 : Nat) (l0 : List Int) (A1 : Option Addr) (c1 : Nat) (l1 : List Int) (r : Bool) (w : World) (hr0 : Kd.C (Kd.int .i64) w A0 l0.length l0) (hc0 : l0.length ≤ c0) (hr1 : Kd.C (Kd.int .i64) w A1 l1.length l1) (hc1 : l1.length ≤ c1) (h : assayersame_Ints.f k l0 l1 = some r) :
  Calls Tryd.prog 30 #[.slice A0 l0.length c0, .slice A1 l1.length c1] w fun e w' => e = .returned (.bool r) ∧ Drawn0 w w' := by
 have HR0 := Aside0.mk hr0
 have HC0 := Aside0.mk hc0
 clear hr0 hc0
 have HR1 := Aside0.mk hr1
 have HC1 := Aside0.mk hc1
 clear hr1 hc1
 have H : (if (l0.length : Int) = (l1.length : Int) then (assayersame_Ints.l0 k l0 l1 0) else (some false)) = some r := h
 clear h
 by_cases c3 : (l0.length : Int) = (l1.length : Int)
 ·rw [if_pos c3] at H
  have c3b0 : ((l0.length : Int) == (l1.length : Int)) = true := beq_iff_eq.mpr c3
  have c3b1 : ((l0.length : Int) != (l1.length : Int)) = false := bne_eq_false_iff_eq.mpr c3
  have c3b2 : (l0.length == l1.length) = true := by first | simpa using c3 | (simp at c3 ⊢; omega)
  clear c3
  have H' := Aside0.mk H
  clear H
  go_enter Tryd.func30, Tryd.ntmps30
  go_wp2
  repeat (go_quiet (fail); try go_wp2)
  go_loopg [5] k (fun kq v5 w' => ∃ (x5_1 : Int), v5 = .int .i64 x5_1 ∧ Aside0 (assayersame_Ints.l0 kq l0 l1 x5_1 = some r) ∧ Aside0 (kq ≤ k) ∧ Drawn0 w w')
  case atStart => exact ⟨(0), (by first | rfl | (simp; done) | (simp [*]; done)), H', ⟨Nat.le_refl _⟩, by repeat (first | exact Drawn0.refl _ | apply Drawn0.step)⟩
  case round =>
   clear H'
   try clear c1
   try clear p2
   try clear c3
   try clear c3b0
   try clear c3b1
   try clear c3b2
   obtain ⟨x5_1, rfl, HA, HK1, ⟨m1, rfl⟩⟩ := hrel
   cases gk with
   | zero => exact absurd HA.out (by simp [assayersame_Ints.l0])
   | succ k1 =>
    have H := HA.out
    clear HA
    simp only [assayersame_Ints.l0] at H
    by_cases c4 : x5_1 < (l0.length : Int)
    ·rw [if_pos c4] at H
     have c4b0 : decide (x5_1 < (l0.length : Int)) = true := decide_eq_true c4
     clear c4
     by_cases c5 : 0 ≤ x5_1
     ·rw [if_pos c5] at H
      have c5b0 : decide (0 ≤ x5_1) = true := decide_eq_true c5
      clear c5
      by_cases c6 : x5_1 < (l1.length : Int)
      ·rw [if_pos c6] at H
       have c6b0 : decide (x5_1 < (l1.length : Int)) = true := decide_eq_true c6
       clear c6
       by_cases c7 : (rd l0 x5_1) = (rd l1 x5_1)
       ·rw [if_pos c7] at H
        have c7b0 : ((rd l0 x5_1) == (rd l1 x5_1)) = true := beq_iff_eq.mpr c7
        have c7b1 : ((rd l0 x5_1) != (rd l1 x5_1)) = false := bne_eq_false_iff_eq.mpr c7
        clear c7
        have H' := Aside0.mk H
        clear H
        have p193 : 0 ≤ (x5_1 : Int) := of_decide_eq_true (by first | (with_reducible assumption) | assumption)
        have q193 : x5_1 < (l0.length : Int) := of_decide_eq_true (by first | (with_reducible assumption) | assumption)
        obtain ⟨ad193, e193, hx193_0⟩ := Kd.at_int HR0.out x5_1 p193 q193
        cases e193
        replace p193 := eq_true p193
        replace q193 := eq_true q193
        have p194 : 0 ≤ (x5_1 : Int) := of_decide_eq_true (by first | (with_reducible assumption) | assumption)
        have q194 : x5_1 < (l1.length : Int) := of_decide_eq_true (by first | (with_reducible assumption) | assumption)
        obtain ⟨ad194, e194, hx194_0⟩ := Kd.at_int HR1.out x5_1 p194 q194
        cases e194
        replace p194 := eq_true p194
        replace q194 := eq_true q194
        go_wp2
        repeat (go_quiet (fail); try go_wp2)
        go_roundg k1
        case measure => have := HK1.out; omega
        case rel => exact ⟨(wrap64 (x5_1 + 1)), (by first | rfl | (simp; done) | (simp [*]; done)), H', ⟨by have := HK1.out; omega⟩, by repeat (first | exact Drawn0.refl _ | apply Drawn0.step)⟩
       ·rw [if_neg c7] at H
        have c7b0 : ((rd l0 x5_1) == (rd l1 x5_1)) = false := beq_eq_false_iff_ne.mpr c7
        have c7b1 : ((rd l0 x5_1) != (rd l1 x5_1)) = true := bne_iff_ne.mpr c7
        obtain rfl := Option.some.inj H
        have p193 : 0 ≤ (x5_1 : Int) := of_decide_eq_true (by first | (with_reducible assumption) | assumption)
        have q193 : x5_1 < (l0.length : Int) := of_decide_eq_true (by first | (with_reducible assumption) | assumption)
        obtain ⟨ad193, e193, hx193_0⟩ := Kd.at_int HR0.out x5_1 p193 q193
        cases e193
        replace p193 := eq_true p193
        replace q193 := eq_true q193
        have p194 : 0 ≤ (x5_1 : Int) := of_decide_eq_true (by first | (with_reducible assumption) | assumption)
        have q194 : x5_1 < (l1.length : Int) := of_decide_eq_true (by first | (with_reducible assumption) | assumption)
        obtain ⟨ad194, e194, hx194_0⟩ := Kd.at_int HR1.out x5_1 p194 q194
        cases e194
        replace p194 := eq_true p194
        replace q194 := eq_true q194
        go_wp2
        repeat (go_quiet (fail); try go_wp2)
        go_ret
        exact ⟨by first | rfl | (simp; done) | (simp [*]; done), by repeat (first | exact Drawn0.refl _ | apply Drawn0.step)⟩
      ·rw [if_neg c6] at H
       exact absurd H (by simp)
     ·rw [if_neg c5] at H
      exact absurd H (by simp)
    ·rw [if_neg c4] at H
     have c4b0 : decide (x5_1 < (l0.length : Int)) = false := decide_eq_false c4
     clear c4
     obtain rfl := Option.some.inj H
     go_wp2
     repeat (go_quiet (fail); try go_wp2)
     go_ret
     exact ⟨by first | rfl | (simp; done) | (simp [*]; done), by repeat (first | exact Drawn0.refl _ | apply Drawn0.step)⟩
 ·rw [if_neg c3] at H
  have c3b0 : ((l0.length : Int) == (l1.length : Int)) = false := beq_eq_false_iff_ne.mpr c3
  have c3b1 : ((l0.length : Int) != (l1.length : Int)) = true := bne_iff_ne.mpr c3
  have c3b2 : (l0.length == l1.length) = false := by first | simpa using c3 | (simp at c3 ⊢; omega)
  obtain rfl := Option.some.inj H
  go_enter Tryd.func30, Tryd.ntmps30
  go_wp2
  repeat (go_quiet (fail); try go_wp2)
  go_ret
  exact ⟨by first | rfl | (simp; done) | (simp [*]; done), by repeat (first | exact Drawn0.refl _ | apply Drawn0.step)⟩

end Go.Proofs.YtgdomnlkafcddaaDoor.Q
namespace Go.Proofs.YtgdomnlkafcddaaDoor.As
open Go.RowKit Go.Extern.Stop Go.Stop Go.Extern
theorem valueOf156 (t : Addr) (w : World) : (ReflectliteValue.unpack (.iface 156 (.pointer (some t)))).run Tryd.prog w
  = .ok (.agg #[.pointer (some ⟨10, 156, none⟩), .pointer (some ⟨w.heap.size, 0, none⟩), .int .u64 150]) (w.alloc (.cells #[.pointer (some t)] 156)) := by kernel_rfl
theorem type156 (a : Addr) (w : World) : (ReflectliteValue.methodAny (ReflectliteValue.valueError "reflectlite.Value.Type" 0) (fun t _ _ _ => ReflectliteType.toType t) #[.agg #[.pointer (some ⟨10, 156, none⟩), .pointer (some a), .int .u64 150]]).run Tryd.prog w
  = .ok (.iface 212 (.agg #[.pointer (some ⟨10, 156, none⟩)])) w := by kernel_rfl
theorem methodKind (h : Value) (w : World) : (Go.method 390 212 (.agg #[h]) "Kind").run Tryd.prog w = .ok (225, h) w := by kernel_rfl
theorem kind156 (w : World) : ((ReflectliteType.abiMethod fun t => (fun a : Nat => Value.int IntKind.u8 (a : Int)) <$> Rtype.kind t) #[.pointer (some ⟨10, 156, none⟩)]).run Tryd.prog w = .ok (.int .u8 22) w := by kernel_rfl
theorem kind66 (w : World) : ((ReflectliteType.abiMethod fun t => (fun a : Nat => Value.int IntKind.u8 (a : Int)) <$> Rtype.kind t) #[.pointer (some ⟨10, 66, none⟩)]).run Tryd.prog w = .ok (.int .u8 2) w := by kernel_rfl
theorem rlm (z : Sem Value) (f : TypeId → Addr → Nat → Nat → Sem Value) (v : Value) :
  ReflectliteValue.method z f #[v] = (do match ← ReflectliteValue.parts v with | none => z | some (t, a, fl) => f t a fl (fl % 32)) := rfl
theorem parts156 (a : Addr) (w : World) : (ReflectliteValue.parts (.agg #[.pointer (some ⟨10, 156, none⟩), .pointer (some a), .int .u64 150])).run Tryd.prog w = .ok (some (156, a, 150)) w := by kernel_rfl
theorem isNil156 (a p : Addr) (W : World) (ha : W.cell? a = some (.pointer (some p))) :
  (ReflectliteValue.method (ReflectliteValue.valueError "reflectlite.Value.IsNil" 0) ReflectliteValue.isNil #[.agg #[.pointer (some ⟨10, 156, none⟩), .pointer (some a), .int .u64 150]]).run Tryd.prog W = .ok (.bool false) W := by
 rw [rlm]
 simp only [Sem.run_bind, parts156, Result.andThen]
 simp [ReflectliteValue.isNil, loadVar, isAgg, underlying, Tryd.underlying156, ha, Result.andThen]
theorem methodElem (h : Value) (w : World) : (Go.method 390 212 (.agg #[h]) "Elem").run Tryd.prog w = .ok (236, .agg #[h]) w := by kernel_rfl
theorem methodImplements (h : Value) (w : World) : (Go.method 390 212 (.agg #[h]) "Implements").run Tryd.prog w = .ok (237, .agg #[h]) w := by kernel_rfl
theorem methodAssignableTo (h : Value) (w : World) : (Go.method 390 212 (.agg #[h]) "AssignableTo").run Tryd.prog w = .ok (234, .agg #[h]) w := by kernel_rfl
theorem elem156 (w : World) : (ReflectliteType.method ReflectliteType.elem #[.agg #[.pointer (some ⟨10, 156, none⟩)]]).run Tryd.prog w = .ok (.iface 212 (.agg #[.pointer (some ⟨10, 66, none⟩)])) w := by kernel_rfl
theorem implements66 (w : World) : (ReflectliteType.relation "Implements" ReflectliteType.implements_ #[.agg #[.pointer (some ⟨10, 66, none⟩)], .iface 212 (.agg #[.pointer (some ⟨10, 30, none⟩)])]).run Tryd.prog w = .ok (.bool true) w := by kernel_rfl
theorem typeOf66 (v : Value) (w : World) : (ReflectliteType.typeOf #[.iface 66 v]).run Tryd.prog w = .ok (.iface 212 (.agg #[.pointer (some ⟨10, 66, none⟩)])) w := by kernel_rfl
theorem assignable66 (w : World) : (ReflectliteType.relation "AssignableTo" ReflectliteType.assignableTo #[.agg #[.pointer (some ⟨10, 66, none⟩)], .iface 212 (.agg #[.pointer (some ⟨10, 66, none⟩)])]).run Tryd.prog w = .ok (.bool true) w := by kernel_rfl
theorem valueOf66 (n : Int) (w : World) : (ReflectliteValue.unpack (.iface 66 (.int .i64 n))).run Tryd.prog w
  = .ok (.agg #[.pointer (some ⟨10, 66, none⟩), .pointer (some ⟨w.heap.size, 0, none⟩), .int .u64 130]) (w.alloc (.cells #[.int .i64 n] 66)) := by kernel_rfl
theorem elemOf156 (w : World) : (Rtype.elem? 156).run Tryd.prog w = .ok (some 66) w := by kernel_rfl
theorem mk66 (p : Addr) (w : World) : (ReflectliteValue.mk 66 p ReflectliteValue.flagAddr).run Tryd.prog w = .ok (.agg #[.pointer (some ⟨10, 66, none⟩), .pointer (some p), .int .u64 386]) w := by kernel_rfl
theorem elemV156 (a p : Addr) (W : World) (ha : W.cell? a = some (.pointer (some p))) :
  (ReflectliteValue.method (ReflectliteValue.valueError "reflectlite.Value.Elem" 0) ReflectliteValue.elem #[.agg #[.pointer (some ⟨10, 156, none⟩), .pointer (some a), .int .u64 150]]).run Tryd.prog W
   = .ok (.agg #[.pointer (some ⟨10, 66, none⟩), .pointer (some p), .int .u64 386]) W := by
 rw [rlm]
 simp only [Sem.run_bind, parts156, Result.andThen]
 simp [ReflectliteValue.elem, loadVar, isAgg, underlying, Tryd.underlying156, ha, Result.andThen, elemOf156, mk66]
theorem rls (v x : Value) : ReflectliteValue.set #[v, x] = (do
  let (some (dst, a, fl), some (src, b, _)) := (← ReflectliteValue.parts v, ← ReflectliteValue.parts x)
   | unsupported (.noEntry "extern/(internal/reflectlite.Value).Set.zeroValue")
  if fl / ReflectliteValue.flagAddr % 2 == 0 then unsupported (.noEntry "extern/(internal/reflectlite.Value).Set.unaddressable")
  let val ← loadVar src b
  if ← Rtype.directlyAssignable dst src then storeVar dst a val
  else if ← Rtype.implements dst src then
   if (← Rtype.kind src) == 20 then
    match val with
    | .nilIface => unsupported (.noEntry "extern/reflectlite: a nil value of one interface type handed on as a value of another")
    | _ => storeVar dst a val
   else storeVar dst a (.iface src val)
  else panicString ("reflectlite.Set: value of type " ++ (← Rtype.spelt src) ++ " is not assignable to type " ++ (← Rtype.spelt dst))
  pure (.tuple #[])) := rfl
theorem parts66a (a : Addr) (w : World) : (ReflectliteValue.parts (.agg #[.pointer (some ⟨10, 66, none⟩), .pointer (some a), .int .u64 386])).run Tryd.prog w = .ok (some (66, a, 386)) w := by kernel_rfl
theorem parts66 (a : Addr) (w : World) : (ReflectliteValue.parts (.agg #[.pointer (some ⟨10, 66, none⟩), .pointer (some a), .int .u64 130])).run Tryd.prog w = .ok (some (66, a, 130)) w := by kernel_rfl
theorem direct66 (w : World) : (Rtype.directlyAssignable 66 66).run Tryd.prog w = .ok true w := by kernel_rfl
theorem size66 (w : World) : (sizeOf 66).run Tryd.prog w = .ok 1 w := by kernel_rfl
theorem set66 (ta b : Addr) (n : Int) (old : Value) (W : World) (hb : W.cell? b = some (.int .i64 n)) (ht : W.cell? ta = some old) (hf : W.frozen? ta = false) :
  (ReflectliteValue.set #[.agg #[.pointer (some ⟨10, 66, none⟩), .pointer (some ta), .int .u64 386], .agg #[.pointer (some ⟨10, 66, none⟩), .pointer (some b), .int .u64 130]]).run Tryd.prog W
   = .ok (.tuple #[]) (W.setCell ta (.int .i64 n)) := by
 rw [rls]
 simp only [Sem.run_bind, parts66a, parts66, Result.andThen]
 simp [ReflectliteValue.flagAddr, loadVar, isAgg, underlying, Tryd.underlying66, hb, Result.andThen, direct66, storeVar, Value.cells, storeCells, Addr.add]
 rw [run_store Tryd.prog W ta _ _ (by rfl)]
 simp [ht, hf]
end Go.Proofs.YtgdomnlkafcddaaDoor.As
namespace Go.Proofs.YtgdomnlkafcddaaDoor.As
open Go.RowKit Go.Extern.Stop Go.Stop Go.Extern
theorem as_nil (t : Value) (w : World) :
  Calls Tryd.prog 117 #[.nilIface, t] w fun e w' => e = .returned (.bool false) ∧ w' = w := by
 go_enter Tryd.func117, Tryd.ntmps117
 go_wp2
 go_ret
 exact ⟨rfl, rfl⟩
set_option maxHeartbeats 4000000 in
theorem as_hit (n : Int) (t : Addr) (old : Value) (w : World) (hg : Q.GErr w) (ht0 : w.cell? t = some old) (hf0 : w.frozen? t = false) :
  Calls Tryd.prog 117 #[.iface 66 (.int .i64 n), .iface 156 (.pointer (some t))] w fun ev w' => ev = .returned (.bool true) ∧ w' = ((((w.alloc (.cells #[.pointer (some t)] 156)).alloc (.cells #[.pointer (some ⟨10, 156, none⟩), .pointer (some ⟨w.heap.size, 0, none⟩), .int .u64 150] 183)).alloc (.cells #[.pointer (some ⟨10, 156, none⟩), .pointer (some ⟨w.heap.size, 0, none⟩), .int .u64 150] 183)).alloc (.cells #[.int .i64 n] 66)).setCell t (.int .i64 n) := by
 have h147 := @run_callFunc_extern Tryd.prog 147 _ (fun args => ReflectliteValue.unpack (args.getD 0 (.tuple #[]))) Tryd.func147 (by kernel_rfl) (by kernel_rfl) (by kernel_rfl) (by kernel_rfl)
 have h148 := @run_callFunc_extern Tryd.prog 148 _ (ReflectliteValue.methodAny (ReflectliteValue.valueError "reflectlite.Value.Type" 0) (fun t _ _ _ => ReflectliteType.toType t)) Tryd.func148 (by kernel_rfl) (by kernel_rfl) (by kernel_rfl) (by kernel_rfl)
 have h149 := @run_callFunc_extern Tryd.prog 149 _ (ReflectliteValue.method (ReflectliteValue.valueError "reflectlite.Value.IsNil" 0) ReflectliteValue.isNil) Tryd.func149 (by kernel_rfl) (by kernel_rfl) (by kernel_rfl) (by kernel_rfl)
 have h225 := @run_callFunc_extern Tryd.prog 225 _ (ReflectliteType.abiMethod fun t => do pure (.int .u8 (← Rtype.kind t))) Tryd.func225 (by kernel_rfl) (by kernel_rfl) (by kernel_rfl) (by kernel_rfl)
 have h236 := @run_callFunc_extern Tryd.prog 236 _ (ReflectliteType.method ReflectliteType.elem) Tryd.func236 (by kernel_rfl) (by kernel_rfl) (by kernel_rfl) (by kernel_rfl)
 have h237 := @run_callFunc_extern Tryd.prog 237 _ (ReflectliteType.relation "Implements" ReflectliteType.implements_) Tryd.func237 (by kernel_rfl) (by kernel_rfl) (by kernel_rfl) (by kernel_rfl)
 have h174 := @run_callFunc_extern Tryd.prog 174 _ ReflectliteType.typeOf Tryd.func174 (by kernel_rfl) (by kernel_rfl) (by kernel_rfl) (by kernel_rfl)
 have h234 := @run_callFunc_extern Tryd.prog 234 _ (ReflectliteType.relation "AssignableTo" ReflectliteType.assignableTo) Tryd.func234 (by kernel_rfl) (by kernel_rfl) (by kernel_rfl) (by kernel_rfl)
 have h175 := @run_callFunc_extern Tryd.prog 175 _ (ReflectliteValue.method (ReflectliteValue.valueError "reflectlite.Value.Elem" 0) ReflectliteValue.elem) Tryd.func175 (by kernel_rfl) (by kernel_rfl) (by kernel_rfl) (by kernel_rfl)
 have h176 := @run_callFunc_extern Tryd.prog 176 _ ReflectliteValue.set Tryd.func176 (by kernel_rfl) (by kernel_rfl) (by kernel_rfl) (by kernel_rfl)
 have tO := typeOf66
 have mA := methodAssignableTo
 have a25 := assignable66
 have v25 := valueOf66
 have f6 := valueOf156
 have f7 := type156
 have mK := methodKind
 have mE := methodElem
 have mI := methodImplements
 have k27 := kind156
 have k25 := kind66
 have e27 := elem156
 have i25 := implements66
 have n8 := isNil156 ⟨w.heap.size, 0, none⟩ t ((w.alloc (.cells #[.pointer (some t)] 156)).alloc (.cells #[.pointer (some ⟨10, 156, none⟩), .pointer (some ⟨w.heap.size, 0, none⟩), .int .u64 150] 183)) (by simp)
 have hlt : 3 < w.heap.size := World.block_lt_of_cell? w _ hg
 have hg2 : ((w.alloc (.cells #[.pointer (some t)] 156)).alloc (.cells #[.pointer (some ⟨10, 156, none⟩), .pointer (some ⟨w.heap.size, 0, none⟩), .int .u64 150] 183)).cell? ⟨3, 0, none⟩ = some (.iface 212 (.agg #[.pointer (some ⟨10, 30, none⟩)])) := by
  rw [World.cell?_alloc_lt _ _ ⟨3, 0, none⟩ (by simp; omega), World.cell?_alloc_lt _ _ ⟨3, 0, none⟩ hlt]; exact hg
 have htl : t.block < w.heap.size := by
  rcases Nat.lt_or_ge t.block w.heap.size with h | h
  ·exact h
  ·simp [World.cell?, Array.getElem?_eq_none h] at ht0
 have el := elemV156 ⟨w.heap.size, 0, none⟩ t (((w.alloc (.cells #[.pointer (some t)] 156)).alloc (.cells #[.pointer (some ⟨10, 156, none⟩), .pointer (some ⟨w.heap.size, 0, none⟩), .int .u64 150] 183)).alloc (.cells #[.pointer (some ⟨10, 156, none⟩), .pointer (some ⟨w.heap.size, 0, none⟩), .int .u64 150] 183)) (by rw [World.cell?_alloc_lt _ _ ⟨w.heap.size, 0, none⟩ (by simp; omega)]; simp)
 have st := set66 t ⟨w.heap.size + 1 + 1 + 1, 0, none⟩ n old ((((w.alloc (.cells #[.pointer (some t)] 156)).alloc (.cells #[.pointer (some ⟨10, 156, none⟩), .pointer (some ⟨w.heap.size, 0, none⟩), .int .u64 150] 183)).alloc (.cells #[.pointer (some ⟨10, 156, none⟩), .pointer (some ⟨w.heap.size, 0, none⟩), .int .u64 150] 183)).alloc (.cells #[.int .i64 n] 66))
  (by rw [World.cell?_alloc_at _ _ _ _ (by simp)]; rfl)
  (by rw [World.cell?_alloc_lt _ _ t (by simp; omega), World.cell?_alloc_lt _ _ t (by simp; omega), World.cell?_alloc_lt _ _ t (by simp; omega), World.cell?_alloc_lt _ _ t htl]; exact ht0)
  (by rw [World.frozen?_alloc_old _ _ t (by simp; omega), World.frozen?_alloc_old _ _ t (by simp; omega), World.frozen?_alloc_old _ _ t (by simp; omega), World.frozen?_alloc_old _ _ t (Nat.ne_of_lt htl)]; exact hf0)
 clear hg
 go_enter Tryd.func117, Tryd.ntmps117
 go_wp2
 refine wp_loop_rounds 1 ?_
 rw [rounds_succ]
 go_wp2
 go_ret
 exact ⟨rfl, rfl⟩
end Go.Proofs.YtgdomnlkafcddaaDoor.As

namespace Go.Proofs.YtgdomnlkafcddaaDoor.Q
open Go.RowKit Go.Proofs.YtgdomnlkafcddaaDoorW.PrintWords
def plain_Told.f (a0 : Option Int) : Option Int := some (a0.getD 0)
set_option maxHeartbeats 1000000 in
theorem plain_Told.calls (a0 : Option Int) (r : Int) (w : World) (h : plain_Told.f a0 = some r) (hG : GErr w) :
  Calls Tryd.prog 72 #[errW a0] w fun e w' => e = .returned (.int .i64 r) ∧ Below w.heap.size w w' := by
 obtain rfl := Option.some.inj h
 clear h
 cases a0 with
 | none =>
  clear hG
  show Calls Tryd.prog 72 #[.nilIface] w _
  go_enter Tryd.func72, Tryd.ntmps72
  go_wp2_with fail
  go_ret
  exact ⟨rfl, Below.refl _ _⟩
 | some n =>
  show Calls Tryd.prog 72 #[.iface 66 (.int .i64 n)] w _
  have hG' : GErr (w.alloc (.cells #[.int .i64 0] 66)) := hG.below ((Below.refl _ _).alloc (Nat.le_refl _) _)
  clear hG
  have C := As.as_hit n ⟨w.heap.size, 0, none⟩ (.int .i64 0) (w.alloc (.cells #[.int .i64 0] 66)) hG' (by simp) (by simp)
  have C' := Aside0.mk C
  clear C hG'
  go_enter Tryd.func72, Tryd.ntmps72
  go_wp2_with fail
  refine C'.out.mono ?_
  rintro e w1 ⟨rfl, rfl⟩
  clear C'
  go_wp2_with fail
  go_ret
  exact ⟨rfl, below_alloc (below_alloc (below_alloc (below_alloc (below_alloc (Below.refl _ _) _) _) _) _) _⟩
end Go.Proofs.YtgdomnlkafcddaaDoor.Q
namespace Go.Proofs.YtgdomnlkafcddaaDoor.Q
open Go.RowKit Go.Proofs.YtgdomnlkafcddaaDoorW.PrintWords Go.Proofs.YtgdomnlkafcddaaDoorW.PrintLast Go.Proofs.YtgdomnlkafcddaaDoorW.PrintMore
attribute [local go_sem] max2_int min2_int max_two min_two max_three min_three max_four min_four   -- for this text's walks alone
set_option linter.unusedVariables false
set_option linter.unusedSimpArgs false

/-! ### assayersame_Told: function 32 -/
def assayersame_Told.f (a0 : Option Int) (a1 : Option Int) : Option (Bool) := (plain_Told.f a0).bind fun t201 => ((plain_Told.f a1).bind fun t202 => (some (t201 == t202)))
set_option maxHeartbeats 8000000 in
set_option maxRecDepth 100000 in
theorem assayersame_Told.calls (a0 : Option Int) (a1 : Option Int) (r : Bool) (w : World) (h : assayersame_Told.f a0 a1 = some r) (hGErr : GErr w) :
  Calls Tryd.prog 32 #[errW a0, errW a1] w fun e w' => e = .returned (.bool r) ∧ Below w.heap.size w w' := by
 have HGErr := Aside0.mk hGErr
 clear hGErr
 have HB := Aside0.mk (Below.refl w.heap.size w)
 have H : ((plain_Told.f a0).bind fun t201 => ((plain_Told.f a1).bind fun t202 => (some (t201 == t202)))) = some r := h
 clear h
 replace H := Option.bind_eq_some_iff.mp H
 obtain ⟨t201, A30, H⟩ := H
 replace H : ((plain_Told.f a1).bind fun t202 => (some (t201 == t202))) = some r := H
 have A3 := Aside0.mk A30
 clear A30
 replace H := Option.bind_eq_some_iff.mp H
 obtain ⟨t202, A40, H⟩ := H
 replace H : (some (t201 == t202)) = some r := H
 have A4 := Aside0.mk A40
 clear A40
 obtain rfl := Option.some.inj H
 have CA3 := fun W G0_ => plain_Told.calls a0 t201 W A3.out G0_
 try simp only [errW_none, errW_some] at CA3
 go_enter Tryd.func32, Tryd.ntmps32
 go_wp2_with (first | (go_at_call 72; (with_reducible refine (CA3 _ ?gGErr).mono ?_); (case gGErr => exact (HGErr.out.below (by repeat (first | (with_reducible first | exact HB.out | apply below_alloc | apply pw_below_drewN | apply below_drew1) | exact HB.out)))); rintro e w5 ⟨rfl, hb⟩; have n0_ := Aside0.mk (below_step (by repeat (first | (with_reducible first | exact HB.out | apply below_alloc | apply pw_below_drewN | apply below_drew1) | exact HB.out)) hb); clear HB; have HB := n0_; clear n0_; (try clear hb); (try clear hb2); (try clear hk); (try clear hi); have CA4 := fun W G0_ => plain_Told.calls a1 t202 W A4.out G0_; try simp only [errW_none, errW_some] at CA4) | (go_at_call 72; (with_reducible refine (CA4 _ ?gGErr).mono ?_); (case gGErr => exact (HGErr.out.below (by repeat (first | (with_reducible first | exact HB.out | apply below_alloc | apply pw_below_drewN | apply below_drew1) | exact HB.out)))); rintro e w6 ⟨rfl, hb⟩; have n0_ := Aside0.mk (below_step (by repeat (first | (with_reducible first | exact HB.out | apply below_alloc | apply pw_below_drewN | apply below_drew1) | exact HB.out)) hb); clear HB; have HB := n0_; clear n0_; (try clear hb); (try clear hb2); (try clear hk); (try clear hi)))
 go_ret
 exact ⟨by first | rfl | (simp [errW_none, errW_some] <;> rfl) | (simp [*, errW_none, errW_some] <;> rfl), by repeat (first | (with_reducible first | exact HB.out | apply below_alloc | apply pw_below_drewN | apply below_drew1) | exact HB.out)⟩

end Go.Proofs.YtgdomnlkafcddaaDoor.Q
namespace Go.Proofs.YtgdomnlkafcddaaDoor.Q
open Go.RowKit Go.Proofs.YtgdomnlkafcddaaDoorW.PrintWords Go.Proofs.YtgdomnlkafcddaaDoorW.PrintLast Go.Proofs.YtgdomnlkafcddaaDoorW.PrintMore
set_option linter.unusedVariables false
set_option linter.unusedSimpArgs false
theorem own_ints {l : List Int} (h : l.length < 17592186044416) : assayerlaw5_ints.f l = some l := by
 simp [assayerlaw5_ints.f, h]
theorem own_same_loop (l : List Int) (hl : l.length < 17592186044416) : ∀ (j i : Nat), i + j = l.length → assayersame_Ints.l0 (j + 1) l l (i : Int) = some true := by
 intro j
 induction j with
 | zero =>
  intro i hi
  have hlt : ¬ (i : Int) < (l.length : Int) := by omega
  simp [assayersame_Ints.l0, hlt]
 | succ j ih =>
  intro i hi
  have hlt : (i : Int) < (l.length : Int) := by omega
  have h0 : (0 : Int) ≤ (i : Int) := by omega
  have hw3 : wrap64 ((i : Int) + 1) = ((i + 1 : Nat) : Int) := by rw [wrap64_id (by omega) (by omega)]; omega
  have := ih (i + 1) (by omega)
  unfold assayersame_Ints.l0
  rw [if_pos hlt, if_pos h0, if_pos hlt, if_pos rfl, hw3]
  exact this
theorem own_same {l : List Int} (hl : l.length < 17592186044416) {k : Nat} (hk : l.length + 1 ≤ k) : assayersame_Ints.f k l l = some true := by
 have h := own_same_loop l hl l.length 0 (by omega)
 have h2 : assayersame_Ints.f (l.length + 1) l l = some true := by
  simp only [assayersame_Ints.f, if_true]
  exact h
 exact LeO.le (f := fun k => assayersame_Ints.f k l l) (fun k => assayersame_Ints.mono _ _ k) hk h2
theorem own_spoil_loop (a : Int) : ∀ (j i : Nat) (l : List Int), l.length < 17592186044416 → i + j = l.length → ∃ r, assayerlaw5_spoil.l0 (j + 1) l a (i : Int) = some r ∧ r.length = l.length := by
 intro j
 induction j with
 | zero =>
  intro i l hl hi
  have hlt : ¬ (i : Int) < (l.length : Int) := by omega
  exact ⟨l, by simp [assayerlaw5_spoil.l0, hlt], rfl⟩
 | succ j ih =>
  intro i l hl hi
  have hlt : (i : Int) < (l.length : Int) := by omega
  have h0 : (0 : Int) ≤ (i : Int) := by omega
  have hw3 : wrap64 ((i : Int) + 1) = ((i + 1 : Nat) : Int) := by rw [wrap64_id (by omega) (by omega)]; omega
  obtain ⟨r, hr, hrl⟩ := ih (i + 1) (l.set i a) (by simpa using hl) (by simp; omega)
  refine ⟨r, ?_, by simpa using hrl⟩
  unfold assayerlaw5_spoil.l0
  rw [if_pos hlt, if_pos h0, hw3, Int.toNat_natCast]
  exact hr
theorem own_spoil {l : List Int} (hl : l.length < 17592186044416) (a : Int) : ∃ r, r.length = l.length ∧ ∀ k, l.length + 1 ≤ k → assayerlaw5_spoil.f k l a = some r := by
 obtain ⟨r, hr, h2⟩ := own_spoil_loop a l.length 0 l hl (by omega)
 exact ⟨r, h2, fun k hk => LeO.le (f := fun k => assayerlaw5_spoil.f k l a) (fun k => assayerlaw5_spoil.mono _ _ k) hk hr⟩
theorem own_told (e : Option Int) : assayersame_Told.f e e = some true := by
 simp [assayersame_Told.f, plain_Told.f]
end Go.Proofs.YtgdomnlkafcddaaDoor.Q
namespace Go.Proofs.YtgdomnlkafcddaaDoor.Q
open Go.RowKit Go.Proofs.YtgdomnlkafcddaaDoorW.PrintWords Go.Proofs.YtgdomnlkafcddaaDoorW.PrintLast Go.Proofs.YtgdomnlkafcddaaDoorW.PrintMore
attribute [local go_sem] max2_int min2_int max_two min_two max_three min_three max_four min_four   -- for this text's walks alone
set_option linter.unusedVariables false
set_option linter.unusedSimpArgs false

/-! ### expr_parts: function 100 -/
mutual
def expr_parts.l0 : Nat → Int → Int → List (S24) → Int → Int → Option (Int)
 | 0, _, _, _, _, _ => none
 | k + 1, x1, x5, x11, x12, x13 => if x13 < x12 then (if 0 ≤ x13 then (if x13 < (x11.length : Int) then ((expr_parts.f k ((rd_T24 x11 x13).f0) ((rd_T24 x11 x13).f1) ((rd_T24 x11 x13).f2) (wrap64 (x1 + 1))).bind fun t457 => (if (wrap64 (x5 + t457)) > 30 then (some (wrap64 (x5 + t457))) else (expr_parts.l0 k x1 (wrap64 (x5 + t457)) x11 x12 (wrap64 (x13 + 1))))) else (none)) else (none)) else (some x5)
def expr_parts.f : Nat → Int → Int → List (S24) → Int → Option (Int)
 | 0, _, _, _, _ => none
 | k + 1, a0_0, a0_1, l0_2, a1 => if a1 ≥ 6 then (some 31) else (expr_parts.l0 k a1 1 l0_2 (l0_2.length : Int) 0)
end
theorem expr_parts.mono_l : ∀ k, (∀ y0 y1 y2 y3, LeO (expr_parts.f k y0 y1 y2 y3) (expr_parts.f (k + 1) y0 y1 y2 y3)) ∧ (∀ y0 y1 y2 y3 y4, LeO (expr_parts.l0 k y0 y1 y2 y3 y4) (expr_parts.l0 (k + 1) y0 y1 y2 y3 y4))
 | 0 => ⟨fun _ _ _ _ r h => by simp [expr_parts.f] at h, fun _ _ _ _ _ r h => by simp [expr_parts.l0] at h⟩
 | k + 1 => by
  obtain ⟨ih0, ih1⟩ := expr_parts.mono_l k
  refine ⟨?_, ?_⟩
  ·intro y0 y1 y2 y3
   unfold expr_parts.f
   repeat' first
   | (with_reducible exact ih0 _ _ _ _)
   | (with_reducible exact ih1 _ _ _ _ _)
   | (with_reducible exact LeO.refl _)
   | (with_reducible exact LeO.none _)
   | (with_reducible refine LeO.ite ?_ ?_)
   | (with_reducible refine LeO.bind ?_ (fun _ => ?_))
   | exact ih0 _ _ _ _
   | exact ih1 _ _ _ _ _
   | exact LeO.none _
   | refine LeO.ite ?_ ?_
   | refine LeO.bind ?_ (fun _ => ?_)
  ·intro y0 y1 y2 y3 y4
   unfold expr_parts.l0
   repeat' first
   | (with_reducible exact ih0 _ _ _ _)
   | (with_reducible exact ih1 _ _ _ _ _)
   | (with_reducible exact LeO.refl _)
   | (with_reducible exact LeO.none _)
   | (with_reducible refine LeO.ite ?_ ?_)
   | (with_reducible refine LeO.bind ?_ (fun _ => ?_))
   | exact ih0 _ _ _ _
   | exact ih1 _ _ _ _ _
   | exact LeO.none _
   | refine LeO.ite ?_ ?_
   | refine LeO.bind ?_ (fun _ => ?_)
theorem expr_parts.mono : ∀ a0 a1 a2 a3 k, LeO (expr_parts.f k a0 a1 a2 a3) (expr_parts.f (k + 1) a0 a1 a2 a3) := by
 intro a0 a1 a2 a3 k
 obtain ⟨ih0, ih1⟩ := expr_parts.mono_l k
 exact ih0 a0 a1 a2 a3
set_option maxHeartbeats 8000000 in
set_option maxRecDepth 100000 in
theorem expr_parts.calls (k : Nat) : ∀ (a0_0 : Int) (a0_1 : Int) (A0_2 : Option Addr) (c0_2 : Nat) (l0_2 : List (S24)) (a1 : Int) (r : Int) (w : World) (hr0_2 : Kd.C k24 w A0_2 l0_2.length l0_2) (hc0_2 : l0_2.length ≤ c0_2) (h : expr_parts.f k a0_0 a0_1 l0_2 a1 = some r),
  Calls Tryd.prog 100 #[.agg #[.int .i64 a0_0, .int .i64 a0_1, .slice A0_2 l0_2.length c0_2], .int .i64 a1] w fun e w' => e = .returned (.int .i64 r) ∧ Below w.heap.size w w' := by
 induction k using Nat.strongRecOn with
 | _ k ih =>
 intro a0_0 a0_1 A0_2 c0_2 l0_2 a1 r w hr0_2 hc0_2 h
 cases k with
 | zero => exact absurd h (by simp [expr_parts.f])
 | succ k =>
 simp only [expr_parts.f] at h
 have hu24 := Tryd.underlying24
 have HR0_2 := Aside0.mk hr0_2
 have HC0_2 := Aside0.mk hc0_2
 clear hr0_2 hc0_2
 have HB := Aside0.mk (Below.refl w.heap.size w)
 have H : (if a1 ≥ 6 then (some 31) else (expr_parts.l0 k a1 1 l0_2 (l0_2.length : Int) 0)) = some r := h
 clear h
 by_cases c3 : a1 ≥ 6
 ·rw [if_pos c3] at H
  have c3b0 : decide (6 ≤ a1) = true := decide_eq_true c3
  clear c3
  obtain rfl := Option.some.inj H
  go_enter Tryd.func100, Tryd.ntmps100
  go_wp2_with (first | ((with_reducible refine gate_dst (N := 2) rfl ?_); refine box_event ?hg (N := 2) ?hd (cs := #[.int .i64 a0_0, .int .i64 a0_1, .slice A0_2 l0_2.length c0_2]) (t := 24) ?hr ?_; (case hd => rfl); (case hg => rfl); (case hr => first | (go_simp; done) | (go_simp; rfl)); intro gb454 hg w4 hbox hb; have n0_ := Aside0.mk (below_step (by repeat (first | (with_reducible first | exact HB.out | apply below_alloc | apply pw_below_drewN | apply below_drew1) | exact HB.out)) hb); have n1_ := Aside0.mk (hbox); have n2_ := Aside0.mk ((by rw [hg]; exact (below_size (by repeat (first | (with_reducible first | exact HB.out | apply below_alloc | apply pw_below_drewN | apply below_drew1) | exact HB.out))) : w.heap.size ≤ gb454)); have n3_ := Aside0.mk ((by rw [hg]; exact (below_size (by repeat (first | (with_reducible first | exact HB.out | apply below_alloc | apply pw_below_drewN | apply below_drew1) | exact HB.out))) : w.heap.size ≤ gb454)); clear HB; have HB := n0_; have BK454 := n1_; have GW454 := n2_; have GE454 := n3_; clear n0_ n1_ n2_ n3_; clear hb hbox hg))
  go_ret
  exact ⟨by first | rfl | (simp [errW_none, errW_some] <;> rfl) | (simp [*, errW_none, errW_some] <;> rfl), by repeat (first | (with_reducible first | exact HB.out | apply below_alloc | apply pw_below_drewN | apply below_drew1 | refine below_set ?_ GE454.out) | exact HB.out)⟩
 ·rw [if_neg c3] at H
  have c3b0 : decide (6 ≤ a1) = false := decide_eq_false c3
  clear c3
  have H' := Aside0.mk H
  clear H
  go_enter Tryd.func100, Tryd.ntmps100
  go_wp2_with (first | ((with_reducible refine gate_dst (N := 2) rfl ?_); refine box_event ?hg (N := 2) ?hd (cs := #[.int .i64 a0_0, .int .i64 a0_1, .slice A0_2 l0_2.length c0_2]) (t := 24) ?hr ?_; (case hd => rfl); (case hg => rfl); (case hr => first | (go_simp; done) | (go_simp; rfl)); intro gb454 hg w5 hbox hb; have n0_ := Aside0.mk (below_step (by repeat (first | (with_reducible first | exact HB.out | apply below_alloc | apply pw_below_drewN | apply below_drew1) | exact HB.out)) hb); have n1_ := Aside0.mk (hbox); have n2_ := Aside0.mk ((by rw [hg]; exact (below_size (by repeat (first | (with_reducible first | exact HB.out | apply below_alloc | apply pw_below_drewN | apply below_drew1) | exact HB.out))) : w.heap.size ≤ gb454)); have n3_ := Aside0.mk ((by rw [hg]; exact (below_size (by repeat (first | (with_reducible first | exact HB.out | apply below_alloc | apply pw_below_drewN | apply below_drew1) | exact HB.out))) : w.heap.size ≤ gb454)); clear HB; have HB := n0_; have BK454 := n1_; have GW454 := n2_; have GE454 := n3_; clear n0_ n1_ n2_ n3_; clear hb hbox hg; have hcz6_0 : w5.cell? ⟨gb454, 0, none⟩ = some (.int .i64 a0_0) := (blk_cell BK454.out 0).trans rfl; have hcz6_1 : w5.cell? ⟨gb454, 1, none⟩ = some (.int .i64 a0_1) := (blk_cell BK454.out 1).trans rfl; have hcz6_2 : w5.cell? ⟨gb454, 2, none⟩ = some (.slice A0_2 l0_2.length c0_2) := (blk_cell BK454.out 2).trans rfl; have hfz6_0 := blk_frozen BK454.out 0; have hfz6_1 := blk_frozen BK454.out 1; have hfz6_2 := blk_frozen BK454.out 2))
  go_loopg [5, 13] k (fun kq v5 v13 w' => ∃ (x5_1 : Int) (x13_1 : Int), v5 = .int .i64 x5_1 ∧ v13 = .int .i64 x13_1 ∧ Aside0 (expr_parts.l0 kq a1 x5_1 l0_2 (l0_2.length : Int) x13_1 = some r) ∧ Aside0 (kq ≤ k) ∧ Aside0 (w'.heap[gb454]? = some (.cells #[.int .i64 a0_0, .int .i64 a0_1, (.slice A0_2 l0_2.length c0_2)] 24 (0, 0))) ∧ Aside0 (Below w.heap.size w w'))
  case atStart => exact ⟨(1), (0), (by first | rfl | (simp; done) | (simp [*]; done)), (by first | rfl | (simp; done) | (simp [*]; done)), H', ⟨Nat.le_refl _⟩, ⟨by (with_reducible repeat (first | refine blk_drewN ?_ _ | refine blk_drew ?_ | refine blk_alloc ?_ _)); exact BK454.out⟩, ⟨by repeat (first | (with_reducible first | exact HB.out | apply below_alloc | apply pw_below_drewN | apply below_drew1 | refine below_set ?_ GE454.out) | exact HB.out)⟩⟩
  case round =>
   clear H'
   try clear c1
   try clear p2
   try clear c3
   try clear c3b0
   try clear hcz6_0
   try clear hcz6_1
   try clear hcz6_2
   try clear hfz6_0
   try clear hfz6_1
   try clear hfz6_2
   obtain ⟨x5_1, x13_1, rfl, rfl, HA, HK1, BK454, HB⟩ := hrel
   cases gk with
   | zero => exact absurd HA.out (by simp [expr_parts.l0])
   | succ k1 =>
    have H := HA.out
    clear HA
    simp only [expr_parts.l0] at H
    by_cases c7 : x13_1 < (l0_2.length : Int)
    ·rw [if_pos c7] at H
     have c7b0 : decide (x13_1 < (l0_2.length : Int)) = true := decide_eq_true c7
     clear c7
     by_cases c8 : 0 ≤ x13_1
     ·rw [if_pos c8] at H
      have c8b0 : decide (0 ≤ x13_1) = true := decide_eq_true c8
      clear c8
      by_cases c9 : x13_1 < (l0_2.length : Int)
      ·rw [if_pos c9] at H
       have c9b0 : decide (x13_1 < (l0_2.length : Int)) = true := decide_eq_true c9
       clear c9
       replace H := Option.bind_eq_some_iff.mp H
       obtain ⟨t457, A100, H⟩ := H
       replace H : (if (wrap64 (x5_1 + t457)) > 30 then (some (wrap64 (x5_1 + t457))) else (expr_parts.l0 k1 a1 (wrap64 (x5_1 + t457)) l0_2 (l0_2.length : Int) (wrap64 (x13_1 + 1)))) = some r := H
       have A10 := Aside0.mk A100
       clear A100
       by_cases c11 : (wrap64 (x5_1 + t457)) > 30
       ·rw [if_pos c11] at H
        have c11b0 : decide (30 < (wrap64 (x5_1 + t457))) = true := decide_eq_true c11
        clear c11
        obtain rfl := Option.some.inj H
        have p455 : 0 ≤ (x13_1 : Int) := of_decide_eq_true (by first | (with_reducible assumption) | assumption)
        have q455 : x13_1 < (l0_2.length : Int) := of_decide_eq_true (by first | (with_reducible assumption) | assumption)
        obtain ⟨ad455, A455_2, c455_2, e455, hx455_0, hx455_1, hx455_2, hl455_2, hi455_2⟩ := at_T24 HR0_2.out x13_1 p455 q455
        cases e455
        replace hx455_0 := (HB.out.cell (World.block_lt_of_cell? w _ hx455_0)).trans hx455_0
        replace hx455_1 := (HB.out.cell (World.block_lt_of_cell? w _ hx455_1)).trans hx455_1
        replace hx455_2 := (HB.out.cell (World.block_lt_of_cell? w _ hx455_2)).trans hx455_2
        have HR455_2 := Aside0.mk hi455_2
        have HC455_2 := Aside0.mk hl455_2
        clear hi455_2 hl455_2
        replace p455 := eq_true p455
        replace q455 := eq_true q455
        go_wp2_with (first | ((with_reducible refine gate_dst (N := 7) rfl ?_); refine box_event ?hg (N := 7) ?hd (cs := #[.int .i64 0, .int .i64 0, .slice none 0 0]) (t := 24) ?hr ?_; (case hd => rfl); (case hg => rfl); (case hr => first | (go_simp; done) | (go_simp; rfl)); intro gb456 hg w12 hbox hb; have n0_ := Aside0.mk (blk_below (g := gb454) (o := .cells #[.int .i64 a0_0, .int .i64 a0_1, .slice (some ad455) l0_2.length c0_2] 24 (0, 0)) (by (with_reducible repeat (first | refine blk_drewN ?_ _ | refine blk_drew ?_ | refine blk_alloc ?_ _)); exact BK454.out) hb); have n1_ := Aside0.mk (below_step (by repeat (first | (with_reducible first | exact HB.out | apply below_alloc | apply pw_below_drewN | apply below_drew1 | refine below_set ?_ GE454.out) | exact HB.out)) hb); have n2_ := Aside0.mk (hbox); have n3_ := Aside0.mk ((by rw [hg]; exact (below_size (by repeat (first | (with_reducible first | exact HB.out | apply below_alloc | apply pw_below_drewN | apply below_drew1 | refine below_set ?_ GE454.out) | exact HB.out))) : w.heap.size ≤ gb456)); have n4_ := Aside0.mk ((by rw [hg]; exact (below_size (by repeat (first | (with_reducible first | exact HB.out | apply below_alloc | apply pw_below_drewN | apply below_drew1 | refine below_set ?_ GE454.out) | exact HB.out))) : w.heap.size ≤ gb456)); have n5_ := Aside0.mk ((by rw [hg]; exact Nat.ne_of_lt (blk_lt (g := gb454) (o := .cells #[.int .i64 a0_0, .int .i64 a0_1, .slice (some ad455) l0_2.length c0_2] 24 (0, 0)) (by (with_reducible repeat (first | refine blk_drewN ?_ _ | refine blk_drew ?_ | refine blk_alloc ?_ _)); exact BK454.out)) : gb454 ≠ gb456)); have n6_ := Aside0.mk ((by rw [hg]; exact Nat.ne_of_gt (blk_lt (g := gb454) (o := .cells #[.int .i64 a0_0, .int .i64 a0_1, .slice (some ad455) l0_2.length c0_2] 24 (0, 0)) (by (with_reducible repeat (first | refine blk_drewN ?_ _ | refine blk_drew ?_ | refine blk_alloc ?_ _)); exact BK454.out)) : gb456 ≠ gb454)); clear BK454; clear HB; have BK454 := n0_; have HB := n1_; have BK456 := n2_; have GW456 := n3_; have GE456 := n4_; have NB454_456 := n5_; have NB456_454 := n6_; clear n0_ n1_ n2_ n3_ n4_ n5_ n6_; clear hb hbox hg; have hnb13 := NB456_454.out; have hnc13 := NB454_456.out; have hcz14_0 : w12.cell? ⟨gb456, 0, none⟩ = some (.int .i64 0) := (blk_cell BK456.out 0).trans rfl; have hcz14_1 : w12.cell? ⟨gb456, 1, none⟩ = some (.int .i64 0) := (blk_cell BK456.out 1).trans rfl; have hcz14_2 : w12.cell? ⟨gb456, 2, none⟩ = some (.slice none 0 0) := (blk_cell BK456.out 2).trans rfl; have hfz14_0 := blk_frozen BK456.out 0; have hfz14_1 := blk_frozen BK456.out 1; have hfz14_2 := blk_frozen BK456.out 2) | ((with_reducible refine gate_callee (f := 100) rfl ?_); refine goesL_ (some 21) rfl rfl Tryd.func100 (by kernel_rfl) rfl #[.agg #[.int .i64 ((rd_T24 l0_2 x13_1).f0), .int .i64 ((rd_T24 l0_2 x13_1).f1), .slice A455_2 ((rd_T24 l0_2 x13_1).f2).length c455_2], .int .i64 (wrap64 (a1 + 1))] rfl (by (try simp only [List.map_toArray, List.map_cons, List.map_nil]); first | done | rfl | (simp only [List.length_drop, List.length_take]; rfl)) ?_; (with_reducible refine (ih k1 (by have := HK1.out; omega) ((rd_T24 l0_2 x13_1).f0) ((rd_T24 l0_2 x13_1).f1) _ _ ((rd_T24 l0_2 x13_1).f2) (wrap64 (a1 + 1)) t457 _ ?side1 ?side2 A10.out).mono ?_); (case side1 => exact Kd.C_below HR455_2.out (by repeat (first | (with_reducible first | exact HB.out | apply below_alloc | apply pw_below_drewN | apply below_drew1 | refine below_set ?_ GE454.out | refine below_set ?_ GE456.out) | exact HB.out))); (case side2 => exact HC455_2.out); rintro e w15 ⟨rfl, hb⟩; refine ⟨_, rfl, ?_⟩; have n0_ := Aside0.mk (blk_below (g := gb454) (o := .cells #[.int .i64 a0_0, .int .i64 a0_1, .slice (some ad455) l0_2.length c0_2] 24 (0, 0)) (by (with_reducible repeat (first | refine blk_drewN ?_ _ | refine blk_drew ?_ | refine blk_alloc ?_ _)); refine blk_far ?_ NB454_456.out _; (with_reducible repeat (first | refine blk_drewN ?_ _ | refine blk_drew ?_ | refine blk_alloc ?_ _)); refine blk_far ?_ NB454_456.out _; (with_reducible repeat (first | refine blk_drewN ?_ _ | refine blk_drew ?_ | refine blk_alloc ?_ _)); refine blk_far ?_ NB454_456.out _; (with_reducible repeat (first | refine blk_drewN ?_ _ | refine blk_drew ?_ | refine blk_alloc ?_ _)); exact BK454.out) hb); have n1_ := Aside0.mk (blk_below (g := gb456) (o := .cells #[.int .i64 ((rd_T24 l0_2 x13_1).f0), .int .i64 ((rd_T24 l0_2 x13_1).f1), .slice A455_2 ((rd_T24 l0_2 x13_1).f2).length c455_2] 24 (0, 0)) (by (with_reducible repeat (first | refine blk_drewN ?_ _ | refine blk_drew ?_ | refine blk_alloc ?_ _)); refine blk_put (cs := #[.int .i64 ((rd_T24 l0_2 x13_1).f0), .int .i64 ((rd_T24 l0_2 x13_1).f1), .slice none 0 0]) ?_ 2 _ rfl; (with_reducible repeat (first | refine blk_drewN ?_ _ | refine blk_drew ?_ | refine blk_alloc ?_ _)); refine blk_put (cs := #[.int .i64 ((rd_T24 l0_2 x13_1).f0), .int .i64 0, .slice none 0 0]) ?_ 1 _ rfl; (with_reducible repeat (first | refine blk_drewN ?_ _ | refine blk_drew ?_ | refine blk_alloc ?_ _)); refine blk_put (cs := #[.int .i64 0, .int .i64 0, .slice none 0 0]) ?_ 0 _ rfl; (with_reducible repeat (first | refine blk_drewN ?_ _ | refine blk_drew ?_ | refine blk_alloc ?_ _)); exact BK456.out) hb); have n2_ := Aside0.mk (below_step (by repeat (first | (with_reducible first | exact HB.out | apply below_alloc | apply pw_below_drewN | apply below_drew1 | refine below_set ?_ GE454.out | refine below_set ?_ GE456.out) | exact HB.out)) hb); clear BK454; clear BK456; clear HB; have BK454 := n0_; have BK456 := n1_; have HB := n2_; clear n0_ n1_ n2_; (try clear hb); (try clear hb2); (try clear hk); (try clear hi)))
        go_ret
        exact ⟨by first | rfl | (simp [errW_none, errW_some] <;> rfl) | (simp [*, errW_none, errW_some] <;> rfl), by repeat (first | (with_reducible first | exact HB.out | apply below_alloc | apply pw_below_drewN | apply below_drew1 | refine below_set ?_ GE454.out | refine below_set ?_ GE456.out) | exact HB.out)⟩
       ·rw [if_neg c11] at H
        have c11b0 : decide (30 < (wrap64 (x5_1 + t457))) = false := decide_eq_false c11
        clear c11
        have H' := Aside0.mk H
        clear H
        have p455 : 0 ≤ (x13_1 : Int) := of_decide_eq_true (by first | (with_reducible assumption) | assumption)
        have q455 : x13_1 < (l0_2.length : Int) := of_decide_eq_true (by first | (with_reducible assumption) | assumption)
        obtain ⟨ad455, A455_2, c455_2, e455, hx455_0, hx455_1, hx455_2, hl455_2, hi455_2⟩ := at_T24 HR0_2.out x13_1 p455 q455
        cases e455
        replace hx455_0 := (HB.out.cell (World.block_lt_of_cell? w _ hx455_0)).trans hx455_0
        replace hx455_1 := (HB.out.cell (World.block_lt_of_cell? w _ hx455_1)).trans hx455_1
        replace hx455_2 := (HB.out.cell (World.block_lt_of_cell? w _ hx455_2)).trans hx455_2
        have HR455_2 := Aside0.mk hi455_2
        have HC455_2 := Aside0.mk hl455_2
        clear hi455_2 hl455_2
        replace p455 := eq_true p455
        replace q455 := eq_true q455
        go_wp2_with (first | ((with_reducible refine gate_dst (N := 7) rfl ?_); refine box_event ?hg (N := 7) ?hd (cs := #[.int .i64 0, .int .i64 0, .slice none 0 0]) (t := 24) ?hr ?_; (case hd => rfl); (case hg => rfl); (case hr => first | (go_simp; done) | (go_simp; rfl)); intro gb456 hg w16 hbox hb; have n0_ := Aside0.mk (blk_below (g := gb454) (o := .cells #[.int .i64 a0_0, .int .i64 a0_1, .slice (some ad455) l0_2.length c0_2] 24 (0, 0)) (by (with_reducible repeat (first | refine blk_drewN ?_ _ | refine blk_drew ?_ | refine blk_alloc ?_ _)); exact BK454.out) hb); have n1_ := Aside0.mk (below_step (by repeat (first | (with_reducible first | exact HB.out | apply below_alloc | apply pw_below_drewN | apply below_drew1 | refine below_set ?_ GE454.out) | exact HB.out)) hb); have n2_ := Aside0.mk (hbox); have n3_ := Aside0.mk ((by rw [hg]; exact (below_size (by repeat (first | (with_reducible first | exact HB.out | apply below_alloc | apply pw_below_drewN | apply below_drew1 | refine below_set ?_ GE454.out) | exact HB.out))) : w.heap.size ≤ gb456)); have n4_ := Aside0.mk ((by rw [hg]; exact (below_size (by repeat (first | (with_reducible first | exact HB.out | apply below_alloc | apply pw_below_drewN | apply below_drew1 | refine below_set ?_ GE454.out) | exact HB.out))) : w.heap.size ≤ gb456)); have n5_ := Aside0.mk ((by rw [hg]; exact Nat.ne_of_lt (blk_lt (g := gb454) (o := .cells #[.int .i64 a0_0, .int .i64 a0_1, .slice (some ad455) l0_2.length c0_2] 24 (0, 0)) (by (with_reducible repeat (first | refine blk_drewN ?_ _ | refine blk_drew ?_ | refine blk_alloc ?_ _)); exact BK454.out)) : gb454 ≠ gb456)); have n6_ := Aside0.mk ((by rw [hg]; exact Nat.ne_of_gt (blk_lt (g := gb454) (o := .cells #[.int .i64 a0_0, .int .i64 a0_1, .slice (some ad455) l0_2.length c0_2] 24 (0, 0)) (by (with_reducible repeat (first | refine blk_drewN ?_ _ | refine blk_drew ?_ | refine blk_alloc ?_ _)); exact BK454.out)) : gb456 ≠ gb454)); clear BK454; clear HB; have BK454 := n0_; have HB := n1_; have BK456 := n2_; have GW456 := n3_; have GE456 := n4_; have NB454_456 := n5_; have NB456_454 := n6_; clear n0_ n1_ n2_ n3_ n4_ n5_ n6_; clear hb hbox hg; have hnb17 := NB456_454.out; have hnc17 := NB454_456.out; have hcz18_0 : w16.cell? ⟨gb456, 0, none⟩ = some (.int .i64 0) := (blk_cell BK456.out 0).trans rfl; have hcz18_1 : w16.cell? ⟨gb456, 1, none⟩ = some (.int .i64 0) := (blk_cell BK456.out 1).trans rfl; have hcz18_2 : w16.cell? ⟨gb456, 2, none⟩ = some (.slice none 0 0) := (blk_cell BK456.out 2).trans rfl; have hfz18_0 := blk_frozen BK456.out 0; have hfz18_1 := blk_frozen BK456.out 1; have hfz18_2 := blk_frozen BK456.out 2) | ((with_reducible refine gate_callee (f := 100) rfl ?_); refine goesL_ (some 21) rfl rfl Tryd.func100 (by kernel_rfl) rfl #[.agg #[.int .i64 ((rd_T24 l0_2 x13_1).f0), .int .i64 ((rd_T24 l0_2 x13_1).f1), .slice A455_2 ((rd_T24 l0_2 x13_1).f2).length c455_2], .int .i64 (wrap64 (a1 + 1))] rfl (by (try simp only [List.map_toArray, List.map_cons, List.map_nil]); first | done | rfl | (simp only [List.length_drop, List.length_take]; rfl)) ?_; (with_reducible refine (ih k1 (by have := HK1.out; omega) ((rd_T24 l0_2 x13_1).f0) ((rd_T24 l0_2 x13_1).f1) _ _ ((rd_T24 l0_2 x13_1).f2) (wrap64 (a1 + 1)) t457 _ ?side1 ?side2 A10.out).mono ?_); (case side1 => exact Kd.C_below HR455_2.out (by repeat (first | (with_reducible first | exact HB.out | apply below_alloc | apply pw_below_drewN | apply below_drew1 | refine below_set ?_ GE454.out | refine below_set ?_ GE456.out) | exact HB.out))); (case side2 => exact HC455_2.out); rintro e w19 ⟨rfl, hb⟩; refine ⟨_, rfl, ?_⟩; have n0_ := Aside0.mk (blk_below (g := gb454) (o := .cells #[.int .i64 a0_0, .int .i64 a0_1, .slice (some ad455) l0_2.length c0_2] 24 (0, 0)) (by (with_reducible repeat (first | refine blk_drewN ?_ _ | refine blk_drew ?_ | refine blk_alloc ?_ _)); refine blk_far ?_ NB454_456.out _; (with_reducible repeat (first | refine blk_drewN ?_ _ | refine blk_drew ?_ | refine blk_alloc ?_ _)); refine blk_far ?_ NB454_456.out _; (with_reducible repeat (first | refine blk_drewN ?_ _ | refine blk_drew ?_ | refine blk_alloc ?_ _)); refine blk_far ?_ NB454_456.out _; (with_reducible repeat (first | refine blk_drewN ?_ _ | refine blk_drew ?_ | refine blk_alloc ?_ _)); exact BK454.out) hb); have n1_ := Aside0.mk (blk_below (g := gb456) (o := .cells #[.int .i64 ((rd_T24 l0_2 x13_1).f0), .int .i64 ((rd_T24 l0_2 x13_1).f1), .slice A455_2 ((rd_T24 l0_2 x13_1).f2).length c455_2] 24 (0, 0)) (by (with_reducible repeat (first | refine blk_drewN ?_ _ | refine blk_drew ?_ | refine blk_alloc ?_ _)); refine blk_put (cs := #[.int .i64 ((rd_T24 l0_2 x13_1).f0), .int .i64 ((rd_T24 l0_2 x13_1).f1), .slice none 0 0]) ?_ 2 _ rfl; (with_reducible repeat (first | refine blk_drewN ?_ _ | refine blk_drew ?_ | refine blk_alloc ?_ _)); refine blk_put (cs := #[.int .i64 ((rd_T24 l0_2 x13_1).f0), .int .i64 0, .slice none 0 0]) ?_ 1 _ rfl; (with_reducible repeat (first | refine blk_drewN ?_ _ | refine blk_drew ?_ | refine blk_alloc ?_ _)); refine blk_put (cs := #[.int .i64 0, .int .i64 0, .slice none 0 0]) ?_ 0 _ rfl; (with_reducible repeat (first | refine blk_drewN ?_ _ | refine blk_drew ?_ | refine blk_alloc ?_ _)); exact BK456.out) hb); have n2_ := Aside0.mk (below_step (by repeat (first | (with_reducible first | exact HB.out | apply below_alloc | apply pw_below_drewN | apply below_drew1 | refine below_set ?_ GE454.out | refine below_set ?_ GE456.out) | exact HB.out)) hb); clear BK454; clear BK456; clear HB; have BK454 := n0_; have BK456 := n1_; have HB := n2_; clear n0_ n1_ n2_; (try clear hb); (try clear hb2); (try clear hk); (try clear hi)))
        go_roundg k1
        case measure => have := HK1.out; omega
        case rel => exact ⟨(wrap64 (x5_1 + t457)), (wrap64 (x13_1 + 1)), (by first | rfl | (simp; done) | (simp [*]; done)), (by first | rfl | (simp; done) | (simp [*]; done)), H', ⟨by have := HK1.out; omega⟩, ⟨by (with_reducible repeat (first | refine blk_drewN ?_ _ | refine blk_drew ?_ | refine blk_alloc ?_ _)); exact BK454.out⟩, ⟨by repeat (first | (with_reducible first | exact HB.out | apply below_alloc | apply pw_below_drewN | apply below_drew1 | refine below_set ?_ GE454.out | refine below_set ?_ GE456.out) | exact HB.out)⟩⟩
      ·rw [if_neg c9] at H
       exact absurd H (by simp)
     ·rw [if_neg c8] at H
      exact absurd H (by simp)
    ·rw [if_neg c7] at H
     have c7b0 : decide (x13_1 < (l0_2.length : Int)) = false := decide_eq_false c7
     clear c7
     obtain rfl := Option.some.inj H
     go_wp2
     go_ret
     exact ⟨by first | rfl | (simp [errW_none, errW_some] <;> rfl) | (simp [*, errW_none, errW_some] <;> rfl), by repeat (first | (with_reducible first | exact HB.out | apply below_alloc | apply pw_below_drewN | apply below_drew1 | refine below_set ?_ GE454.out) | exact HB.out)⟩

end Go.Proofs.YtgdomnlkafcddaaDoor.Q
namespace Go.Proofs.YtgdomnlkafcddaaDoor.Q
open Go.RowKit Go.Proofs.YtgdomnlkafcddaaDoorW.PrintWords Go.Proofs.YtgdomnlkafcddaaDoorW.PrintLast Go.Proofs.YtgdomnlkafcddaaDoorW.PrintMore
set_option linter.unusedVariables false
set_option linter.unusedSimpArgs false
set_option maxHeartbeats 8000000 in
set_option maxRecDepth 100000 in
theorem each_lit (n : Int) (w : World) (hT : GTak w) :
  Calls Tryd.prog 101 #[.agg #[.int .i64 1, .int .i64 n, .slice none 0 0]] w fun e w' => e = .returned .nilIface ∧ Below w.heap.size w w' := by
 have hu24 := Tryd.underlying24
 have HT := Aside0.mk hT
 clear hT
 go_enter Tryd.func101, Tryd.ntmps101
 go_wp2_with (first
  | ((with_reducible refine gate_dst (N := 1) rfl ?_); refine box_event ?hg (N := 1) ?hd (cs := #[.int .i64 1, .int .i64 n, .slice none 0 0]) (t := 24) ?hr ?_; (case hd => rfl); (case hg => rfl); (case hr => first | (go_simp; done) | (go_simp; rfl)); intro gb hg w1 hbox hb; have BK := Aside0.mk hbox; have HB := Aside0.mk hb; have ha0 : w1.cell? ⟨gb, 0, none⟩ = some (.int .i64 1) := (blk_cell hbox 0).trans rfl; have ha1 : w1.cell? ⟨gb, 1, none⟩ = some (.int .i64 n) := (blk_cell hbox 1).trans rfl; have ha2 : w1.cell? ⟨gb, 2, none⟩ = some (.slice none 0 0) := (blk_cell hbox 2).trans rfl; have ht : w1.cell? ⟨0, 1, none⟩ = some (.int .i64 0) := HT.out.below hb 1 (by omega); clear hbox hb hg))
 go_quiet (fail)
 go_wp2
 go_loopg [28] 1 (fun kq v28 w' => v28 = .int .i64 0 ∧ Aside0 (Below w.heap.size w w'))
 case atStart => exact ⟨rfl, ⟨by repeat (first | (with_reducible exact HB.out) | apply pw_below_drewN | apply below_drew1 | exact HB.out)⟩⟩
 case round =>
  obtain ⟨rfl, HB2⟩ := hrel
  go_wp2
  go_ret
  exact ⟨rfl, HB2.out⟩
set_option maxHeartbeats 8000000 in
set_option maxRecDepth 100000 in
theorem check_lit (n : Int) (w : World) (hT : GTak w) :
  Calls Tryd.prog 57 #[.agg #[.int .i64 1, .int .i64 n, .slice none 0 0]] w fun e w' => e = .returned .nilIface ∧ Below w.heap.size w w' := by
 have hu24 := Tryd.underlying24
 have hu30 := Tryd.underlying30
 have hu66 := Tryd.underlying66
 have HT := Aside0.mk hT
 have hp : expr_parts.f 3 1 n ([] : List S24) 0 = some 1 := by simp [expr_parts.f, expr_parts.l0]
 have HP := Aside0.mk hp
 clear hT hp
 go_enter Tryd.func57, Tryd.ntmps57
 go_wp2_with (first
  | ((with_reducible refine gate_dst (N := 1) rfl ?_); refine box_event ?hg (N := 1) ?hd (cs := #[.int .i64 1, .int .i64 n, .slice none 0 0]) (t := 24) ?hr ?_; (case hd => rfl); (case hg => rfl); (case hr => first | (go_simp; done) | (go_simp; rfl)); intro gb hg w1 hbox hb; have BK := Aside0.mk hbox; have HB := Aside0.mk hb; have ha0 : w1.cell? ⟨gb, 0, none⟩ = some (.int .i64 1) := (blk_cell hbox 0).trans rfl; have ha1 : w1.cell? ⟨gb, 1, none⟩ = some (.int .i64 n) := (blk_cell hbox 1).trans rfl; have ha2 : w1.cell? ⟨gb, 2, none⟩ = some (.slice none 0 0) := (blk_cell hbox 2).trans rfl; clear hbox hb hg)
  | ((with_reducible refine gate_callee (f := 100) rfl ?_); refine goesL_ (some 4) rfl rfl Tryd.func100 (by kernel_rfl) rfl #[.agg #[.int .i64 1, .int .i64 n, .slice none 0 0], .int .i64 0] rfl (by (try simp only [List.map_toArray, List.map_cons, List.map_nil]); first | done | rfl) ?_; (refine (expr_parts.calls 3 1 n none 0 ([] : List S24) 0 1 _ (Kd.C_nil _ _) (Nat.le_refl _) HP.out).mono ?_); rintro e w2 ⟨rfl, hb⟩; refine ⟨_, rfl, ?_⟩; have hbk := blk_below BK.out hb; have HB2 := Aside0.mk (below_step HB.out hb); have ha0 : w2.cell? ⟨gb, 0, none⟩ = some (.int .i64 1) := (blk_cell hbk 0).trans rfl; have ha1 : w2.cell? ⟨gb, 1, none⟩ = some (.int .i64 n) := (blk_cell hbk 1).trans rfl; have ha2 : w2.cell? ⟨gb, 2, none⟩ = some (.slice none 0 0) := (blk_cell hbk 2).trans rfl; clear hb hbk)
  | ((with_reducible refine gate_callee (f := 101) rfl ?_); refine goesL_ (some 8) rfl rfl Tryd.func101 (by kernel_rfl) rfl #[.agg #[.int .i64 1, .int .i64 n, .slice none 0 0]] rfl (by (try simp only [List.map_toArray, List.map_cons, List.map_nil]); first | done | rfl) ?_; (refine (each_lit n _ (HT.out.below HB2.out)).mono ?_); rintro e w3 ⟨rfl, hb⟩; refine ⟨_, rfl, ?_⟩; have HB3 := Aside0.mk (below_step HB2.out hb); clear hb))
 go_ret
 exact ⟨rfl, HB3.out⟩
set_option maxHeartbeats 8000000 in
set_option maxRecDepth 100000 in
theorem told_lit (n : Int) (b : Bool) (m : Int) (xs : List S27) (A : Option Addr) (c : Nat) (w : World) :
  Calls Tryd.prog 95 #[.agg #[.int .i64 1, .int .i64 n, .slice none 0 0], .agg #[.bool b, .int .i64 m, .slice A xs.length c]] w fun e w' => e = .returned (.int .i64 n) ∧ Below w.heap.size w w' := by
 have hu24 := Tryd.underlying24
 have hu27 := Tryd.underlying27
 go_enter Tryd.func95, Tryd.ntmps95
 go_wp2_with (first
  | ((with_reducible refine gate_dst (N := 2) rfl ?_); refine box_event ?hg (N := 2) ?hd (cs := #[.int .i64 1, .int .i64 n, .slice none 0 0]) (t := 24) ?hr ?_; (case hd => rfl); (case hg => rfl); (case hr => first | (go_simp; done) | (go_simp; rfl)); intro gb hg w1 hbox hb; have BK := Aside0.mk hbox; have HB := Aside0.mk hb; clear hbox hb hg)
  | ((with_reducible refine gate_dst (N := 3) rfl ?_); refine box_event ?hg (N := 3) ?hd (cs := #[.bool b, .int .i64 m, .slice A xs.length c]) (t := 27) ?hr ?_; (case hd => rfl); (case hg => rfl); (case hr => first | (go_simp; done) | (go_simp; rfl)); intro g3 hg w3 hbox hb; have hbk := blk_below BK.out hb; have HB3 := Aside0.mk (below_step HB.out hb); have ha0 : w3.cell? ⟨gb, 0, none⟩ = some (.int .i64 1) := (blk_cell hbk 0).trans rfl; have ha1 : w3.cell? ⟨gb, 1, none⟩ = some (.int .i64 n) := (blk_cell hbk 1).trans rfl; clear hbox hb hg hbk))
 go_ret
 exact ⟨rfl, HB3.out⟩
end Go.Proofs.YtgdomnlkafcddaaDoor.Q
namespace Go.Proofs.YtgdomnlkafcddaaDoor.Q
open Go.RowKit Go.Proofs.YtgdomnlkafcddaaDoorW.PrintWords Go.Proofs.YtgdomnlkafcddaaDoorW.PrintLast Go.Proofs.YtgdomnlkafcddaaDoorW.PrintMore
set_option linter.unusedVariables false
set_option linter.unusedSimpArgs false
set_option maxHeartbeats 8000000 in
set_option maxRecDepth 100000 in
theorem eval_idle (p q : Addr) (w : World) :
  CallsD Tryd.prog 94 #[.pointer (some p), .pointer (some q)] .returning w fun e u' w' => e = .returned (.tuple #[]) ∧ u' = .returning ∧ w' = w := by
 refine callsD_of_wpS Tryd.func94 rfl fun c₀ cs hu => ?_
 apply wpS_seq
 apply wpS_region
 simp [wpOpsS, go_sem, recoverD, hu, Tryd.ntmps94, Exit.thenS]
 apply wpS_seq
 apply wpS_region
 simp [wpOpsS, go_sem, Exit.thenS]
 refine wpS_cond (t := false) (by simp [Act.eval, Array.replicate]) ?_
 simp only [Bool.false_eq_true, if_false]
 refine wpS_of_wp (wp_skip ?_)
 cases c₀
 simp_all [bodyPostS, results, Tryd.results94]
theorem results47 (tmps : Array Value) (w : World) (gv ge : Nat) (y x : Value) (h4 : tmps.getD 4 undef = .pointer (some ⟨gv, 0, none⟩)) (h5 : tmps.getD 5 undef = .pointer (some ⟨ge, 0, none⟩)) (hg : w.cell? ⟨gv, 0, none⟩ = some y) (he : w.cell? ⟨ge, 0, none⟩ = some x) :
  (results Tryd.f47 tmps).run Tryd.prog w = .ok (.tuple #[y, x]) w := by
 have h1 : tmps[4]?.getD undef = .pointer (some ⟨gv, 0, none⟩) := by simpa using h4
 have h2 : tmps[5]?.getD undef = .pointer (some ⟨ge, 0, none⟩) := by simpa using h5
 have hu30 := Tryd.underlying30
 have hu3 := Tryd.underlying3
 have h3 : (loadVar 3 ⟨gv, 0, none⟩).run Tryd.prog w = .ok y w := by simp [go_sem, hg, hu3]
 have h9 : (loadVar 30 ⟨ge, 0, none⟩).run Tryd.prog w = .ok x w := by simp [go_sem, he, hu30]
 simp [results, Tryd.results47, h1, h2, asAddr, h3, h9]
set_option maxHeartbeats 8000000 in
set_option maxRecDepth 100000 in
theorem eval_lit (k : Nat) (n : Int) (b : Bool) (m : Int) (xs : List S27) (A : Option Addr) (c : Nat) (w : World) (hT : GTak w) (hC : Kd.C k27 w A xs.length xs) (hc : xs.length ≤ c) (hv : val_Check.f k b m xs = some none) :
  Calls Tryd.prog 47 #[.agg #[.int .i64 1, .int .i64 n, .slice none 0 0], .agg #[.bool b, .int .i64 m, .slice A xs.length c]] w fun e w' => e = .returned (.tuple #[.int .i64 n, .nilIface]) ∧ Below w.heap.size w w' := by
 have hu24 := Tryd.underlying24
 have hu27 := Tryd.underlying27
 have hu30 := Tryd.underlying30
 have hu66 := Tryd.underlying66
 have hmf : ∀ (fn : Fn) (first cap : Array Value) (w : World), (Instr.makeFunc fn first cap).run Tryd.prog w = .ok (.func fn first cap) w := fun _ _ _ _ => rfl
 have HT := Aside0.mk hT
 have HC := Aside0.mk hC
 have HL := Aside0.mk hc
 have HV := Aside0.mk hv
 clear hT hC hc hv
 go_enter_defers Tryd.func47, Tryd.ntmps47
 go_wp2_with (first
  | ((with_reducible refine gate_dst (N := 2) rfl ?_); refine box_event ?hg (N := 2) ?hd (cs := #[.int .i64 1, .int .i64 n, .slice none 0 0]) (t := 24) ?hr ?_; (case hd => rfl); (case hg => rfl); (case hr => first | (go_simp; done) | (go_simp; rfl)); intro g2 hg w1 hbox hb; have BX := Aside0.mk hbox; have HB := Aside0.mk hb; clear hbox hb hg)
  | ((with_reducible refine gate_dst (N := 3) rfl ?_); refine box_event ?hg (N := 3) ?hd (cs := #[.bool b, .int .i64 m, .slice A xs.length c]) (t := 27) ?hr ?_; (case hd => rfl); (case hg => rfl); (case hr => first | (go_simp; done) | (go_simp; rfl)); intro g3 hg w2 hbox hb; replace BX := Aside0.mk (blk_below BX.out hb); have BV := Aside0.mk hbox; replace HB := Aside0.mk (below_step HB.out hb); clear hbox hb hg)
  | ((with_reducible refine gate_dst (N := 4) rfl ?_); refine box_event ?hg (N := 4) ?hd (cs := #[.int .i64 0]) (t := 3) ?hr ?_; (case hd => rfl); (case hg => rfl); (case hr => first | (go_simp; done) | (go_simp; rfl)); intro g4 hg w3 hbox hb; replace BX := Aside0.mk (blk_below BX.out hb); replace BV := Aside0.mk (blk_below BV.out hb); have BN := Aside0.mk hbox; have GN := Aside0.mk (hg ▸ HB.out.size : w.heap.size ≤ g4); replace HB := Aside0.mk (below_step HB.out hb); clear hbox hb hg)
  | ((with_reducible refine gate_dst (N := 5) rfl ?_); refine box_event ?hg (N := 5) ?hd (cs := #[.nilIface]) (t := 30) ?hr ?_; (case hd => rfl); (case hg => rfl); (case hr => first | (go_simp; done) | (go_simp; rfl)); intro g5 hg w4 hbox hb; replace BX := Aside0.mk (blk_below BX.out hb); replace BV := Aside0.mk (blk_below BV.out hb); replace BN := Aside0.mk (blk_below BN.out hb); have BE := Aside0.mk hbox; have GE := Aside0.mk (hg ▸ HB.out.size : w.heap.size ≤ g5); replace HB := Aside0.mk (below_step HB.out hb); have ha0 : w4.cell? ⟨g2, 0, none⟩ = some (.int .i64 1) := (blk_cell BX.out 0).trans rfl; have ha1 : w4.cell? ⟨g2, 1, none⟩ = some (.int .i64 n) := (blk_cell BX.out 1).trans rfl; have ha2 : w4.cell? ⟨g2, 2, none⟩ = some (.slice none 0 0) := (blk_cell BX.out 2).trans rfl; skip; clear hbox hb hg)
  | ((with_reducible refine gate_callee (f := 57) rfl ?_); refine goesL_ (some 9) rfl rfl Tryd.func57 (by kernel_rfl) rfl #[.agg #[.int .i64 1, .int .i64 n, .slice none 0 0]] rfl (by (try simp only [List.map_toArray, List.map_cons, List.map_nil]); first | done | rfl) ?_; (refine (check_lit n _ (HT.out.below HB.out)).mono ?_); rintro e w5 ⟨rfl, hb⟩; refine ⟨_, rfl, ?_⟩; replace BX := Aside0.mk (blk_below BX.out hb); replace BV := Aside0.mk (blk_below BV.out hb); replace BN := Aside0.mk (blk_below BN.out hb); replace BE := Aside0.mk (blk_below BE.out hb); replace HB := Aside0.mk (below_step HB.out hb); have hb0 : w5.cell? ⟨g3, 0, none⟩ = some (.bool b) := (blk_cell BV.out 0).trans rfl; have hb1 : w5.cell? ⟨g3, 1, none⟩ = some (.int .i64 m) := (blk_cell BV.out 1).trans rfl; have hb2 : w5.cell? ⟨g3, 2, none⟩ = some (.slice A xs.length c) := (blk_cell BV.out 2).trans rfl; clear hb ha0 ha1 ha2)
  | ((with_reducible refine gate_callee (f := 54) rfl ?_); refine goesL_ (some 14) rfl rfl Tryd.func54 (by kernel_rfl) rfl #[.agg #[.bool b, .int .i64 m, .slice A xs.length c]] rfl (by (try simp only [List.map_toArray, List.map_cons, List.map_nil]); first | done | rfl) ?_; (refine (val_Check.calls k b m A c xs none _ (Kd.C_below HC.out HB.out) HL.out HV.out).mono ?_); rintro e w6 ⟨he, hb⟩; rw [errW_none] at he; subst he; refine ⟨_, rfl, ?_⟩; replace BX := Aside0.mk (blk_below BX.out hb); replace BV := Aside0.mk (blk_below BV.out hb); replace BN := Aside0.mk (blk_below BN.out hb); replace BE := Aside0.mk (blk_below BE.out hb); replace HB := Aside0.mk (below_step HB.out hb); have hb0 : w6.cell? ⟨g3, 0, none⟩ = some (.bool b) := (blk_cell BV.out 0).trans rfl; have hb1 : w6.cell? ⟨g3, 1, none⟩ = some (.int .i64 m) := (blk_cell BV.out 1).trans rfl; have hb2 : w6.cell? ⟨g3, 2, none⟩ = some (.slice A xs.length c) := (blk_cell BV.out 2).trans rfl; have ha0 : w6.cell? ⟨g2, 0, none⟩ = some (.int .i64 1) := (blk_cell BX.out 0).trans rfl; have ha1 : w6.cell? ⟨g2, 1, none⟩ = some (.int .i64 n) := (blk_cell BX.out 1).trans rfl; have ha2 : w6.cell? ⟨g2, 2, none⟩ = some (.slice none 0 0) := (blk_cell BX.out 2).trans rfl; clear hb)
  | ((with_reducible refine gate_callee (f := 95) rfl ?_); refine goesL_ (some 21) rfl rfl Tryd.func95 (by kernel_rfl) rfl #[.agg #[.int .i64 1, .int .i64 n, .slice none 0 0], .agg #[.bool b, .int .i64 m, .slice A xs.length c]] rfl (by (try simp only [List.map_toArray, List.map_cons, List.map_nil]); first | done | rfl) ?_; (refine (told_lit n b m xs A c _).mono ?_); rintro e w7 ⟨rfl, hb⟩; refine ⟨_, rfl, ?_⟩; replace BX := Aside0.mk (blk_below BX.out hb); replace BV := Aside0.mk (blk_below BV.out hb); replace BN := Aside0.mk (blk_below BN.out hb); replace BE := Aside0.mk (blk_below BE.out hb); replace HB := Aside0.mk (below_step HB.out hb); have hn0 : w7.cell? ⟨g4, 0, none⟩ = some (.int .i64 0) := (blk_cell BN.out 0).trans rfl; have he0 : w7.cell? ⟨g5, 0, none⟩ = some (.nilIface) := (blk_cell BE.out 0).trans rfl; have hnf := blk_frozen BN.out 0; have hef := blk_frozen BE.out 0; have NE := Aside0.mk (blk_ne BN.out BE.out (by decide)); have hne := NE.out; have hne2 := Ne.symm NE.out; clear hb))
 refine leaves_cons (f := 94) (args := #[.pointer (some ⟨g4, 0, none⟩), .pointer (some ⟨g5, 0, none⟩)]) (by simp) (by simp [go_sem]) ?_
 refine (eval_idle ⟨g4, 0, none⟩ ⟨g5, 0, none⟩ _).mono ?_
 rintro e u' w'' ⟨rfl, rfl, rfl⟩
 exact ⟨_, results47 _ _ g4 g5 (.int .i64 n) .nilIface rfl rfl (by go_simp) (by go_simp), rfl, below_set (below_set HB.out GN.out) GE.out⟩
end Go.Proofs.YtgdomnlkafcddaaDoor.Q
namespace Go.Proofs.YtgdomnlkafcddaaDoor.Q
open Go.RowKit Go.Proofs.YtgdomnlkafcddaaDoorW.PrintWords Go.Proofs.YtgdomnlkafcddaaDoorW.PrintLast Go.Proofs.YtgdomnlkafcddaaDoorW.PrintMore
set_option linter.unusedVariables false
set_option linter.unusedSimpArgs false
set_option maxHeartbeats 8000000 in
set_option maxRecDepth 100000 in
theorem fails_lit (k : Nat) (n : Int) (b : Bool) (m : Int) (xs : List S27) (A : Option Addr) (c : Nat) (w : World) (hT : GTak w) (hC : Kd.C k27 w A xs.length xs) (hc : xs.length ≤ c) (hv : val_Check.f k b m xs = some none) :
  Calls Tryd.prog 130 #[.agg #[.int .i64 1, .int .i64 n, .slice none 0 0], .agg #[.bool b, .int .i64 m, .slice A xs.length c]] w fun e w' => e = .returned (.tuple #[.bool (n == 0), .nilIface]) ∧ Below w.heap.size w w' := by
 have hu24 := Tryd.underlying24
 have hu27 := Tryd.underlying27
 have hu30 := Tryd.underlying30
 have hu66 := Tryd.underlying66
 have HT := Aside0.mk hT
 have HC := Aside0.mk hC
 have HL := Aside0.mk hc
 have HV := Aside0.mk hv
 clear hT hC hc hv
 have hnl : ∀ W : World, (binOp .eql 30 .nilIface (.iface 66 (.int .i64 6))).run Tryd.prog W = .ok (.bool false) W := fun W => by first | exact run_eql_iface_nil_left W 66 _ hu30 | exact run_eql_iface_nil_left _ 66 _ hu30
 go_enter Tryd.func130, Tryd.ntmps130
 go_wp2_with (first
  | ((with_reducible refine gate_dst (N := 2) rfl ?_); refine box_event ?hg (N := 2) ?hd (cs := #[.int .i64 1, .int .i64 n, .slice none 0 0]) (t := 24) ?hr ?_; (case hd => rfl); (case hg => rfl); (case hr => first | (go_simp; done) | (go_simp; rfl)); intro g2 hg w1 hbox hb; have BX := Aside0.mk hbox; have HB := Aside0.mk hb; clear hbox hb hg)
  | ((with_reducible refine gate_dst (N := 3) rfl ?_); refine box_event ?hg (N := 3) ?hd (cs := #[.bool b, .int .i64 m, .slice A xs.length c]) (t := 27) ?hr ?_; (case hd => rfl); (case hg => rfl); (case hr => first | (go_simp; done) | (go_simp; rfl)); intro g3 hg w2 hbox hb; replace BX := Aside0.mk (blk_below BX.out hb); have BV := Aside0.mk hbox; replace HB := Aside0.mk (below_step HB.out hb); have ha0 : w2.cell? ⟨g2, 0, none⟩ = some (.int .i64 1) := (blk_cell BX.out 0).trans rfl; have ha1 : w2.cell? ⟨g2, 1, none⟩ = some (.int .i64 n) := (blk_cell BX.out 1).trans rfl; have ha2 : w2.cell? ⟨g2, 2, none⟩ = some (.slice none 0 0) := (blk_cell BX.out 2).trans rfl; have hb0 : w2.cell? ⟨g3, 0, none⟩ = some (.bool b) := (blk_cell BV.out 0).trans rfl; have hb1 : w2.cell? ⟨g3, 1, none⟩ = some (.int .i64 m) := (blk_cell BV.out 1).trans rfl; have hb2 : w2.cell? ⟨g3, 2, none⟩ = some (.slice A xs.length c) := (blk_cell BV.out 2).trans rfl; skip; clear hbox hb hg)
  | ((with_reducible refine gate_callee (f := 47) rfl ?_); refine goesL_ (some 11) rfl rfl Tryd.func47 (by kernel_rfl) rfl #[.agg #[.int .i64 1, .int .i64 n, .slice none 0 0], .agg #[.bool b, .int .i64 m, .slice A xs.length c]] rfl (by (try simp only [List.map_toArray, List.map_cons, List.map_nil]); first | done | rfl) ?_; (refine (eval_lit k n b m xs A c _ (HT.out.below HB.out) (Kd.C_below HC.out HB.out) HL.out HV.out).mono ?_); rintro e w3 ⟨rfl, hb⟩; refine ⟨_, rfl, ?_⟩; replace HB := Aside0.mk (below_step HB.out hb); clear hb))
 go_ret2
 exact ⟨rfl, HB.out⟩
end Go.Proofs.YtgdomnlkafcddaaDoor.Q
namespace Go.Proofs.YtgdomnlkafcddaaDoor.Q
open Go.RowKit Go.Proofs.YtgdomnlkafcddaaDoorW.PrintWords Go.Proofs.YtgdomnlkafcddaaDoorW.PrintLast Go.Proofs.YtgdomnlkafcddaaDoorW.PrintMore
set_option linter.unusedVariables false
set_option linter.unusedSimpArgs false
set_option maxHeartbeats 8000000 in
set_option maxRecDepth 100000 in
theorem sfails_lit (k : Nat) (n : Int) (x : S63) (A3 : Option Addr) (c3 : Nat) (T : List Int) (A1 : Option Addr) (c1 : Nat) (b : Bool) (m : Int) (xs : List S27) (w : World) (hT : GTak w) (hC3 : Kd.C k63 w A3 x.f3.length x.f3) (hl3 : x.f3.length ≤ c3) (hC1 : Kd.C (Kd.int .i64) w A1 T.length T) (hl1 : T.length ≤ c1) (hr : gen_Replay.f x.f0 x.f1 x.f2 x.f3 T = some (b, m, xs, none)) (hv : val_Check.f k b m xs = some none) :
  Calls Tryd.prog 91 #[.agg #[.int .i64 x.f0, .int .i64 x.f1, .int .i64 x.f2, .slice A3 x.f3.length c3], .agg #[.int .i64 1, .int .i64 n, .slice none 0 0], .slice A1 T.length c1] w fun e w' => e = .returned (.tuple #[.bool (n == 0), .nilIface]) ∧ Below w.heap.size w w' := by
 have hu63 := Tryd.underlying63
 have hu24 := Tryd.underlying24
 have hu27 := Tryd.underlying27
 have hu30 := Tryd.underlying30
 have hu66 := Tryd.underlying66
 have HT := Aside0.mk hT
 have HC3 := Aside0.mk hC3
 have HL3 := Aside0.mk hl3
 have HC1 := Aside0.mk hC1
 have HL1 := Aside0.mk hl1
 have HR := Aside0.mk hr
 have HV := Aside0.mk hv
 clear hT hC3 hl3 hC1 hl1 hr hv
 go_enter Tryd.func91, Tryd.ntmps91
 go_wp2_with (first
  | ((with_reducible refine gate_dst (N := 3) rfl ?_); refine box_event ?hg (N := 3) ?hd (cs := #[.int .i64 x.f0, .int .i64 x.f1, .int .i64 x.f2, .slice A3 x.f3.length c3]) (t := 63) ?hr ?_; (case hd => rfl); (case hg => rfl); (case hr => first | (go_simp; done) | (go_simp; rfl)); intro g3 hg w1 hbox hb; have BG := Aside0.mk hbox; have HB := Aside0.mk hb; clear hbox hb hg)
  | ((with_reducible refine gate_dst (N := 4) rfl ?_); refine box_event ?hg (N := 4) ?hd (cs := #[.int .i64 1, .int .i64 n, .slice none 0 0]) (t := 24) ?hr ?_; (case hd => rfl); (case hg => rfl); (case hr => first | (go_simp; done) | (go_simp; rfl)); intro g4 hg w2 hbox hb; replace BG := Aside0.mk (blk_below BG.out hb); have BX := Aside0.mk hbox; replace HB := Aside0.mk (below_step HB.out hb); have ha0 : w2.cell? ⟨g3, 0, none⟩ = some (.int .i64 x.f0) := (blk_cell BG.out 0).trans rfl; have ha1 : w2.cell? ⟨g3, 1, none⟩ = some (.int .i64 x.f1) := (blk_cell BG.out 1).trans rfl; have ha2 : w2.cell? ⟨g3, 2, none⟩ = some (.int .i64 x.f2) := (blk_cell BG.out 2).trans rfl; have ha3 : w2.cell? ⟨g3, 3, none⟩ = some (.slice A3 x.f3.length c3) := (blk_cell BG.out 3).trans rfl; skip; clear hbox hb hg)
  | ((with_reducible refine gate_callee (f := 44) rfl ?_); refine goesL_ (some 13) rfl rfl Tryd.func44 (by kernel_rfl) rfl #[.agg #[.int .i64 x.f0, .int .i64 x.f1, .int .i64 x.f2, .slice A3 x.f3.length c3], .slice A1 T.length c1] rfl (by (try simp only [List.map_toArray, List.map_cons, List.map_nil]); first | done | rfl) ?_; (refine (gen_Replay.calls x.f0 x.f1 x.f2 A3 c3 x.f3 A1 c1 T b m xs none _ (Kd.C_below HC3.out HB.out) HL3.out (Kd.C_below HC1.out HB.out) HL1.out HR.out).mono ?_); rintro e w3 ⟨v3, he, ho, hb⟩; obtain ⟨B3, d3, e3⟩ := Kd.R_slice ho; subst e3; rw [errW_none] at he; subst he; refine ⟨_, rfl, ?_⟩; replace BG := Aside0.mk (blk_below BG.out hb); replace BX := Aside0.mk (blk_below BX.out hb); replace HB := Aside0.mk (below_step HB.out hb); have HO := Aside0.mk ho; clear hb ho ha0 ha1 ha2 ha3)
  | ((with_reducible refine gate_dst (N := 8) rfl ?_); refine box_event ?hg (N := 8) ?hd (cs := #[.bool false, .int .i64 0, .slice none 0 0]) (t := 27) ?hr ?_; (case hd => rfl); (case hg => rfl); (case hr => first | (go_simp; done) | (go_simp; rfl)); intro g8 hg w4 hbox hb; replace BG := Aside0.mk (blk_below BG.out hb); replace BX := Aside0.mk (blk_below BX.out hb); have GV := Aside0.mk (hg ▸ HB.out.size : w.heap.size ≤ g8); have HO8 := Aside0.mk (Kd.R_below (Kd.R_mono (Kd.R_bound HO.out) (fun k hk => (hg ▸ Nat.ne_of_lt hk.2.2.1 : k ≠ g8))) hb); replace HB := Aside0.mk (below_step HB.out hb); have NX := Aside0.mk (blk_ne BX.out hbox (by decide)); have hnx := NX.out; have hnx2 := Ne.symm NX.out; have hf0 := blk_frozen hbox 0; have hf1 := blk_frozen hbox 1; have hf2 := blk_frozen hbox 2; have hz0 : w4.cell? ⟨g8, 0, none⟩ = some (.bool false) := (blk_cell hbox 0).trans rfl; have hz1 : w4.cell? ⟨g8, 1, none⟩ = some (.int .i64 0) := (blk_cell hbox 1).trans rfl; have hz2 : w4.cell? ⟨g8, 2, none⟩ = some (.slice none 0 0) := (blk_cell hbox 2).trans rfl; have hx0 : w4.cell? ⟨g4, 0, none⟩ = some (.int .i64 1) := (blk_cell BX.out 0).trans rfl; have hx1 : w4.cell? ⟨g4, 1, none⟩ = some (.int .i64 n) := (blk_cell BX.out 1).trans rfl; have hx2 : w4.cell? ⟨g4, 2, none⟩ = some (.slice none 0 0) := (blk_cell BX.out 2).trans rfl; skip; clear hbox hb hg)
  | ((with_reducible refine gate_callee (f := 130) rfl ?_); refine goesL_ (some 21) rfl rfl Tryd.func130 (by kernel_rfl) rfl #[.agg #[.int .i64 1, .int .i64 n, .slice none 0 0], .agg #[.bool b, .int .i64 m, .slice B3 xs.length d3]] rfl (by (try simp only [List.map_toArray, List.map_cons, List.map_nil]); first | done | rfl) ?_; (refine (fails_lit k n b m xs B3 d3 _ (HT.out.below (below_set (below_set (below_set HB.out GV.out) GV.out) GV.out)) (Kd.R_reads' (Kd.R_far (p := ⟨g8, 2, none⟩) (Kd.R_far (p := ⟨g8, 1, none⟩) (Kd.R_far (p := ⟨g8, 0, none⟩) HO8.out (fun _ hk => hk) _) (fun _ hk => hk) _) (fun _ hk => hk) _)).2.2 (Kd.R_reads' HO.out).2.1 HV.out).mono ?_); rintro e w5 ⟨rfl, hb⟩; refine ⟨_, rfl, ?_⟩; have HB5 := Aside0.mk (below_step (below_set (below_set (below_set HB.out GV.out) GV.out) GV.out) hb); clear hb))
 go_ret2
 exact ⟨rfl, HB5.out⟩
set_option maxHeartbeats 8000000 in
set_option maxRecDepth 100000 in
theorem sclos_lit (k : Nat) (n : Int) (x : S63) (A3 : Option Addr) (c3 : Nat) (T : List Int) (A1 : Option Addr) (c1 : Nat) (b : Bool) (m : Int) (xs : List S27) (w : World) (hT : GTak w) (hC3 : Kd.C k63 w A3 x.f3.length x.f3) (hl3 : x.f3.length ≤ c3) (hC1 : Kd.C (Kd.int .i64) w A1 T.length T) (hl1 : T.length ≤ c1) (hr : gen_Replay.f x.f0 x.f1 x.f2 x.f3 T = some (b, m, xs, none)) (hv : val_Check.f k b m xs = some none) (ga gx : Nat) (hA : w.heap[ga]? = some (Obj.cells #[.int .i64 x.f0, .int .i64 x.f1, .int .i64 x.f2, .slice A3 x.f3.length c3] 63 (0, 0))) (hX : w.heap[gx]? = some (Obj.cells #[.int .i64 1, .int .i64 n, .slice none 0 0] 24 (0, 0))) :
  Calls Tryd.prog 93 #[.slice A1 T.length c1, .pointer (some ⟨ga, 0, none⟩), .pointer (some ⟨gx, 0, none⟩)] w fun e w' => e = .returned (.bool (n == 0)) ∧ Below w.heap.size w w' := by
 have hu63 := Tryd.underlying63
 have hu24 := Tryd.underlying24
 have hu27 := Tryd.underlying27
 have hu30 := Tryd.underlying30
 have hu66 := Tryd.underlying66
 have HT := Aside0.mk hT
 have HC3 := Aside0.mk hC3
 have HL3 := Aside0.mk hl3
 have HC1 := Aside0.mk hC1
 have HL1 := Aside0.mk hl1
 have HR := Aside0.mk hr
 have HV := Aside0.mk hv
 clear hT hC3 hl3 hC1 hl1 hr hv
 have ha0 : w.cell? ⟨ga, 0, none⟩ = some (.int .i64 x.f0) := (blk_cell hA 0).trans rfl
 have ha1 : w.cell? ⟨ga, 1, none⟩ = some (.int .i64 x.f1) := (blk_cell hA 1).trans rfl
 have ha2 : w.cell? ⟨ga, 2, none⟩ = some (.int .i64 x.f2) := (blk_cell hA 2).trans rfl
 have ha3 : w.cell? ⟨ga, 3, none⟩ = some (.slice A3 x.f3.length c3) := (blk_cell hA 3).trans rfl
 have hx0 : w.cell? ⟨gx, 0, none⟩ = some (.int .i64 1) := (blk_cell hX 0).trans rfl
 have hx1 : w.cell? ⟨gx, 1, none⟩ = some (.int .i64 n) := (blk_cell hX 1).trans rfl
 have hx2 : w.cell? ⟨gx, 2, none⟩ = some (.slice none 0 0) := (blk_cell hX 2).trans rfl
 clear hA hX
 go_enter Tryd.func93, Tryd.ntmps93
 go_wp2_with (first
  | ((with_reducible refine gate_callee (f := 91) rfl ?_); refine goesL_ (some 11) rfl rfl Tryd.func91 (by kernel_rfl) rfl #[.agg #[.int .i64 x.f0, .int .i64 x.f1, .int .i64 x.f2, .slice A3 x.f3.length c3], .agg #[.int .i64 1, .int .i64 n, .slice none 0 0], .slice A1 T.length c1] rfl (by (try simp only [List.map_toArray, List.map_cons, List.map_nil]); first | done | rfl) ?_; (refine (sfails_lit k n x A3 c3 T A1 c1 b m xs _ HT.out HC3.out HL3.out HC1.out HL1.out HR.out HV.out).mono ?_); rintro e w5 ⟨rfl, hb⟩; refine ⟨_, rfl, ?_⟩; have HB := Aside0.mk hb; clear hb))
 go_ret
 exact ⟨rfl, HB.out⟩
end Go.Proofs.YtgdomnlkafcddaaDoor.Q
namespace Go.Proofs.YtgdomnlkafcddaaDoor.Q
open Go.RowKit Go.Proofs.YtgdomnlkafcddaaDoorW.PrintWords Go.Proofs.YtgdomnlkafcddaaDoorW.PrintLast Go.Proofs.YtgdomnlkafcddaaDoorW.PrintMore
set_option linter.unusedVariables false
set_option linter.unusedSimpArgs false
set_option maxHeartbeats 8000000 in
set_option maxRecDepth 100000 in
theorem sindex_nil (A : Option Addr) (c : Nat) (f : Value) (w : World) : Calls Tryd.prog 92 #[.slice A 0 c, f] w fun e w' => e = .returned (.int .i64 (-1)) ∧ Below w.heap.size w w' := by
 go_enter Tryd.func92, Tryd.ntmps92
 go_wp2
 go_loopg [8] 1 (fun kq v8 w' => v8 = .int .i64 0 ∧ Aside0 (Below w.heap.size w w'))
 case atStart => exact ⟨rfl, ⟨by repeat (first | exact Below.refl _ _ | apply pw_below_drewN | apply below_drew1)⟩⟩
 case round =>
  obtain ⟨rfl, HB2⟩ := hrel
  go_wp2
  go_ret
  exact ⟨rfl, HB2.out⟩
set_option maxHeartbeats 8000000 in
set_option maxRecDepth 100000 in
theorem sindex_first (k : Nat) (x : S63) (A3 : Option Addr) (c3 : Nat) (ls : List (List Int)) (A : Option Addr) (c : Nat) (b : Bool) (m : Int) (xs : List S27) (w : World) (hT : GTak w) (hC3 : Kd.C k63 w A3 x.f3.length x.f3) (hl3 : x.f3.length ≤ c3) (hCL : Kd.C (Kd.slice 3 (Kd.int .i64)) w A ls.length ls) (h0 : 0 < ls.length) (hr : gen_Replay.f x.f0 x.f1 x.f2 x.f3 ls[0] = some (b, m, xs, none)) (hv : val_Check.f k b m xs = some none) (ga gx : Nat) (hA : w.heap[ga]? = some (Obj.cells #[.int .i64 x.f0, .int .i64 x.f1, .int .i64 x.f2, .slice A3 x.f3.length c3] 63 (0, 0))) (hX : w.heap[gx]? = some (Obj.cells #[.int .i64 1, .int .i64 0, .slice none 0 0] 24 (0, 0))) :
  Calls Tryd.prog 92 #[.slice A ls.length c, .func (.func 93) #[] #[.pointer (some ⟨ga, 0, none⟩), .pointer (some ⟨gx, 0, none⟩)]] w fun e w' => e = .returned (.int .i64 0) ∧ Below w.heap.size w w' := by
 have HT := Aside0.mk hT
 have HC3 := Aside0.mk hC3
 have HL3 := Aside0.mk hl3
 have HV := Aside0.mk hv
 have HA := Aside0.mk hA
 have HX := Aside0.mk hX
 obtain ⟨ad, A0, c0, eA, hx0, hl0, hC0⟩ := at_L1 hCL 0 (Int.le_refl 0) (by omega)
 have er : rd_L1 ls 0 = ls[0] := by simp [rd_L1, h0]
 subst eA
 obtain ⟨y, hy⟩ : ∃ y, y = ls[0] := ⟨_, rfl⟩
 rw [er, ← hy] at hx0 hl0 hC0
 rw [← hy] at hr
 have HR := Aside0.mk hr
 have HL0 := Aside0.mk hl0
 have HC0 := Aside0.mk hC0
 rw [show (0 : Int).toNat = 0 from rfl, Addr.add_zero'] at hx0
 have q1 : decide (0 < ls.length) = true := decide_eq_true h0
 have q2 : (0 < ls.length) = True := eq_true h0
 have q3 : decide ((0 : Int) < (ls.length : Int)) = true := decide_eq_true (by omega)
 clear hT hC3 hl3 hv hA hX hCL hr hl0 hC0 er h0 hy
 go_enter Tryd.func92, Tryd.ntmps92
 go_wp2
 go_loopg [8] 1 (fun kq v8 w' => v8 = .int .i64 0 ∧ Aside0 (Below w.heap.size w w'))
 case atStart => exact ⟨rfl, ⟨by repeat (first | exact Below.refl _ _ | apply pw_below_drewN | apply below_drew1)⟩⟩
 case round =>
  obtain ⟨rfl, HB⟩ := hrel
  replace hx0 := (HB.out.cell (World.block_lt_of_cell? w _ hx0)).trans hx0
  go_wp2_with (first
   | ((with_reducible refine gate_dst (N := 16) rfl ?_); refine goesCL_ (some 16) rfl rfl #[.pointer (some ⟨ga, 0, none⟩), .pointer (some ⟨gx, 0, none⟩)] Tryd.func93 (by kernel_rfl) rfl #[.slice A0 y.length c0] rfl (by first | rfl | (go_simp; done)) (by (try simp only [List.map_toArray, List.map_cons, List.map_nil]); first | done | rfl) ?_; refine (sclos_lit k 0 x A3 c3 y A0 c0 b m xs _ (HT.out.below HB.out) (Kd.C_below HC3.out HB.out) HL3.out (Kd.C_below HC0.out HB.out) HL0.out HR.out HV.out ga gx (blk_below HA.out HB.out) (blk_below HX.out HB.out)).mono ?_; rintro e w5 ⟨rfl, hb⟩; refine ⟨.bool true, rfl, ?_⟩; have HB5 := Aside0.mk (below_step HB.out hb); clear hb))
  go_ret
  exact ⟨rfl, HB5.out⟩
end Go.Proofs.YtgdomnlkafcddaaDoor.Q
namespace Go.Proofs.YtgdomnlkafcddaaDoor.Q
open Go.RowKit Go.Proofs.YtgdomnlkafcddaaDoorW.PrintWords Go.Proofs.YtgdomnlkafcddaaDoorW.PrintLast Go.Proofs.YtgdomnlkafcddaaDoorW.PrintMore
set_option linter.unusedVariables false
set_option linter.unusedSimpArgs false
/-- The tape is replayed to a right value. -/
def Good (x : S63) (T : List Int) : Prop := ∃ b m xs k, gen_Replay.f x.f0 x.f1 x.f2 x.f3 T = some (b, m, xs, none) ∧ val_Check.f k b m xs = some none ∧ T.length < 1000000000
/-- Down to the first lesser tape, again and again. -/
noncomputable def chain (x : S63) : Nat → List Int → Int → Option (List Int × Int)
 | 0, _, _ => none
 | k + 1, T, s => match rose_Less.f x.f0 x.f1 x.f2 x.f3 T with
  | some ([], none) => some (T, s)
  | some (y :: _, none) => chain x k y (wrap64 (s + 1))
  | _ => none
theorem row_first {W : World} {base : Nat} {ok : Nat → Prop} {g n cap : Nat} {y : List Int} {rest : List (List Int)} (h : Kd.R (Kd.slice 3 (Kd.int .i64)) 36 W base ok (.slice (some ⟨g, 0, none⟩) n cap) (y :: rest)) :
  ∃ A c, W.cell? ⟨g, 0, none⟩ = some (.slice A y.length c) ∧ Kd.R (Kd.int .i64) 3 W base (fun _ => True) (.slice A y.length c) y := by
 have hn : n = (y :: rest).length := (Kd.R_reads' h).1
 have hn' : n = rest.length + 1 := hn
 obtain ⟨cs, _, hM, hcc, _⟩ := Kd.R_elem h [] 0 (Int.le_refl 0) (by omega)
 obtain ⟨v, rfl, hr⟩ := hM
 have h0 := hcc 0 _ rfl
 have hr' : Kd.R (Kd.int .i64) 3 W base (fun _ => True) v y := Kd.R_mono hr (fun _ _ => trivial)
 obtain ⟨A, c, e⟩ := Kd.R_slice hr'
 subst e
 exact ⟨A, c, by simpa using h0, hr'⟩
set_option maxHeartbeats 8000000 in
set_option maxRecDepth 100000 in
theorem swalk_none (x : S63) (A3 : Option Addr) (c3 : Nat) (T : List Int) (A1 : Option Addr) (c1 : Nat) (w : World) (hT : GTak w) (hC3 : Kd.C k63 w A3 x.f3.length x.f3) (hl3 : x.f3.length ≤ c3) (hC1 : Kd.C (Kd.int .i64) w A1 T.length T) (hl1 : T.length ≤ c1) (kg : Nat) (hg : gen_Check.f kg x.f0 x.f1 x.f2 x.f3 = some none) (hgood : Good x T) :
  Calls Tryd.prog 46 #[.agg #[.int .i64 x.f0, .int .i64 x.f1, .int .i64 x.f2, .slice A3 x.f3.length c3], .agg #[.int .i64 1, .int .i64 1, .slice none 0 0], .slice A1 T.length c1] w fun e w' => ∃ v, e = .returned (.tuple #[v, .int .i64 0, errW (some 2)]) ∧ Kd.R (Kd.int .i64) 3 w' w.heap.size (fun _ => True) v [] ∧ Below w.heap.size w w' := by
 have hu63 := Tryd.underlying63
 have hu24 := Tryd.underlying24
 have hu27 := Tryd.underlying27
 have hu30 := Tryd.underlying30
 have hu66 := Tryd.underlying66
 have hmf : ∀ (fn : Fn) (first cap : Array Value) (w : World), (Instr.makeFunc fn first cap).run Tryd.prog w = .ok (.func fn first cap) w := fun _ _ _ _ => rfl
 have HT := Aside0.mk hT
 have HC3 := Aside0.mk hC3
 have HL3 := Aside0.mk hl3
 have HC1 := Aside0.mk hC1
 have HL1 := Aside0.mk hl1
 have HG := Aside0.mk hg
 obtain ⟨b, m, xs, kv, hR, hV, hTl⟩ := hgood
 have HR := Aside0.mk hR
 have HV := Aside0.mk hV
 have HTL := Aside0.mk hTl
 clear hT hC3 hl3 hC1 hl1 hg hR hV hTl
 go_enter Tryd.func46, Tryd.ntmps46
 go_wp2_with (first
  | ((with_reducible refine gate_dst (N := 3) rfl ?_); refine box_event ?hg (N := 3) ?hd (cs := #[.int .i64 x.f0, .int .i64 x.f1, .int .i64 x.f2, .slice A3 x.f3.length c3]) (t := 63) ?hr ?_; (case hd => rfl); (case hg => rfl); (case hr => first | (go_simp; done) | (go_simp; rfl)); intro g3 hg w1 hbox hb; have BG := Aside0.mk hbox; have HB := Aside0.mk hb; clear hbox hb hg)
  | ((with_reducible refine gate_dst (N := 4) rfl ?_); refine box_event ?hg (N := 4) ?hd (cs := #[.int .i64 1, .int .i64 1, .slice none 0 0]) (t := 24) ?hr ?_; (case hd => rfl); (case hg => rfl); (case hr => first | (go_simp; done) | (go_simp; rfl)); intro g4 hg w2 hbox hb; replace BG := Aside0.mk (blk_below BG.out hb); have BX := Aside0.mk hbox; replace HB := Aside0.mk (below_step HB.out hb); have ha0 : w2.cell? ⟨g3, 0, none⟩ = some (.int .i64 x.f0) := (blk_cell BG.out 0).trans rfl; have ha1 : w2.cell? ⟨g3, 1, none⟩ = some (.int .i64 x.f1) := (blk_cell BG.out 1).trans rfl; have ha2 : w2.cell? ⟨g3, 2, none⟩ = some (.int .i64 x.f2) := (blk_cell BG.out 2).trans rfl; have ha3 : w2.cell? ⟨g3, 3, none⟩ = some (.slice A3 x.f3.length c3) := (blk_cell BG.out 3).trans rfl; skip; clear hbox hb hg)
  | ((with_reducible refine gate_callee (f := 83) rfl ?_); refine goesL_ (some 18) rfl rfl Tryd.func83 (by kernel_rfl) rfl #[.agg #[.int .i64 x.f0, .int .i64 x.f1, .int .i64 x.f2, .slice A3 x.f3.length c3]] rfl (by (try simp only [List.map_toArray, List.map_cons, List.map_nil]); first | done | rfl) ?_; (refine (gen_Check.calls kg x.f0 x.f1 x.f2 A3 c3 x.f3 none _ (Kd.C_below HC3.out HB.out) HL3.out HG.out).mono ?_); rintro e w3 ⟨he, hb⟩; rw [errW_none] at he; subst he; refine ⟨_, rfl, ?_⟩; replace BG := Aside0.mk (blk_below BG.out hb); replace BX := Aside0.mk (blk_below BX.out hb); replace HB := Aside0.mk (below_step HB.out hb); have hx0 : w3.cell? ⟨g4, 0, none⟩ = some (.int .i64 1) := (blk_cell BX.out 0).trans rfl; have hx1 : w3.cell? ⟨g4, 1, none⟩ = some (.int .i64 1) := (blk_cell BX.out 1).trans rfl; have hx2 : w3.cell? ⟨g4, 2, none⟩ = some (.slice none 0 0) := (blk_cell BX.out 2).trans rfl; clear hb ha0 ha1 ha2 ha3)
  | ((with_reducible refine gate_callee (f := 57) rfl ?_); refine goesL_ (some 23) rfl rfl Tryd.func57 (by kernel_rfl) rfl #[.agg #[.int .i64 1, .int .i64 1, .slice none 0 0]] rfl (by (try simp only [List.map_toArray, List.map_cons, List.map_nil]); first | done | rfl) ?_; (refine (check_lit 1 _ (HT.out.below HB.out)).mono ?_); rintro e w4 ⟨rfl, hb⟩; refine ⟨_, rfl, ?_⟩; replace BG := Aside0.mk (blk_below BG.out hb); replace BX := Aside0.mk (blk_below BX.out hb); replace HB := Aside0.mk (below_step HB.out hb); have hx0 : w4.cell? ⟨g4, 0, none⟩ = some (.int .i64 1) := (blk_cell BX.out 0).trans rfl; have hx1 : w4.cell? ⟨g4, 1, none⟩ = some (.int .i64 1) := (blk_cell BX.out 1).trans rfl; have hx2 : w4.cell? ⟨g4, 2, none⟩ = some (.slice none 0 0) := (blk_cell BX.out 2).trans rfl; have ha0 : w4.cell? ⟨g3, 0, none⟩ = some (.int .i64 x.f0) := (blk_cell BG.out 0).trans rfl; have ha1 : w4.cell? ⟨g3, 1, none⟩ = some (.int .i64 x.f1) := (blk_cell BG.out 1).trans rfl; have ha2 : w4.cell? ⟨g3, 2, none⟩ = some (.int .i64 x.f2) := (blk_cell BG.out 2).trans rfl; have ha3 : w4.cell? ⟨g3, 3, none⟩ = some (.slice A3 x.f3.length c3) := (blk_cell BG.out 3).trans rfl; clear hb)
  | ((with_reducible refine gate_callee (f := 91) rfl ?_); refine goesL_ (some 31) rfl rfl Tryd.func91 (by kernel_rfl) rfl #[.agg #[.int .i64 x.f0, .int .i64 x.f1, .int .i64 x.f2, .slice A3 x.f3.length c3], .agg #[.int .i64 1, .int .i64 1, .slice none 0 0], .slice A1 T.length c1] rfl (by (try simp only [List.map_toArray, List.map_cons, List.map_nil]); first | done | rfl) ?_; (refine (sfails_lit kv 1 x A3 c3 T A1 c1 b m xs _ (HT.out.below HB.out) (Kd.C_below HC3.out HB.out) HL3.out (Kd.C_below HC1.out HB.out) HL1.out HR.out HV.out).mono ?_); rintro e w5 ⟨rfl, hb⟩; refine ⟨.tuple #[.bool false, .nilIface], rfl, ?_⟩; replace BG := Aside0.mk (blk_below BG.out hb); replace BX := Aside0.mk (blk_below BX.out hb); replace HB := Aside0.mk (below_step HB.out hb); clear hb ha0 ha1 ha2 ha3 hx0 hx1 hx2))
 go_ret3
 exact ⟨_, (by rw [errW_some]; first | done | rfl), Kd.R_nil _ _ _ _ _, HB.out⟩
set_option maxHeartbeats 8000000 in
set_option maxRecDepth 100000 in
theorem swalk_never (x : S63) (A3 : Option Addr) (c3 : Nat) (T : List Int) (A1 : Option Addr) (c1 : Nat) (w : World) (hT : GTak w) (hC3 : Kd.C k63 w A3 x.f3.length x.f3) (hl3 : x.f3.length ≤ c3) (hC1 : Kd.C (Kd.int .i64) w A1 T.length T) (hl1 : T.length ≤ c1) (kg : Nat) (hg : gen_Check.f kg x.f0 x.f1 x.f2 x.f3 = some none) (hgood : Good x T) (hstep : ∀ T' ls, Good x T' → rose_Less.f x.f0 x.f1 x.f2 x.f3 T' = some (ls, none) → ∀ y ∈ ls, Good x y) (K : Nat) (r : List Int) (st : Int) (hch : chain x K T 0 = some (r, st)) :
  Calls Tryd.prog 46 #[.agg #[.int .i64 x.f0, .int .i64 x.f1, .int .i64 x.f2, .slice A3 x.f3.length c3], .agg #[.int .i64 1, .int .i64 0, .slice none 0 0], .slice A1 T.length c1] w fun e w' => ∃ v, e = .returned (.tuple #[v, .int .i64 st, errW none]) ∧ Kd.R (Kd.int .i64) 3 w' w.heap.size (fun _ => True) v r ∧ Below w.heap.size w w' := by
 have HGD := Aside0.mk hgood
 have hu63 := Tryd.underlying63
 have hu24 := Tryd.underlying24
 have hu27 := Tryd.underlying27
 have hu30 := Tryd.underlying30
 have hu66 := Tryd.underlying66
 have hmf : ∀ (fn : Fn) (first cap : Array Value) (w : World), (Instr.makeFunc fn first cap).run Tryd.prog w = .ok (.func fn first cap) w := fun _ _ _ _ => rfl
 have HT := Aside0.mk hT
 have HC3 := Aside0.mk hC3
 have HL3 := Aside0.mk hl3
 have HC1 := Aside0.mk hC1
 have HL1 := Aside0.mk hl1
 have HG := Aside0.mk hg
 obtain ⟨b, m, xs, kv, hR, hV, hTl⟩ := hgood
 have HR := Aside0.mk hR
 have HV := Aside0.mk hV
 have HTL := Aside0.mk hTl
 clear hT hC3 hl3 hC1 hl1 hg hR hV hTl
 have HST := Aside0.mk hstep
 have HCH := Aside0.mk hch
 have HCL := Aside0.mk (show slices_Clone.f T = some T by have := HTL.out; simp [slices_Clone.f]; omega)
 clear hstep hch
 go_enter Tryd.func46, Tryd.ntmps46
 go_wp2_with (first
  | ((with_reducible refine gate_dst (N := 3) rfl ?_); refine box_event ?hg (N := 3) ?hd (cs := #[.int .i64 x.f0, .int .i64 x.f1, .int .i64 x.f2, .slice A3 x.f3.length c3]) (t := 63) ?hr ?_; (case hd => rfl); (case hg => rfl); (case hr => first | (go_simp; done) | (go_simp; rfl)); intro g3 hg w1 hbox hb; have BG := Aside0.mk hbox; have HB := Aside0.mk hb; clear hbox hb hg)
  | ((with_reducible refine gate_dst (N := 4) rfl ?_); refine box_event ?hg (N := 4) ?hd (cs := #[.int .i64 1, .int .i64 0, .slice none 0 0]) (t := 24) ?hr ?_; (case hd => rfl); (case hg => rfl); (case hr => first | (go_simp; done) | (go_simp; rfl)); intro g4 hg w2 hbox hb; replace BG := Aside0.mk (blk_below BG.out hb); have BX := Aside0.mk hbox; replace HB := Aside0.mk (below_step HB.out hb); have ha0 : w2.cell? ⟨g3, 0, none⟩ = some (.int .i64 x.f0) := (blk_cell BG.out 0).trans rfl; have ha1 : w2.cell? ⟨g3, 1, none⟩ = some (.int .i64 x.f1) := (blk_cell BG.out 1).trans rfl; have ha2 : w2.cell? ⟨g3, 2, none⟩ = some (.int .i64 x.f2) := (blk_cell BG.out 2).trans rfl; have ha3 : w2.cell? ⟨g3, 3, none⟩ = some (.slice A3 x.f3.length c3) := (blk_cell BG.out 3).trans rfl; skip; clear hbox hb hg)
  | ((with_reducible refine gate_callee (f := 83) rfl ?_); refine goesL_ (some 18) rfl rfl Tryd.func83 (by kernel_rfl) rfl #[.agg #[.int .i64 x.f0, .int .i64 x.f1, .int .i64 x.f2, .slice A3 x.f3.length c3]] rfl (by (try simp only [List.map_toArray, List.map_cons, List.map_nil]); first | done | rfl) ?_; (refine (gen_Check.calls kg x.f0 x.f1 x.f2 A3 c3 x.f3 none _ (Kd.C_below HC3.out HB.out) HL3.out HG.out).mono ?_); rintro e w3 ⟨he, hb⟩; rw [errW_none] at he; subst he; refine ⟨_, rfl, ?_⟩; replace BG := Aside0.mk (blk_below BG.out hb); replace BX := Aside0.mk (blk_below BX.out hb); replace HB := Aside0.mk (below_step HB.out hb); have hx0 : w3.cell? ⟨g4, 0, none⟩ = some (.int .i64 1) := (blk_cell BX.out 0).trans rfl; have hx1 : w3.cell? ⟨g4, 1, none⟩ = some (.int .i64 0) := (blk_cell BX.out 1).trans rfl; have hx2 : w3.cell? ⟨g4, 2, none⟩ = some (.slice none 0 0) := (blk_cell BX.out 2).trans rfl; clear hb ha0 ha1 ha2 ha3)
  | ((with_reducible refine gate_callee (f := 57) rfl ?_); refine goesL_ (some 23) rfl rfl Tryd.func57 (by kernel_rfl) rfl #[.agg #[.int .i64 1, .int .i64 0, .slice none 0 0]] rfl (by (try simp only [List.map_toArray, List.map_cons, List.map_nil]); first | done | rfl) ?_; (refine (check_lit 0 _ (HT.out.below HB.out)).mono ?_); rintro e w4 ⟨rfl, hb⟩; refine ⟨_, rfl, ?_⟩; replace BG := Aside0.mk (blk_below BG.out hb); replace BX := Aside0.mk (blk_below BX.out hb); replace HB := Aside0.mk (below_step HB.out hb); have hx0 : w4.cell? ⟨g4, 0, none⟩ = some (.int .i64 1) := (blk_cell BX.out 0).trans rfl; have hx1 : w4.cell? ⟨g4, 1, none⟩ = some (.int .i64 0) := (blk_cell BX.out 1).trans rfl; have hx2 : w4.cell? ⟨g4, 2, none⟩ = some (.slice none 0 0) := (blk_cell BX.out 2).trans rfl; have ha0 : w4.cell? ⟨g3, 0, none⟩ = some (.int .i64 x.f0) := (blk_cell BG.out 0).trans rfl; have ha1 : w4.cell? ⟨g3, 1, none⟩ = some (.int .i64 x.f1) := (blk_cell BG.out 1).trans rfl; have ha2 : w4.cell? ⟨g3, 2, none⟩ = some (.int .i64 x.f2) := (blk_cell BG.out 2).trans rfl; have ha3 : w4.cell? ⟨g3, 3, none⟩ = some (.slice A3 x.f3.length c3) := (blk_cell BG.out 3).trans rfl; clear hb)
  | ((with_reducible refine gate_callee (f := 91) rfl ?_); refine goesL_ (some 31) rfl rfl Tryd.func91 (by kernel_rfl) rfl #[.agg #[.int .i64 x.f0, .int .i64 x.f1, .int .i64 x.f2, .slice A3 x.f3.length c3], .agg #[.int .i64 1, .int .i64 0, .slice none 0 0], .slice A1 T.length c1] rfl (by (try simp only [List.map_toArray, List.map_cons, List.map_nil]); first | done | rfl) ?_; (refine (sfails_lit kv 0 x A3 c3 T A1 c1 b m xs _ (HT.out.below HB.out) (Kd.C_below HC3.out HB.out) HL3.out (Kd.C_below HC1.out HB.out) HL1.out HR.out HV.out).mono ?_); rintro e w5 ⟨rfl, hb⟩; refine ⟨.tuple #[.bool true, .nilIface], rfl, ?_⟩; replace BG := Aside0.mk (blk_below BG.out hb); replace BX := Aside0.mk (blk_below BX.out hb); replace HB := Aside0.mk (below_step HB.out hb); clear hb ha0 ha1 ha2 ha3 hx0 hx1 hx2)
  | ((with_reducible refine gate_callee (f := 75) rfl ?_); refine goesL_ (some 41) rfl rfl Tryd.func75 (by kernel_rfl) rfl #[.slice A1 T.length c1] rfl (by (try simp only [List.map_toArray, List.map_cons, List.map_nil]); first | done | rfl) ?_; (refine (slices_Clone.calls A1 c1 T T _ (Kd.C_below HC1.out HB.out) HCL.out).mono ?_); rintro e w6 ⟨v6, rfl, ho, hb⟩; refine ⟨_, rfl, ?_⟩; replace BG := Aside0.mk (blk_below BG.out hb); replace BX := Aside0.mk (blk_below BX.out hb); have HO := Aside0.mk (Kd.R_lower ho HB.out.size); replace HB := Aside0.mk (below_step HB.out hb); clear ho hb))
 go_loopg [2, 13] K (fun kq v2 v13 w' => ∃ (T' : List Int) (s : Int), v13 = .int .i64 s ∧ Aside0 (Good x T') ∧ Aside0 (chain x kq T' s = some (r, st)) ∧ Aside0 (Kd.R (Kd.int .i64) 3 w' w.heap.size (fun _ => True) v2 T') ∧ Aside0 (Below w6.heap.size w6 w'))
 case atStart => exact ⟨T, 0, rfl, HGD, HCH, HO, ⟨Below.refl _ _⟩⟩
 case round =>
  obtain ⟨T', s, rfl, HGD', HCH', HO', HBw⟩ := hrel
  cases gk with
  | zero => exact absurd HCH'.out (by simp [chain])
  | succ kn =>
   have hch := HCH'.out
   simp only [chain] at hch
   obtain ⟨At, ct, et⟩ := Kd.R_slice HO'.out
   subst et
   have BGr := Aside0.mk (blk_below BG.out HBw.out)
   have BXr := Aside0.mk (blk_below BX.out HBw.out)
   have HBr := Aside0.mk (below_step HB.out HBw.out)
   have ha0 : wr.cell? ⟨g3, 0, none⟩ = some (.int .i64 x.f0) := (blk_cell BGr.out 0).trans rfl
   have ha1 : wr.cell? ⟨g3, 1, none⟩ = some (.int .i64 x.f1) := (blk_cell BGr.out 1).trans rfl
   have ha2 : wr.cell? ⟨g3, 2, none⟩ = some (.int .i64 x.f2) := (blk_cell BGr.out 2).trans rfl
   have ha3 : wr.cell? ⟨g3, 3, none⟩ = some (.slice A3 x.f3.length c3) := (blk_cell BGr.out 3).trans rfl
   split at hch
   ·rename_i hL
    simp only [Option.some.injEq, Prod.mk.injEq] at hch
    obtain ⟨rfl, rfl⟩ := hch
    have HLS := Aside0.mk hL
    clear hL
    go_wp2_with (first
     | ((with_reducible refine gate_callee (f := 33) rfl ?_); refine goesL_ (some 47) rfl rfl Tryd.func33 (by kernel_rfl) rfl #[.agg #[.int .i64 x.f0, .int .i64 x.f1, .int .i64 x.f2, .slice A3 x.f3.length c3], .slice At T'.length ct] rfl (by (try simp only [List.map_toArray, List.map_cons, List.map_nil]); first | done | rfl) ?_; (refine (rose_Less.calls x.f0 x.f1 x.f2 A3 c3 x.f3 At ct T' [] none _ (Kd.C_below HC3.out HBr.out) HL3.out (Kd.R_reads' HO'.out).2.2 (Kd.R_reads' HO'.out).2.1 HLS.out).mono ?_); rintro e w7 ⟨v7, he, ho, hb⟩; rw [errW_none] at he; subst he; refine ⟨_, rfl, ?_⟩; obtain ⟨Al, cl, el⟩ := Kd.S_slice ho; rw [List.length_nil] at el; subst el; have B7 := Aside0.mk hb; clear ho hb)
     | ((with_reducible refine gate_callee (f := 92) rfl ?_); refine goesL_ (some 55) rfl rfl Tryd.func92 (by kernel_rfl) rfl #[.slice Al 0 cl, .func (.func 93) #[] #[.pointer (some ⟨g3, 0, none⟩), .pointer (some ⟨g4, 0, none⟩)]] rfl (by (try simp only [List.map_toArray, List.map_cons, List.map_nil]); first | done | rfl) ?_; (refine (sindex_nil Al cl _ _).mono ?_); rintro e w8 ⟨rfl, hb⟩; refine ⟨_, rfl, ?_⟩; have B8 := Aside0.mk (below_step B7.out hb); clear hb))
    go_ret3
    exact ⟨_, (by rw [errW_none]; first | done | rfl), Kd.R_below HO'.out B8.out, below_step HBr.out B8.out⟩
   ·rename_i y rest hL
    have hgy := HST.out T' (y :: rest) HGD'.out hL y (by simp)
    obtain ⟨ls, hls⟩ : ∃ ls, ls = y :: rest := ⟨_, rfl⟩
    rw [← hls] at hL
    have HLS := Aside0.mk hL
    have hl0 : 0 < ls.length := by rw [hls]; simp
    have H0 := Aside0.mk hl0
    have hy0 : ls[0]'hl0 = y := by simp [hls]
    obtain ⟨b2, m2, xs2, k2, hR2, hV2, hl2⟩ := id hgy
    rw [← hy0] at hR2
    have HR2 := Aside0.mk hR2
    have HV2 := Aside0.mk hV2
    have HGY := Aside0.mk hgy
    have HLY := Aside0.mk hls
    have HCN := Aside0.mk hch
    have q1 : decide (0 < ls.length) = true := decide_eq_true hl0
    have q2 : (0 < ls.length) = True := eq_true hl0
    have q3 : decide ((0 : Int) < (ls.length : Int)) = true := decide_eq_true (by omega)
    clear hL hls hch hR2 hV2 hgy hl2 hy0
    go_wp2_with (first
     | ((with_reducible refine gate_callee (f := 33) rfl ?_); refine goesL_ (some 47) rfl rfl Tryd.func33 (by kernel_rfl) rfl #[.agg #[.int .i64 x.f0, .int .i64 x.f1, .int .i64 x.f2, .slice A3 x.f3.length c3], .slice At T'.length ct] rfl (by (try simp only [List.map_toArray, List.map_cons, List.map_nil]); first | done | rfl) ?_; (refine (rose_Less.calls x.f0 x.f1 x.f2 A3 c3 x.f3 At ct T' ls none _ (Kd.C_below HC3.out HBr.out) HL3.out (Kd.R_reads' HO'.out).2.2 (Kd.R_reads' HO'.out).2.1 HLS.out).mono ?_); rintro e w7 ⟨v7, he, ho, hb⟩; rw [errW_none] at he; subst he; refine ⟨_, rfl, ?_⟩; obtain ⟨g7, cl, el, _⟩ := Kd.R_form (Kd.S_R ho) H0.out; subst el; have HS7 := Aside0.mk (Kd.S_R ho); have B7 := Aside0.mk hb; clear ho hb)
     | ((with_reducible refine gate_callee (f := 92) rfl ?_); refine goesL_ (some 55) rfl rfl Tryd.func92 (by kernel_rfl) rfl #[.slice (some ⟨g7, 0, none⟩) ls.length cl, .func (.func 93) #[] #[.pointer (some ⟨g3, 0, none⟩), .pointer (some ⟨g4, 0, none⟩)]] rfl (by (try simp only [List.map_toArray, List.map_cons, List.map_nil]); first | done | rfl) ?_; (refine (sindex_first k2 x A3 c3 ls (some ⟨g7, 0, none⟩) cl b2 m2 xs2 _ (HT.out.below (below_step HBr.out B7.out)) (Kd.C_below HC3.out (below_step HBr.out B7.out)) HL3.out (Kd.R_reads' HS7.out).2.2 H0.out HR2.out HV2.out g3 g4 (blk_below BGr.out B7.out) (blk_below BXr.out B7.out)).mono ?_); rintro e w8 ⟨rfl, hb⟩; refine ⟨_, rfl, ?_⟩; have B8 := Aside0.mk (below_step B7.out hb); have hS8 := Kd.R_below HS7.out hb; rw [HLY.out] at hS8; obtain ⟨A9, c9, hx9, hR9⟩ := row_first hS8; have HR9 := Aside0.mk (Kd.R_lower hR9 HBr.out.size); clear hb hS8 hR9))
    go_roundg kn
    case measure => omega
    case rel => exact ⟨y, wrap64 (s + 1), by first | rfl | simp, HGY, HCN, HR9, ⟨below_step HBw.out B8.out⟩⟩
   ·cases hch
end Go.Proofs.YtgdomnlkafcddaaDoor.Q
namespace Go.Proofs.YtgdomnlkafcddaaDoor.Q
open Go.RowKit Go.Proofs.YtgdomnlkafcddaaDoorW.PrintWords Go.Proofs.YtgdomnlkafcddaaDoorW.PrintLast Go.Proofs.YtgdomnlkafcddaaDoorW.PrintMore
attribute [local go_sem] max2_int min2_int max_two min_two max_three min_three max_four min_four   -- for this text's walks alone
set_option linter.unusedVariables false
set_option linter.unusedSimpArgs false

/-! ### gen_capped: function 125 -/
def gen_capped.f (a0 : Int) : Option (Int) := some (mn a0 1048577)
set_option maxHeartbeats 8000000 in
set_option maxRecDepth 100000 in
theorem gen_capped.calls (a0 : Int) (r : Int) (w : World) (h : gen_capped.f a0 = some r) :
  Calls Tryd.prog 125 #[.int .i64 a0] w fun e w' => e = .returned (.int .i64 r) ∧ Below w.heap.size w w' := by
 have HB := Aside0.mk (Below.refl w.heap.size w)
 have H : (some (mn a0 1048577)) = some r := h
 clear h
 obtain ⟨ji2, hji2⟩ : ∃ j_ : Int, (mn a0 1048577) = j_ := ⟨_, rfl⟩
 replace H : (some ji2) = some r := by first | (rw [hji2] at H; exact H) | (simp only [hji2] at H ⊢; exact H)
 (try (have hji2h : ji2 ≤ 1048577 := by (rw [← hji2]; unfold mn; (repeat' split) <;> omega)))
 (try (have hji2g : ji2 ≤ 64 := by omega))
 have hji2_ : (if 1048577 < a0 then 1048577 else a0) = ji2 := hji2
 obtain rfl := Option.some.inj H
 go_enter Tryd.func125, Tryd.ntmps125
 go_wp2
 go_ret
 exact ⟨by first | rfl | (simp [errW_none, errW_some] <;> rfl) | (simp only [← hji2]; first | rfl | (simp [errW_none, errW_some] <;> rfl)) | (simp [*, errW_none, errW_some] <;> rfl), by repeat (first | (with_reducible first | exact HB.out | apply below_alloc | apply pw_below_drewN | apply below_drew1) | exact HB.out)⟩

end Go.Proofs.YtgdomnlkafcddaaDoor.Q
