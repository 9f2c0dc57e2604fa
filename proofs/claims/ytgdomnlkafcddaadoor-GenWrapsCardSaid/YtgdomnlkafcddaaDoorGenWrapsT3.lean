/- Part 3 of the proof for GenWraps: contracts of functions, step by step over the code; strconv.Itoa (function 89), by the shelf. strings.Join (function 90), by the shelf. The plain law of a value's text: it is told, and is short. The plain law of wrapping: what one of one generator makes is what that makes, with a 0 ahead; a list of one has that; or both are too deep or too large. Generators whose parts lie in the world at a call's entry: a kind that no later step turns. errors.As at a target of type *api.Errno, by Go's own text: an error that is an Errno is found at once. After the guide's worked text ToyasAs. plain.Told: 0 of nil, of an Errno its number; it only makes memory.. -/
import Derived.Test.YtgdomnlkafcddaaDoorGenWrapsT1
import Derived.Test.YtgdomnlkafcddaaDoorGenWrapsT2
import Derived.Lib.ItoaLen
import Derived.Lib.Join
import Derived.WalkKit
import Derived.LaidEql
import Derived.Stop.Asserts
import Derived.RowKitTokens
import Derived.WalkSpells
namespace Go.Proofs.YtgdomnlkafcddaaDoor.Q
open Go.RowKit Go.Proofs.YtgdomnlkafcddaaDoorW.PrintWords Go.Proofs.YtgdomnlkafcddaaDoorW.PrintLast Go.Proofs.YtgdomnlkafcddaaDoorW.PrintMore
def strconv_Itoa_89.f (a0 : Int) : Option (ByteArray) := if -9223372036854775808 ≤ a0 ∧ a0 ≤ 9223372036854775807 then some ⟨(Lib.itoa a0).toArray⟩ else none
theorem strconv_Itoa_89.calls (a0 : Int) (r : ByteArray) (w : World) (h : strconv_Itoa_89.f a0 = some r) (hPow : GPow w) :
    Calls Tryd.prog 89 #[.int .i64 a0] w fun e w' => e = .returned (.string r) ∧ Below w.heap.size w w' := by
  unfold strconv_Itoa_89.f at h
  split at h
  · rename_i hr
    obtain rfl := Option.some.inj h
    refine (Tryd.strconv_Itoa a0 hr.1 hr.2 w hPow).mono ?_
    rintro e w' ⟨rfl, k, os, rfl⟩
    exact ⟨rfl, Lib.below_grow _ w (Nat.le_refl _) k os⟩
  · cases h
end Go.Proofs.YtgdomnlkafcddaaDoor.Q
namespace Go.Proofs.YtgdomnlkafcddaaDoor.Q
open Go.RowKit Go.Proofs.YtgdomnlkafcddaaDoorW.PrintWords Go.Proofs.YtgdomnlkafcddaaDoorW.PrintLast Go.Proofs.YtgdomnlkafcddaaDoorW.PrintMore
def strings_Join.f (l0 : List ByteArray) (a1 : ByteArray) : Option (ByteArray) := if l0 = [] then some ⟨#[]⟩ else if l0.length ≤ 140737488355328 ∧ (Lib.join (l0.map (·.data.toList)) a1.data.toList).length ≤ 140737488355328 then some ⟨(Lib.join (l0.map (·.data.toList)) a1.data.toList).toArray⟩ else none
theorem strings_Join.calls (A0 : Option Addr) (c0 : Nat) (l0 : List ByteArray) (a1 : ByteArray) (r : ByteArray) (w : World) (hr0 : Kd.C Kd.string w A0 l0.length l0) (hc0 : l0.length ≤ c0) (h : strings_Join.f l0 a1 = some r) :
    Calls Tryd.prog 90 #[.slice A0 l0.length c0, .string a1] w fun e w' => e = .returned (.string r) ∧ Below w.heap.size w w' := by
  unfold strings_Join.f at h
  split at h
  · rename_i hl
    subst hl
    obtain rfl := Option.some.inj h
    refine (Tryd.strings_Join_none A0 c0 a1 w).mono ?_
    rintro e w' ⟨rfl, rfl⟩
    exact ⟨rfl, Below.refl _ _⟩
  rename_i hne
  split at h
  · rename_i hb
    obtain rfl := Option.some.inj h
    have h0 : 0 < l0.length := List.length_pos_iff.2 hne
    obtain ⟨ad, rfl, hc⟩ := Kd.at_string hr0 0 (Int.le_refl 0) (by omega)
    have hall : ∀ (j : Nat) x, l0[j]? = some x → w.cell? (ad.add j) = some (.string x) := by
      intro j x hx
      have hj : j < l0.length := (List.getElem?_eq_some_iff.1 hx).1
      obtain ⟨ad', e, hc'⟩ := Kd.at_string hr0 (j : Int) (by omega) (by omega)
      injection e with e
      subst e
      rw [Int.toNat_natCast] at hc'
      rw [hc']
      simp [rdOf, hx]
    obtain ⟨bk, o, sp⟩ := ad
    have hs : sp = none := by
      have := hc
      simp only [Int.toNat_zero, Addr.add, if_true, World.cell?] at this
      cases sp with
      | none => rfl
      | some s => split at this <;> simp at this
    subst hs
    have hbk : bk < w.heap.size := by
      have := World.block_lt_of_cell? w _ hc
      simpa [Addr.add] using this
    refine Tryd.strings_Join bk o c0 l0 a1 w (fun j x hx => ?_) hbk hb.1 hc0 hb.2
    have := hall j x hx
    unfold Addr.add at this
    split at this
    · rename_i hj
      subst hj
      simpa using this
    · exact this
  · cases h
end Go.Proofs.YtgdomnlkafcddaaDoor.Q
namespace Go.Proofs.YtgdomnlkafcddaaDoor.Q
open Go.RowKit Go.Proofs.YtgdomnlkafcddaaDoorW.PrintWords Go.Proofs.YtgdomnlkafcddaaDoorW.PrintLast Go.Proofs.YtgdomnlkafcddaaDoorW.PrintMore
attribute [local go_sem] max2_int min2_int max_two min_two max_three min_three max_four min_four   -- for this text's walks alone
set_option linter.unusedVariables false
set_option linter.unusedSimpArgs false

/-! ### val_Text: function 45 -/
mutual
def val_Text.l0 : Nat → List ByteArray → List (S27) → Int → Int → Option (ByteArray)
  | 0, _, _, _, _ => none
  | k + 1, x3, x13, x14, x15 => if x15 < x14 then (if 0 ≤ x15 then (if x15 < (x13.length : Int) then ((val_Text.f k ((rd_T27 x13 x15).f0) ((rd_T27 x13 x15).f1) ((rd_T27 x13 x15).f2)).bind fun t407 => (if x3.length < 8796093022208 then (val_Text.l0 k (x3 ++ [t407]) x13 x14 (wrap64 (x15 + 1))) else (none))) else (none)) else (none)) else ((strings_Join.f x3 (⟨#[32]⟩ : ByteArray)).bind fun t411 => (if 1 + t411.size ≤ 9223372036854775807 then (if ((⟨#[40]⟩ : ByteArray) ++ t411).size + 1 ≤ 9223372036854775807 then (some (((⟨#[40]⟩ : ByteArray) ++ t411) ++ (⟨#[41]⟩ : ByteArray))) else (none)) else (none)))
def val_Text.f : Nat → Bool → Int → List (S27) → Option (ByteArray)
  | 0, _, _, _ => none
  | k + 1, a0_0, a0_1, l0_2 => if a0_0 = true then (val_Text.l0 k ([] : List ByteArray) l0_2 (l0_2.length : Int) 0) else ((strconv_Itoa_89.f a0_1).bind fun t404 => (some t404))
end
theorem val_Text.mono_l : ∀ k, (∀ y0 y1 y2, LeO (val_Text.f k y0 y1 y2) (val_Text.f (k + 1) y0 y1 y2)) ∧ (∀ y0 y1 y2 y3, LeO (val_Text.l0 k y0 y1 y2 y3) (val_Text.l0 (k + 1) y0 y1 y2 y3))
  | 0 => ⟨fun _ _ _ r h => by simp [val_Text.f] at h, fun _ _ _ _ r h => by simp [val_Text.l0] at h⟩
  | k + 1 => by
    obtain ⟨ih0, ih1⟩ := val_Text.mono_l k
    refine ⟨?_, ?_⟩
    · intro y0 y1 y2
      unfold val_Text.f
      repeat' first
      | (with_reducible exact ih0 _ _ _)
      | (with_reducible exact ih1 _ _ _ _)
      | (with_reducible exact LeO.refl _)
      | (with_reducible exact LeO.none _)
      | (with_reducible refine LeO.ite ?_ ?_)
      | (with_reducible refine LeO.bind ?_ (fun _ => ?_))
      | exact ih0 _ _ _
      | exact ih1 _ _ _ _
      | exact LeO.none _
      | refine LeO.ite ?_ ?_
      | refine LeO.bind ?_ (fun _ => ?_)
    · intro y0 y1 y2 y3
      unfold val_Text.l0
      repeat' first
      | (with_reducible exact ih0 _ _ _)
      | (with_reducible exact ih1 _ _ _ _)
      | (with_reducible exact LeO.refl _)
      | (with_reducible exact LeO.none _)
      | (with_reducible refine LeO.ite ?_ ?_)
      | (with_reducible refine LeO.bind ?_ (fun _ => ?_))
      | exact ih0 _ _ _
      | exact ih1 _ _ _ _
      | exact LeO.none _
      | refine LeO.ite ?_ ?_
      | refine LeO.bind ?_ (fun _ => ?_)
theorem val_Text.mono : ∀ a0 a1 a2 k, LeO (val_Text.f k a0 a1 a2) (val_Text.f (k + 1) a0 a1 a2) := by
  intro a0 a1 a2 k
  obtain ⟨ih0, ih1⟩ := val_Text.mono_l k
  exact ih0 a0 a1 a2
set_option maxHeartbeats 8000000 in
set_option maxRecDepth 100000 in
theorem val_Text.calls (k : Nat) : ∀ (a0_0 : Bool) (a0_1 : Int) (A0_2 : Option Addr) (c0_2 : Nat) (l0_2 : List (S27)) (r : ByteArray) (w : World) (hr0_2 : Kd.C k27 w A0_2 l0_2.length l0_2) (hc0_2 : l0_2.length ≤ c0_2) (h : val_Text.f k a0_0 a0_1 l0_2 = some r) (hGPow : GPow w),
    Calls Tryd.prog 45 #[.agg #[.bool a0_0, .int .i64 a0_1, .slice A0_2 l0_2.length c0_2]] w fun e w' => e = .returned (.string r) ∧ Below w.heap.size w w' := by
  induction k using Nat.strongRecOn with
  | _ k ih =>
  intro a0_0 a0_1 A0_2 c0_2 l0_2 r w hr0_2 hc0_2 h hGPow
  have HGPow := Aside0.mk hGPow
  clear hGPow
  cases k with
  | zero => exact absurd h (by simp [val_Text.f])
  | succ k =>
  simp only [val_Text.f] at h
  have hu27 := Tryd.underlying27
  have HR0_2 := Aside0.mk hr0_2
  have HC0_2 := Aside0.mk hc0_2
  clear hr0_2 hc0_2
  have HB := Aside0.mk (Below.refl w.heap.size w)
  have H : (if a0_0 = true then (val_Text.l0 k ([] : List ByteArray) l0_2 (l0_2.length : Int) 0) else ((strconv_Itoa_89.f a0_1).bind fun t404 => (some t404))) = some r := h
  clear h
  by_cases c2 : a0_0 = true
  · subst c2
    have H1 : (val_Text.l0 k ([] : List ByteArray) l0_2 (l0_2.length : Int) 0) = some r := by rw [if_pos rfl] at H; exact H
    clear H
    have H := H1
    clear H1
    have H' := Aside0.mk H
    clear H
    go_enter Tryd.func45, Tryd.ntmps45
    go_wp2_with (first | ((with_reducible refine gate_dst (N := 1) rfl ?_); refine box_event ?hg (N := 1) ?hd (cs := #[.bool true, .int .i64 a0_1, .slice A0_2 l0_2.length c0_2]) (t := 27) ?hr ?_; (case hd => rfl); (case hg => rfl); (case hr => first | (go_simp; done) | (go_simp; rfl)); intro gb403 hg w3 hbox hb; have n0_ := Aside0.mk (below_step (by repeat (first | (with_reducible first | exact HB.out | apply below_alloc | apply pw_below_drewN | apply below_drew1) | exact HB.out)) hb); have n1_ := Aside0.mk (hbox); have n2_ := Aside0.mk ((by rw [hg]; exact (below_size (by repeat (first | (with_reducible first | exact HB.out | apply below_alloc | apply pw_below_drewN | apply below_drew1) | exact HB.out))) : w.heap.size ≤ gb403)); have n3_ := Aside0.mk ((by rw [hg]; exact (below_size (by repeat (first | (with_reducible first | exact HB.out | apply below_alloc | apply pw_below_drewN | apply below_drew1) | exact HB.out))) : w.heap.size ≤ gb403)); clear HB; have HB := n0_; have BK403 := n1_; have GW403 := n2_; have GE403 := n3_; clear n0_ n1_ n2_ n3_; clear hb hbox hg; have hcz4_0 : w3.cell? ⟨gb403, 0, none⟩ = some (.bool true) := (blk_cell BK403.out 0).trans rfl; have hcz4_1 : w3.cell? ⟨gb403, 1, none⟩ = some (.int .i64 a0_1) := (blk_cell BK403.out 1).trans rfl; have hcz4_2 : w3.cell? ⟨gb403, 2, none⟩ = some (.slice A0_2 l0_2.length c0_2) := (blk_cell BK403.out 2).trans rfl; have hfz4_0 := blk_frozen BK403.out 0; have hfz4_1 := blk_frozen BK403.out 1; have hfz4_2 := blk_frozen BK403.out 2))
    go_loopg [3, 15] k (fun kq v3 v15 w' => ∃ (x3_1 : List ByteArray) (x15_1 : Int), v15 = .int .i64 x15_1 ∧ Aside0 (val_Text.l0 kq x3_1 l0_2 (l0_2.length : Int) x15_1 = some r) ∧ Aside0 (kq ≤ k) ∧ Aside0 (Kd.R Kd.string 9 w' w.heap.size (fun _ => True) v3 x3_1) ∧ Aside0 (w'.heap[gb403]? = some (.cells #[.bool true, .int .i64 a0_1, (.slice A0_2 l0_2.length c0_2)] 27 (0, 0))) ∧ Aside0 (Below w.heap.size w w'))
    case atStart => exact ⟨(([] : List ByteArray)), (0), (by first | rfl | (simp; done) | (simp [*]; done)), H', ⟨Nat.le_refl _⟩, ⟨by first | exact Kd.R_nil _ _ _ _ _ | exact Kd.N_nil _ _ _ _ _ | exact Kd.V_nil _ _ _ _ _ | exact Kd.Q_nil _ _ _ _ _ | exact Kd.S_nil _ _ _ _ _⟩, ⟨by (with_reducible repeat (first | refine blk_drewN ?_ _ | refine blk_drew ?_ | refine blk_alloc ?_ _)); exact BK403.out⟩, ⟨by repeat (first | (with_reducible first | exact HB.out | apply below_alloc | apply pw_below_drewN | apply below_drew1 | refine below_set ?_ GE403.out) | exact HB.out)⟩⟩
    case round =>
      clear H'
      try clear c2
      try clear p2
      try clear c4
      try clear hcz4_0
      try clear hcz4_1
      try clear hcz4_2
      try clear hfz4_0
      try clear hfz4_1
      try clear hfz4_2
      obtain ⟨x3_1, x15_1, rfl, HA, HK1, HO_3, BK403, HB⟩ := hrel
      cases gk with
      | zero => exact absurd HA.out (by simp [val_Text.l0])
      | succ k1 =>
        have H := HA.out
        clear HA
        simp only [val_Text.l0] at H
        by_cases c5 : x15_1 < (l0_2.length : Int)
        · rw [if_pos c5] at H
          have c5b0 : decide (x15_1 < (l0_2.length : Int)) = true := decide_eq_true c5
          clear c5
          by_cases c6 : 0 ≤ x15_1
          · rw [if_pos c6] at H
            have c6b0 : decide (0 ≤ x15_1) = true := decide_eq_true c6
            clear c6
            by_cases c7 : x15_1 < (l0_2.length : Int)
            · rw [if_pos c7] at H
              have c7b0 : decide (x15_1 < (l0_2.length : Int)) = true := decide_eq_true c7
              clear c7
              replace H := Option.bind_eq_some_iff.mp H
              obtain ⟨t407, A80, H⟩ := H
              replace H : (if x3_1.length < 8796093022208 then (val_Text.l0 k1 (x3_1 ++ [t407]) l0_2 (l0_2.length : Int) (wrap64 (x15_1 + 1))) else (none)) = some r := H
              have A8 := Aside0.mk A80
              clear A80
              by_cases c9 : x3_1.length < 8796093022208
              · rw [if_pos c9] at H
                have LMc9 := Aside0.mk c9
                clear c9
                obtain ⟨y408, hy408⟩ : ∃ y_ : List ByteArray, y_ = (x3_1 ++ [t407]) := ⟨_, rfl⟩
                replace H : (val_Text.l0 k1 y408 l0_2 (l0_2.length : Int) (wrap64 (x15_1 + 1))) = some r := by first | (rw [hy408]; with_reducible exact H) | (have H2_ := (Option.bind_some _ _).symm.trans H; rw [hy408]; with_reducible exact H2_) | (have H2_ := (Option.bind_some _ _).symm.trans H; with_reducible exact H2_) | with_reducible exact H | (rw [hy408]; exact H) | exact H
                have Ny408 := Aside0.mk hy408
                clear hy408
                have H' := Aside0.mk H
                clear H
                have p405 : 0 ≤ (x15_1 : Int) := of_decide_eq_true (by first | (with_reducible assumption) | assumption)
                have q405 : x15_1 < (l0_2.length : Int) := of_decide_eq_true (by first | (with_reducible assumption) | assumption)
                obtain ⟨ad405, A405_2, c405_2, e405, hx405_0, hx405_1, hx405_2, hl405_2, hi405_2⟩ := at_T27 HR0_2.out x15_1 p405 q405
                cases e405
                replace hx405_0 := (HB.out.cell (World.block_lt_of_cell? w _ hx405_0)).trans hx405_0
                replace hx405_1 := (HB.out.cell (World.block_lt_of_cell? w _ hx405_1)).trans hx405_1
                replace hx405_2 := (HB.out.cell (World.block_lt_of_cell? w _ hx405_2)).trans hx405_2
                have HR405_2 := Aside0.mk hi405_2
                have HC405_2 := Aside0.mk hl405_2
                clear hi405_2 hl405_2
                replace p405 := eq_true p405
                replace q405 := eq_true q405
                go_wp2_with (first | ((with_reducible refine gate_dst (N := 5) rfl ?_); refine box_event ?hg (N := 5) ?hd (cs := #[.bool false, .int .i64 0, .slice none 0 0]) (t := 27) ?hr ?_; (case hd => rfl); (case hg => rfl); (case hr => first | (go_simp; done) | (go_simp; rfl)); intro gb406 hg w10 hbox hb; have n0_ := Aside0.mk (Kd.R_below (by (with_reducible repeat (first | apply Kd.R_alloc | apply Kd.R_drewN | apply Kd.R_drew)); exact HO_3.out) hb); have n1_ := Aside0.mk (blk_below (g := gb403) (o := .cells #[.bool true, .int .i64 a0_1, .slice (some ad405) l0_2.length c0_2] 27 (0, 0)) (by (with_reducible repeat (first | refine blk_drewN ?_ _ | refine blk_drew ?_ | refine blk_alloc ?_ _)); exact BK403.out) hb); have n2_ := Aside0.mk (below_step (by repeat (first | (with_reducible first | exact HB.out | apply below_alloc | apply pw_below_drewN | apply below_drew1 | refine below_set ?_ GE403.out) | exact HB.out)) hb); have n3_ := Aside0.mk (hbox); have n4_ := Aside0.mk ((by rw [hg]; exact (below_size (by repeat (first | (with_reducible first | exact HB.out | apply below_alloc | apply pw_below_drewN | apply below_drew1 | refine below_set ?_ GE403.out) | exact HB.out))) : w.heap.size ≤ gb406)); have n5_ := Aside0.mk ((by rw [hg]; exact (below_size (by repeat (first | (with_reducible first | exact HB.out | apply below_alloc | apply pw_below_drewN | apply below_drew1 | refine below_set ?_ GE403.out) | exact HB.out))) : w.heap.size ≤ gb406)); have n6_ := Aside0.mk ((by rw [hg]; exact Nat.ne_of_lt (blk_lt (g := gb403) (o := .cells #[.bool true, .int .i64 a0_1, .slice (some ad405) l0_2.length c0_2] 27 (0, 0)) (by (with_reducible repeat (first | refine blk_drewN ?_ _ | refine blk_drew ?_ | refine blk_alloc ?_ _)); exact BK403.out)) : gb403 ≠ gb406)); have n7_ := Aside0.mk ((by rw [hg]; exact Nat.ne_of_gt (blk_lt (g := gb403) (o := .cells #[.bool true, .int .i64 a0_1, .slice (some ad405) l0_2.length c0_2] 27 (0, 0)) (by (with_reducible repeat (first | refine blk_drewN ?_ _ | refine blk_drew ?_ | refine blk_alloc ?_ _)); exact BK403.out)) : gb406 ≠ gb403)); clear HO_3; clear BK403; clear HB; have HO_3 := n0_; have BK403 := n1_; have HB := n2_; have BK406 := n3_; have GW406 := n4_; have GE406 := n5_; have NB403_406 := n6_; have NB406_403 := n7_; clear n0_ n1_ n2_ n3_ n4_ n5_ n6_ n7_; clear hb hbox hg; have hnb11 := NB406_403.out; have hnc11 := NB403_406.out; have hcz12_0 : w10.cell? ⟨gb406, 0, none⟩ = some (.bool false) := (blk_cell BK406.out 0).trans rfl; have hcz12_1 : w10.cell? ⟨gb406, 1, none⟩ = some (.int .i64 0) := (blk_cell BK406.out 1).trans rfl; have hcz12_2 : w10.cell? ⟨gb406, 2, none⟩ = some (.slice none 0 0) := (blk_cell BK406.out 2).trans rfl; have hfz12_0 := blk_frozen BK406.out 0; have hfz12_1 := blk_frozen BK406.out 1; have hfz12_2 := blk_frozen BK406.out 2) | ((with_reducible refine gate_callee (f := 45) rfl ?_); refine goesL_ (some 21) rfl rfl Tryd.func45 (by kernel_rfl) rfl #[.agg #[.bool ((rd_T27 l0_2 x15_1).f0), .int .i64 ((rd_T27 l0_2 x15_1).f1), .slice A405_2 ((rd_T27 l0_2 x15_1).f2).length c405_2]] rfl (by (try simp only [List.map_toArray, List.map_cons, List.map_nil]); first | done | rfl | (simp only [List.length_drop, List.length_take]; rfl)) ?_; (with_reducible refine (ih k1 (by have := HK1.out; omega) ((rd_T27 l0_2 x15_1).f0) ((rd_T27 l0_2 x15_1).f1) _ _ ((rd_T27 l0_2 x15_1).f2) t407 _ ?side1 ?side2 A8.out ?gGPow).mono ?_); (case gGPow => exact (HGPow.out.below (by repeat (first | (with_reducible first | exact HB.out | apply below_alloc | apply pw_below_drewN | apply below_drew1 | refine below_set ?_ GE403.out | refine below_set ?_ GE406.out) | exact HB.out)))); (case side1 => exact Kd.C_below HR405_2.out (by repeat (first | (with_reducible first | exact HB.out | apply below_alloc | apply pw_below_drewN | apply below_drew1 | refine below_set ?_ GE403.out | refine below_set ?_ GE406.out) | exact HB.out))); (case side2 => exact HC405_2.out); rintro e w13 ⟨rfl, hb⟩; refine ⟨_, rfl, ?_⟩; have n0_ := Aside0.mk (Kd.R_below (by (with_reducible repeat (first | apply Kd.R_alloc | apply Kd.R_drewN | apply Kd.R_drew)); exact (Kd.R_mono (Kd.R_far (p := ⟨gb406, 2, none⟩) (Kd.R_far (p := ⟨gb406, 1, none⟩) (Kd.R_far (p := ⟨gb406, 0, none⟩) (Kd.R_types HO_3.out BK406.out (by decide)) (fun _ hk => hk.2) (.bool ((rd_T27 l0_2 x15_1).f0))) (fun _ hk => hk.2) (.int .i64 ((rd_T27 l0_2 x15_1).f1))) (fun _ hk => hk.2) (.slice A405_2 ((rd_T27 l0_2 x15_1).f2).length c405_2)) (fun _ h_ => h_.1))) hb); have n1_ := Aside0.mk (blk_below (g := gb403) (o := .cells #[.bool true, .int .i64 a0_1, .slice (some ad405) l0_2.length c0_2] 27 (0, 0)) (by (with_reducible repeat (first | refine blk_drewN ?_ _ | refine blk_drew ?_ | refine blk_alloc ?_ _)); refine blk_far ?_ NB403_406.out _; (with_reducible repeat (first | refine blk_drewN ?_ _ | refine blk_drew ?_ | refine blk_alloc ?_ _)); refine blk_far ?_ NB403_406.out _; (with_reducible repeat (first | refine blk_drewN ?_ _ | refine blk_drew ?_ | refine blk_alloc ?_ _)); refine blk_far ?_ NB403_406.out _; (with_reducible repeat (first | refine blk_drewN ?_ _ | refine blk_drew ?_ | refine blk_alloc ?_ _)); exact BK403.out) hb); have n2_ := Aside0.mk (blk_below (g := gb406) (o := .cells #[.bool ((rd_T27 l0_2 x15_1).f0), .int .i64 ((rd_T27 l0_2 x15_1).f1), .slice A405_2 ((rd_T27 l0_2 x15_1).f2).length c405_2] 27 (0, 0)) (by (with_reducible repeat (first | refine blk_drewN ?_ _ | refine blk_drew ?_ | refine blk_alloc ?_ _)); refine blk_put (cs := #[.bool ((rd_T27 l0_2 x15_1).f0), .int .i64 ((rd_T27 l0_2 x15_1).f1), .slice none 0 0]) ?_ 2 _ rfl; (with_reducible repeat (first | refine blk_drewN ?_ _ | refine blk_drew ?_ | refine blk_alloc ?_ _)); refine blk_put (cs := #[.bool ((rd_T27 l0_2 x15_1).f0), .int .i64 0, .slice none 0 0]) ?_ 1 _ rfl; (with_reducible repeat (first | refine blk_drewN ?_ _ | refine blk_drew ?_ | refine blk_alloc ?_ _)); refine blk_put (cs := #[.bool false, .int .i64 0, .slice none 0 0]) ?_ 0 _ rfl; (with_reducible repeat (first | refine blk_drewN ?_ _ | refine blk_drew ?_ | refine blk_alloc ?_ _)); exact BK406.out) hb); have n3_ := Aside0.mk (below_step (by repeat (first | (with_reducible first | exact HB.out | apply below_alloc | apply pw_below_drewN | apply below_drew1 | refine below_set ?_ GE403.out | refine below_set ?_ GE406.out) | exact HB.out)) hb); clear HO_3; clear BK403; clear BK406; clear HB; have HO_3 := n0_; have BK403 := n1_; have BK406 := n2_; have HB := n3_; clear n0_ n1_ n2_ n3_; (try clear hb); (try clear hb2); (try clear hk); (try clear hi)) | ((with_reducible refine gate_builtin (b := .append) (xs := #[.tmp 19, .tmp 22]) rfl ?_); at_builtin; refine Kd.R_append Kd.string (w0 := w) w.heap.size rfl (.tmp 19) (.tmp 22) 131 9 (.string ⟨#[]⟩) 16 rfl Tryd.underlying131 info9 rfl (by decide) (by omega) u3 x3_1 t407 [.string t407] (fun _ => True) (fun _ => False) rfl rfl ?aP (fun _ hk => hk.elim) ?aF ?aO ?aB ?aS ?aL ?_; (case aP => exact rfl); (case aB => exact (by repeat (first | (with_reducible first | exact HB.out | apply below_alloc | apply pw_below_drewN | apply below_drew1 | refine below_set ?_ GE403.out | refine below_set ?_ GE406.out) | exact HB.out))); (case aF => exact (fun _ _ => trivial)); (case aO => exact (by (with_reducible repeat (first | apply Kd.R_alloc | apply Kd.R_drewN | apply Kd.R_drew)); exact HO_3.out)); (case aS => exact (below_size (by repeat (first | (with_reducible first | exact HB.out | apply below_alloc | apply pw_below_drewN | apply below_drew1 | refine below_set ?_ GE403.out | refine below_set ?_ GE406.out) | exact HB.out)))); (case aL => have := LMc9.out; omega); intro v409 w14 ho hb hg hat; rw [← Ny408.out] at ho; have n0_ := Aside0.mk (blk_grown (g := gb403) (o := .cells #[.bool true, .int .i64 a0_1, .slice (some ad405) l0_2.length c0_2] 27 (0, 0)) (by (with_reducible repeat (first | refine blk_drewN ?_ _ | refine blk_drew ?_ | refine blk_alloc ?_ _)); exact BK403.out) hg (Kd.R_ne HO_3.out BK403.out (by decide))); have n1_ := Aside0.mk (blk_grown (g := gb406) (o := .cells #[.bool ((rd_T27 l0_2 x15_1).f0), .int .i64 ((rd_T27 l0_2 x15_1).f1), .slice A405_2 ((rd_T27 l0_2 x15_1).f2).length c405_2] 27 (0, 0)) (by (with_reducible repeat (first | refine blk_drewN ?_ _ | refine blk_drew ?_ | refine blk_alloc ?_ _)); exact BK406.out) hg (Kd.R_ne HO_3.out BK406.out (by decide))); have n2_ := Aside0.mk (hb); have n3_ := Aside0.mk (ho); clear BK403; clear BK406; clear HB; clear HO_3; have BK403 := n0_; have BK406 := n1_; have HB := n2_; have HO410 := n3_; clear n0_ n1_ n2_ n3_; clear ho hb hg hat))
                go_roundg k1
                case measure => have := HK1.out; omega
                case rel => exact ⟨(y408), (wrap64 (x15_1 + 1)), (by first | rfl | (simp; done) | (simp [*]; done)), H', ⟨by have := HK1.out; omega⟩, ⟨by (with_reducible repeat (first | apply Kd.R_alloc | apply Kd.R_drewN | apply Kd.R_drew)); exact HO410.out⟩, ⟨by (with_reducible repeat (first | refine blk_drewN ?_ _ | refine blk_drew ?_ | refine blk_alloc ?_ _)); exact BK403.out⟩, ⟨by repeat (first | (with_reducible first | exact HB.out | apply below_alloc | apply pw_below_drewN | apply below_drew1 | refine below_set ?_ GE403.out | refine below_set ?_ GE406.out) | exact HB.out)⟩⟩
              · rw [if_neg c9] at H
                exact absurd H (by simp)
            · rw [if_neg c7] at H
              exact absurd H (by simp)
          · rw [if_neg c6] at H
            exact absurd H (by simp)
        · rw [if_neg c5] at H
          have c5b0 : decide (x15_1 < (l0_2.length : Int)) = false := decide_eq_false c5
          clear c5
          replace H := Option.bind_eq_some_iff.mp H
          obtain ⟨t411, A150, H⟩ := H
          replace H : (if 1 + t411.size ≤ 9223372036854775807 then (if ((⟨#[40]⟩ : ByteArray) ++ t411).size + 1 ≤ 9223372036854775807 then (some (((⟨#[40]⟩ : ByteArray) ++ t411) ++ (⟨#[41]⟩ : ByteArray))) else (none)) else (none)) = some r := H
          have A15 := Aside0.mk A150
          clear A150
          by_cases c16 : 1 + t411.size ≤ 9223372036854775807
          · rw [if_pos c16] at H
            have c16b0 := eq_true c16
            have c16b1 : decide (1 + t411.size ≤ 9223372036854775807) = true := decide_eq_true c16
            try have c16b2 : (9223372036854775807 < 1 + t411.size) = False := eq_false (Nat.not_lt.2 c16)
            by_cases c17 : ((⟨#[40]⟩ : ByteArray) ++ t411).size + 1 ≤ 9223372036854775807
            · rw [if_pos c17] at H
              have c17b0 := eq_true c17
              have c17b1 : decide (((⟨#[40]⟩ : ByteArray) ++ t411).size + 1 ≤ 9223372036854775807) = true := decide_eq_true c17
              try have c17b2 : (9223372036854775807 < ((⟨#[40]⟩ : ByteArray) ++ t411).size + 1) = False := eq_false (Nat.not_lt.2 c17)
              have c17b3 : (9223372036854775807 < 1 + t411.size + 1) = False := eq_false (by have h_ := c17; rw [ByteArray.size_append] at h_; have h2_ : (⟨#[40]⟩ : ByteArray).size = 1 := rfl; omega)
              obtain rfl := Option.some.inj H
              obtain ⟨Ao18, co18, eo18⟩ := Kd.R_slice HO_3.out
              subst eo18
              go_wp2_with (first | ((with_reducible refine gate_callee (f := 90) rfl ?_); refine goesL_ (some 26) rfl rfl Tryd.func90 (by kernel_rfl) rfl #[.slice Ao18 x3_1.length co18, .string (⟨#[32]⟩ : ByteArray)] rfl (by (try simp only [List.map_toArray, List.map_cons, List.map_nil]); first | done | rfl | (simp only [List.length_drop, List.length_take]; rfl)) ?_; (with_reducible refine (strings_Join.calls _ _ x3_1 (⟨#[32]⟩ : ByteArray) t411 _ ?side1 ?side2 A15.out).mono ?_); (case side1 => repeat (first | exact (Kd.R_reads' HO_3.out).2.2 | (with_reducible refine Kd.C_alloc ?_ _) | (with_reducible refine Kd.C_drewN ?_ _) | (with_reducible refine Kd.C_drew ?_))); (case side2 => exact (Kd.R_reads' HO_3.out).2.1); rintro e w19 ⟨rfl, hb⟩; refine ⟨_, rfl, ?_⟩; have n0_ := Aside0.mk (Kd.R_below (by (with_reducible repeat (first | apply Kd.R_alloc | apply Kd.R_drewN | apply Kd.R_drew)); exact HO_3.out) hb); have n1_ := Aside0.mk (blk_below (g := gb403) (o := .cells #[.bool true, .int .i64 a0_1, .slice A0_2 l0_2.length c0_2] 27 (0, 0)) (by (with_reducible repeat (first | refine blk_drewN ?_ _ | refine blk_drew ?_ | refine blk_alloc ?_ _)); exact BK403.out) hb); have n2_ := Aside0.mk (below_step (by repeat (first | (with_reducible first | exact HB.out | apply below_alloc | apply pw_below_drewN | apply below_drew1 | refine below_set ?_ GE403.out) | exact HB.out)) hb); clear HO_3; clear BK403; clear HB; have HO_3 := n0_; have BK403 := n1_; have HB := n2_; clear n0_ n1_ n2_; (try clear hb); (try clear hb2); (try clear hk); (try clear hi)))
              go_ret
              exact ⟨by first | rfl | (simp [errW_none, errW_some] <;> rfl) | (simp [*, errW_none, errW_some] <;> rfl), by repeat (first | (with_reducible first | exact HB.out | apply below_alloc | apply pw_below_drewN | apply below_drew1 | refine below_set ?_ GE403.out) | exact HB.out)⟩
            · rw [if_neg c17] at H
              exact absurd H (by simp)
          · rw [if_neg c16] at H
            exact absurd H (by simp)
  · replace c2 := Bool.eq_false_iff.mpr c2
    subst c2
    have H1 : ((strconv_Itoa_89.f a0_1).bind fun t404 => (some t404)) = some r := by rw [if_neg (show ¬ (false = true) by decide)] at H; exact H
    clear H
    have H := H1
    clear H1
    replace H := Option.bind_eq_some_iff.mp H
    obtain ⟨t404, A200, H⟩ := H
    replace H : (some t404) = some r := H
    have A20 := Aside0.mk A200
    clear A200
    obtain rfl := Option.some.inj H
    go_enter Tryd.func45, Tryd.ntmps45
    go_wp2_with (first | ((with_reducible refine gate_dst (N := 1) rfl ?_); refine box_event ?hg (N := 1) ?hd (cs := #[.bool false, .int .i64 a0_1, .slice A0_2 l0_2.length c0_2]) (t := 27) ?hr ?_; (case hd => rfl); (case hg => rfl); (case hr => first | (go_simp; done) | (go_simp; rfl)); intro gb403 hg w21 hbox hb; have n0_ := Aside0.mk (below_step (by repeat (first | (with_reducible first | exact HB.out | apply below_alloc | apply pw_below_drewN | apply below_drew1) | exact HB.out)) hb); have n1_ := Aside0.mk (hbox); have n2_ := Aside0.mk ((by rw [hg]; exact (below_size (by repeat (first | (with_reducible first | exact HB.out | apply below_alloc | apply pw_below_drewN | apply below_drew1) | exact HB.out))) : w.heap.size ≤ gb403)); have n3_ := Aside0.mk ((by rw [hg]; exact (below_size (by repeat (first | (with_reducible first | exact HB.out | apply below_alloc | apply pw_below_drewN | apply below_drew1) | exact HB.out))) : w.heap.size ≤ gb403)); clear HB; have HB := n0_; have BK403 := n1_; have GW403 := n2_; have GE403 := n3_; clear n0_ n1_ n2_ n3_; clear hb hbox hg; have hcz22_0 : w21.cell? ⟨gb403, 0, none⟩ = some (.bool false) := (blk_cell BK403.out 0).trans rfl; have hcz22_1 : w21.cell? ⟨gb403, 1, none⟩ = some (.int .i64 a0_1) := (blk_cell BK403.out 1).trans rfl; have hcz22_2 : w21.cell? ⟨gb403, 2, none⟩ = some (.slice A0_2 l0_2.length c0_2) := (blk_cell BK403.out 2).trans rfl; have hfz22_0 := blk_frozen BK403.out 0; have hfz22_1 := blk_frozen BK403.out 1; have hfz22_2 := blk_frozen BK403.out 2) | ((with_reducible refine gate_callee (f := 89) rfl ?_); refine goesL_ (some 11) rfl rfl Tryd.func89 (by kernel_rfl) rfl #[.int .i64 a0_1] rfl (by (try simp only [List.map_toArray, List.map_cons, List.map_nil]); first | done | rfl | (simp only [List.length_drop, List.length_take]; rfl)) ?_; (with_reducible refine (strconv_Itoa_89.calls a0_1 t404 _ A20.out ?gGPow).mono ?_); (case gGPow => exact (HGPow.out.below (by repeat (first | (with_reducible first | exact HB.out | apply below_alloc | apply pw_below_drewN | apply below_drew1 | refine below_set ?_ GE403.out) | exact HB.out)))); rintro e w23 ⟨rfl, hb⟩; refine ⟨_, rfl, ?_⟩; have n0_ := Aside0.mk (blk_below (g := gb403) (o := .cells #[.bool false, .int .i64 a0_1, .slice A0_2 l0_2.length c0_2] 27 (0, 0)) (by (with_reducible repeat (first | refine blk_drewN ?_ _ | refine blk_drew ?_ | refine blk_alloc ?_ _)); exact BK403.out) hb); have n1_ := Aside0.mk (below_step (by repeat (first | (with_reducible first | exact HB.out | apply below_alloc | apply pw_below_drewN | apply below_drew1 | refine below_set ?_ GE403.out) | exact HB.out)) hb); clear BK403; clear HB; have BK403 := n0_; have HB := n1_; clear n0_ n1_; (try clear hb); (try clear hb2); (try clear hk); (try clear hi)))
    go_ret
    exact ⟨by first | rfl | (simp [errW_none, errW_some] <;> rfl) | (simp [*, errW_none, errW_some] <;> rfl), by repeat (first | (with_reducible first | exact HB.out | apply below_alloc | apply pw_below_drewN | apply below_drew1 | refine below_set ?_ GE403.out) | exact HB.out)⟩

end Go.Proofs.YtgdomnlkafcddaaDoor.Q
namespace Go.Proofs.YtgdomnlkafcddaaDoor.Q
open Go.RowKit Go.Proofs.YtgdomnlkafcddaaDoorW.PrintWords Go.Proofs.YtgdomnlkafcddaaDoorW.PrintLast Go.Proofs.YtgdomnlkafcddaaDoorW.PrintMore
set_option linter.unusedVariables false
set_option linter.unusedSimpArgs false
def Tn : Nat → Nat
  | 0 => 0
  | n + 1 => 30 + 30 * (Tn n + 1)
theorem val_Text.fle {k k' : Nat} (hk : k ≤ k') {a : Bool} {b : Int} {l : List S27} {r : ByteArray} (h : val_Text.f k a b l = some r) : val_Text.f k' a b l = some r :=
  LeO.le (f := fun k => val_Text.f k a b l) (fun k => (val_Text.mono_l k).1 _ _ _) hk h
theorem val_Text.lle {k k' : Nat} (hk : k ≤ k') {a : List ByteArray} {l : List S27} {b c : Int} {r : ByteArray} (h : val_Text.l0 k a l b c = some r) : val_Text.l0 k' a l b c = some r :=
  LeO.le (f := fun k => val_Text.l0 k a l b c) (fun k => (val_Text.mono_l k).2 _ _ _ _) hk h
theorem rd_T27_at {xs : List S27} {n : Nat} (h : n < xs.length) : rd_T27 xs (n : Int) = xs[n] := by
  simp [rd_T27, h]
theorem lens_le {B : Nat} : ∀ (xs : List ByteArray), (∀ y ∈ xs, y.size ≤ B) → Lib.lens (xs.map (·.data.toList)) ≤ xs.length * B
  | [], _ => by simp [Lib.lens]
  | x :: r, h => by
    have h1 := lens_le r (fun y hy => h y (List.mem_cons_of_mem _ hy))
    have h2 := h x List.mem_cons_self
    have h3 : x.data.toList.length = x.size := Array.length_toList
    simp only [Lib.lens, List.map_cons, List.sum_cons, List.map_map, List.length_cons, Nat.succ_mul] at h1 ⊢
    omega
theorem join_ok {B : Nat} (hB : B ≤ 1000000000000) (xs : List ByteArray) (hl : xs.length ≤ 30) (h : ∀ y ∈ xs, y.size ≤ B) : ∃ t, strings_Join.f xs (⟨#[32]⟩ : ByteArray) = some t ∧ t.size ≤ 30 * (B + 1) := by
  unfold strings_Join.f
  by_cases hx : xs = []
  · rw [if_pos hx]
    exact ⟨_, rfl, by show 0 ≤ _; omega⟩
  · rw [if_neg hx]
    obtain ⟨y, r, rfl⟩ := List.exists_cons_of_ne_nil hx
    have hlen : (Lib.join ((y :: r).map (·.data.toList)) (⟨#[32]⟩ : ByteArray).data.toList).length ≤ 30 * (B + 1) := by
      rw [List.map_cons, Lib.join_length]
      have h1 := lens_le (y :: r) h
      rw [List.map_cons] at h1
      have h2 : (y :: r).length * B ≤ 30 * B := Nat.mul_le_mul_right _ hl
      have h3 : (⟨#[32]⟩ : ByteArray).data.toList.length = 1 := rfl
      rw [h3, List.length_map]
      simp only [List.length_cons] at hl h1 h2
      omega
    rw [if_pos ⟨by omega, by omega⟩]
    refine ⟨_, rfl, ?_⟩
    simpa [ByteArray.size] using hlen
theorem text_loop (n : Nat) (hB : Tn n ≤ 1000000000) (xs : List S27) (hl : xs.length ≤ 30) (ih : ∀ y ∈ xs, ∃ k t, val_Text.f k y.f0 y.f1 y.f2 = some t ∧ t.size ≤ Tn n) :
    ∀ (j i : Nat), i + j = xs.length → ∀ acc : List ByteArray, acc.length = i → (∀ y ∈ acc, y.size ≤ Tn n) → ∃ k t, val_Text.l0 k acc xs (xs.length : Int) (i : Int) = some t ∧ t.size ≤ Tn (n + 1) := by
  intro j
  induction j with
  | zero =>
    intro i hi acc ha hv
    have hlt : ¬ (i : Int) < (xs.length : Int) := by omega
    obtain ⟨t, ht, hs⟩ := join_ok (B := Tn n) (by omega) acc (by omega) hv
    have hz1 : (⟨#[40]⟩ : ByteArray).size = 1 := rfl
    have hz2 : (⟨#[41]⟩ : ByteArray).size = 1 := rfl
    refine ⟨1, (⟨#[40]⟩ : ByteArray) ++ t ++ (⟨#[41]⟩ : ByteArray), ?_, ?_⟩
    · simp only [val_Text.l0, if_neg hlt]
      rw [ht]
      simp only [Option.bind_some]
      rw [if_pos (by omega), if_pos (by rw [ByteArray.size_append]; omega)]
    · rw [ByteArray.size_append, ByteArray.size_append]
      have : Tn (n + 1) = 30 + 30 * (Tn n + 1) := rfl
      omega
  | succ j ihj =>
    intro i hi acc ha hv
    have hlt : (i : Int) < (xs.length : Int) := by omega
    have h0 : (0 : Int) ≤ (i : Int) := by omega
    have hi' : i < xs.length := by omega
    have hw3 : wrap64 ((i : Int) + 1) = ((i + 1 : Nat) : Int) := by rw [wrap64_id (by omega) (by omega)]; omega
    obtain ⟨k1, t, h1, hs⟩ := ih xs[i] (List.getElem_mem hi')
    obtain ⟨k2, t2, h2, hs2⟩ := ihj (i + 1) (by omega) (acc ++ [t]) (by simp [ha]) (by
      intro y hy
      rcases List.mem_append.1 hy with hy | hy
      · exact hv y hy
      · rw [List.mem_singleton.1 hy]; exact hs)
    have hacc : acc.length < 8796093022208 := by omega
    refine ⟨max k1 k2 + 1, t2, ?_, hs2⟩
    simp only [val_Text.l0, if_pos hlt, if_pos h0, rd_T27_at hi', hw3]
    rw [val_Text.fle (Nat.le_max_left k1 k2) h1]
    simp only [Option.bind_some, if_pos hacc]
    exact val_Text.lle (Nat.le_max_right k1 k2) h2
theorem text_ok : ∀ (n : Nat) (hn : n ≤ 6) (x : S27), OKv n x → ∃ k t, val_Text.f k x.f0 x.f1 x.f2 = some t ∧ t.size ≤ Tn n := by
  have hT : ∀ n, n ≤ 5 → Tn n ≤ 1000000000 := by decide
  intro n
  induction n with
  | zero => intro _ x h; exact h.elim
  | succ n ihn =>
    intro hn x ⟨h1, h2, h3, h4⟩
    cases hb : x.f0 with
    | false =>
      refine ⟨1, ⟨(Lib.itoa x.f1).toArray⟩, ?_, ?_⟩
      · simp [val_Text.f, strconv_Itoa_89.f, h2, h3]
      · have := Lib.itoa_length_le x.f1 h2 h3
        have e : Tn (n + 1) = 30 + 30 * (Tn n + 1) := rfl
        show (Lib.itoa x.f1).toArray.size ≤ _
        simp
        omega
    | true =>
      obtain ⟨k, t, hk, hs⟩ := text_loop n (hT n (by omega)) x.f2 h1 (fun y hy => ihn (by omega) y (h4 y hy)) x.f2.length 0 (by omega) [] rfl (by simp)
      refine ⟨k + 1, t, ?_, hs⟩
      simp only [val_Text.f, if_true]
      exact hk
end Go.Proofs.YtgdomnlkafcddaaDoor.Q
namespace Go.Proofs.YtgdomnlkafcddaaDoor.Q
open Go.RowKit Go.Proofs.YtgdomnlkafcddaaDoorW.PrintWords Go.Proofs.YtgdomnlkafcddaaDoorW.PrintLast Go.Proofs.YtgdomnlkafcddaaDoorW.PrintMore
set_option linter.unusedVariables false
set_option linter.unusedSimpArgs false
theorem play_shift {T : List Int} {y : Int} {s : Nat} {m x : Int} {s' : Nat} (h : playStp T s m = .ok (x, s')) : playStp (y :: T) (s + 1) m = .ok (x, s' + 1) := by
  unfold playStp at h ⊢
  have hr : rd (y :: T) ((s + 1 : Nat) : Int) = rd T (s : Int) := by simp [rd]
  rw [hr]
  by_cases h1 : s = T.length
  · rw [if_pos h1] at h; cases h
  rw [if_neg h1] at h
  rw [if_neg (by simp; exact h1)]
  by_cases h2 : rd T (s : Int) < 0
  · rw [if_pos h2] at h; cases h
  rw [if_neg h2] at h ⊢
  by_cases h3 : m < rd T (s : Int)
  · rw [if_pos h3] at h; cases h
  rw [if_neg h3] at h ⊢
  cases h
  rfl
theorem made_shift (T : List Int) (y : Int) : ∀ k,
    (∀ s a b c l v s', gen_made.f (playStp T) k s a b c l = some (.ok (v, s')) → gen_made.f (playStp (y :: T)) k (s + 1) a b c l = some (.ok (v, s' + 1))) ∧
    (∀ s a b c d e f v s', gen_made.l0 (playStp T) k s a b c d e f = some (.ok (v, s')) → gen_made.l0 (playStp (y :: T)) k (s + 1) a b c d e f = some (.ok (v, s' + 1))) ∧
    (∀ s a b c d e f g h i v s', gen_made.l1 (playStp T) k s a b c d e f g h i = some (.ok (v, s')) → gen_made.l1 (playStp (y :: T)) k (s + 1) a b c d e f g h i = some (.ok (v, s' + 1)))
  | 0 => ⟨fun _ _ _ _ _ _ _ h => by simp [gen_made.f] at h, fun _ _ _ _ _ _ _ _ _ h => by simp [gen_made.l0] at h, fun _ _ _ _ _ _ _ _ _ _ _ _ h => by simp [gen_made.l1] at h⟩
  | k + 1 => by
    obtain ⟨ih0, ih1, ih2⟩ := made_shift T y k
    refine ⟨?_, ?_, ?_⟩
    · intro s a b c l v s' h
      simp only [gen_made.f] at h ⊢
      by_cases h1 : a = 1
      · rw [if_pos h1] at h ⊢; cases h; rfl
      rw [if_neg h1] at h ⊢
      by_cases h2 : a = 2
      · rw [if_pos h2] at h ⊢
        obtain ⟨⟨t1, t2⟩, ht, h⟩ := ebind_ok h
        rw [play_shift ht]
        cases h
        rfl
      rw [if_neg h2] at h ⊢
      by_cases h3 : a = 3
      · rw [if_pos h3] at h ⊢
        exact ih1 _ _ _ _ _ _ _ _ _ h
      rw [if_neg h3] at h ⊢
      by_cases h4 : a = 4
      · rw [if_pos h4] at h ⊢
        obtain ⟨⟨t1, t2⟩, ht, h⟩ := ebind_ok h
        rw [play_shift ht]
        exact ih2 _ _ _ _ _ _ _ _ _ _ _ _ h
      rw [if_neg h4] at h ⊢
      by_cases h5 : a = 5
      · rw [if_pos h5] at h ⊢
        obtain ⟨⟨t1, t2⟩, ht, h⟩ := ebind_ok h
        rw [play_shift ht]
        simp only [ebind, obind] at h ⊢
        by_cases g0 : 0 ≤ t1
        · rw [if_pos g0] at h ⊢
          by_cases g1 : t1 < (l.length : Int)
          · rw [if_pos g1] at h ⊢
            obtain ⟨⟨u1, u2⟩, hu, h⟩ := obind_ok (x := gen_made.f (playStp T) k t2 ((rd_T63 l t1).f0) ((rd_T63 l t1).f1) ((rd_T63 l t1).f2) ((rd_T63 l t1).f3)) (f := fun bt => some (.ok ((bt.1.1, bt.1.2.1, bt.1.2.2), bt.2))) h
            rw [ih0 _ _ _ _ _ _ _ hu]
            cases h
            rfl
          · rw [if_neg g1] at h; cases h
        · rw [if_neg g0] at h; cases h
      rw [if_neg h5] at h ⊢
      cases h
      rfl
    · intro s a b c d e f v s' h
      simp only [gen_made.l0] at h ⊢
      by_cases h1 : c < b
      · rw [if_pos h1] at h ⊢
        by_cases g0 : 0 ≤ c
        · rw [if_pos g0] at h ⊢
          by_cases g1 : c < (a.length : Int)
          · rw [if_pos g1] at h ⊢
            obtain ⟨⟨u1, u2⟩, hu, h⟩ := obind_ok h
            rw [ih0 _ _ _ _ _ _ _ hu]
            simp only [obind] at h ⊢
            by_cases g2 : f.length < 3518437208883
            · rw [if_pos g2] at h ⊢
              exact ih1 _ _ _ _ _ _ _ _ _ h
            · rw [if_neg g2] at h; cases h
          · rw [if_neg g1] at h; cases h
        · rw [if_neg g0] at h; cases h
      · rw [if_neg h1] at h ⊢
        cases h
        rfl
    · intro s a b c d e f g i j v s' h
      simp only [gen_made.l1] at h ⊢
      by_cases h1 : b < a
      · rw [if_pos h1] at h ⊢
        by_cases g0 : 0 < (f.length : Int)
        · rw [if_pos g0] at h ⊢
          obtain ⟨⟨u1, u2⟩, hu, h⟩ := obind_ok h
          rw [ih0 _ _ _ _ _ _ _ hu]
          simp only [obind] at h ⊢
          by_cases g2 : j.length < 3518437208883
          · rw [if_pos g2] at h ⊢
            exact ih2 _ _ _ _ _ _ _ _ _ _ _ _ h
          · rw [if_neg g2] at h; cases h
        · rw [if_neg g0] at h; cases h
      · rw [if_neg h1] at h ⊢
        cases h
        rfl
theorem check_each {k : Nat} {x : S63} (h : gen_Check.f k x.f0 x.f1 x.f2 x.f3 = some none) : gen_each.f k x.f0 x.f1 x.f2 x.f3 = some none := by
  unfold gen_Check.f at h
  obtain ⟨⟨m, b⟩, h1, h⟩ := Option.bind_eq_some_iff.mp h
  cases b with
  | true =>
    simp only [if_true] at h
    obtain ⟨t, h2, h⟩ := Option.bind_eq_some_iff.mp h
    cases h
    exact h2
  | false => simp at h
/-- A list of one generator: its check tells nothing, or that there is too much. -/
theorem check_one (x : S63) {k : Nat} (h : gen_Check.f k x.f0 x.f1 x.f2 x.f3 = some none) : ∃ k2, (∀ c : Int, c = 3 ∨ c = 5 → gen_Check.f k2 c 0 0 [x] = some none) ∨ ∀ c : Int, c = 3 ∨ c = 5 → gen_Check.f k2 c 0 0 [x] = some (some 4) := by
  obtain ⟨kp, m, b, hp, _⟩ := parts_halts 6 0 (by omega) (by omega) ⟨5, 0, 0, [x]⟩
  have hp2 : ∀ c : Int, gen_parts.f kp c 0 0 [x] 0 = some (m, b) := by
    intro c
    rw [← hp]
    cases kp <;> rfl
  have he := check_each h
  cases b with
  | false =>
    refine ⟨kp, .inr fun c _ => ?_⟩
    unfold gen_Check.f
    rw [hp2 c]
    simp
  | true =>
    refine ⟨max kp (k + 4), .inl fun c hc => ?_⟩
    have h1 : gen_one.f 1 c 0 0 [x] = some none := by
      rcases hc with rfl | rfl <;> simp [gen_one.f, gen_one.j0]
    have hr0 : rd_T63 [x] 0 = x := by simpa using rd_T63_at (xs := [x]) (n := 0) (by simp)
    have hw : wrap64 ((0 : Int) + 1) = 1 := by rw [wrap64_id (by omega) (by omega)]; rfl
    have h2 : gen_each.l0 (k + 2) [x] 1 0 = some none := by
      unfold gen_each.l0
      simp only [show (0 : Int) < 1 by decide, if_true, Int.le_refl, hr0, List.length_cons, List.length_nil, hw]
      rw [gen_each.fle (Nat.le_succ k) he]
      simp [gen_each.l0]
    have h3 : gen_each.f (k + 3) c 0 0 [x] = some none := by
      unfold gen_each.f
      rw [gen_one.fle (by omega : 1 ≤ k + 2) h1]
      simp only [Option.bind_some, Option.isNone_none, if_true, List.length_cons, List.length_nil]
      exact h2
    unfold gen_Check.f
    rw [gen_parts.fle (Nat.le_max_left _ _) (hp2 c)]
    simp only [Option.bind_some, if_true]
    rw [gen_each.fle (Nat.le_trans (by omega) (Nat.le_max_right _ _)) h3]
    rfl
theorem wraps_law (x : S63) (l : List Int) : (∃ c, gen_Mend.f x.f0 x.f1 x.f2 x.f3 l = some ([], some c)) ∨
    ∃ m v, gen_Mend.f x.f0 x.f1 x.f2 x.f3 l = some (m, none) ∧ OKv 6 (val27 v) ∧ m.length ≤ Cn 6 ∧ gen_Replay.f x.f0 x.f1 x.f2 x.f3 m = some (v.1, v.2.1, v.2.2, none) ∧
      ((gen_Replay.f 5 0 0 [x] (0 :: m) = some (v.1, v.2.1, v.2.2, none) ∧ gen_Replay.f 3 0 0 [x] m = some (true, 0, [val27 v], none)) ∨
       (gen_Replay.f 5 0 0 [x] (0 :: m) = some (false, 0, [], some 4) ∧ gen_Replay.f 3 0 0 [x] m = some (false, 0, [], some 4))) := by
  obtain ⟨k, e, hk, he⟩ := check_halts x
  cases e with
  | some c =>
    refine .inl ⟨c, Olim_of (fun k => gen_Mend.gmono _ _ _ _ _ k) (k := k) ?_⟩
    unfold gen_Mend.g
    rw [hk]
    rfl
  | none =>
    have hC : Cn 6 = 25137931 := by decide
    obtain ⟨k2, v, d, h2, hv, hd, p2⟩ := made_ok 6 l x (he rfl) [] (by rw [hC]; decide)
    rw [List.nil_append] at h2
    have p3 := p2 []
    rw [List.nil_append, List.append_nil, List.length_nil] at p3
    obtain ⟨v1, v2, v3⟩ := v
    refine .inr ⟨d, (v1, v2, v3), Olim_of (fun k => gen_Mend.gmono _ _ _ _ _ k) (k := max k k2) ?_, hv, hd, Olim_of (fun k => gen_Replay.gmono _ _ _ _ _ k) (k := max k k2) ?_, ?_⟩
    · unfold gen_Mend.g
      rw [gen_Check.fle (Nat.le_max_left k k2) hk]
      simp only [Option.bind_some]
      rw [gen_made.fle (Nat.le_max_right k k2) h2]
    · unfold gen_Replay.g
      rw [gen_Check.fle (Nat.le_max_left k k2) hk]
      simp only [Option.bind_some]
      rw [if_pos (by omega), gen_made.fle (Nat.le_max_right k k2) p3]
      simp
    · obtain ⟨k3, hc | hc⟩ := check_one x hk
      · have hr0 : rd_T63 [x] 0 = x := by simpa using rd_T63_at (xs := [x]) (n := 0) (by simp)
        have hw : wrap64 ((0 : Int) + 1) = 1 := by rw [wrap64_id (by omega) (by omega)]; rfl
        have hw0 : wrap64 (((0 : Int) + 1) - 1) = 0 := by rw [wrap64_id (by omega) (by omega)]; rfl
        refine .inl ⟨Olim_of (fun k => gen_Replay.gmono _ _ _ _ _ k) (k := max k3 (k2 + 1)) ?_, Olim_of (fun k => gen_Replay.gmono _ _ _ _ _ k) (k := max k3 (k2 + 3)) ?_⟩
        · have h5 : gen_made.f (playStp (0 :: d)) (k2 + 1) 0 5 0 0 [x] = some (.ok ((v1, v2, v3), d.length + 1)) := by
            have hs := (made_shift d 0 k2).1 _ _ _ _ _ _ _ p3
            have hp : playStp (0 :: d) 0 0 = .ok (0, 1) := by
              unfold playStp
              simp [rd]
            unfold gen_made.f
            simp only [show ¬ (5 : Int) = 1 by decide, show ¬ (5 : Int) = 2 by decide, show ¬ (5 : Int) = 3 by decide, show ¬ (5 : Int) = 4 by decide, if_false, if_true, List.length_cons, List.length_nil, Int.natCast_add, Int.cast_ofNat_Int, Int.natCast_zero, Int.ofNat_zero, Int.zero_add]
            rw [show wrap64 ((1 : Int) - 1) = 0 by rw [wrap64_id (by omega) (by omega)]; rfl, hp]
            simp only [ebind, obind, Int.le_refl, if_true, show (0 : Int) < 1 by decide, hr0]
            rw [show (1 : Nat) = 0 + 1 by rfl, hs]
          unfold gen_Replay.g
          rw [gen_Check.fle (Nat.le_max_left _ _) (hc 5 (.inr rfl))]
          simp only [Option.bind_some]
          rw [if_pos (by simp; omega), gen_made.fle (Nat.le_max_right _ _) h5]
          simp
        · have h3 : gen_made.f (playStp d) (k2 + 3) 0 3 0 0 [x] = some (.ok ((true, 0, [val27 (v1, v2, v3)]), d.length)) := by
            unfold gen_made.f
            simp only [show ¬ (3 : Int) = 1 by decide, show ¬ (3 : Int) = 2 by decide, if_false, if_true]
            unfold gen_made.l0
            simp only [List.length_cons, List.length_nil, Int.natCast_add, Int.cast_ofNat_Int, Int.natCast_zero, Int.ofNat_zero, Int.zero_add, show (0 : Int) < 1 by decide, if_true, Int.le_refl, hr0, hw]
            rw [gen_made.fle (Nat.le_succ k2) p3]
            simp only [obind, show (0 : Nat) < 3518437208883 by decide, if_true, List.nil_append]
            rw [show wrap64 (1 : Int) = 1 by rw [wrap64_id (by omega) (by omega)]]
            unfold gen_made.l0
            rw [if_neg (by omega)]
            rfl
          unfold gen_Replay.g
          rw [gen_Check.fle (Nat.le_max_left _ _) (hc 3 (.inl rfl))]
          simp only [Option.bind_some]
          rw [if_pos (by omega), gen_made.fle (Nat.le_max_right _ _) h3]
          simp
      · refine .inr ⟨Olim_of (fun k => gen_Replay.gmono _ _ _ _ _ k) (k := k3) ?_, Olim_of (fun k => gen_Replay.gmono _ _ _ _ _ k) (k := k3) ?_⟩
        · unfold gen_Replay.g
          rw [hc 5 (.inr rfl)]
          rfl
        · unfold gen_Replay.g
          rw [hc 3 (.inl rfl)]
          rfl
/-- The text of a list of one. -/
theorem text_wrap {k : Nat} {v : Bool × Int × List S27} {t : ByteArray} (h : val_Text.f k v.1 v.2.1 v.2.2 = some t) (ht : t.size ≤ 1000000000000) : val_Text.f (k + 3) true 0 [val27 v] = some ((⟨#[40]⟩ ++ t) ++ ⟨#[41]⟩) := by
  have hr0 : rd_T27 [val27 v] 0 = val27 v := by simpa using rd_T27_at (xs := [val27 v]) (n := 0) (by simp)
  have hw : wrap64 (1 : Int) = 1 := wrap64_id (by omega) (by omega)
  have hj : strings_Join.f [t] (⟨#[32]⟩ : ByteArray) = some t := by
    unfold strings_Join.f
    have hl : (Lib.join ([t].map (·.data.toList)) (⟨#[32]⟩ : ByteArray).data.toList) = t.data.toList := by simp [Lib.join]
    rw [if_neg (by simp), hl, if_pos ⟨by simp, by rw [data_length]; omega⟩]
  unfold val_Text.f
  simp only [if_true]
  unfold val_Text.l0
  simp only [List.length_cons, List.length_nil, Int.natCast_add, Int.cast_ofNat_Int, Int.natCast_zero, Int.ofNat_zero, Int.zero_add, show (0 : Int) < 1 by decide, if_true, Int.le_refl, hr0, hw]
  rw [show (val27 v).f0 = v.1 from rfl, show (val27 v).f1 = v.2.1 from rfl, show (val27 v).f2 = v.2.2 from rfl, val_Text.fle (Nat.le_succ k) h]
  simp only [Option.bind_some, show (0 : Nat) < 8796093022208 by decide, if_true, List.nil_append]
  unfold val_Text.l0
  rw [if_neg (by omega), hj]
  simp only [Option.bind_some]
  have h1 : ((⟨#[40]⟩ : ByteArray) ++ t).size = 1 + t.size := by rw [ByteArray.size_append]; rfl
  rw [if_pos (by omega), if_pos (by rw [h1]; omega)]
end Go.Proofs.YtgdomnlkafcddaaDoor.Q
namespace Go.Proofs.YtgdomnlkafcddaaDoor.Q
open Go.RowKit Go.Proofs.YtgdomnlkafcddaaDoorW.PrintWords Go.Proofs.YtgdomnlkafcddaaDoorW.PrintLast Go.Proofs.YtgdomnlkafcddaaDoorW.PrintMore
def gfix (w0 : World) : Kd S63 where
  sz := 4
  E := []
  K := fun _ x cs => k63.K w0 x cs
  M := fun _ _ _ x cs => k63.K w0 x cs
  K_len := fun h => k63.K_len h
  K_one := fun h => k63.K_one h
  K_below := fun _ h => h
  K_of_M := fun h => h
  M_mono := fun _ h => h
  M_bound := fun h => h
  M_move := fun _ h => h
  M_lower := fun _ h => h
/-- A row of generators that is read at w0 is, later on, a row of this kind. -/
theorem gfix_C {w0 w : World} (hb : Below w0.heap.size w0 w) {A : Option Addr} {n : Nat} {xs : List S63} (h : k63.C w0 A n xs) : (gfix w0).C w A n xs := by
  obtain ⟨h1, h2, h3⟩ := h
  refine ⟨h1, h2, fun hn => ?_⟩
  obtain ⟨ad, e, hc⟩ := h3 hn
  refine ⟨ad, e, fun j p hj => ?_⟩
  obtain ⟨c, hl, hk, hcell⟩ := hc j p hj
  exact ⟨c, hl, hk, fun i u hu => (hb.cell (World.block_lt_of_cell? w0 _ (hcell i u hu))).trans (hcell i u hu)⟩
/-- What an element's cells say, its parts read at w. -/
theorem gfix_open {w0 w : World} (hb : Below w0.heap.size w0 w) {x : S63} {cs : List Value} (h : k63.K w0 x cs) : ∃ A3 c3, cs = [.int .i64 x.f0, .int .i64 x.f1, .int .i64 x.f2, .slice A3 x.f3.length c3] ∧ x.f3.length ≤ c3 ∧ k63.C w A3 x.f3.length x.f3 := by
  obtain ⟨A3, c3, e, hl, hc⟩ := k63_open h
  exact ⟨A3, c3, e, hl, Kd.C_below hc hb⟩
/-- A row of this kind is read at w. -/
theorem gfix_read {w0 w : World} (hb : Below w0.heap.size w0 w) {A : Option Addr} {n : Nat} {xs : List S63} (h : (gfix w0).C w A n xs) : k63.C w A n xs := by
  obtain ⟨h1, h2, h3⟩ := h
  refine ⟨h1, h2, fun hn => ?_⟩
  obtain ⟨ad, e, hc⟩ := h3 hn
  refine ⟨ad, e, fun j p hj => ?_⟩
  obtain ⟨c, hl, hk, hcell⟩ := hc j p hj
  exact ⟨c, hl, k63.K_below hb hk, hcell⟩
theorem gfE {w0 : World} {t : Nat} (h : (63 : Nat) ≠ t) : ∀ q, q ∈ 63 :: (gfix w0).E → q ≠ t := by
  intro q hq
  rcases List.mem_cons.1 hq with rfl | hq
  · exact h
  · cases hq
end Go.Proofs.YtgdomnlkafcddaaDoor.Q
namespace Go.Proofs.YtgdomnlkafcddaaDoor.As
open Go.RowKit Go.Extern.Stop Go.Stop Go.Extern
theorem valueOf156 (t : Addr) (w : World) : (ReflectliteValue.unpack (.iface 156 (.pointer (some t)))).run Tryd.prog w
    = .ok (.agg #[.pointer (some ⟨10, 156, none⟩), .pointer (some ⟨w.heap.size, 0, none⟩), .int .u64 150]) (w.alloc (.cells #[.pointer (some t)] 156)) := by kernel_rfl
theorem type156 (a : Addr) (w : World) : (ReflectliteValue.methodAny (ReflectliteValue.valueError "reflectlite.Value.Type" 0) (fun t _ _ _ => ReflectliteType.toType t) #[.agg #[.pointer (some ⟨10, 156, none⟩), .pointer (some a), .int .u64 150]]).run Tryd.prog w
    = .ok (.iface 212 (.agg #[.pointer (some ⟨10, 156, none⟩)])) w := by kernel_rfl
theorem methodKind (h : Value) (w : World) : (Go.method 390 212 (.agg #[h]) "Kind").run Tryd.prog w = .ok (225, h) w := by kernel_rfl
theorem kind156 (w : World) : ((ReflectliteType.abiMethod fun t => (fun a : Nat => Value.int IntKind.u8 (a : Int)) <$> Rtype.kind t) #[.pointer (some ⟨10, 156, none⟩)]).run Tryd.prog w = .ok (.int .u8 22) w := by kernel_rfl
theorem kind66 (w : World) : ((ReflectliteType.abiMethod fun t => (fun a : Nat => Value.int IntKind.u8 (a : Int)) <$> Rtype.kind t) #[.pointer (some ⟨10, 66, none⟩)]).run Tryd.prog w = .ok (.int .u8 2) w := by kernel_rfl
theorem rlm (z : Sem Value) (f : TypeId → Addr → Nat → Nat → Sem Value) (v : Value) :
    ReflectliteValue.method z f #[v] = (do match ← ReflectliteValue.parts v with | none => z | some (t, a, fl) => f t a fl (fl % 32)) := rfl
theorem parts156 (a : Addr) (w : World) : (ReflectliteValue.parts (.agg #[.pointer (some ⟨10, 156, none⟩), .pointer (some a), .int .u64 150])).run Tryd.prog w = .ok (some (156, a, 150)) w := by kernel_rfl
theorem isNil156 (a p : Addr) (W : World) (ha : W.cell? a = some (.pointer (some p))) :
    (ReflectliteValue.method (ReflectliteValue.valueError "reflectlite.Value.IsNil" 0) ReflectliteValue.isNil #[.agg #[.pointer (some ⟨10, 156, none⟩), .pointer (some a), .int .u64 150]]).run Tryd.prog W = .ok (.bool false) W := by
  rw [rlm]
  simp only [Sem.run_bind, parts156, Result.andThen]
  simp [ReflectliteValue.isNil, loadVar, isAgg, underlying, Tryd.underlying156, ha, Result.andThen]
theorem methodElem (h : Value) (w : World) : (Go.method 390 212 (.agg #[h]) "Elem").run Tryd.prog w = .ok (236, .agg #[h]) w := by kernel_rfl
theorem methodImplements (h : Value) (w : World) : (Go.method 390 212 (.agg #[h]) "Implements").run Tryd.prog w = .ok (237, .agg #[h]) w := by kernel_rfl
theorem methodAssignableTo (h : Value) (w : World) : (Go.method 390 212 (.agg #[h]) "AssignableTo").run Tryd.prog w = .ok (234, .agg #[h]) w := by kernel_rfl
theorem elem156 (w : World) : (ReflectliteType.method ReflectliteType.elem #[.agg #[.pointer (some ⟨10, 156, none⟩)]]).run Tryd.prog w = .ok (.iface 212 (.agg #[.pointer (some ⟨10, 66, none⟩)])) w := by kernel_rfl
theorem implements66 (w : World) : (ReflectliteType.relation "Implements" ReflectliteType.implements_ #[.agg #[.pointer (some ⟨10, 66, none⟩)], .iface 212 (.agg #[.pointer (some ⟨10, 30, none⟩)])]).run Tryd.prog w = .ok (.bool true) w := by kernel_rfl
theorem typeOf66 (v : Value) (w : World) : (ReflectliteType.typeOf #[.iface 66 v]).run Tryd.prog w = .ok (.iface 212 (.agg #[.pointer (some ⟨10, 66, none⟩)])) w := by kernel_rfl
theorem assignable66 (w : World) : (ReflectliteType.relation "AssignableTo" ReflectliteType.assignableTo #[.agg #[.pointer (some ⟨10, 66, none⟩)], .iface 212 (.agg #[.pointer (some ⟨10, 66, none⟩)])]).run Tryd.prog w = .ok (.bool true) w := by kernel_rfl
theorem valueOf66 (n : Int) (w : World) : (ReflectliteValue.unpack (.iface 66 (.int .i64 n))).run Tryd.prog w
    = .ok (.agg #[.pointer (some ⟨10, 66, none⟩), .pointer (some ⟨w.heap.size, 0, none⟩), .int .u64 130]) (w.alloc (.cells #[.int .i64 n] 66)) := by kernel_rfl
theorem elemOf156 (w : World) : (Rtype.elem? 156).run Tryd.prog w = .ok (some 66) w := by kernel_rfl
theorem mk66 (p : Addr) (w : World) : (ReflectliteValue.mk 66 p ReflectliteValue.flagAddr).run Tryd.prog w = .ok (.agg #[.pointer (some ⟨10, 66, none⟩), .pointer (some p), .int .u64 386]) w := by kernel_rfl
theorem elemV156 (a p : Addr) (W : World) (ha : W.cell? a = some (.pointer (some p))) :
    (ReflectliteValue.method (ReflectliteValue.valueError "reflectlite.Value.Elem" 0) ReflectliteValue.elem #[.agg #[.pointer (some ⟨10, 156, none⟩), .pointer (some a), .int .u64 150]]).run Tryd.prog W
      = .ok (.agg #[.pointer (some ⟨10, 66, none⟩), .pointer (some p), .int .u64 386]) W := by
  rw [rlm]
  simp only [Sem.run_bind, parts156, Result.andThen]
  simp [ReflectliteValue.elem, loadVar, isAgg, underlying, Tryd.underlying156, ha, Result.andThen, elemOf156, mk66]
theorem rls (v x : Value) : ReflectliteValue.set #[v, x] = (do
    let (some (dst, a, fl), some (src, b, _)) := (← ReflectliteValue.parts v, ← ReflectliteValue.parts x)
      | unsupported (.noEntry "extern/(internal/reflectlite.Value).Set.zeroValue")
    if fl / ReflectliteValue.flagAddr % 2 == 0 then unsupported (.noEntry "extern/(internal/reflectlite.Value).Set.unaddressable")
    let val ← loadVar src b
    if ← Rtype.directlyAssignable dst src then storeVar dst a val
    else if ← Rtype.implements dst src then
      if (← Rtype.kind src) == 20 then
        match val with
        | .nilIface => unsupported (.noEntry "extern/reflectlite: a nil value of one interface type handed on as a value of another")
        | _ => storeVar dst a val
      else storeVar dst a (.iface src val)
    else panicString ("reflectlite.Set: value of type " ++ (← Rtype.spelt src) ++ " is not assignable to type " ++ (← Rtype.spelt dst))
    pure (.tuple #[])) := rfl
theorem parts66a (a : Addr) (w : World) : (ReflectliteValue.parts (.agg #[.pointer (some ⟨10, 66, none⟩), .pointer (some a), .int .u64 386])).run Tryd.prog w = .ok (some (66, a, 386)) w := by kernel_rfl
theorem parts66 (a : Addr) (w : World) : (ReflectliteValue.parts (.agg #[.pointer (some ⟨10, 66, none⟩), .pointer (some a), .int .u64 130])).run Tryd.prog w = .ok (some (66, a, 130)) w := by kernel_rfl
theorem direct66 (w : World) : (Rtype.directlyAssignable 66 66).run Tryd.prog w = .ok true w := by kernel_rfl
theorem size66 (w : World) : (sizeOf 66).run Tryd.prog w = .ok 1 w := by kernel_rfl
theorem set66 (ta b : Addr) (n : Int) (old : Value) (W : World) (hb : W.cell? b = some (.int .i64 n)) (ht : W.cell? ta = some old) (hf : W.frozen? ta = false) :
    (ReflectliteValue.set #[.agg #[.pointer (some ⟨10, 66, none⟩), .pointer (some ta), .int .u64 386], .agg #[.pointer (some ⟨10, 66, none⟩), .pointer (some b), .int .u64 130]]).run Tryd.prog W
      = .ok (.tuple #[]) (W.setCell ta (.int .i64 n)) := by
  rw [rls]
  simp only [Sem.run_bind, parts66a, parts66, Result.andThen]
  simp [ReflectliteValue.flagAddr, loadVar, isAgg, underlying, Tryd.underlying66, hb, Result.andThen, direct66, storeVar, Value.cells, storeCells, Addr.add]
  rw [run_store Tryd.prog W ta _ _ (by rfl)]
  simp [ht, hf]
end Go.Proofs.YtgdomnlkafcddaaDoor.As
namespace Go.Proofs.YtgdomnlkafcddaaDoor.As
open Go.RowKit Go.Extern.Stop Go.Stop Go.Extern
theorem as_nil (t : Value) (w : World) :
    Calls Tryd.prog 117 #[.nilIface, t] w fun e w' => e = .returned (.bool false) ∧ w' = w := by
  go_enter Tryd.func117, Tryd.ntmps117
  go_wp2
  go_ret
  exact ⟨rfl, rfl⟩
set_option maxHeartbeats 4000000 in
theorem as_hit (n : Int) (t : Addr) (old : Value) (w : World) (hg : Q.GErr w) (ht0 : w.cell? t = some old) (hf0 : w.frozen? t = false) :
    Calls Tryd.prog 117 #[.iface 66 (.int .i64 n), .iface 156 (.pointer (some t))] w fun ev w' => ev = .returned (.bool true) ∧ w' = ((((w.alloc (.cells #[.pointer (some t)] 156)).alloc (.cells #[.pointer (some ⟨10, 156, none⟩), .pointer (some ⟨w.heap.size, 0, none⟩), .int .u64 150] 183)).alloc (.cells #[.pointer (some ⟨10, 156, none⟩), .pointer (some ⟨w.heap.size, 0, none⟩), .int .u64 150] 183)).alloc (.cells #[.int .i64 n] 66)).setCell t (.int .i64 n) := by
  have h147 := @run_callFunc_extern Tryd.prog 147 _ (fun args => ReflectliteValue.unpack (args.getD 0 (.tuple #[]))) Tryd.func147 (by kernel_rfl) (by kernel_rfl) (by kernel_rfl) (by kernel_rfl)
  have h148 := @run_callFunc_extern Tryd.prog 148 _ (ReflectliteValue.methodAny (ReflectliteValue.valueError "reflectlite.Value.Type" 0) (fun t _ _ _ => ReflectliteType.toType t)) Tryd.func148 (by kernel_rfl) (by kernel_rfl) (by kernel_rfl) (by kernel_rfl)
  have h149 := @run_callFunc_extern Tryd.prog 149 _ (ReflectliteValue.method (ReflectliteValue.valueError "reflectlite.Value.IsNil" 0) ReflectliteValue.isNil) Tryd.func149 (by kernel_rfl) (by kernel_rfl) (by kernel_rfl) (by kernel_rfl)
  have h225 := @run_callFunc_extern Tryd.prog 225 _ (ReflectliteType.abiMethod fun t => do pure (.int .u8 (← Rtype.kind t))) Tryd.func225 (by kernel_rfl) (by kernel_rfl) (by kernel_rfl) (by kernel_rfl)
  have h236 := @run_callFunc_extern Tryd.prog 236 _ (ReflectliteType.method ReflectliteType.elem) Tryd.func236 (by kernel_rfl) (by kernel_rfl) (by kernel_rfl) (by kernel_rfl)
  have h237 := @run_callFunc_extern Tryd.prog 237 _ (ReflectliteType.relation "Implements" ReflectliteType.implements_) Tryd.func237 (by kernel_rfl) (by kernel_rfl) (by kernel_rfl) (by kernel_rfl)
  have h174 := @run_callFunc_extern Tryd.prog 174 _ ReflectliteType.typeOf Tryd.func174 (by kernel_rfl) (by kernel_rfl) (by kernel_rfl) (by kernel_rfl)
  have h234 := @run_callFunc_extern Tryd.prog 234 _ (ReflectliteType.relation "AssignableTo" ReflectliteType.assignableTo) Tryd.func234 (by kernel_rfl) (by kernel_rfl) (by kernel_rfl) (by kernel_rfl)
  have h175 := @run_callFunc_extern Tryd.prog 175 _ (ReflectliteValue.method (ReflectliteValue.valueError "reflectlite.Value.Elem" 0) ReflectliteValue.elem) Tryd.func175 (by kernel_rfl) (by kernel_rfl) (by kernel_rfl) (by kernel_rfl)
  have h176 := @run_callFunc_extern Tryd.prog 176 _ ReflectliteValue.set Tryd.func176 (by kernel_rfl) (by kernel_rfl) (by kernel_rfl) (by kernel_rfl)
  have tO := typeOf66
  have mA := methodAssignableTo
  have a25 := assignable66
  have v25 := valueOf66
  have f6 := valueOf156
  have f7 := type156
  have mK := methodKind
  have mE := methodElem
  have mI := methodImplements
  have k27 := kind156
  have k25 := kind66
  have e27 := elem156
  have i25 := implements66
  have n8 := isNil156 ⟨w.heap.size, 0, none⟩ t ((w.alloc (.cells #[.pointer (some t)] 156)).alloc (.cells #[.pointer (some ⟨10, 156, none⟩), .pointer (some ⟨w.heap.size, 0, none⟩), .int .u64 150] 183)) (by simp)
  have hlt : 3 < w.heap.size := World.block_lt_of_cell? w _ hg
  have hg2 : ((w.alloc (.cells #[.pointer (some t)] 156)).alloc (.cells #[.pointer (some ⟨10, 156, none⟩), .pointer (some ⟨w.heap.size, 0, none⟩), .int .u64 150] 183)).cell? ⟨3, 0, none⟩ = some (.iface 212 (.agg #[.pointer (some ⟨10, 30, none⟩)])) := by
    rw [World.cell?_alloc_lt _ _ ⟨3, 0, none⟩ (by simp; omega), World.cell?_alloc_lt _ _ ⟨3, 0, none⟩ hlt]; exact hg
  have htl : t.block < w.heap.size := by
    rcases Nat.lt_or_ge t.block w.heap.size with h | h
    · exact h
    · simp [World.cell?, Array.getElem?_eq_none h] at ht0
  have el := elemV156 ⟨w.heap.size, 0, none⟩ t (((w.alloc (.cells #[.pointer (some t)] 156)).alloc (.cells #[.pointer (some ⟨10, 156, none⟩), .pointer (some ⟨w.heap.size, 0, none⟩), .int .u64 150] 183)).alloc (.cells #[.pointer (some ⟨10, 156, none⟩), .pointer (some ⟨w.heap.size, 0, none⟩), .int .u64 150] 183)) (by rw [World.cell?_alloc_lt _ _ ⟨w.heap.size, 0, none⟩ (by simp; omega)]; simp)
  have st := set66 t ⟨w.heap.size + 1 + 1 + 1, 0, none⟩ n old ((((w.alloc (.cells #[.pointer (some t)] 156)).alloc (.cells #[.pointer (some ⟨10, 156, none⟩), .pointer (some ⟨w.heap.size, 0, none⟩), .int .u64 150] 183)).alloc (.cells #[.pointer (some ⟨10, 156, none⟩), .pointer (some ⟨w.heap.size, 0, none⟩), .int .u64 150] 183)).alloc (.cells #[.int .i64 n] 66))
    (by rw [World.cell?_alloc_at _ _ _ _ (by simp)]; rfl)
    (by rw [World.cell?_alloc_lt _ _ t (by simp; omega), World.cell?_alloc_lt _ _ t (by simp; omega), World.cell?_alloc_lt _ _ t (by simp; omega), World.cell?_alloc_lt _ _ t htl]; exact ht0)
    (by rw [World.frozen?_alloc_old _ _ t (by simp; omega), World.frozen?_alloc_old _ _ t (by simp; omega), World.frozen?_alloc_old _ _ t (by simp; omega), World.frozen?_alloc_old _ _ t (Nat.ne_of_lt htl)]; exact hf0)
  clear hg
  go_enter Tryd.func117, Tryd.ntmps117
  go_wp2
  refine wp_loop_rounds 1 ?_
  rw [rounds_succ]
  go_wp2
  go_ret
  exact ⟨rfl, rfl⟩
end Go.Proofs.YtgdomnlkafcddaaDoor.As

namespace Go.Proofs.YtgdomnlkafcddaaDoor.Q
open Go.RowKit Go.Proofs.YtgdomnlkafcddaaDoorW.PrintWords
def plain_Told.f (a0 : Option Int) : Option Int := some (a0.getD 0)
set_option maxHeartbeats 1000000 in
theorem plain_Told.calls (a0 : Option Int) (r : Int) (w : World) (h : plain_Told.f a0 = some r) (hG : GErr w) :
    Calls Tryd.prog 72 #[errW a0] w fun e w' => e = .returned (.int .i64 r) ∧ Below w.heap.size w w' := by
  obtain rfl := Option.some.inj h
  clear h
  cases a0 with
  | none =>
    clear hG
    show Calls Tryd.prog 72 #[.nilIface] w _
    go_enter Tryd.func72, Tryd.ntmps72
    go_wp2_with fail
    go_ret
    exact ⟨rfl, Below.refl _ _⟩
  | some n =>
    show Calls Tryd.prog 72 #[.iface 66 (.int .i64 n)] w _
    have hG' : GErr (w.alloc (.cells #[.int .i64 0] 66)) := hG.below ((Below.refl _ _).alloc (Nat.le_refl _) _)
    clear hG
    have C := As.as_hit n ⟨w.heap.size, 0, none⟩ (.int .i64 0) (w.alloc (.cells #[.int .i64 0] 66)) hG' (by simp) (by simp)
    have C' := Aside0.mk C
    clear C hG'
    go_enter Tryd.func72, Tryd.ntmps72
    go_wp2_with fail
    refine C'.out.mono ?_
    rintro e w1 ⟨rfl, rfl⟩
    clear C'
    go_wp2_with fail
    go_ret
    exact ⟨rfl, below_alloc (below_alloc (below_alloc (below_alloc (below_alloc (Below.refl _ _) _) _) _) _) _⟩
end Go.Proofs.YtgdomnlkafcddaaDoor.Q
namespace Go.Proofs.YtgdomnlkafcddaaDoor.Q
open Go.RowKit Go.Proofs.YtgdomnlkafcddaaDoorW.PrintWords Go.Proofs.YtgdomnlkafcddaaDoorW.PrintLast Go.Proofs.YtgdomnlkafcddaaDoorW.PrintMore
attribute [local go_sem] max2_int min2_int max_two min_two max_three min_three max_four min_four   -- for this text's walks alone
set_option linter.unusedVariables false
set_option linter.unusedSimpArgs false

/-! ### assayersame_Told: function 32 -/
def assayersame_Told.f (a0 : Option Int) (a1 : Option Int) : Option (Bool) := (plain_Told.f a0).bind fun t201 => ((plain_Told.f a1).bind fun t202 => (some (t201 == t202)))
set_option maxHeartbeats 8000000 in
set_option maxRecDepth 100000 in
theorem assayersame_Told.calls (a0 : Option Int) (a1 : Option Int) (r : Bool) (w : World) (h : assayersame_Told.f a0 a1 = some r) (hGErr : GErr w) :
    Calls Tryd.prog 32 #[errW a0, errW a1] w fun e w' => e = .returned (.bool r) ∧ Below w.heap.size w w' := by
  have HGErr := Aside0.mk hGErr
  clear hGErr
  have HB := Aside0.mk (Below.refl w.heap.size w)
  have H : ((plain_Told.f a0).bind fun t201 => ((plain_Told.f a1).bind fun t202 => (some (t201 == t202)))) = some r := h
  clear h
  replace H := Option.bind_eq_some_iff.mp H
  obtain ⟨t201, A30, H⟩ := H
  replace H : ((plain_Told.f a1).bind fun t202 => (some (t201 == t202))) = some r := H
  have A3 := Aside0.mk A30
  clear A30
  replace H := Option.bind_eq_some_iff.mp H
  obtain ⟨t202, A40, H⟩ := H
  replace H : (some (t201 == t202)) = some r := H
  have A4 := Aside0.mk A40
  clear A40
  obtain rfl := Option.some.inj H
  have CA3 := fun W G0_ => plain_Told.calls a0 t201 W A3.out G0_
  try simp only [errW_none, errW_some] at CA3
  go_enter Tryd.func32, Tryd.ntmps32
  go_wp2_with (first | (go_at_call 72; (with_reducible refine (CA3 _ ?gGErr).mono ?_); (case gGErr => exact (HGErr.out.below (by repeat (first | (with_reducible first | exact HB.out | apply below_alloc | apply pw_below_drewN | apply below_drew1) | exact HB.out)))); rintro e w5 ⟨rfl, hb⟩; have n0_ := Aside0.mk (below_step (by repeat (first | (with_reducible first | exact HB.out | apply below_alloc | apply pw_below_drewN | apply below_drew1) | exact HB.out)) hb); clear HB; have HB := n0_; clear n0_; (try clear hb); (try clear hb2); (try clear hk); (try clear hi); have CA4 := fun W G0_ => plain_Told.calls a1 t202 W A4.out G0_; try simp only [errW_none, errW_some] at CA4) | (go_at_call 72; (with_reducible refine (CA4 _ ?gGErr).mono ?_); (case gGErr => exact (HGErr.out.below (by repeat (first | (with_reducible first | exact HB.out | apply below_alloc | apply pw_below_drewN | apply below_drew1) | exact HB.out)))); rintro e w6 ⟨rfl, hb⟩; have n0_ := Aside0.mk (below_step (by repeat (first | (with_reducible first | exact HB.out | apply below_alloc | apply pw_below_drewN | apply below_drew1) | exact HB.out)) hb); clear HB; have HB := n0_; clear n0_; (try clear hb); (try clear hb2); (try clear hk); (try clear hi)))
  go_ret
  exact ⟨by first | rfl | (simp [errW_none, errW_some] <;> rfl) | (simp [*, errW_none, errW_some] <;> rfl), by repeat (first | (with_reducible first | exact HB.out | apply below_alloc | apply pw_below_drewN | apply below_drew1) | exact HB.out)⟩

end Go.Proofs.YtgdomnlkafcddaaDoor.Q
namespace Go.Proofs.YtgdomnlkafcddaaDoor.Q
open Go.RowKit Go.Proofs.YtgdomnlkafcddaaDoorW.PrintWords Go.Proofs.YtgdomnlkafcddaaDoorW.PrintLast Go.Proofs.YtgdomnlkafcddaaDoorW.PrintMore
attribute [local go_sem] max2_int min2_int max_two min_two max_three min_three max_four min_four   -- for this text's walks alone
set_option linter.unusedVariables false
set_option linter.unusedSimpArgs false

/-! ### assayersame_Error: function 38 -/
def assayersame_Error.f (a0 : Option Int) (a1 : Int) : Option (Bool) := (plain_Told.f a0).bind fun t827 => (some (t827 == a1))
set_option maxHeartbeats 8000000 in
set_option maxRecDepth 100000 in
theorem assayersame_Error.calls (a0 : Option Int) (a1 : Int) (r : Bool) (w : World) (h : assayersame_Error.f a0 a1 = some r) (hGErr : GErr w) :
    Calls Tryd.prog 38 #[errW a0, .int .i64 a1] w fun e w' => e = .returned (.bool r) ∧ Below w.heap.size w w' := by
  have HGErr := Aside0.mk hGErr
  clear hGErr
  have HB := Aside0.mk (Below.refl w.heap.size w)
  have H : ((plain_Told.f a0).bind fun t827 => (some (t827 == a1))) = some r := h
  clear h
  replace H := Option.bind_eq_some_iff.mp H
  obtain ⟨t827, A30, H⟩ := H
  replace H : (some (t827 == a1)) = some r := H
  have A3 := Aside0.mk A30
  clear A30
  obtain rfl := Option.some.inj H
  have CA3 := fun W G0_ => plain_Told.calls a0 t827 W A3.out G0_
  try simp only [errW_none, errW_some] at CA3
  go_enter Tryd.func38, Tryd.ntmps38
  go_wp2_with (first | (go_at_call 72; (with_reducible refine (CA3 _ ?gGErr).mono ?_); (case gGErr => exact (HGErr.out.below (by repeat (first | (with_reducible first | exact HB.out | apply below_alloc | apply pw_below_drewN | apply below_drew1) | exact HB.out)))); rintro e w4 ⟨rfl, hb⟩; have n0_ := Aside0.mk (below_step (by repeat (first | (with_reducible first | exact HB.out | apply below_alloc | apply pw_below_drewN | apply below_drew1) | exact HB.out)) hb); clear HB; have HB := n0_; clear n0_; (try clear hb); (try clear hb2); (try clear hk); (try clear hi)))
  go_ret
  exact ⟨by first | rfl | (simp [errW_none, errW_some] <;> rfl) | (simp [*, errW_none, errW_some] <;> rfl), by repeat (first | (with_reducible first | exact HB.out | apply below_alloc | apply pw_below_drewN | apply below_drew1) | exact HB.out)⟩

end Go.Proofs.YtgdomnlkafcddaaDoor.Q
namespace Go.Proofs.YtgdomnlkafcddaaDoor.Q
open Go.RowKit Go.Proofs.YtgdomnlkafcddaaDoorW.PrintWords Go.Proofs.YtgdomnlkafcddaaDoorW.PrintLast Go.Proofs.YtgdomnlkafcddaaDoorW.PrintMore
attribute [local go_sem] max2_int min2_int max_two min_two max_three min_three max_four min_four   -- for this text's walks alone
set_option linter.unusedVariables false
set_option linter.unusedSimpArgs false

/-! ### gen_capped: function 125 -/
def gen_capped.f (a0 : Int) : Option (Int) := some (mn a0 1048577)
set_option maxHeartbeats 8000000 in
set_option maxRecDepth 100000 in
theorem gen_capped.calls (a0 : Int) (r : Int) (w : World) (h : gen_capped.f a0 = some r) :
    Calls Tryd.prog 125 #[.int .i64 a0] w fun e w' => e = .returned (.int .i64 r) ∧ Below w.heap.size w w' := by
  have HB := Aside0.mk (Below.refl w.heap.size w)
  have H : (some (mn a0 1048577)) = some r := h
  clear h
  obtain ⟨ji2, hji2⟩ : ∃ j_ : Int, (mn a0 1048577) = j_ := ⟨_, rfl⟩
  replace H : (some ji2) = some r := by first | (rw [hji2] at H; exact H) | (simp only [hji2] at H ⊢; exact H)
  (try (have hji2h : ji2 ≤ 1048577 := by (rw [← hji2]; unfold mn; (repeat' split) <;> omega)))
  (try (have hji2g : ji2 ≤ 64 := by omega))
  have hji2_ : (if 1048577 < a0 then 1048577 else a0) = ji2 := hji2
  obtain rfl := Option.some.inj H
  go_enter Tryd.func125, Tryd.ntmps125
  go_wp2
  go_ret
  exact ⟨by first | rfl | (simp [errW_none, errW_some] <;> rfl) | (simp only [← hji2]; first | rfl | (simp [errW_none, errW_some] <;> rfl)) | (simp [*, errW_none, errW_some] <;> rfl), by repeat (first | (with_reducible first | exact HB.out | apply below_alloc | apply pw_below_drewN | apply below_drew1) | exact HB.out)⟩

end Go.Proofs.YtgdomnlkafcddaaDoor.Q
namespace Go.Proofs.YtgdomnlkafcddaaDoor.Q
open Go.RowKit Go.Proofs.YtgdomnlkafcddaaDoorW.PrintWords Go.Proofs.YtgdomnlkafcddaaDoorW.PrintLast Go.Proofs.YtgdomnlkafcddaaDoorW.PrintMore
attribute [local go_sem] max2_int min2_int max_two min_two max_three min_three max_four min_four   -- for this text's walks alone
set_option linter.unusedVariables false
set_option linter.unusedSimpArgs false

/-! ### gen_count: function 84 -/
mutual
def gen_count.l0 : Nat → Int → List (S63) → Int → Int → Option (Int)
  | 0, _, _, _, _ => none
  | k + 1, x3, x23, x24, x25 => if x25 < x24 then (if 0 ≤ x25 then (if x25 < (x23.length : Int) then ((gen_count.f k ((rd_T63 x23 x25).f0) ((rd_T63 x23 x25).f1) ((rd_T63 x23 x25).f2) ((rd_T63 x23 x25).f3)).bind fun t289 => ((gen_capped.f (wrap64 (x3 * t289))).bind fun t290 => (gen_count.l0 k t290 x23 x24 (wrap64 (x25 + 1))))) else (none)) else (none)) else (some x3)
def gen_count.l1 : Nat → Int → Int → Int → Int → Int → Option (Int)
  | 0, _, _, _, _, _ => none
  | k + 1, x3, x6, x7, x43, x44 => if x44 < x43 then ((gen_capped.f (wrap64 (x7 * x6))).bind fun t293 => ((gen_capped.f (wrap64 (x3 + t293))).bind fun t294 => (gen_count.l1 k t294 x6 t293 x43 (wrap64 (x44 + 1))))) else (some x3)
def gen_count.l2 : Nat → Int → List (S63) → Int → Int → Option (Int)
  | 0, _, _, _, _ => none
  | k + 1, x3, x58, x59, x60 => if x60 < x59 then (if 0 ≤ x60 then (if x60 < (x58.length : Int) then ((gen_count.f k ((rd_T63 x58 x60).f0) ((rd_T63 x58 x60).f1) ((rd_T63 x58 x60).f2) ((rd_T63 x58 x60).f3)).bind fun t297 => ((gen_capped.f (wrap64 (x3 + t297))).bind fun t298 => (gen_count.l2 k t298 x58 x59 (wrap64 (x60 + 1))))) else (none)) else (none)) else (some x3)
def gen_count.f : Nat → Int → Int → Int → List (S63) → Option (Int)
  | 0, _, _, _, _ => none
  | k + 1, a0_0, a0_1, a0_2, l0_3 => if a0_0 = 2 then (some (wrap64 ((wrap64 (a0_2 - a0_1)) + 1))) else (if a0_0 = 3 then (gen_count.l0 k 1 l0_3 (l0_3.length : Int) 0) else (if a0_0 = 4 then (if 0 < (l0_3.length : Int) then ((gen_count.f k ((rd_T63 l0_3 0).f0) ((rd_T63 l0_3 0).f1) ((rd_T63 l0_3 0).f2) ((rd_T63 l0_3 0).f3)).bind fun t292 => (gen_count.l1 k 1 t292 1 a0_1 0)) else (none)) else (if a0_0 = 5 then (gen_count.l2 k 0 l0_3 (l0_3.length : Int) 0) else (some 1))))
end
theorem gen_count.mono_l : ∀ k, (∀ y0 y1 y2 y3, LeO (gen_count.f k y0 y1 y2 y3) (gen_count.f (k + 1) y0 y1 y2 y3)) ∧ (∀ y0 y1 y2 y3, LeO (gen_count.l0 k y0 y1 y2 y3) (gen_count.l0 (k + 1) y0 y1 y2 y3)) ∧ (∀ y0 y1 y2 y3 y4, LeO (gen_count.l1 k y0 y1 y2 y3 y4) (gen_count.l1 (k + 1) y0 y1 y2 y3 y4)) ∧ (∀ y0 y1 y2 y3, LeO (gen_count.l2 k y0 y1 y2 y3) (gen_count.l2 (k + 1) y0 y1 y2 y3))
  | 0 => ⟨fun _ _ _ _ r h => by simp [gen_count.f] at h, fun _ _ _ _ r h => by simp [gen_count.l0] at h, fun _ _ _ _ _ r h => by simp [gen_count.l1] at h, fun _ _ _ _ r h => by simp [gen_count.l2] at h⟩
  | k + 1 => by
    obtain ⟨ih0, ih1, ih2, ih3⟩ := gen_count.mono_l k
    refine ⟨?_, ?_, ?_, ?_⟩
    · intro y0 y1 y2 y3
      unfold gen_count.f
      repeat' first
      | (with_reducible exact ih0 _ _ _ _)
      | (with_reducible exact ih1 _ _ _ _)
      | (with_reducible exact ih2 _ _ _ _ _)
      | (with_reducible exact ih3 _ _ _ _)
      | (with_reducible exact LeO.refl _)
      | (with_reducible exact LeO.none _)
      | (with_reducible refine LeO.ite ?_ ?_)
      | (with_reducible refine LeO.bind ?_ (fun _ => ?_))
      | exact ih0 _ _ _ _
      | exact ih1 _ _ _ _
      | exact ih2 _ _ _ _ _
      | exact ih3 _ _ _ _
      | exact LeO.none _
      | refine LeO.ite ?_ ?_
      | refine LeO.bind ?_ (fun _ => ?_)
    · intro y0 y1 y2 y3
      unfold gen_count.l0
      repeat' first
      | (with_reducible exact ih0 _ _ _ _)
      | (with_reducible exact ih1 _ _ _ _)
      | (with_reducible exact ih2 _ _ _ _ _)
      | (with_reducible exact ih3 _ _ _ _)
      | (with_reducible exact LeO.refl _)
      | (with_reducible exact LeO.none _)
      | (with_reducible refine LeO.ite ?_ ?_)
      | (with_reducible refine LeO.bind ?_ (fun _ => ?_))
      | exact ih0 _ _ _ _
      | exact ih1 _ _ _ _
      | exact ih2 _ _ _ _ _
      | exact ih3 _ _ _ _
      | exact LeO.none _
      | refine LeO.ite ?_ ?_
      | refine LeO.bind ?_ (fun _ => ?_)
    · intro y0 y1 y2 y3 y4
      unfold gen_count.l1
      repeat' first
      | (with_reducible exact ih0 _ _ _ _)
      | (with_reducible exact ih1 _ _ _ _)
      | (with_reducible exact ih2 _ _ _ _ _)
      | (with_reducible exact ih3 _ _ _ _)
      | (with_reducible exact LeO.refl _)
      | (with_reducible exact LeO.none _)
      | (with_reducible refine LeO.ite ?_ ?_)
      | (with_reducible refine LeO.bind ?_ (fun _ => ?_))
      | exact ih0 _ _ _ _
      | exact ih1 _ _ _ _
      | exact ih2 _ _ _ _ _
      | exact ih3 _ _ _ _
      | exact LeO.none _
      | refine LeO.ite ?_ ?_
      | refine LeO.bind ?_ (fun _ => ?_)
    · intro y0 y1 y2 y3
      unfold gen_count.l2
      repeat' first
      | (with_reducible exact ih0 _ _ _ _)
      | (with_reducible exact ih1 _ _ _ _)
      | (with_reducible exact ih2 _ _ _ _ _)
      | (with_reducible exact ih3 _ _ _ _)
      | (with_reducible exact LeO.refl _)
      | (with_reducible exact LeO.none _)
      | (with_reducible refine LeO.ite ?_ ?_)
      | (with_reducible refine LeO.bind ?_ (fun _ => ?_))
      | exact ih0 _ _ _ _
      | exact ih1 _ _ _ _
      | exact ih2 _ _ _ _ _
      | exact ih3 _ _ _ _
      | exact LeO.none _
      | refine LeO.ite ?_ ?_
      | refine LeO.bind ?_ (fun _ => ?_)
theorem gen_count.mono : ∀ a0 a1 a2 a3 k, LeO (gen_count.f k a0 a1 a2 a3) (gen_count.f (k + 1) a0 a1 a2 a3) := by
  intro a0 a1 a2 a3 k
  obtain ⟨ih0, ih1, ih2, ih3⟩ := gen_count.mono_l k
  exact ih0 a0 a1 a2 a3
set_option maxHeartbeats 8000000 in
set_option maxRecDepth 100000 in
theorem gen_count.calls (k : Nat) : ∀ (a0_0 : Int) (a0_1 : Int) (a0_2 : Int) (A0_3 : Option Addr) (c0_3 : Nat) (l0_3 : List (S63)) (r : Int) (w : World) (hr0_3 : Kd.C k63 w A0_3 l0_3.length l0_3) (hc0_3 : l0_3.length ≤ c0_3) (h : gen_count.f k a0_0 a0_1 a0_2 l0_3 = some r),
    Calls Tryd.prog 84 #[.agg #[.int .i64 a0_0, .int .i64 a0_1, .int .i64 a0_2, .slice A0_3 l0_3.length c0_3]] w fun e w' => e = .returned (.int .i64 r) ∧ Below w.heap.size w w' := by
  induction k using Nat.strongRecOn with
  | _ k ih =>
  intro a0_0 a0_1 a0_2 A0_3 c0_3 l0_3 r w hr0_3 hc0_3 h
  cases k with
  | zero => exact absurd h (by simp [gen_count.f])
  | succ k =>
  simp only [gen_count.f] at h
  have hu63 := Tryd.underlying63
  have HR0_3 := Aside0.mk hr0_3
  have HC0_3 := Aside0.mk hc0_3
  clear hr0_3 hc0_3
  have HB := Aside0.mk (Below.refl w.heap.size w)
  have H : (if a0_0 = 2 then (some (wrap64 ((wrap64 (a0_2 - a0_1)) + 1))) else (if a0_0 = 3 then (gen_count.l0 k 1 l0_3 (l0_3.length : Int) 0) else (if a0_0 = 4 then (if 0 < (l0_3.length : Int) then ((gen_count.f k ((rd_T63 l0_3 0).f0) ((rd_T63 l0_3 0).f1) ((rd_T63 l0_3 0).f2) ((rd_T63 l0_3 0).f3)).bind fun t292 => (gen_count.l1 k 1 t292 1 a0_1 0)) else (none)) else (if a0_0 = 5 then (gen_count.l2 k 0 l0_3 (l0_3.length : Int) 0) else (some 1))))) = some r := h
  clear h
  by_cases c2 : a0_0 = 2
  · rw [if_pos c2] at H
    have c2b0 : (a0_0 == 2) = true := beq_iff_eq.mpr c2
    have c2b1 : (a0_0 != 2) = false := bne_eq_false_iff_eq.mpr c2
    clear c2
    obtain rfl := Option.some.inj H
    go_enter Tryd.func84, Tryd.ntmps84
    go_wp2_with (first | ((with_reducible refine gate_dst (N := 1) rfl ?_); refine box_event ?hg (N := 1) ?hd (cs := #[.int .i64 a0_0, .int .i64 a0_1, .int .i64 a0_2, .slice A0_3 l0_3.length c0_3]) (t := 63) ?hr ?_; (case hd => rfl); (case hg => rfl); (case hr => first | (go_simp; done) | (go_simp; rfl)); intro gb286 hg w3 hbox hb; have n0_ := Aside0.mk (below_step (by repeat (first | (with_reducible first | exact HB.out | apply below_alloc | apply pw_below_drewN | apply below_drew1) | exact HB.out)) hb); have n1_ := Aside0.mk (hbox); have n2_ := Aside0.mk ((by rw [hg]; exact (below_size (by repeat (first | (with_reducible first | exact HB.out | apply below_alloc | apply pw_below_drewN | apply below_drew1) | exact HB.out))) : w.heap.size ≤ gb286)); have n3_ := Aside0.mk ((by rw [hg]; exact (below_size (by repeat (first | (with_reducible first | exact HB.out | apply below_alloc | apply pw_below_drewN | apply below_drew1) | exact HB.out))) : w.heap.size ≤ gb286)); clear HB; have HB := n0_; have BK286 := n1_; have GW286 := n2_; have GE286 := n3_; clear n0_ n1_ n2_ n3_; clear hb hbox hg; have hcz4_0 : w3.cell? ⟨gb286, 0, none⟩ = some (.int .i64 a0_0) := (blk_cell BK286.out 0).trans rfl; have hcz4_1 : w3.cell? ⟨gb286, 1, none⟩ = some (.int .i64 a0_1) := (blk_cell BK286.out 1).trans rfl; have hcz4_2 : w3.cell? ⟨gb286, 2, none⟩ = some (.int .i64 a0_2) := (blk_cell BK286.out 2).trans rfl; have hcz4_3 : w3.cell? ⟨gb286, 3, none⟩ = some (.slice A0_3 l0_3.length c0_3) := (blk_cell BK286.out 3).trans rfl; have hfz4_0 := blk_frozen BK286.out 0; have hfz4_1 := blk_frozen BK286.out 1; have hfz4_2 := blk_frozen BK286.out 2; have hfz4_3 := blk_frozen BK286.out 3))
    go_ret
    exact ⟨by first | rfl | (simp [errW_none, errW_some] <;> rfl) | (simp [*, errW_none, errW_some] <;> rfl), by repeat (first | (with_reducible first | exact HB.out | apply below_alloc | apply pw_below_drewN | apply below_drew1 | refine below_set ?_ GE286.out) | exact HB.out)⟩
  · rw [if_neg c2] at H
    have c2b0 : (a0_0 == 2) = false := beq_eq_false_iff_ne.mpr c2
    have c2b1 : (a0_0 != 2) = true := bne_iff_ne.mpr c2
    by_cases c5 : a0_0 = 3
    · rw [if_pos c5] at H
      have c5b0 : (a0_0 == 3) = true := beq_iff_eq.mpr c5
      have c5b1 : (a0_0 != 3) = false := bne_eq_false_iff_eq.mpr c5
      clear c5
      have H' := Aside0.mk H
      clear H
      go_enter Tryd.func84, Tryd.ntmps84
      go_wp2_with (first | ((with_reducible refine gate_dst (N := 1) rfl ?_); refine box_event ?hg (N := 1) ?hd (cs := #[.int .i64 a0_0, .int .i64 a0_1, .int .i64 a0_2, .slice A0_3 l0_3.length c0_3]) (t := 63) ?hr ?_; (case hd => rfl); (case hg => rfl); (case hr => first | (go_simp; done) | (go_simp; rfl)); intro gb286 hg w6 hbox hb; have n0_ := Aside0.mk (below_step (by repeat (first | (with_reducible first | exact HB.out | apply below_alloc | apply pw_below_drewN | apply below_drew1) | exact HB.out)) hb); have n1_ := Aside0.mk (hbox); have n2_ := Aside0.mk ((by rw [hg]; exact (below_size (by repeat (first | (with_reducible first | exact HB.out | apply below_alloc | apply pw_below_drewN | apply below_drew1) | exact HB.out))) : w.heap.size ≤ gb286)); have n3_ := Aside0.mk ((by rw [hg]; exact (below_size (by repeat (first | (with_reducible first | exact HB.out | apply below_alloc | apply pw_below_drewN | apply below_drew1) | exact HB.out))) : w.heap.size ≤ gb286)); clear HB; have HB := n0_; have BK286 := n1_; have GW286 := n2_; have GE286 := n3_; clear n0_ n1_ n2_ n3_; clear hb hbox hg; have hcz7_0 : w6.cell? ⟨gb286, 0, none⟩ = some (.int .i64 a0_0) := (blk_cell BK286.out 0).trans rfl; have hcz7_1 : w6.cell? ⟨gb286, 1, none⟩ = some (.int .i64 a0_1) := (blk_cell BK286.out 1).trans rfl; have hcz7_2 : w6.cell? ⟨gb286, 2, none⟩ = some (.int .i64 a0_2) := (blk_cell BK286.out 2).trans rfl; have hcz7_3 : w6.cell? ⟨gb286, 3, none⟩ = some (.slice A0_3 l0_3.length c0_3) := (blk_cell BK286.out 3).trans rfl; have hfz7_0 := blk_frozen BK286.out 0; have hfz7_1 := blk_frozen BK286.out 1; have hfz7_2 := blk_frozen BK286.out 2; have hfz7_3 := blk_frozen BK286.out 3))
      go_loopg [3, 25] k (fun kq v3 v25 w' => ∃ (x3_1 : Int) (x25_1 : Int), v3 = .int .i64 x3_1 ∧ v25 = .int .i64 x25_1 ∧ Aside0 (gen_count.l0 kq x3_1 l0_3 (l0_3.length : Int) x25_1 = some r) ∧ Aside0 (kq ≤ k) ∧ Aside0 (w'.heap[gb286]? = some (.cells #[.int .i64 a0_0, .int .i64 a0_1, .int .i64 a0_2, (.slice A0_3 l0_3.length c0_3)] 63 (0, 0))) ∧ Aside0 (Below w.heap.size w w'))
      case atStart => exact ⟨(1), (0), (by first | rfl | (simp; done) | (simp [*]; done)), (by first | rfl | (simp; done) | (simp [*]; done)), H', ⟨Nat.le_refl _⟩, ⟨by (with_reducible repeat (first | refine blk_drewN ?_ _ | refine blk_drew ?_ | refine blk_alloc ?_ _)); exact BK286.out⟩, ⟨by repeat (first | (with_reducible first | exact HB.out | apply below_alloc | apply pw_below_drewN | apply below_drew1 | refine below_set ?_ GE286.out) | exact HB.out)⟩⟩
      case round =>
        clear H'
        try clear c2
        try clear c2b0
        try clear c2b1
        try clear p2
        try clear c5
        try clear c5b0
        try clear c5b1
        try clear p6
        try clear hcz4_0
        try clear hcz4_1
        try clear hcz4_2
        try clear hcz4_3
        try clear hcz7_0
        try clear hcz7_1
        try clear hcz7_2
        try clear hcz7_3
        try clear hfz4_0
        try clear hfz4_1
        try clear hfz4_2
        try clear hfz4_3
        try clear hfz7_0
        try clear hfz7_1
        try clear hfz7_2
        try clear hfz7_3
        obtain ⟨x3_1, x25_1, rfl, rfl, HA, HK1, BK286, HB⟩ := hrel
        cases gk with
        | zero => exact absurd HA.out (by simp [gen_count.l0])
        | succ k1 =>
          have H := HA.out
          clear HA
          simp only [gen_count.l0] at H
          by_cases c8 : x25_1 < (l0_3.length : Int)
          · rw [if_pos c8] at H
            have c8b0 : decide (x25_1 < (l0_3.length : Int)) = true := decide_eq_true c8
            clear c8
            by_cases c9 : 0 ≤ x25_1
            · rw [if_pos c9] at H
              have c9b0 : decide (0 ≤ x25_1) = true := decide_eq_true c9
              clear c9
              by_cases c10 : x25_1 < (l0_3.length : Int)
              · rw [if_pos c10] at H
                have c10b0 : decide (x25_1 < (l0_3.length : Int)) = true := decide_eq_true c10
                clear c10
                replace H := Option.bind_eq_some_iff.mp H
                obtain ⟨t289, A110, H⟩ := H
                replace H : ((gen_capped.f (wrap64 (x3_1 * t289))).bind fun t290 => (gen_count.l0 k1 t290 l0_3 (l0_3.length : Int) (wrap64 (x25_1 + 1)))) = some r := H
                have A11 := Aside0.mk A110
                clear A110
                replace H := Option.bind_eq_some_iff.mp H
                obtain ⟨t290, A120, H⟩ := H
                replace H : (gen_count.l0 k1 t290 l0_3 (l0_3.length : Int) (wrap64 (x25_1 + 1))) = some r := H
                have A12 := Aside0.mk A120
                clear A120
                have H' := Aside0.mk H
                clear H
                have p287 : 0 ≤ (x25_1 : Int) := of_decide_eq_true (by first | (with_reducible assumption) | assumption)
                have q287 : x25_1 < (l0_3.length : Int) := of_decide_eq_true (by first | (with_reducible assumption) | assumption)
                obtain ⟨ad287, A287_3, c287_3, e287, hx287_0, hx287_1, hx287_2, hx287_3, hl287_3, hi287_3⟩ := at_T63 HR0_3.out x25_1 p287 q287
                cases e287
                replace hx287_0 := (HB.out.cell (World.block_lt_of_cell? w _ hx287_0)).trans hx287_0
                replace hx287_1 := (HB.out.cell (World.block_lt_of_cell? w _ hx287_1)).trans hx287_1
                replace hx287_2 := (HB.out.cell (World.block_lt_of_cell? w _ hx287_2)).trans hx287_2
                replace hx287_3 := (HB.out.cell (World.block_lt_of_cell? w _ hx287_3)).trans hx287_3
                have HR287_3 := Aside0.mk hi287_3
                have HC287_3 := Aside0.mk hl287_3
                clear hi287_3 hl287_3
                replace p287 := eq_true p287
                replace q287 := eq_true q287
                go_wp2_with (first | ((with_reducible refine gate_dst (N := 5) rfl ?_); refine box_event ?hg (N := 5) ?hd (cs := #[.int .i64 0, .int .i64 0, .int .i64 0, .slice none 0 0]) (t := 63) ?hr ?_; (case hd => rfl); (case hg => rfl); (case hr => first | (go_simp; done) | (go_simp; rfl)); intro gb288 hg w13 hbox hb; have n0_ := Aside0.mk (blk_below (g := gb286) (o := .cells #[.int .i64 a0_0, .int .i64 a0_1, .int .i64 a0_2, .slice (some ad287) l0_3.length c0_3] 63 (0, 0)) (by (with_reducible repeat (first | refine blk_drewN ?_ _ | refine blk_drew ?_ | refine blk_alloc ?_ _)); exact BK286.out) hb); have n1_ := Aside0.mk (below_step (by repeat (first | (with_reducible first | exact HB.out | apply below_alloc | apply pw_below_drewN | apply below_drew1 | refine below_set ?_ GE286.out) | exact HB.out)) hb); have n2_ := Aside0.mk (hbox); have n3_ := Aside0.mk ((by rw [hg]; exact (below_size (by repeat (first | (with_reducible first | exact HB.out | apply below_alloc | apply pw_below_drewN | apply below_drew1 | refine below_set ?_ GE286.out) | exact HB.out))) : w.heap.size ≤ gb288)); have n4_ := Aside0.mk ((by rw [hg]; exact (below_size (by repeat (first | (with_reducible first | exact HB.out | apply below_alloc | apply pw_below_drewN | apply below_drew1 | refine below_set ?_ GE286.out) | exact HB.out))) : w.heap.size ≤ gb288)); have n5_ := Aside0.mk ((by rw [hg]; exact Nat.ne_of_lt (blk_lt (g := gb286) (o := .cells #[.int .i64 a0_0, .int .i64 a0_1, .int .i64 a0_2, .slice (some ad287) l0_3.length c0_3] 63 (0, 0)) (by (with_reducible repeat (first | refine blk_drewN ?_ _ | refine blk_drew ?_ | refine blk_alloc ?_ _)); exact BK286.out)) : gb286 ≠ gb288)); have n6_ := Aside0.mk ((by rw [hg]; exact Nat.ne_of_gt (blk_lt (g := gb286) (o := .cells #[.int .i64 a0_0, .int .i64 a0_1, .int .i64 a0_2, .slice (some ad287) l0_3.length c0_3] 63 (0, 0)) (by (with_reducible repeat (first | refine blk_drewN ?_ _ | refine blk_drew ?_ | refine blk_alloc ?_ _)); exact BK286.out)) : gb288 ≠ gb286)); clear BK286; clear HB; have BK286 := n0_; have HB := n1_; have BK288 := n2_; have GW288 := n3_; have GE288 := n4_; have NB286_288 := n5_; have NB288_286 := n6_; clear n0_ n1_ n2_ n3_ n4_ n5_ n6_; clear hb hbox hg; have hnb14 := NB288_286.out; have hnc14 := NB286_288.out; have hcz15_0 : w13.cell? ⟨gb288, 0, none⟩ = some (.int .i64 0) := (blk_cell BK288.out 0).trans rfl; have hcz15_1 : w13.cell? ⟨gb288, 1, none⟩ = some (.int .i64 0) := (blk_cell BK288.out 1).trans rfl; have hcz15_2 : w13.cell? ⟨gb288, 2, none⟩ = some (.int .i64 0) := (blk_cell BK288.out 2).trans rfl; have hcz15_3 : w13.cell? ⟨gb288, 3, none⟩ = some (.slice none 0 0) := (blk_cell BK288.out 3).trans rfl; have hfz15_0 := blk_frozen BK288.out 0; have hfz15_1 := blk_frozen BK288.out 1; have hfz15_2 := blk_frozen BK288.out 2; have hfz15_3 := blk_frozen BK288.out 3) | ((with_reducible refine gate_callee (f := 84) rfl ?_); refine goesL_ (some 31) rfl rfl Tryd.func84 (by kernel_rfl) rfl #[.agg #[.int .i64 ((rd_T63 l0_3 x25_1).f0), .int .i64 ((rd_T63 l0_3 x25_1).f1), .int .i64 ((rd_T63 l0_3 x25_1).f2), .slice A287_3 ((rd_T63 l0_3 x25_1).f3).length c287_3]] rfl (by (try simp only [List.map_toArray, List.map_cons, List.map_nil]); first | done | rfl | (simp only [List.length_drop, List.length_take]; rfl)) ?_; (with_reducible refine (ih k1 (by have := HK1.out; omega) ((rd_T63 l0_3 x25_1).f0) ((rd_T63 l0_3 x25_1).f1) ((rd_T63 l0_3 x25_1).f2) _ _ ((rd_T63 l0_3 x25_1).f3) t289 _ ?side1 ?side2 A11.out).mono ?_); (case side1 => exact Kd.C_below HR287_3.out (by repeat (first | (with_reducible first | exact HB.out | apply below_alloc | apply pw_below_drewN | apply below_drew1 | refine below_set ?_ GE286.out | refine below_set ?_ GE288.out) | exact HB.out))); (case side2 => exact HC287_3.out); rintro e w16 ⟨rfl, hb⟩; refine ⟨_, rfl, ?_⟩; have n0_ := Aside0.mk (blk_below (g := gb286) (o := .cells #[.int .i64 a0_0, .int .i64 a0_1, .int .i64 a0_2, .slice (some ad287) l0_3.length c0_3] 63 (0, 0)) (by (with_reducible repeat (first | refine blk_drewN ?_ _ | refine blk_drew ?_ | refine blk_alloc ?_ _)); refine blk_far ?_ NB286_288.out _; (with_reducible repeat (first | refine blk_drewN ?_ _ | refine blk_drew ?_ | refine blk_alloc ?_ _)); refine blk_far ?_ NB286_288.out _; (with_reducible repeat (first | refine blk_drewN ?_ _ | refine blk_drew ?_ | refine blk_alloc ?_ _)); refine blk_far ?_ NB286_288.out _; (with_reducible repeat (first | refine blk_drewN ?_ _ | refine blk_drew ?_ | refine blk_alloc ?_ _)); refine blk_far ?_ NB286_288.out _; (with_reducible repeat (first | refine blk_drewN ?_ _ | refine blk_drew ?_ | refine blk_alloc ?_ _)); exact BK286.out) hb); have n1_ := Aside0.mk (blk_below (g := gb288) (o := .cells #[.int .i64 ((rd_T63 l0_3 x25_1).f0), .int .i64 ((rd_T63 l0_3 x25_1).f1), .int .i64 ((rd_T63 l0_3 x25_1).f2), .slice A287_3 ((rd_T63 l0_3 x25_1).f3).length c287_3] 63 (0, 0)) (by (with_reducible repeat (first | refine blk_drewN ?_ _ | refine blk_drew ?_ | refine blk_alloc ?_ _)); refine blk_put (cs := #[.int .i64 ((rd_T63 l0_3 x25_1).f0), .int .i64 ((rd_T63 l0_3 x25_1).f1), .int .i64 ((rd_T63 l0_3 x25_1).f2), .slice none 0 0]) ?_ 3 _ rfl; (with_reducible repeat (first | refine blk_drewN ?_ _ | refine blk_drew ?_ | refine blk_alloc ?_ _)); refine blk_put (cs := #[.int .i64 ((rd_T63 l0_3 x25_1).f0), .int .i64 ((rd_T63 l0_3 x25_1).f1), .int .i64 0, .slice none 0 0]) ?_ 2 _ rfl; (with_reducible repeat (first | refine blk_drewN ?_ _ | refine blk_drew ?_ | refine blk_alloc ?_ _)); refine blk_put (cs := #[.int .i64 ((rd_T63 l0_3 x25_1).f0), .int .i64 0, .int .i64 0, .slice none 0 0]) ?_ 1 _ rfl; (with_reducible repeat (first | refine blk_drewN ?_ _ | refine blk_drew ?_ | refine blk_alloc ?_ _)); refine blk_put (cs := #[.int .i64 0, .int .i64 0, .int .i64 0, .slice none 0 0]) ?_ 0 _ rfl; (with_reducible repeat (first | refine blk_drewN ?_ _ | refine blk_drew ?_ | refine blk_alloc ?_ _)); exact BK288.out) hb); have n2_ := Aside0.mk (below_step (by repeat (first | (with_reducible first | exact HB.out | apply below_alloc | apply pw_below_drewN | apply below_drew1 | refine below_set ?_ GE286.out | refine below_set ?_ GE288.out) | exact HB.out)) hb); clear BK286; clear BK288; clear HB; have BK286 := n0_; have BK288 := n1_; have HB := n2_; clear n0_ n1_ n2_; (try clear hb); (try clear hb2); (try clear hk); (try clear hi)) | ((with_reducible refine gate_callee (f := 125) rfl ?_); refine goesL_ (some 33) rfl rfl Tryd.func125 (by kernel_rfl) rfl #[.int .i64 (wrap64 (x3_1 * t289))] rfl (by (try simp only [List.map_toArray, List.map_cons, List.map_nil]); first | done | rfl | (simp only [List.length_drop, List.length_take]; rfl)) ?_; (with_reducible refine (gen_capped.calls (wrap64 (x3_1 * t289)) t290 _ A12.out).mono ?_); rintro e w17 ⟨rfl, hb⟩; refine ⟨_, rfl, ?_⟩; have n0_ := Aside0.mk (blk_below (g := gb286) (o := .cells #[.int .i64 a0_0, .int .i64 a0_1, .int .i64 a0_2, .slice (some ad287) l0_3.length c0_3] 63 (0, 0)) (by (with_reducible repeat (first | refine blk_drewN ?_ _ | refine blk_drew ?_ | refine blk_alloc ?_ _)); exact BK286.out) hb); have n1_ := Aside0.mk (blk_below (g := gb288) (o := .cells #[.int .i64 ((rd_T63 l0_3 x25_1).f0), .int .i64 ((rd_T63 l0_3 x25_1).f1), .int .i64 ((rd_T63 l0_3 x25_1).f2), .slice A287_3 ((rd_T63 l0_3 x25_1).f3).length c287_3] 63 (0, 0)) (by (with_reducible repeat (first | refine blk_drewN ?_ _ | refine blk_drew ?_ | refine blk_alloc ?_ _)); exact BK288.out) hb); have n2_ := Aside0.mk (below_step (by repeat (first | (with_reducible first | exact HB.out | apply below_alloc | apply pw_below_drewN | apply below_drew1 | refine below_set ?_ GE286.out | refine below_set ?_ GE288.out) | exact HB.out)) hb); clear BK286; clear BK288; clear HB; have BK286 := n0_; have BK288 := n1_; have HB := n2_; clear n0_ n1_ n2_; (try clear hb); (try clear hb2); (try clear hk); (try clear hi)))
                go_roundg k1
                case measure => have := HK1.out; omega
                case rel => exact ⟨(t290), (wrap64 (x25_1 + 1)), (by first | rfl | (simp; done) | (simp [*]; done)), (by first | rfl | (simp; done) | (simp [*]; done)), H', ⟨by have := HK1.out; omega⟩, ⟨by (with_reducible repeat (first | refine blk_drewN ?_ _ | refine blk_drew ?_ | refine blk_alloc ?_ _)); exact BK286.out⟩, ⟨by repeat (first | (with_reducible first | exact HB.out | apply below_alloc | apply pw_below_drewN | apply below_drew1 | refine below_set ?_ GE286.out | refine below_set ?_ GE288.out) | exact HB.out)⟩⟩
              · rw [if_neg c10] at H
                exact absurd H (by simp)
            · rw [if_neg c9] at H
              exact absurd H (by simp)
          · rw [if_neg c8] at H
            have c8b0 : decide (x25_1 < (l0_3.length : Int)) = false := decide_eq_false c8
            clear c8
            obtain rfl := Option.some.inj H
            go_wp2
            go_ret
            exact ⟨by first | rfl | (simp [errW_none, errW_some] <;> rfl) | (simp [*, errW_none, errW_some] <;> rfl), by repeat (first | (with_reducible first | exact HB.out | apply below_alloc | apply pw_below_drewN | apply below_drew1 | refine below_set ?_ GE286.out) | exact HB.out)⟩
    · rw [if_neg c5] at H
      have c5b0 : (a0_0 == 3) = false := beq_eq_false_iff_ne.mpr c5
      have c5b1 : (a0_0 != 3) = true := bne_iff_ne.mpr c5
      by_cases c18 : a0_0 = 4
      · rw [if_pos c18] at H
        have c18b0 : (a0_0 == 4) = true := beq_iff_eq.mpr c18
        have c18b1 : (a0_0 != 4) = false := bne_eq_false_iff_eq.mpr c18
        clear c18
        by_cases c19 : 0 < (l0_3.length : Int)
        · rw [if_pos c19] at H
          have c19b0 : decide (0 < (l0_3.length : Int)) = true := decide_eq_true c19
          have c19b1 : decide (0 < l0_3.length) = true := decide_eq_true (by omega)
          clear c19
          replace H := Option.bind_eq_some_iff.mp H
          obtain ⟨t292, A200, H⟩ := H
          replace H : (gen_count.l1 k 1 t292 1 a0_1 0) = some r := H
          have A20 := Aside0.mk A200
          clear A200
          have H' := Aside0.mk H
          clear H
          go_enter Tryd.func84, Tryd.ntmps84
          go_wp2_with (first | ((with_reducible refine gate_dst (N := 1) rfl ?_); refine box_event ?hg (N := 1) ?hd (cs := #[.int .i64 a0_0, .int .i64 a0_1, .int .i64 a0_2, .slice A0_3 l0_3.length c0_3]) (t := 63) ?hr ?_; (case hd => rfl); (case hg => rfl); (case hr => first | (go_simp; done) | (go_simp; rfl)); intro gb286 hg w21 hbox hb; have n0_ := Aside0.mk (below_step (by repeat (first | (with_reducible first | exact HB.out | apply below_alloc | apply pw_below_drewN | apply below_drew1) | exact HB.out)) hb); have n1_ := Aside0.mk (hbox); have n2_ := Aside0.mk ((by rw [hg]; exact (below_size (by repeat (first | (with_reducible first | exact HB.out | apply below_alloc | apply pw_below_drewN | apply below_drew1) | exact HB.out))) : w.heap.size ≤ gb286)); have n3_ := Aside0.mk ((by rw [hg]; exact (below_size (by repeat (first | (with_reducible first | exact HB.out | apply below_alloc | apply pw_below_drewN | apply below_drew1) | exact HB.out))) : w.heap.size ≤ gb286)); clear HB; have HB := n0_; have BK286 := n1_; have GW286 := n2_; have GE286 := n3_; clear n0_ n1_ n2_ n3_; clear hb hbox hg; have hcz22_0 : w21.cell? ⟨gb286, 0, none⟩ = some (.int .i64 a0_0) := (blk_cell BK286.out 0).trans rfl; have hcz22_1 : w21.cell? ⟨gb286, 1, none⟩ = some (.int .i64 a0_1) := (blk_cell BK286.out 1).trans rfl; have hcz22_2 : w21.cell? ⟨gb286, 2, none⟩ = some (.int .i64 a0_2) := (blk_cell BK286.out 2).trans rfl; have hcz22_3 : w21.cell? ⟨gb286, 3, none⟩ = some (.slice A0_3 l0_3.length c0_3) := (blk_cell BK286.out 3).trans rfl; have hfz22_0 := blk_frozen BK286.out 0; have hfz22_1 := blk_frozen BK286.out 1; have hfz22_2 := blk_frozen BK286.out 2; have hfz22_3 := blk_frozen BK286.out 3; have p291 : 0 ≤ (0 : Int) := (by omega); have q291 : 0 < (l0_3.length : Int) := of_decide_eq_true (by first | (with_reducible assumption) | assumption); obtain ⟨ad291, A291_3, c291_3, e291, hx291_0, hx291_1, hx291_2, hx291_3, hl291_3, hi291_3⟩ := at_T63 HR0_3.out 0 p291 q291; cases e291; have qi291 : (0 < l0_3.length) = True := eq_true (by omega); (try rw [show ((0 : Int)).toNat = 0 from rfl] at hx291_0); (try rw [show 0 * 4 = 0 from rfl] at hx291_0); (try rw [Addr.add_zero'] at hx291_0); (try rw [show ((0 : Int)).toNat = 0 from rfl] at hx291_1); (try rw [show 0 * 4 = 0 from rfl] at hx291_1); (try rw [Addr.add_zero'] at hx291_1); (try rw [show ((0 : Int)).toNat = 0 from rfl] at hx291_2); (try rw [show 0 * 4 = 0 from rfl] at hx291_2); (try rw [Addr.add_zero'] at hx291_2); (try rw [show ((0 : Int)).toNat = 0 from rfl] at hx291_3); (try rw [show 0 * 4 = 0 from rfl] at hx291_3); (try rw [Addr.add_zero'] at hx291_3); replace hx291_0 := (HB.out.cell (World.block_lt_of_cell? w _ hx291_0)).trans hx291_0; replace hx291_1 := (HB.out.cell (World.block_lt_of_cell? w _ hx291_1)).trans hx291_1; replace hx291_2 := (HB.out.cell (World.block_lt_of_cell? w _ hx291_2)).trans hx291_2; replace hx291_3 := (HB.out.cell (World.block_lt_of_cell? w _ hx291_3)).trans hx291_3; have HR291_3 := Aside0.mk hi291_3; have HC291_3 := Aside0.mk hl291_3; clear hi291_3 hl291_3; replace p291 := eq_true p291; replace q291 := eq_true q291) | ((with_reducible refine gate_callee (f := 84) rfl ?_); refine goesL_ (some 41) rfl rfl Tryd.func84 (by kernel_rfl) rfl #[.agg #[.int .i64 ((rd_T63 l0_3 0).f0), .int .i64 ((rd_T63 l0_3 0).f1), .int .i64 ((rd_T63 l0_3 0).f2), .slice A291_3 ((rd_T63 l0_3 0).f3).length c291_3]] rfl (by (try simp only [List.map_toArray, List.map_cons, List.map_nil]); first | done | rfl | (simp only [List.length_drop, List.length_take]; rfl)) ?_; (with_reducible refine (ih k (by omega) ((rd_T63 l0_3 0).f0) ((rd_T63 l0_3 0).f1) ((rd_T63 l0_3 0).f2) _ _ ((rd_T63 l0_3 0).f3) t292 _ ?side1 ?side2 A20.out).mono ?_); (case side1 => repeat (first | exact (Kd.C_below HR291_3.out HB.out) | (with_reducible refine Kd.C_alloc ?_ _) | (with_reducible refine Kd.C_drewN ?_ _) | (with_reducible refine Kd.C_drew ?_))); (case side2 => exact HC291_3.out); rintro e w23 ⟨rfl, hb⟩; refine ⟨_, rfl, ?_⟩; have n0_ := Aside0.mk (blk_below (g := gb286) (o := .cells #[.int .i64 a0_0, .int .i64 a0_1, .int .i64 a0_2, .slice (some ad291) l0_3.length c0_3] 63 (0, 0)) (by (with_reducible repeat (first | refine blk_drewN ?_ _ | refine blk_drew ?_ | refine blk_alloc ?_ _)); exact BK286.out) hb); have n1_ := Aside0.mk (below_step (by repeat (first | (with_reducible first | exact HB.out | apply below_alloc | apply pw_below_drewN | apply below_drew1 | refine below_set ?_ GE286.out) | exact HB.out)) hb); clear BK286; clear HB; have BK286 := n0_; have HB := n1_; clear n0_ n1_; (try clear hb); (try clear hb2); (try clear hk); (try clear hi); have hcz24_0 : w23.cell? ⟨gb286, 0, none⟩ = some (.int .i64 a0_0) := (blk_cell BK286.out 0).trans rfl; have hcz24_1 : w23.cell? ⟨gb286, 1, none⟩ = some (.int .i64 a0_1) := (blk_cell BK286.out 1).trans rfl; have hcz24_2 : w23.cell? ⟨gb286, 2, none⟩ = some (.int .i64 a0_2) := (blk_cell BK286.out 2).trans rfl; have hcz24_3 : w23.cell? ⟨gb286, 3, none⟩ = some (.slice (some ad291) l0_3.length c0_3) := (blk_cell BK286.out 3).trans rfl; have hfz24_0 := blk_frozen BK286.out 0; have hfz24_1 := blk_frozen BK286.out 1; have hfz24_2 := blk_frozen BK286.out 2; have hfz24_3 := blk_frozen BK286.out 3))
          go_loopg [3, 7, 44] k (fun kq v3 v7 v44 w' => ∃ (x3_1 : Int) (x7_1 : Int) (x44_1 : Int), v3 = .int .i64 x3_1 ∧ v7 = .int .i64 x7_1 ∧ v44 = .int .i64 x44_1 ∧ Aside0 (gen_count.l1 kq x3_1 t292 x7_1 a0_1 x44_1 = some r) ∧ Aside0 (kq ≤ k) ∧ Aside0 (w'.heap[gb286]? = some (.cells #[.int .i64 a0_0, .int .i64 a0_1, .int .i64 a0_2, (.slice (some ad291) l0_3.length c0_3)] 63 (0, 0))) ∧ Aside0 (Below w.heap.size w w'))
          case atStart => exact ⟨(1), (1), (0), (by first | rfl | (simp; done) | (simp [*]; done)), (by first | rfl | (simp; done) | (simp [*]; done)), (by first | rfl | (simp; done) | (simp [*]; done)), H', ⟨Nat.le_refl _⟩, ⟨by (with_reducible repeat (first | refine blk_drewN ?_ _ | refine blk_drew ?_ | refine blk_alloc ?_ _)); exact BK286.out⟩, ⟨by repeat (first | (with_reducible first | exact HB.out | apply below_alloc | apply pw_below_drewN | apply below_drew1 | refine below_set ?_ GE286.out) | exact HB.out)⟩⟩
          case round =>
            clear H'
            try clear c1
            try clear c2
            try clear c2b0
            try clear c2b1
            try clear p2
            try clear q2
            try clear hx2
            try clear qi2
            try clear c5
            try clear c5b0
            try clear c5b1
            try clear p6
            try clear c8
            try clear c8b0
            try clear c9
            try clear c9b0
            try clear c10
            try clear c10b0
            try clear c12
            try clear c14
            try clear c18
            try clear c18b0
            try clear c18b1
            try clear c19
            try clear c19b0
            try clear c19b1
            try clear hcz15_0
            try clear hcz15_1
            try clear hcz15_2
            try clear hcz15_3
            try clear hcz22_0
            try clear hcz22_1
            try clear hcz22_2
            try clear hcz22_3
            try clear hcz24_0
            try clear hcz24_1
            try clear hcz24_2
            try clear hcz24_3
            try clear hcz4_0
            try clear hcz4_1
            try clear hcz4_2
            try clear hcz4_3
            try clear hcz7_0
            try clear hcz7_1
            try clear hcz7_2
            try clear hcz7_3
            try clear hfz15_0
            try clear hfz15_1
            try clear hfz15_2
            try clear hfz15_3
            try clear hfz22_0
            try clear hfz22_1
            try clear hfz22_2
            try clear hfz22_3
            try clear hfz24_0
            try clear hfz24_1
            try clear hfz24_2
            try clear hfz24_3
            try clear hfz4_0
            try clear hfz4_1
            try clear hfz4_2
            try clear hfz4_3
            try clear hfz7_0
            try clear hfz7_1
            try clear hfz7_2
            try clear hfz7_3
            try clear hx287_0
            try clear hx287_1
            try clear hx287_2
            try clear hx287_3
            try clear hx291_0
            try clear hx291_1
            try clear hx291_2
            try clear hx291_3
            try clear p2
            try clear p287
            try clear p291
            try clear p6
            try clear q287
            try clear q291
            obtain ⟨x3_1, x7_1, x44_1, rfl, rfl, rfl, HA, HK1, BK286, HB⟩ := hrel
            cases gk with
            | zero => exact absurd HA.out (by simp [gen_count.l1])
            | succ k1 =>
              have H := HA.out
              clear HA
              simp only [gen_count.l1] at H
              by_cases c25 : x44_1 < a0_1
              · rw [if_pos c25] at H
                have c25b0 : decide (x44_1 < a0_1) = true := decide_eq_true c25
                clear c25
                replace H := Option.bind_eq_some_iff.mp H
                obtain ⟨t293, A260, H⟩ := H
                replace H : ((gen_capped.f (wrap64 (x3_1 + t293))).bind fun t294 => (gen_count.l1 k1 t294 t292 t293 a0_1 (wrap64 (x44_1 + 1)))) = some r := H
                have A26 := Aside0.mk A260
                clear A260
                replace H := Option.bind_eq_some_iff.mp H
                obtain ⟨t294, A270, H⟩ := H
                replace H : (gen_count.l1 k1 t294 t292 t293 a0_1 (wrap64 (x44_1 + 1))) = some r := H
                have A27 := Aside0.mk A270
                clear A270
                have H' := Aside0.mk H
                clear H
                go_wp2_with (first | ((with_reducible refine gate_callee (f := 125) rfl ?_); refine goesL_ (some 49) rfl rfl Tryd.func125 (by kernel_rfl) rfl #[.int .i64 (wrap64 (x7_1 * t292))] rfl (by (try simp only [List.map_toArray, List.map_cons, List.map_nil]); first | done | rfl | (simp only [List.length_drop, List.length_take]; rfl)) ?_; (with_reducible refine (gen_capped.calls (wrap64 (x7_1 * t292)) t293 _ A26.out).mono ?_); rintro e w28 ⟨rfl, hb⟩; refine ⟨_, rfl, ?_⟩; have n0_ := Aside0.mk (blk_below (g := gb286) (o := .cells #[.int .i64 a0_0, .int .i64 a0_1, .int .i64 a0_2, .slice (some ad291) l0_3.length c0_3] 63 (0, 0)) (by (with_reducible repeat (first | refine blk_drewN ?_ _ | refine blk_drew ?_ | refine blk_alloc ?_ _)); exact BK286.out) hb); have n1_ := Aside0.mk (below_step (by repeat (first | (with_reducible first | exact HB.out | apply below_alloc | apply pw_below_drewN | apply below_drew1 | refine below_set ?_ GE286.out) | exact HB.out)) hb); clear BK286; clear HB; have BK286 := n0_; have HB := n1_; clear n0_ n1_; (try clear hb); (try clear hb2); (try clear hk); (try clear hi)) | ((with_reducible refine gate_callee (f := 125) rfl ?_); refine goesL_ (some 53) rfl rfl Tryd.func125 (by kernel_rfl) rfl #[.int .i64 (wrap64 (x3_1 + t293))] rfl (by (try simp only [List.map_toArray, List.map_cons, List.map_nil]); first | done | rfl | (simp only [List.length_drop, List.length_take]; rfl)) ?_; (with_reducible refine (gen_capped.calls (wrap64 (x3_1 + t293)) t294 _ A27.out).mono ?_); rintro e w29 ⟨rfl, hb⟩; refine ⟨_, rfl, ?_⟩; have n0_ := Aside0.mk (blk_below (g := gb286) (o := .cells #[.int .i64 a0_0, .int .i64 a0_1, .int .i64 a0_2, .slice (some ad291) l0_3.length c0_3] 63 (0, 0)) (by (with_reducible repeat (first | refine blk_drewN ?_ _ | refine blk_drew ?_ | refine blk_alloc ?_ _)); exact BK286.out) hb); have n1_ := Aside0.mk (below_step (by repeat (first | (with_reducible first | exact HB.out | apply below_alloc | apply pw_below_drewN | apply below_drew1 | refine below_set ?_ GE286.out) | exact HB.out)) hb); clear BK286; clear HB; have BK286 := n0_; have HB := n1_; clear n0_ n1_; (try clear hb); (try clear hb2); (try clear hk); (try clear hi)))
                go_roundg k1
                case measure => have := HK1.out; omega
                case rel => exact ⟨(t294), (t293), (wrap64 (x44_1 + 1)), (by first | rfl | (simp; done) | (simp [*]; done)), (by first | rfl | (simp; done) | (simp [*]; done)), (by first | rfl | (simp; done) | (simp [*]; done)), H', ⟨by have := HK1.out; omega⟩, ⟨by (with_reducible repeat (first | refine blk_drewN ?_ _ | refine blk_drew ?_ | refine blk_alloc ?_ _)); exact BK286.out⟩, ⟨by repeat (first | (with_reducible first | exact HB.out | apply below_alloc | apply pw_below_drewN | apply below_drew1 | refine below_set ?_ GE286.out) | exact HB.out)⟩⟩
              · rw [if_neg c25] at H
                have c25b0 : decide (x44_1 < a0_1) = false := decide_eq_false c25
                clear c25
                obtain rfl := Option.some.inj H
                go_wp2
                go_ret
                exact ⟨by first | rfl | (simp [errW_none, errW_some] <;> rfl) | (simp [*, errW_none, errW_some] <;> rfl), by repeat (first | (with_reducible first | exact HB.out | apply below_alloc | apply pw_below_drewN | apply below_drew1 | refine below_set ?_ GE286.out) | exact HB.out)⟩
        · rw [if_neg c19] at H
          exact absurd H (by simp)
      · rw [if_neg c18] at H
        have c18b0 : (a0_0 == 4) = false := beq_eq_false_iff_ne.mpr c18
        have c18b1 : (a0_0 != 4) = true := bne_iff_ne.mpr c18
        by_cases c30 : a0_0 = 5
        · rw [if_pos c30] at H
          have c30b0 : (a0_0 == 5) = true := beq_iff_eq.mpr c30
          have c30b1 : (a0_0 != 5) = false := bne_eq_false_iff_eq.mpr c30
          clear c30
          have H' := Aside0.mk H
          clear H
          go_enter Tryd.func84, Tryd.ntmps84
          go_wp2_with (first | ((with_reducible refine gate_dst (N := 1) rfl ?_); refine box_event ?hg (N := 1) ?hd (cs := #[.int .i64 a0_0, .int .i64 a0_1, .int .i64 a0_2, .slice A0_3 l0_3.length c0_3]) (t := 63) ?hr ?_; (case hd => rfl); (case hg => rfl); (case hr => first | (go_simp; done) | (go_simp; rfl)); intro gb286 hg w31 hbox hb; have n0_ := Aside0.mk (below_step (by repeat (first | (with_reducible first | exact HB.out | apply below_alloc | apply pw_below_drewN | apply below_drew1) | exact HB.out)) hb); have n1_ := Aside0.mk (hbox); have n2_ := Aside0.mk ((by rw [hg]; exact (below_size (by repeat (first | (with_reducible first | exact HB.out | apply below_alloc | apply pw_below_drewN | apply below_drew1) | exact HB.out))) : w.heap.size ≤ gb286)); have n3_ := Aside0.mk ((by rw [hg]; exact (below_size (by repeat (first | (with_reducible first | exact HB.out | apply below_alloc | apply pw_below_drewN | apply below_drew1) | exact HB.out))) : w.heap.size ≤ gb286)); clear HB; have HB := n0_; have BK286 := n1_; have GW286 := n2_; have GE286 := n3_; clear n0_ n1_ n2_ n3_; clear hb hbox hg; have hcz32_0 : w31.cell? ⟨gb286, 0, none⟩ = some (.int .i64 a0_0) := (blk_cell BK286.out 0).trans rfl; have hcz32_1 : w31.cell? ⟨gb286, 1, none⟩ = some (.int .i64 a0_1) := (blk_cell BK286.out 1).trans rfl; have hcz32_2 : w31.cell? ⟨gb286, 2, none⟩ = some (.int .i64 a0_2) := (blk_cell BK286.out 2).trans rfl; have hcz32_3 : w31.cell? ⟨gb286, 3, none⟩ = some (.slice A0_3 l0_3.length c0_3) := (blk_cell BK286.out 3).trans rfl; have hfz32_0 := blk_frozen BK286.out 0; have hfz32_1 := blk_frozen BK286.out 1; have hfz32_2 := blk_frozen BK286.out 2; have hfz32_3 := blk_frozen BK286.out 3))
          go_loopg [3, 60] k (fun kq v3 v60 w' => ∃ (x3_1 : Int) (x60_1 : Int), v3 = .int .i64 x3_1 ∧ v60 = .int .i64 x60_1 ∧ Aside0 (gen_count.l2 kq x3_1 l0_3 (l0_3.length : Int) x60_1 = some r) ∧ Aside0 (kq ≤ k) ∧ Aside0 (w'.heap[gb286]? = some (.cells #[.int .i64 a0_0, .int .i64 a0_1, .int .i64 a0_2, (.slice A0_3 l0_3.length c0_3)] 63 (0, 0))) ∧ Aside0 (Below w.heap.size w w'))
          case atStart => exact ⟨(0), (0), (by first | rfl | (simp; done) | (simp [*]; done)), (by first | rfl | (simp; done) | (simp [*]; done)), H', ⟨Nat.le_refl _⟩, ⟨by (with_reducible repeat (first | refine blk_drewN ?_ _ | refine blk_drew ?_ | refine blk_alloc ?_ _)); exact BK286.out⟩, ⟨by repeat (first | (with_reducible first | exact HB.out | apply below_alloc | apply pw_below_drewN | apply below_drew1 | refine below_set ?_ GE286.out) | exact HB.out)⟩⟩
          case round =>
            clear H'
            try clear c1
            try clear c2
            try clear c2b0
            try clear c2b1
            try clear p2
            try clear q2
            try clear hx2
            try clear qi2
            try clear c3
            try clear c5
            try clear c5b0
            try clear c5b1
            try clear p6
            try clear c8
            try clear c8b0
            try clear c9
            try clear c9b0
            try clear c10
            try clear c10b0
            try clear c12
            try clear c14
            try clear c18
            try clear c18b0
            try clear c18b1
            try clear c19
            try clear c19b0
            try clear c19b1
            try clear c25
            try clear c25b0
            try clear c28
            try clear p28
            try clear q28
            try clear hx28
            try clear c29
            try clear p29
            try clear q29
            try clear hx29
            try clear qi29
            try clear c30
            try clear c30b0
            try clear c30b1
            try clear hcz15_0
            try clear hcz15_1
            try clear hcz15_2
            try clear hcz15_3
            try clear hcz22_0
            try clear hcz22_1
            try clear hcz22_2
            try clear hcz22_3
            try clear hcz24_0
            try clear hcz24_1
            try clear hcz24_2
            try clear hcz24_3
            try clear hcz32_0
            try clear hcz32_1
            try clear hcz32_2
            try clear hcz32_3
            try clear hcz4_0
            try clear hcz4_1
            try clear hcz4_2
            try clear hcz4_3
            try clear hcz7_0
            try clear hcz7_1
            try clear hcz7_2
            try clear hcz7_3
            try clear hfz15_0
            try clear hfz15_1
            try clear hfz15_2
            try clear hfz15_3
            try clear hfz22_0
            try clear hfz22_1
            try clear hfz22_2
            try clear hfz22_3
            try clear hfz24_0
            try clear hfz24_1
            try clear hfz24_2
            try clear hfz24_3
            try clear hfz32_0
            try clear hfz32_1
            try clear hfz32_2
            try clear hfz32_3
            try clear hfz4_0
            try clear hfz4_1
            try clear hfz4_2
            try clear hfz4_3
            try clear hfz7_0
            try clear hfz7_1
            try clear hfz7_2
            try clear hfz7_3
            try clear hx287_0
            try clear hx287_1
            try clear hx287_2
            try clear hx287_3
            try clear hx291_0
            try clear hx291_1
            try clear hx291_2
            try clear hx291_3
            try clear p2
            try clear p287
            try clear p291
            try clear p6
            try clear q2
            try clear q287
            try clear q291
            obtain ⟨x3_1, x60_1, rfl, rfl, HA, HK1, BK286, HB⟩ := hrel
            cases gk with
            | zero => exact absurd HA.out (by simp [gen_count.l2])
            | succ k1 =>
              have H := HA.out
              clear HA
              simp only [gen_count.l2] at H
              by_cases c33 : x60_1 < (l0_3.length : Int)
              · rw [if_pos c33] at H
                have c33b0 : decide (x60_1 < (l0_3.length : Int)) = true := decide_eq_true c33
                clear c33
                by_cases c34 : 0 ≤ x60_1
                · rw [if_pos c34] at H
                  have c34b0 : decide (0 ≤ x60_1) = true := decide_eq_true c34
                  clear c34
                  by_cases c35 : x60_1 < (l0_3.length : Int)
                  · rw [if_pos c35] at H
                    have c35b0 : decide (x60_1 < (l0_3.length : Int)) = true := decide_eq_true c35
                    clear c35
                    replace H := Option.bind_eq_some_iff.mp H
                    obtain ⟨t297, A360, H⟩ := H
                    replace H : ((gen_capped.f (wrap64 (x3_1 + t297))).bind fun t298 => (gen_count.l2 k1 t298 l0_3 (l0_3.length : Int) (wrap64 (x60_1 + 1)))) = some r := H
                    have A36 := Aside0.mk A360
                    clear A360
                    replace H := Option.bind_eq_some_iff.mp H
                    obtain ⟨t298, A370, H⟩ := H
                    replace H : (gen_count.l2 k1 t298 l0_3 (l0_3.length : Int) (wrap64 (x60_1 + 1))) = some r := H
                    have A37 := Aside0.mk A370
                    clear A370
                    have H' := Aside0.mk H
                    clear H
                    have p295 : 0 ≤ (x60_1 : Int) := of_decide_eq_true (by first | (with_reducible assumption) | assumption)
                    have q295 : x60_1 < (l0_3.length : Int) := of_decide_eq_true (by first | (with_reducible assumption) | assumption)
                    obtain ⟨ad295, A295_3, c295_3, e295, hx295_0, hx295_1, hx295_2, hx295_3, hl295_3, hi295_3⟩ := at_T63 HR0_3.out x60_1 p295 q295
                    cases e295
                    replace hx295_0 := (HB.out.cell (World.block_lt_of_cell? w _ hx295_0)).trans hx295_0
                    replace hx295_1 := (HB.out.cell (World.block_lt_of_cell? w _ hx295_1)).trans hx295_1
                    replace hx295_2 := (HB.out.cell (World.block_lt_of_cell? w _ hx295_2)).trans hx295_2
                    replace hx295_3 := (HB.out.cell (World.block_lt_of_cell? w _ hx295_3)).trans hx295_3
                    have HR295_3 := Aside0.mk hi295_3
                    have HC295_3 := Aside0.mk hl295_3
                    clear hi295_3 hl295_3
                    replace p295 := eq_true p295
                    replace q295 := eq_true q295
                    go_wp2_with (first | ((with_reducible refine gate_dst (N := 9) rfl ?_); refine box_event ?hg (N := 9) ?hd (cs := #[.int .i64 0, .int .i64 0, .int .i64 0, .slice none 0 0]) (t := 63) ?hr ?_; (case hd => rfl); (case hg => rfl); (case hr => first | (go_simp; done) | (go_simp; rfl)); intro gb296 hg w38 hbox hb; have n0_ := Aside0.mk (blk_below (g := gb286) (o := .cells #[.int .i64 a0_0, .int .i64 a0_1, .int .i64 a0_2, .slice (some ad295) l0_3.length c0_3] 63 (0, 0)) (by (with_reducible repeat (first | refine blk_drewN ?_ _ | refine blk_drew ?_ | refine blk_alloc ?_ _)); exact BK286.out) hb); have n1_ := Aside0.mk (below_step (by repeat (first | (with_reducible first | exact HB.out | apply below_alloc | apply pw_below_drewN | apply below_drew1 | refine below_set ?_ GE286.out) | exact HB.out)) hb); have n2_ := Aside0.mk (hbox); have n3_ := Aside0.mk ((by rw [hg]; exact (below_size (by repeat (first | (with_reducible first | exact HB.out | apply below_alloc | apply pw_below_drewN | apply below_drew1 | refine below_set ?_ GE286.out) | exact HB.out))) : w.heap.size ≤ gb296)); have n4_ := Aside0.mk ((by rw [hg]; exact (below_size (by repeat (first | (with_reducible first | exact HB.out | apply below_alloc | apply pw_below_drewN | apply below_drew1 | refine below_set ?_ GE286.out) | exact HB.out))) : w.heap.size ≤ gb296)); have n5_ := Aside0.mk ((by rw [hg]; exact Nat.ne_of_lt (blk_lt (g := gb286) (o := .cells #[.int .i64 a0_0, .int .i64 a0_1, .int .i64 a0_2, .slice (some ad295) l0_3.length c0_3] 63 (0, 0)) (by (with_reducible repeat (first | refine blk_drewN ?_ _ | refine blk_drew ?_ | refine blk_alloc ?_ _)); exact BK286.out)) : gb286 ≠ gb296)); have n6_ := Aside0.mk ((by rw [hg]; exact Nat.ne_of_gt (blk_lt (g := gb286) (o := .cells #[.int .i64 a0_0, .int .i64 a0_1, .int .i64 a0_2, .slice (some ad295) l0_3.length c0_3] 63 (0, 0)) (by (with_reducible repeat (first | refine blk_drewN ?_ _ | refine blk_drew ?_ | refine blk_alloc ?_ _)); exact BK286.out)) : gb296 ≠ gb286)); clear BK286; clear HB; have BK286 := n0_; have HB := n1_; have BK296 := n2_; have GW296 := n3_; have GE296 := n4_; have NB286_296 := n5_; have NB296_286 := n6_; clear n0_ n1_ n2_ n3_ n4_ n5_ n6_; clear hb hbox hg; have hnb39 := NB296_286.out; have hnc39 := NB286_296.out; have hcz40_0 : w38.cell? ⟨gb296, 0, none⟩ = some (.int .i64 0) := (blk_cell BK296.out 0).trans rfl; have hcz40_1 : w38.cell? ⟨gb296, 1, none⟩ = some (.int .i64 0) := (blk_cell BK296.out 1).trans rfl; have hcz40_2 : w38.cell? ⟨gb296, 2, none⟩ = some (.int .i64 0) := (blk_cell BK296.out 2).trans rfl; have hcz40_3 : w38.cell? ⟨gb296, 3, none⟩ = some (.slice none 0 0) := (blk_cell BK296.out 3).trans rfl; have hfz40_0 := blk_frozen BK296.out 0; have hfz40_1 := blk_frozen BK296.out 1; have hfz40_2 := blk_frozen BK296.out 2; have hfz40_3 := blk_frozen BK296.out 3) | ((with_reducible refine gate_callee (f := 84) rfl ?_); refine goesL_ (some 66) rfl rfl Tryd.func84 (by kernel_rfl) rfl #[.agg #[.int .i64 ((rd_T63 l0_3 x60_1).f0), .int .i64 ((rd_T63 l0_3 x60_1).f1), .int .i64 ((rd_T63 l0_3 x60_1).f2), .slice A295_3 ((rd_T63 l0_3 x60_1).f3).length c295_3]] rfl (by (try simp only [List.map_toArray, List.map_cons, List.map_nil]); first | done | rfl | (simp only [List.length_drop, List.length_take]; rfl)) ?_; (with_reducible refine (ih k1 (by have := HK1.out; omega) ((rd_T63 l0_3 x60_1).f0) ((rd_T63 l0_3 x60_1).f1) ((rd_T63 l0_3 x60_1).f2) _ _ ((rd_T63 l0_3 x60_1).f3) t297 _ ?side1 ?side2 A36.out).mono ?_); (case side1 => exact Kd.C_below HR295_3.out (by repeat (first | (with_reducible first | exact HB.out | apply below_alloc | apply pw_below_drewN | apply below_drew1 | refine below_set ?_ GE286.out | refine below_set ?_ GE296.out) | exact HB.out))); (case side2 => exact HC295_3.out); rintro e w41 ⟨rfl, hb⟩; refine ⟨_, rfl, ?_⟩; have n0_ := Aside0.mk (blk_below (g := gb286) (o := .cells #[.int .i64 a0_0, .int .i64 a0_1, .int .i64 a0_2, .slice (some ad295) l0_3.length c0_3] 63 (0, 0)) (by (with_reducible repeat (first | refine blk_drewN ?_ _ | refine blk_drew ?_ | refine blk_alloc ?_ _)); refine blk_far ?_ NB286_296.out _; (with_reducible repeat (first | refine blk_drewN ?_ _ | refine blk_drew ?_ | refine blk_alloc ?_ _)); refine blk_far ?_ NB286_296.out _; (with_reducible repeat (first | refine blk_drewN ?_ _ | refine blk_drew ?_ | refine blk_alloc ?_ _)); refine blk_far ?_ NB286_296.out _; (with_reducible repeat (first | refine blk_drewN ?_ _ | refine blk_drew ?_ | refine blk_alloc ?_ _)); refine blk_far ?_ NB286_296.out _; (with_reducible repeat (first | refine blk_drewN ?_ _ | refine blk_drew ?_ | refine blk_alloc ?_ _)); exact BK286.out) hb); have n1_ := Aside0.mk (blk_below (g := gb296) (o := .cells #[.int .i64 ((rd_T63 l0_3 x60_1).f0), .int .i64 ((rd_T63 l0_3 x60_1).f1), .int .i64 ((rd_T63 l0_3 x60_1).f2), .slice A295_3 ((rd_T63 l0_3 x60_1).f3).length c295_3] 63 (0, 0)) (by (with_reducible repeat (first | refine blk_drewN ?_ _ | refine blk_drew ?_ | refine blk_alloc ?_ _)); refine blk_put (cs := #[.int .i64 ((rd_T63 l0_3 x60_1).f0), .int .i64 ((rd_T63 l0_3 x60_1).f1), .int .i64 ((rd_T63 l0_3 x60_1).f2), .slice none 0 0]) ?_ 3 _ rfl; (with_reducible repeat (first | refine blk_drewN ?_ _ | refine blk_drew ?_ | refine blk_alloc ?_ _)); refine blk_put (cs := #[.int .i64 ((rd_T63 l0_3 x60_1).f0), .int .i64 ((rd_T63 l0_3 x60_1).f1), .int .i64 0, .slice none 0 0]) ?_ 2 _ rfl; (with_reducible repeat (first | refine blk_drewN ?_ _ | refine blk_drew ?_ | refine blk_alloc ?_ _)); refine blk_put (cs := #[.int .i64 ((rd_T63 l0_3 x60_1).f0), .int .i64 0, .int .i64 0, .slice none 0 0]) ?_ 1 _ rfl; (with_reducible repeat (first | refine blk_drewN ?_ _ | refine blk_drew ?_ | refine blk_alloc ?_ _)); refine blk_put (cs := #[.int .i64 0, .int .i64 0, .int .i64 0, .slice none 0 0]) ?_ 0 _ rfl; (with_reducible repeat (first | refine blk_drewN ?_ _ | refine blk_drew ?_ | refine blk_alloc ?_ _)); exact BK296.out) hb); have n2_ := Aside0.mk (below_step (by repeat (first | (with_reducible first | exact HB.out | apply below_alloc | apply pw_below_drewN | apply below_drew1 | refine below_set ?_ GE286.out | refine below_set ?_ GE296.out) | exact HB.out)) hb); clear BK286; clear BK296; clear HB; have BK286 := n0_; have BK296 := n1_; have HB := n2_; clear n0_ n1_ n2_; (try clear hb); (try clear hb2); (try clear hk); (try clear hi)) | ((with_reducible refine gate_callee (f := 125) rfl ?_); refine goesL_ (some 68) rfl rfl Tryd.func125 (by kernel_rfl) rfl #[.int .i64 (wrap64 (x3_1 + t297))] rfl (by (try simp only [List.map_toArray, List.map_cons, List.map_nil]); first | done | rfl | (simp only [List.length_drop, List.length_take]; rfl)) ?_; (with_reducible refine (gen_capped.calls (wrap64 (x3_1 + t297)) t298 _ A37.out).mono ?_); rintro e w42 ⟨rfl, hb⟩; refine ⟨_, rfl, ?_⟩; have n0_ := Aside0.mk (blk_below (g := gb286) (o := .cells #[.int .i64 a0_0, .int .i64 a0_1, .int .i64 a0_2, .slice (some ad295) l0_3.length c0_3] 63 (0, 0)) (by (with_reducible repeat (first | refine blk_drewN ?_ _ | refine blk_drew ?_ | refine blk_alloc ?_ _)); exact BK286.out) hb); have n1_ := Aside0.mk (blk_below (g := gb296) (o := .cells #[.int .i64 ((rd_T63 l0_3 x60_1).f0), .int .i64 ((rd_T63 l0_3 x60_1).f1), .int .i64 ((rd_T63 l0_3 x60_1).f2), .slice A295_3 ((rd_T63 l0_3 x60_1).f3).length c295_3] 63 (0, 0)) (by (with_reducible repeat (first | refine blk_drewN ?_ _ | refine blk_drew ?_ | refine blk_alloc ?_ _)); exact BK296.out) hb); have n2_ := Aside0.mk (below_step (by repeat (first | (with_reducible first | exact HB.out | apply below_alloc | apply pw_below_drewN | apply below_drew1 | refine below_set ?_ GE286.out | refine below_set ?_ GE296.out) | exact HB.out)) hb); clear BK286; clear BK296; clear HB; have BK286 := n0_; have BK296 := n1_; have HB := n2_; clear n0_ n1_ n2_; (try clear hb); (try clear hb2); (try clear hk); (try clear hi)))
                    go_roundg k1
                    case measure => have := HK1.out; omega
                    case rel => exact ⟨(t298), (wrap64 (x60_1 + 1)), (by first | rfl | (simp; done) | (simp [*]; done)), (by first | rfl | (simp; done) | (simp [*]; done)), H', ⟨by have := HK1.out; omega⟩, ⟨by (with_reducible repeat (first | refine blk_drewN ?_ _ | refine blk_drew ?_ | refine blk_alloc ?_ _)); exact BK286.out⟩, ⟨by repeat (first | (with_reducible first | exact HB.out | apply below_alloc | apply pw_below_drewN | apply below_drew1 | refine below_set ?_ GE286.out | refine below_set ?_ GE296.out) | exact HB.out)⟩⟩
                  · rw [if_neg c35] at H
                    exact absurd H (by simp)
                · rw [if_neg c34] at H
                  exact absurd H (by simp)
              · rw [if_neg c33] at H
                have c33b0 : decide (x60_1 < (l0_3.length : Int)) = false := decide_eq_false c33
                clear c33
                obtain rfl := Option.some.inj H
                go_wp2
                go_ret
                exact ⟨by first | rfl | (simp [errW_none, errW_some] <;> rfl) | (simp [*, errW_none, errW_some] <;> rfl), by repeat (first | (with_reducible first | exact HB.out | apply below_alloc | apply pw_below_drewN | apply below_drew1 | refine below_set ?_ GE286.out) | exact HB.out)⟩
        · rw [if_neg c30] at H
          have c30b0 : (a0_0 == 5) = false := beq_eq_false_iff_ne.mpr c30
          have c30b1 : (a0_0 != 5) = true := bne_iff_ne.mpr c30
          obtain rfl := Option.some.inj H
          go_enter Tryd.func84, Tryd.ntmps84
          go_wp2_with (first | ((with_reducible refine gate_dst (N := 1) rfl ?_); refine box_event ?hg (N := 1) ?hd (cs := #[.int .i64 a0_0, .int .i64 a0_1, .int .i64 a0_2, .slice A0_3 l0_3.length c0_3]) (t := 63) ?hr ?_; (case hd => rfl); (case hg => rfl); (case hr => first | (go_simp; done) | (go_simp; rfl)); intro gb286 hg w43 hbox hb; have n0_ := Aside0.mk (below_step (by repeat (first | (with_reducible first | exact HB.out | apply below_alloc | apply pw_below_drewN | apply below_drew1) | exact HB.out)) hb); have n1_ := Aside0.mk (hbox); have n2_ := Aside0.mk ((by rw [hg]; exact (below_size (by repeat (first | (with_reducible first | exact HB.out | apply below_alloc | apply pw_below_drewN | apply below_drew1) | exact HB.out))) : w.heap.size ≤ gb286)); have n3_ := Aside0.mk ((by rw [hg]; exact (below_size (by repeat (first | (with_reducible first | exact HB.out | apply below_alloc | apply pw_below_drewN | apply below_drew1) | exact HB.out))) : w.heap.size ≤ gb286)); clear HB; have HB := n0_; have BK286 := n1_; have GW286 := n2_; have GE286 := n3_; clear n0_ n1_ n2_ n3_; clear hb hbox hg; have hcz44_0 : w43.cell? ⟨gb286, 0, none⟩ = some (.int .i64 a0_0) := (blk_cell BK286.out 0).trans rfl; have hcz44_1 : w43.cell? ⟨gb286, 1, none⟩ = some (.int .i64 a0_1) := (blk_cell BK286.out 1).trans rfl; have hcz44_2 : w43.cell? ⟨gb286, 2, none⟩ = some (.int .i64 a0_2) := (blk_cell BK286.out 2).trans rfl; have hcz44_3 : w43.cell? ⟨gb286, 3, none⟩ = some (.slice A0_3 l0_3.length c0_3) := (blk_cell BK286.out 3).trans rfl; have hfz44_0 := blk_frozen BK286.out 0; have hfz44_1 := blk_frozen BK286.out 1; have hfz44_2 := blk_frozen BK286.out 2; have hfz44_3 := blk_frozen BK286.out 3))
          go_ret
          exact ⟨by first | rfl | (simp [errW_none, errW_some] <;> rfl) | (simp [*, errW_none, errW_some] <;> rfl), by repeat (first | (with_reducible first | exact HB.out | apply below_alloc | apply pw_below_drewN | apply below_drew1 | refine below_set ?_ GE286.out) | exact HB.out)⟩

end Go.Proofs.YtgdomnlkafcddaaDoor.Q
namespace Go.Proofs.YtgdomnlkafcddaaDoor.Q
open Go.RowKit Go.Proofs.YtgdomnlkafcddaaDoorW.PrintWords Go.Proofs.YtgdomnlkafcddaaDoorW.PrintLast Go.Proofs.YtgdomnlkafcddaaDoorW.PrintMore
attribute [local go_sem] max2_int min2_int max_two min_two max_three min_three max_four min_four   -- for this text's walks alone
set_option linter.unusedVariables false
set_option linter.unusedSimpArgs false

/-! ### gen_Count: function 42 -/
def gen_Count.f (k : Nat) (a0_0 : Int) (a0_1 : Int) (a0_2 : Int) (l0_3 : List (S63)) : Option (Int × Option Int) := (gen_Check.f k a0_0 a0_1 a0_2 l0_3).bind fun t300 => (if t300.isNone = true then ((gen_count.f k a0_0 a0_1 a0_2 l0_3).bind fun t302 => (if t302 > 1048576 then (some (0, some 4)) else (some (t302, none)))) else (some (0, some (t300.getD 0))))
theorem gen_Count.mono : ∀ a0 a1 a2 a3 k, LeO (gen_Count.f k a0 a1 a2 a3) (gen_Count.f (k + 1) a0 a1 a2 a3) := by
  intro a0 a1 a2 a3 k
  unfold gen_Count.f
  repeat' first
      | (with_reducible exact gen_Check.mono _ _ _ _ _)
      | (with_reducible exact gen_count.mono _ _ _ _ _)
      | (with_reducible exact LeO.refl _)
      | (with_reducible exact LeO.none _)
      | (with_reducible refine LeO.ite ?_ ?_)
      | (with_reducible refine LeO.bind ?_ (fun _ => ?_))
      | exact gen_Check.mono _ _ _ _ _
      | exact gen_count.mono _ _ _ _ _
      | exact LeO.none _
      | refine LeO.ite ?_ ?_
      | refine LeO.bind ?_ (fun _ => ?_)
set_option maxHeartbeats 8000000 in
set_option maxRecDepth 100000 in
theorem gen_Count.calls (k : Nat) (a0_0 : Int) (a0_1 : Int) (a0_2 : Int) (A0_3 : Option Addr) (c0_3 : Nat) (l0_3 : List (S63)) (r1 : Int) (r2 : Option Int) (w : World) (hr0_3 : Kd.C k63 w A0_3 l0_3.length l0_3) (hc0_3 : l0_3.length ≤ c0_3) (h : gen_Count.f k a0_0 a0_1 a0_2 l0_3 = some (r1, r2)) :
    Calls Tryd.prog 42 #[.agg #[.int .i64 a0_0, .int .i64 a0_1, .int .i64 a0_2, .slice A0_3 l0_3.length c0_3]] w fun e w' => e = .returned (.tuple #[.int .i64 r1, errW r2]) ∧ Below w.heap.size w w' := by
  have hu63 := Tryd.underlying63
  have hu30 := Tryd.underlying30
  have hu66 := Tryd.underlying66
  have HR0_3 := Aside0.mk hr0_3
  have HC0_3 := Aside0.mk hc0_3
  clear hr0_3 hc0_3
  have HB := Aside0.mk (Below.refl w.heap.size w)
  have H : ((gen_Check.f k a0_0 a0_1 a0_2 l0_3).bind fun t300 => (if t300.isNone = true then ((gen_count.f k a0_0 a0_1 a0_2 l0_3).bind fun t302 => (if t302 > 1048576 then (some (0, some 4)) else (some (t302, none)))) else (some (0, some (t300.getD 0))))) = some (r1, r2) := h
  clear h
  replace H := Option.bind_eq_some_iff.mp H
  obtain ⟨t300, A20, H⟩ := H
  replace H : (if t300.isNone = true then ((gen_count.f k a0_0 a0_1 a0_2 l0_3).bind fun t302 => (if t302 > 1048576 then (some (0, some 4)) else (some (t302, none)))) else (some (0, some (t300.getD 0)))) = some (r1, r2) := H
  have A2 := Aside0.mk A20
  clear A20
  rcases t300 with _ | q301
  · have H1 : ((gen_count.f k a0_0 a0_1 a0_2 l0_3).bind fun t302 => (if t302 > 1048576 then (some (0, some 4)) else (some (t302, none)))) = some (r1, r2) := by rw [if_pos (show (none : Option Int).isNone = true by rfl)] at H; exact H
    clear H
    have H := H1
    clear H1
    try simp only [errW_none, errW_some]
    replace H := Option.bind_eq_some_iff.mp H
    obtain ⟨t302, A30, H⟩ := H
    replace H : (if t302 > 1048576 then (some (0, some 4)) else (some (t302, none))) = some (r1, r2) := H
    have A3 := Aside0.mk A30
    clear A30
    by_cases c4 : t302 > 1048576
    · rw [if_pos c4] at H
      have c4b0 : decide (1048576 < t302) = true := decide_eq_true c4
      clear c4
      simp only [Option.some.injEq, Prod.mk.injEq] at H
      obtain ⟨rfl, rfl⟩ := H
      go_enter Tryd.func42, Tryd.ntmps42
      go_wp2_with (first | ((with_reducible refine gate_dst (N := 1) rfl ?_); refine box_event ?hg (N := 1) ?hd (cs := #[.int .i64 a0_0, .int .i64 a0_1, .int .i64 a0_2, .slice A0_3 l0_3.length c0_3]) (t := 63) ?hr ?_; (case hd => rfl); (case hg => rfl); (case hr => first | (go_simp; done) | (go_simp; rfl)); intro gb299 hg w5 hbox hb; have n0_ := Aside0.mk (below_step (by repeat (first | (with_reducible first | exact HB.out | apply below_alloc | apply pw_below_drewN | apply below_drew1) | exact HB.out)) hb); have n1_ := Aside0.mk (hbox); have n2_ := Aside0.mk ((by rw [hg]; exact (below_size (by repeat (first | (with_reducible first | exact HB.out | apply below_alloc | apply pw_below_drewN | apply below_drew1) | exact HB.out))) : w.heap.size ≤ gb299)); have n3_ := Aside0.mk ((by rw [hg]; exact (below_size (by repeat (first | (with_reducible first | exact HB.out | apply below_alloc | apply pw_below_drewN | apply below_drew1) | exact HB.out))) : w.heap.size ≤ gb299)); clear HB; have HB := n0_; have BK299 := n1_; have GW299 := n2_; have GE299 := n3_; clear n0_ n1_ n2_ n3_; clear hb hbox hg; have hcz6_0 : w5.cell? ⟨gb299, 0, none⟩ = some (.int .i64 a0_0) := (blk_cell BK299.out 0).trans rfl; have hcz6_1 : w5.cell? ⟨gb299, 1, none⟩ = some (.int .i64 a0_1) := (blk_cell BK299.out 1).trans rfl; have hcz6_2 : w5.cell? ⟨gb299, 2, none⟩ = some (.int .i64 a0_2) := (blk_cell BK299.out 2).trans rfl; have hcz6_3 : w5.cell? ⟨gb299, 3, none⟩ = some (.slice A0_3 l0_3.length c0_3) := (blk_cell BK299.out 3).trans rfl; have hfz6_0 := blk_frozen BK299.out 0; have hfz6_1 := blk_frozen BK299.out 1; have hfz6_2 := blk_frozen BK299.out 2; have hfz6_3 := blk_frozen BK299.out 3) | ((with_reducible refine gate_callee (f := 83) rfl ?_); refine goesL_ (some 7) rfl rfl Tryd.func83 (by kernel_rfl) rfl #[.agg #[.int .i64 a0_0, .int .i64 a0_1, .int .i64 a0_2, .slice A0_3 l0_3.length c0_3]] rfl (by (try simp only [List.map_toArray, List.map_cons, List.map_nil]); first | done | rfl | (simp only [List.length_drop, List.length_take]; rfl)) ?_; (with_reducible refine (gen_Check.calls k a0_0 a0_1 a0_2 _ _ l0_3 none _ ?side1 ?side2 A2.out).mono ?_); (case side1 => repeat (first | exact (Kd.C_below HR0_3.out HB.out) | (with_reducible refine Kd.C_alloc ?_ _) | (with_reducible refine Kd.C_drewN ?_ _) | (with_reducible refine Kd.C_drew ?_))); (case side2 => exact HC0_3.out); rintro e w7 ⟨rfl, hb⟩; refine ⟨_, rfl, ?_⟩; have n0_ := Aside0.mk (blk_below (g := gb299) (o := .cells #[.int .i64 a0_0, .int .i64 a0_1, .int .i64 a0_2, .slice A0_3 l0_3.length c0_3] 63 (0, 0)) (by (with_reducible repeat (first | refine blk_drewN ?_ _ | refine blk_drew ?_ | refine blk_alloc ?_ _)); exact BK299.out) hb); have n1_ := Aside0.mk (below_step (by repeat (first | (with_reducible first | exact HB.out | apply below_alloc | apply pw_below_drewN | apply below_drew1 | refine below_set ?_ GE299.out) | exact HB.out)) hb); clear BK299; clear HB; have BK299 := n0_; have HB := n1_; clear n0_ n1_; (try clear hb); (try clear hb2); (try clear hk); (try clear hi); (try simp only [errW_none, errW_some]); have hcz8_0 : w7.cell? ⟨gb299, 0, none⟩ = some (.int .i64 a0_0) := (blk_cell BK299.out 0).trans rfl; have hcz8_1 : w7.cell? ⟨gb299, 1, none⟩ = some (.int .i64 a0_1) := (blk_cell BK299.out 1).trans rfl; have hcz8_2 : w7.cell? ⟨gb299, 2, none⟩ = some (.int .i64 a0_2) := (blk_cell BK299.out 2).trans rfl; have hcz8_3 : w7.cell? ⟨gb299, 3, none⟩ = some (.slice A0_3 l0_3.length c0_3) := (blk_cell BK299.out 3).trans rfl; have hfz8_0 := blk_frozen BK299.out 0; have hfz8_1 := blk_frozen BK299.out 1; have hfz8_2 := blk_frozen BK299.out 2; have hfz8_3 := blk_frozen BK299.out 3) | ((with_reducible refine gate_callee (f := 84) rfl ?_); refine goesL_ (some 12) rfl rfl Tryd.func84 (by kernel_rfl) rfl #[.agg #[.int .i64 a0_0, .int .i64 a0_1, .int .i64 a0_2, .slice A0_3 l0_3.length c0_3]] rfl (by (try simp only [List.map_toArray, List.map_cons, List.map_nil]); first | done | rfl | (simp only [List.length_drop, List.length_take]; rfl)) ?_; (with_reducible refine (gen_count.calls k a0_0 a0_1 a0_2 _ _ l0_3 t302 _ ?side1 ?side2 A3.out).mono ?_); (case side1 => repeat (first | exact (Kd.C_below HR0_3.out HB.out) | (with_reducible refine Kd.C_alloc ?_ _) | (with_reducible refine Kd.C_drewN ?_ _) | (with_reducible refine Kd.C_drew ?_))); (case side2 => exact HC0_3.out); rintro e w9 ⟨rfl, hb⟩; refine ⟨_, rfl, ?_⟩; have n0_ := Aside0.mk (blk_below (g := gb299) (o := .cells #[.int .i64 a0_0, .int .i64 a0_1, .int .i64 a0_2, .slice A0_3 l0_3.length c0_3] 63 (0, 0)) (by (with_reducible repeat (first | refine blk_drewN ?_ _ | refine blk_drew ?_ | refine blk_alloc ?_ _)); exact BK299.out) hb); have n1_ := Aside0.mk (below_step (by repeat (first | (with_reducible first | exact HB.out | apply below_alloc | apply pw_below_drewN | apply below_drew1 | refine below_set ?_ GE299.out) | exact HB.out)) hb); clear BK299; clear HB; have BK299 := n0_; have HB := n1_; clear n0_ n1_; (try clear hb); (try clear hb2); (try clear hk); (try clear hi)))
      go_ret2
      exact ⟨by first | rfl | (simp [errW_none, errW_some] <;> rfl) | (simp [*, errW_none, errW_some] <;> rfl), by repeat (first | (with_reducible first | exact HB.out | apply below_alloc | apply pw_below_drewN | apply below_drew1 | refine below_set ?_ GE299.out) | exact HB.out)⟩
    · rw [if_neg c4] at H
      have c4b0 : decide (1048576 < t302) = false := decide_eq_false c4
      clear c4
      simp only [Option.some.injEq, Prod.mk.injEq] at H
      obtain ⟨rfl, rfl⟩ := H
      go_enter Tryd.func42, Tryd.ntmps42
      go_wp2_with (first | ((with_reducible refine gate_dst (N := 1) rfl ?_); refine box_event ?hg (N := 1) ?hd (cs := #[.int .i64 a0_0, .int .i64 a0_1, .int .i64 a0_2, .slice A0_3 l0_3.length c0_3]) (t := 63) ?hr ?_; (case hd => rfl); (case hg => rfl); (case hr => first | (go_simp; done) | (go_simp; rfl)); intro gb299 hg w10 hbox hb; have n0_ := Aside0.mk (below_step (by repeat (first | (with_reducible first | exact HB.out | apply below_alloc | apply pw_below_drewN | apply below_drew1) | exact HB.out)) hb); have n1_ := Aside0.mk (hbox); have n2_ := Aside0.mk ((by rw [hg]; exact (below_size (by repeat (first | (with_reducible first | exact HB.out | apply below_alloc | apply pw_below_drewN | apply below_drew1) | exact HB.out))) : w.heap.size ≤ gb299)); have n3_ := Aside0.mk ((by rw [hg]; exact (below_size (by repeat (first | (with_reducible first | exact HB.out | apply below_alloc | apply pw_below_drewN | apply below_drew1) | exact HB.out))) : w.heap.size ≤ gb299)); clear HB; have HB := n0_; have BK299 := n1_; have GW299 := n2_; have GE299 := n3_; clear n0_ n1_ n2_ n3_; clear hb hbox hg; have hcz11_0 : w10.cell? ⟨gb299, 0, none⟩ = some (.int .i64 a0_0) := (blk_cell BK299.out 0).trans rfl; have hcz11_1 : w10.cell? ⟨gb299, 1, none⟩ = some (.int .i64 a0_1) := (blk_cell BK299.out 1).trans rfl; have hcz11_2 : w10.cell? ⟨gb299, 2, none⟩ = some (.int .i64 a0_2) := (blk_cell BK299.out 2).trans rfl; have hcz11_3 : w10.cell? ⟨gb299, 3, none⟩ = some (.slice A0_3 l0_3.length c0_3) := (blk_cell BK299.out 3).trans rfl; have hfz11_0 := blk_frozen BK299.out 0; have hfz11_1 := blk_frozen BK299.out 1; have hfz11_2 := blk_frozen BK299.out 2; have hfz11_3 := blk_frozen BK299.out 3) | ((with_reducible refine gate_callee (f := 83) rfl ?_); refine goesL_ (some 7) rfl rfl Tryd.func83 (by kernel_rfl) rfl #[.agg #[.int .i64 a0_0, .int .i64 a0_1, .int .i64 a0_2, .slice A0_3 l0_3.length c0_3]] rfl (by (try simp only [List.map_toArray, List.map_cons, List.map_nil]); first | done | rfl | (simp only [List.length_drop, List.length_take]; rfl)) ?_; (with_reducible refine (gen_Check.calls k a0_0 a0_1 a0_2 _ _ l0_3 none _ ?side1 ?side2 A2.out).mono ?_); (case side1 => repeat (first | exact (Kd.C_below HR0_3.out HB.out) | (with_reducible refine Kd.C_alloc ?_ _) | (with_reducible refine Kd.C_drewN ?_ _) | (with_reducible refine Kd.C_drew ?_))); (case side2 => exact HC0_3.out); rintro e w12 ⟨rfl, hb⟩; refine ⟨_, rfl, ?_⟩; have n0_ := Aside0.mk (blk_below (g := gb299) (o := .cells #[.int .i64 a0_0, .int .i64 a0_1, .int .i64 a0_2, .slice A0_3 l0_3.length c0_3] 63 (0, 0)) (by (with_reducible repeat (first | refine blk_drewN ?_ _ | refine blk_drew ?_ | refine blk_alloc ?_ _)); exact BK299.out) hb); have n1_ := Aside0.mk (below_step (by repeat (first | (with_reducible first | exact HB.out | apply below_alloc | apply pw_below_drewN | apply below_drew1 | refine below_set ?_ GE299.out) | exact HB.out)) hb); clear BK299; clear HB; have BK299 := n0_; have HB := n1_; clear n0_ n1_; (try clear hb); (try clear hb2); (try clear hk); (try clear hi); (try simp only [errW_none, errW_some]); have hcz13_0 : w12.cell? ⟨gb299, 0, none⟩ = some (.int .i64 a0_0) := (blk_cell BK299.out 0).trans rfl; have hcz13_1 : w12.cell? ⟨gb299, 1, none⟩ = some (.int .i64 a0_1) := (blk_cell BK299.out 1).trans rfl; have hcz13_2 : w12.cell? ⟨gb299, 2, none⟩ = some (.int .i64 a0_2) := (blk_cell BK299.out 2).trans rfl; have hcz13_3 : w12.cell? ⟨gb299, 3, none⟩ = some (.slice A0_3 l0_3.length c0_3) := (blk_cell BK299.out 3).trans rfl; have hfz13_0 := blk_frozen BK299.out 0; have hfz13_1 := blk_frozen BK299.out 1; have hfz13_2 := blk_frozen BK299.out 2; have hfz13_3 := blk_frozen BK299.out 3) | ((with_reducible refine gate_callee (f := 84) rfl ?_); refine goesL_ (some 12) rfl rfl Tryd.func84 (by kernel_rfl) rfl #[.agg #[.int .i64 a0_0, .int .i64 a0_1, .int .i64 a0_2, .slice A0_3 l0_3.length c0_3]] rfl (by (try simp only [List.map_toArray, List.map_cons, List.map_nil]); first | done | rfl | (simp only [List.length_drop, List.length_take]; rfl)) ?_; (with_reducible refine (gen_count.calls k a0_0 a0_1 a0_2 _ _ l0_3 t302 _ ?side1 ?side2 A3.out).mono ?_); (case side1 => repeat (first | exact (Kd.C_below HR0_3.out HB.out) | (with_reducible refine Kd.C_alloc ?_ _) | (with_reducible refine Kd.C_drewN ?_ _) | (with_reducible refine Kd.C_drew ?_))); (case side2 => exact HC0_3.out); rintro e w14 ⟨rfl, hb⟩; refine ⟨_, rfl, ?_⟩; have n0_ := Aside0.mk (blk_below (g := gb299) (o := .cells #[.int .i64 a0_0, .int .i64 a0_1, .int .i64 a0_2, .slice A0_3 l0_3.length c0_3] 63 (0, 0)) (by (with_reducible repeat (first | refine blk_drewN ?_ _ | refine blk_drew ?_ | refine blk_alloc ?_ _)); exact BK299.out) hb); have n1_ := Aside0.mk (below_step (by repeat (first | (with_reducible first | exact HB.out | apply below_alloc | apply pw_below_drewN | apply below_drew1 | refine below_set ?_ GE299.out) | exact HB.out)) hb); clear BK299; clear HB; have BK299 := n0_; have HB := n1_; clear n0_ n1_; (try clear hb); (try clear hb2); (try clear hk); (try clear hi)))
      go_ret2
      exact ⟨by first | rfl | (simp [errW_none, errW_some] <;> rfl) | (simp [*, errW_none, errW_some] <;> rfl), by repeat (first | (with_reducible first | exact HB.out | apply below_alloc | apply pw_below_drewN | apply below_drew1 | refine below_set ?_ GE299.out) | exact HB.out)⟩
  · have H1 : (some (0, some q301)) = some (r1, r2) := by rw [if_neg (show ¬ (some q301).isNone = true by simp)] at H; exact H
    clear H
    have H := H1
    clear H1
    try simp only [errW_none, errW_some]
    simp only [Option.some.injEq, Prod.mk.injEq] at H
    obtain ⟨rfl, rfl⟩ := H
    go_enter Tryd.func42, Tryd.ntmps42
    go_wp2_with (first | ((with_reducible refine gate_dst (N := 1) rfl ?_); refine box_event ?hg (N := 1) ?hd (cs := #[.int .i64 a0_0, .int .i64 a0_1, .int .i64 a0_2, .slice A0_3 l0_3.length c0_3]) (t := 63) ?hr ?_; (case hd => rfl); (case hg => rfl); (case hr => first | (go_simp; done) | (go_simp; rfl)); intro gb299 hg w15 hbox hb; have n0_ := Aside0.mk (below_step (by repeat (first | (with_reducible first | exact HB.out | apply below_alloc | apply pw_below_drewN | apply below_drew1) | exact HB.out)) hb); have n1_ := Aside0.mk (hbox); have n2_ := Aside0.mk ((by rw [hg]; exact (below_size (by repeat (first | (with_reducible first | exact HB.out | apply below_alloc | apply pw_below_drewN | apply below_drew1) | exact HB.out))) : w.heap.size ≤ gb299)); have n3_ := Aside0.mk ((by rw [hg]; exact (below_size (by repeat (first | (with_reducible first | exact HB.out | apply below_alloc | apply pw_below_drewN | apply below_drew1) | exact HB.out))) : w.heap.size ≤ gb299)); clear HB; have HB := n0_; have BK299 := n1_; have GW299 := n2_; have GE299 := n3_; clear n0_ n1_ n2_ n3_; clear hb hbox hg; have hcz16_0 : w15.cell? ⟨gb299, 0, none⟩ = some (.int .i64 a0_0) := (blk_cell BK299.out 0).trans rfl; have hcz16_1 : w15.cell? ⟨gb299, 1, none⟩ = some (.int .i64 a0_1) := (blk_cell BK299.out 1).trans rfl; have hcz16_2 : w15.cell? ⟨gb299, 2, none⟩ = some (.int .i64 a0_2) := (blk_cell BK299.out 2).trans rfl; have hcz16_3 : w15.cell? ⟨gb299, 3, none⟩ = some (.slice A0_3 l0_3.length c0_3) := (blk_cell BK299.out 3).trans rfl; have hfz16_0 := blk_frozen BK299.out 0; have hfz16_1 := blk_frozen BK299.out 1; have hfz16_2 := blk_frozen BK299.out 2; have hfz16_3 := blk_frozen BK299.out 3) | ((with_reducible refine gate_callee (f := 83) rfl ?_); refine goesL_ (some 7) rfl rfl Tryd.func83 (by kernel_rfl) rfl #[.agg #[.int .i64 a0_0, .int .i64 a0_1, .int .i64 a0_2, .slice A0_3 l0_3.length c0_3]] rfl (by (try simp only [List.map_toArray, List.map_cons, List.map_nil]); first | done | rfl | (simp only [List.length_drop, List.length_take]; rfl)) ?_; (with_reducible refine (gen_Check.calls k a0_0 a0_1 a0_2 _ _ l0_3 (some q301) _ ?side1 ?side2 A2.out).mono ?_); (case side1 => repeat (first | exact (Kd.C_below HR0_3.out HB.out) | (with_reducible refine Kd.C_alloc ?_ _) | (with_reducible refine Kd.C_drewN ?_ _) | (with_reducible refine Kd.C_drew ?_))); (case side2 => exact HC0_3.out); rintro e w17 ⟨rfl, hb⟩; refine ⟨_, rfl, ?_⟩; have n0_ := Aside0.mk (blk_below (g := gb299) (o := .cells #[.int .i64 a0_0, .int .i64 a0_1, .int .i64 a0_2, .slice A0_3 l0_3.length c0_3] 63 (0, 0)) (by (with_reducible repeat (first | refine blk_drewN ?_ _ | refine blk_drew ?_ | refine blk_alloc ?_ _)); exact BK299.out) hb); have n1_ := Aside0.mk (below_step (by repeat (first | (with_reducible first | exact HB.out | apply below_alloc | apply pw_below_drewN | apply below_drew1 | refine below_set ?_ GE299.out) | exact HB.out)) hb); clear BK299; clear HB; have BK299 := n0_; have HB := n1_; clear n0_ n1_; (try clear hb); (try clear hb2); (try clear hk); (try clear hi); (try simp only [errW_none, errW_some])))
    go_ret2
    exact ⟨by first | rfl | (simp [errW_none, errW_some] <;> rfl) | (simp [*, errW_none, errW_some] <;> rfl), by repeat (first | (with_reducible first | exact HB.out | apply below_alloc | apply pw_below_drewN | apply below_drew1 | refine below_set ?_ GE299.out) | exact HB.out)⟩

end Go.Proofs.YtgdomnlkafcddaaDoor.Q
namespace Go.Proofs.YtgdomnlkafcddaaDoor.Q
open Go.RowKit Go.Proofs.YtgdomnlkafcddaaDoorW.PrintWords Go.Proofs.YtgdomnlkafcddaaDoorW.PrintLast Go.Proofs.YtgdomnlkafcddaaDoorW.PrintMore
attribute [local go_sem] max2_int min2_int max_two min_two max_three min_three max_four min_four   -- for this text's walks alone
set_option linter.unusedVariables false
set_option linter.unusedSimpArgs false

/-! ### assayerlaw6_just: function 48 -/
def assayerlaw6_just.f (k : Nat)  : Option (Bool) := (gen_Count.f k 1 0 0 ([] : List (S63))).bind fun bt828 => (if bt828.2.isNone = true then (some (bt828.1 == 1)) else (some false))
theorem assayerlaw6_just.mono : ∀ k, LeO (assayerlaw6_just.f k ) (assayerlaw6_just.f (k + 1) ) := by
  intro  k
  unfold assayerlaw6_just.f
  repeat' first
      | (with_reducible exact gen_Count.mono _ _ _ _ _)
      | (with_reducible exact LeO.refl _)
      | (with_reducible exact LeO.none _)
      | (with_reducible refine LeO.ite ?_ ?_)
      | (with_reducible refine LeO.bind ?_ (fun _ => ?_))
      | exact gen_Count.mono _ _ _ _ _
      | exact LeO.none _
      | refine LeO.ite ?_ ?_
      | refine LeO.bind ?_ (fun _ => ?_)
set_option maxHeartbeats 8000000 in
set_option maxRecDepth 100000 in
theorem assayerlaw6_just.calls (k : Nat)  (r : Bool) (w : World) (h : assayerlaw6_just.f k  = some r) :
    Calls Tryd.prog 48 #[] w fun e w' => e = .returned (.bool r) ∧ Below w.heap.size w w' := by
  have hu63 := Tryd.underlying63
  have hu30 := Tryd.underlying30
  have hu66 := Tryd.underlying66
  have HB := Aside0.mk (Below.refl w.heap.size w)
  have H : ((gen_Count.f k 1 0 0 ([] : List (S63))).bind fun bt828 => (if bt828.2.isNone = true then (some (bt828.1 == 1)) else (some false))) = some r := h
  clear h
  replace H := Option.bind_eq_some_iff.mp H
  obtain ⟨⟨t828, t829⟩, A10, H⟩ := H
  replace H : (if t829.isNone = true then (some (t828 == 1)) else (some false)) = some r := H
  have A1 := Aside0.mk A10
  clear A10
  rcases t829 with _ | q830
  · have H1 : (some (t828 == 1)) = some r := by rw [if_pos (show (none : Option Int).isNone = true by rfl)] at H; exact H
    clear H
    have H := H1
    clear H1
    try simp only [errW_none, errW_some]
    obtain rfl := Option.some.inj H
    go_enter Tryd.func48, Tryd.ntmps48
    go_wp2_with (first | ((with_reducible refine gate_callee (f := 42) rfl ?_); refine goesL_ (some 5) rfl rfl Tryd.func42 (by kernel_rfl) rfl #[.agg #[.int .i64 1, .int .i64 0, .int .i64 0, .slice none 0 0]] rfl (by (try simp only [List.map_toArray, List.map_cons, List.map_nil]); first | done | rfl | (simp only [List.length_drop, List.length_take]; rfl)) ?_; (refine (gen_Count.calls k 1 0 0 _ _ ([] : List (S63)) t828 none _ ?side1 ?side2 A1.out).mono ?_); (case side1 => exact Kd.C_nil _ _); (case side2 => exact Nat.le_refl _); rintro e w2 ⟨rfl, hb⟩; refine ⟨_, rfl, ?_⟩; have n0_ := Aside0.mk (below_step (by repeat (first | (with_reducible first | exact HB.out | apply below_alloc | apply pw_below_drewN | apply below_drew1) | exact HB.out)) hb); clear HB; have HB := n0_; clear n0_; (try clear hb); (try clear hb2); (try clear hk); (try clear hi); (try simp only [errW_none, errW_some])))
    go_ret
    exact ⟨by first | rfl | (simp [errW_none, errW_some] <;> rfl) | (simp [*, errW_none, errW_some] <;> rfl), by repeat (first | (with_reducible first | exact HB.out | apply below_alloc | apply pw_below_drewN | apply below_drew1) | exact HB.out)⟩
  · have H1 : (some false) = some r := by rw [if_neg (show ¬ (some q830).isNone = true by simp)] at H; exact H
    clear H
    have H := H1
    clear H1
    try simp only [errW_none, errW_some]
    obtain rfl := Option.some.inj H
    go_enter Tryd.func48, Tryd.ntmps48
    go_wp2_with (first | ((with_reducible refine gate_callee (f := 42) rfl ?_); refine goesL_ (some 5) rfl rfl Tryd.func42 (by kernel_rfl) rfl #[.agg #[.int .i64 1, .int .i64 0, .int .i64 0, .slice none 0 0]] rfl (by (try simp only [List.map_toArray, List.map_cons, List.map_nil]); first | done | rfl | (simp only [List.length_drop, List.length_take]; rfl)) ?_; (refine (gen_Count.calls k 1 0 0 _ _ ([] : List (S63)) t828 (some q830) _ ?side1 ?side2 A1.out).mono ?_); (case side1 => exact Kd.C_nil _ _); (case side2 => exact Nat.le_refl _); rintro e w3 ⟨rfl, hb⟩; refine ⟨_, rfl, ?_⟩; have n0_ := Aside0.mk (below_step (by repeat (first | (with_reducible first | exact HB.out | apply below_alloc | apply pw_below_drewN | apply below_drew1) | exact HB.out)) hb); clear HB; have HB := n0_; clear n0_; (try clear hb); (try clear hb2); (try clear hk); (try clear hi); (try simp only [errW_none, errW_some])))
    go_ret
    exact ⟨by first | rfl | (simp [errW_none, errW_some] <;> rfl) | (simp [*, errW_none, errW_some] <;> rfl), by repeat (first | (with_reducible first | exact HB.out | apply below_alloc | apply pw_below_drewN | apply below_drew1) | exact HB.out)⟩

end Go.Proofs.YtgdomnlkafcddaaDoor.Q
