/- Part 4 of the proof for RoseOwn: contracts of functions, step by step over the code; The plain law of replaying: of a right generator whatever numbers are replayed or told to be wrong. rose.Less's first closure (function 73): numbers are mended; what comes of them is taken if it is less. DERIVED: THE SHELF's CONTRACTS AT THIS DUMP, IN PLAIN WORDS (tools/lay-plain.mjs out of 'TrydMore3.lean', which tools/lay-shelf.mjs wrote): THE SAME DECLARATIONS UNDER THE SAME NAMES: 'import', 'namespace', 'open', 'def', 'theorem' AND NOTHING ELSE: no command of the shelf's: FOR A HAND-IN. Each laying: the table of numbers ('.._ren') and one theorem, a field a fact of the dump's own or the kernel's comparison; each contract: ONE APPLICATION. slices.Clone at []int (function 75), by the shelf. rose.Less's second closure (function 74): a copy with one number in another's place. slices.Delete at []int (function 76), of a row of the call's own, by the shelf. rose.Less (function 33): what it tells, by its closures' contracts. The plain law of lesser tapes: rose.Less answers, whatever the generator and the numbers; what it tells is mended and less. errors.As at a target of type *api.Errno, by Go's own text: an error that is an Errno is found at once. After the guide's worked text ToyasAs. plain.Told: 0 of nil, of an Errno its number; it only makes memory. Plain laws of the statements' own helpers: lists copied, compared, spoiled; errors compared. RoseOwn (function 7): the walk, where all is as the plain law has it. RoseOwn's plain law: all is as the walk has it, whatever the generator, the tape and the number.. -/
import Derived.Test.YtgdomnlkafcddaaDoorRoseOwnT3
import Derived.Test.YtgdomnlkafcddaaDoorRoseOwnT1
import Derived.Test.YtgdomnlkafcddaaDoorRoseOwnT2
import Derived.Shelf.Slices.Clone
import Derived.Shelf.Slices.Delete
import Derived.Test.YtgdomnlkafcddaaDoorProg
import Derived.WalkKit
import Derived.LaidEql
import Derived.Stop.Asserts
import Derived.RowKitTokens
import Derived.WalkSpells
namespace Go.Proofs.YtgdomnlkafcddaaDoor.Q
open Go.RowKit Go.Proofs.YtgdomnlkafcddaaDoorW.PrintWords Go.Proofs.YtgdomnlkafcddaaDoorW.PrintLast Go.Proofs.YtgdomnlkafcddaaDoorW.PrintMore
set_option linter.unusedVariables false
set_option linter.unusedSimpArgs false
theorem play_step (T : List Int) (s : Nat) (hs : s ≤ T.length) (m : Int) : (∃ x, 0 ≤ x ∧ x ≤ m ∧ s < T.length ∧ playStp T s m = .ok (x, s + 1)) ∨ ∃ c, playStp T s m = .error c := by
  unfold playStp
  by_cases h1 : s = T.length
  · exact .inr ⟨5, by rw [if_pos h1]⟩
  rw [if_neg h1]
  by_cases h2 : rd T (s : Int) < 0
  · exact .inr ⟨1, by rw [if_pos h2]⟩
  rw [if_neg h2]
  by_cases h3 : m < rd T (s : Int)
  · exact .inr ⟨1, by rw [if_pos h3]⟩
  rw [if_neg h3]
  exact .inl ⟨_, by omega, by omega, by omega, rfl⟩
def PlayOk (n : Nat) (T : List Int) (x : S63) : Prop :=
  ∀ s : Nat, s ≤ T.length → ∃ k, (∃ v s', gen_made.f (playStp T) k s x.f0 x.f1 x.f2 x.f3 = some (.ok (v, s')) ∧ OKv n (val27 v) ∧ s' ≤ T.length) ∨ ∃ c, gen_made.f (playStp T) k s x.f0 x.f1 x.f2 x.f3 = some (.error c)
theorem play_loop0 (n : Nat) (T : List Int) (xs : List S63) (hl : xs.length ≤ 30) (ih : ∀ y ∈ xs, PlayOk n T y) :
    ∀ (j i : Nat), i + j = xs.length → ∀ (s : Nat) (acc : List S27), s ≤ T.length → acc.length = i → (∀ y ∈ acc, OKv n y) →
      ∃ k, (∃ acc' s', gen_made.l0 (playStp T) k s xs (xs.length : Int) (i : Int) true 0 acc = some (.ok ((true, 0, acc'), s')) ∧ acc'.length = xs.length ∧ (∀ y ∈ acc', OKv n y) ∧ s' ≤ T.length) ∨ ∃ c, gen_made.l0 (playStp T) k s xs (xs.length : Int) (i : Int) true 0 acc = some (.error c) := by
  intro j
  induction j with
  | zero =>
    intro i hi s acc hs ha hv
    have hlt : ¬ (i : Int) < (xs.length : Int) := by omega
    exact ⟨1, .inl ⟨acc, s, by simp [gen_made.l0, hlt], by omega, hv, hs⟩⟩
  | succ j ihj =>
    intro i hi s acc hs ha hv
    have hlt : (i : Int) < (xs.length : Int) := by omega
    have h0 : (0 : Int) ≤ (i : Int) := by omega
    have hi' : i < xs.length := by omega
    have hw3 : wrap64 ((i : Int) + 1) = ((i + 1 : Nat) : Int) := by rw [wrap64_id (by omega) (by omega)]; omega
    have hacc : acc.length < 3518437208883 := by omega
    obtain ⟨k1, ⟨v, s1, h1, hv1, hs1⟩ | ⟨c, h1⟩⟩ := ih xs[i] (List.getElem_mem hi') s hs
    · obtain ⟨k2, h2⟩ := ihj (i + 1) (by omega) s1 (acc ++ [val27 v]) hs1 (by simp [ha]) (by
        intro y hy
        rcases List.mem_append.1 hy with hy | hy
        · exact hv y hy
        · rw [List.mem_singleton.1 hy]; exact hv1)
      have e : ∀ r, gen_made.l0 (playStp T) k2 s1 xs (xs.length : Int) ((i + 1 : Nat) : Int) true 0 (acc ++ [val27 v]) = some r → gen_made.l0 (playStp T) (max k1 k2 + 1) s xs (xs.length : Int) (i : Int) true 0 acc = some r := by
        intro r hr
        simp only [gen_made.l0, if_pos hlt, if_pos h0, rd_T63_at hi', hw3]
        rw [gen_made.fle (Nat.le_max_left k1 k2) h1]
        simp only [obind, if_pos hacc]
        exact gen_made.le0 (Nat.le_max_right k1 k2) hr
      refine ⟨max k1 k2 + 1, ?_⟩
      rcases h2 with ⟨acc', s', h2, g⟩ | ⟨c, h2⟩
      · exact .inl ⟨acc', s', e _ h2, g⟩
      · exact .inr ⟨c, e _ h2⟩
    · refine ⟨k1 + 1, .inr ⟨c, ?_⟩⟩
      simp only [gen_made.l0, if_pos hlt, if_pos h0, rd_T63_at hi', hw3]
      rw [h1]
      rfl
theorem play_loop1 (n : Nat) (T : List Int) (xs : List S63) (hl : 0 < xs.length) (g0 g1 g2 : Int) (ih : PlayOk n T xs[0]) (c0 : Nat) (hc : c0 ≤ 30) :
    ∀ (j i : Nat), i + j = c0 → ∀ (s : Nat) (acc : List S27), s ≤ T.length → acc.length = i → (∀ y ∈ acc, OKv n y) →
      ∃ k, (∃ acc' s', gen_made.l1 (playStp T) k s (c0 : Int) (i : Int) g0 g1 g2 xs true 0 acc = some (.ok ((true, 0, acc'), s')) ∧ acc'.length = c0 ∧ (∀ y ∈ acc', OKv n y) ∧ s' ≤ T.length) ∨ ∃ c, gen_made.l1 (playStp T) k s (c0 : Int) (i : Int) g0 g1 g2 xs true 0 acc = some (.error c) := by
  intro j
  induction j with
  | zero =>
    intro i hi s acc hs ha hv
    have hlt : ¬ (i : Int) < (c0 : Int) := by omega
    exact ⟨1, .inl ⟨acc, s, by simp [gen_made.l1, hlt], by omega, hv, hs⟩⟩
  | succ j ihj =>
    intro i hi s acc hs ha hv
    have hlt : (i : Int) < (c0 : Int) := by omega
    have h0 : (0 : Int) < (xs.length : Int) := by omega
    have hr0 : rd_T63 xs 0 = xs[0] := by simpa using rd_T63_at (n := 0) hl
    have hw3 : wrap64 ((i : Int) + 1) = ((i + 1 : Nat) : Int) := by rw [wrap64_id (by omega) (by omega)]; omega
    have hacc : acc.length < 3518437208883 := by omega
    obtain ⟨k1, ⟨v, s1, h1, hv1, hs1⟩ | ⟨c, h1⟩⟩ := ih s hs
    · obtain ⟨k2, h2⟩ := ihj (i + 1) (by omega) s1 (acc ++ [val27 v]) hs1 (by simp [ha]) (by
        intro y hy
        rcases List.mem_append.1 hy with hy | hy
        · exact hv y hy
        · rw [List.mem_singleton.1 hy]; exact hv1)
      have e : ∀ r, gen_made.l1 (playStp T) k2 s1 (c0 : Int) ((i + 1 : Nat) : Int) g0 g1 g2 xs true 0 (acc ++ [val27 v]) = some r → gen_made.l1 (playStp T) (max k1 k2 + 1) s (c0 : Int) (i : Int) g0 g1 g2 xs true 0 acc = some r := by
        intro r hr
        simp only [gen_made.l1, if_pos hlt, if_pos h0, hr0, hw3]
        rw [gen_made.fle (Nat.le_max_left k1 k2) h1]
        simp only [obind, if_pos hacc]
        exact gen_made.le1 (Nat.le_max_right k1 k2) hr
      refine ⟨max k1 k2 + 1, ?_⟩
      rcases h2 with ⟨acc', s', h2, g⟩ | ⟨c, h2⟩
      · exact .inl ⟨acc', s', e _ h2, g⟩
      · exact .inr ⟨c, e _ h2⟩
    · refine ⟨k1 + 1, .inr ⟨c, ?_⟩⟩
      simp only [gen_made.l1, if_pos hlt, if_pos h0, hr0, hw3]
      rw [h1]
      rfl
theorem play_ok : ∀ (n : Nat) (T : List Int) (x : S63), OKg n x → PlayOk n T x := by
  intro n T
  induction n with
  | zero => intro x h; exact h.elim
  | succ n ihn =>
    intro x ⟨hl, hone, hsub⟩ s hs
    rcases hone with ⟨h1, h3, hA⟩ | ⟨h1, h3, hA⟩ | h1 | ⟨h1, hA, hA5, h3⟩ | ⟨h1, h3⟩
    · exact ⟨1, .inl ⟨(false, x.f1, []), s, by simp [gen_made.f, h1], ⟨by simp [val27], by simp [val27]; omega, by simp [val27]; omega, by simp [val27]⟩, hs⟩⟩
    · have hw : wrap64 (x.f2 - x.f1) = x.f2 - x.f1 := wrap64_id (by omega) (by omega)
      rcases play_step T s hs (x.f2 - x.f1) with ⟨c, c0, c1, hlt, hc⟩ | ⟨c, hc⟩
      · have hbd := wrap64_bnd (x.f1 + c)
        refine ⟨1, .inl ⟨(false, wrap64 (x.f1 + c), []), s + 1, ?_, ⟨by simp [val27], by simpa [val27] using hbd.1, by simpa [val27] using hbd.2, by simp [val27]⟩, hlt⟩⟩
        simp only [gen_made.f, h1, hw, if_true, show ¬ (2 : Int) = 1 by decide, if_false, ebind, obind, hc]
      · refine ⟨1, .inr ⟨c, ?_⟩⟩
        simp only [gen_made.f, h1, hw, if_true, show ¬ (2 : Int) = 1 by decide, if_false, ebind, obind, hc]
    · obtain ⟨k, h2⟩ := play_loop0 n T x.f3 hl (fun y hy => ihn y (hsub y hy)) x.f3.length 0 (by omega) s [] hs rfl (by simp)
      refine ⟨k + 1, ?_⟩
      simp only [gen_made.f, h1, show ¬ (3 : Int) = 1 by decide, show ¬ (3 : Int) = 2 by decide, if_false, if_true]
      rcases h2 with ⟨acc', s', h2, ha, hv, hs'⟩ | ⟨c, h2⟩
      · exact .inl ⟨(true, 0, acc'), s', h2, ⟨by simp [val27]; omega, by simp [val27], by simp [val27], by simpa [val27] using hv⟩, hs'⟩
      · exact .inr ⟨c, h2⟩
    · have h3' : 0 < x.f3.length := by omega
      rcases play_step T s hs x.f1 with ⟨c, c0, c1, hlt, hc⟩ | ⟨c, hc⟩
      · obtain ⟨cn, rfl⟩ := Int.eq_ofNat_of_zero_le c0
        obtain ⟨k, h2⟩ := play_loop1 n T x.f3 h3' 4 x.f1 x.f2 (ihn _ (hsub _ (List.getElem_mem h3'))) cn (by omega) cn 0 (by omega) (s + 1) [] hlt rfl (by simp)
        refine ⟨k + 1, ?_⟩
        simp only [gen_made.f, h1, show ¬ (4 : Int) = 1 by decide, show ¬ (4 : Int) = 2 by decide, show ¬ (4 : Int) = 3 by decide, if_false, if_true, ebind, obind, hc]
        rcases h2 with ⟨acc', s', h2, ha, hv, hs'⟩ | ⟨c, h2⟩
        · exact .inl ⟨(true, 0, acc'), s', h2, ⟨by simp [val27]; omega, by simp [val27], by simp [val27], by simpa [val27] using hv⟩, hs'⟩
        · exact .inr ⟨c, h2⟩
      · refine ⟨1, .inr ⟨c, ?_⟩⟩
        simp only [gen_made.f, h1, show ¬ (4 : Int) = 1 by decide, show ¬ (4 : Int) = 2 by decide, show ¬ (4 : Int) = 3 by decide, if_false, if_true, ebind, obind, hc]
    · have hw : wrap64 ((x.f3.length : Int) - 1) = (x.f3.length : Int) - 1 := wrap64_id (by omega) (by omega)
      rcases play_step T s hs ((x.f3.length : Int) - 1) with ⟨c, c0, c1, hlt, hc⟩ | ⟨c, hc⟩
      · obtain ⟨cn, rfl⟩ := Int.eq_ofNat_of_zero_le c0
        have hcn : cn < x.f3.length := by omega
        have hci : ((cn : Nat) : Int) < (x.f3.length : Int) := by omega
        obtain ⟨k, h2⟩ := ihn _ (hsub _ (List.getElem_mem hcn)) (s + 1) hlt
        refine ⟨k + 1, ?_⟩
        simp only [gen_made.f, h1, hw, show ¬ (5 : Int) = 1 by decide, show ¬ (5 : Int) = 2 by decide, show ¬ (5 : Int) = 3 by decide, show ¬ (5 : Int) = 4 by decide, if_false, if_true, ebind, obind, hc, if_pos c0, if_pos hci, rd_T63_at hcn]
        rcases h2 with ⟨v, s', h2, hv, hs'⟩ | ⟨c, h2⟩
        · rw [h2]
          exact .inl ⟨v, s', rfl, OKv.succ n _ hv, hs'⟩
        · rw [h2]
          exact .inr ⟨c, rfl⟩
      · refine ⟨1, .inr ⟨c, ?_⟩⟩
        simp only [gen_made.f, h1, hw, show ¬ (5 : Int) = 1 by decide, show ¬ (5 : Int) = 2 by decide, show ¬ (5 : Int) = 3 by decide, show ¬ (5 : Int) = 4 by decide, if_false, if_true, ebind, obind, hc]
/-- Replay answers, whatever the generator and the numbers. -/
theorem replay_halts (x : S63) (T : List Int) (hT : T.length < 4611686018427387904) : ∃ b n xs e, gen_Replay.f x.f0 x.f1 x.f2 x.f3 T = some (b, n, xs, e) ∧ OKv 6 ⟨b, n, xs⟩ := by
  have hz : OKv 6 (⟨false, 0, []⟩ : S27) := ⟨by simp, by simp, by simp, by simp⟩
  obtain ⟨k, e, hk, he⟩ := check_halts x
  cases e with
  | some c =>
    refine ⟨false, 0, [], some c, Olim_of (fun k => gen_Replay.gmono _ _ _ _ _ k) (k := k) ?_, hz⟩
    unfold gen_Replay.g
    rw [hk]
    rfl
  | none =>
    obtain ⟨k2, h2⟩ := play_ok 6 T x (he rfl) 0 (Nat.zero_le _)
    rcases h2 with ⟨v, s', h2, hv, hs'⟩ | ⟨c, h2⟩
    · obtain ⟨v1, v2, v3⟩ := v
      by_cases hlt : (s' : Int) < (T.length : Int)
      · refine ⟨false, 0, [], some 3, Olim_of (fun k => gen_Replay.gmono _ _ _ _ _ k) (k := max k k2) ?_, hz⟩
        unfold gen_Replay.g
        rw [gen_Check.fle (Nat.le_max_left k k2) hk]
        simp only [Option.bind_some]
        rw [if_pos hT, gen_made.fle (Nat.le_max_right k k2) h2]
        simp only [if_pos hlt]
      · refine ⟨v1, v2, v3, none, Olim_of (fun k => gen_Replay.gmono _ _ _ _ _ k) (k := max k k2) ?_, hv⟩
        unfold gen_Replay.g
        rw [gen_Check.fle (Nat.le_max_left k k2) hk]
        simp only [Option.bind_some]
        rw [if_pos hT, gen_made.fle (Nat.le_max_right k k2) h2]
        simp only [if_neg hlt]
    · refine ⟨false, 0, [], some c, Olim_of (fun k => gen_Replay.gmono _ _ _ _ _ k) (k := max k k2) ?_, hz⟩
      unfold gen_Replay.g
      rw [gen_Check.fle (Nat.le_max_left k k2) hk]
      simp only [Option.bind_some]
      rw [if_pos hT, gen_made.fle (Nat.le_max_right k k2) h2]
end Go.Proofs.YtgdomnlkafcddaaDoor.Q
namespace Go.Proofs.YtgdomnlkafcddaaDoor.Q
open Go.RowKit Go.Proofs.YtgdomnlkafcddaaDoorW.PrintWords Go.Proofs.YtgdomnlkafcddaaDoorW.PrintLast Go.Proofs.YtgdomnlkafcddaaDoorW.PrintMore
attribute [local go_sem] max2_int min2_int max_two min_two max_three min_three max_four min_four   -- for this text's walks alone
set_option linter.unusedVariables false
set_option linter.unusedSimpArgs false

/-! ### cmp_isNaN_int: function 173 -/
def cmp_isNaN_int.f (a0 : Int) : Option (Bool) := some (a0 != a0)
set_option maxHeartbeats 8000000 in
set_option maxRecDepth 100000 in
theorem cmp_isNaN_int.calls (a0 : Int) (r : Bool) (w : World) (h : cmp_isNaN_int.f a0 = some r) :
    Calls Tryd.prog 173 #[.int .i64 a0] w fun e w' => e = .returned (.bool r) ∧ Drawn0 w w' := by
  have H : (some (a0 != a0)) = some r := h
  clear h
  obtain rfl := Option.some.inj H
  go_enter Tryd.func173, Tryd.ntmps173
  go_wp2
  go_ret
  exact ⟨by first | rfl | (simp; done) | (simp [*]; done), by repeat (first | exact Drawn0.refl _ | apply Drawn0.step)⟩

end Go.Proofs.YtgdomnlkafcddaaDoor.Q
namespace Go.Proofs.YtgdomnlkafcddaaDoor.Q
open Go.RowKit Go.Proofs.YtgdomnlkafcddaaDoorW.PrintWords Go.Proofs.YtgdomnlkafcddaaDoorW.PrintLast Go.Proofs.YtgdomnlkafcddaaDoorW.PrintMore
attribute [local go_sem] max2_int min2_int max_two min_two max_three min_three max_four min_four   -- for this text's walks alone
set_option linter.unusedVariables false
set_option linter.unusedSimpArgs false

/-! ### cmp_Compare_int: function 145 -/
def cmp_Compare_int.f (a0 : Int) (a1 : Int) : Option (Int) := (cmp_isNaN_int.f a0).bind fun t180 => ((cmp_isNaN_int.f a1).bind fun t181 => (if t180 = true then (if t181 = true then (some 0) else (some (-1))) else (if t181 = true then (some 1) else (if a0 < a1 then (some (-1)) else (if a0 > a1 then (some 1) else (some 0))))))
set_option maxHeartbeats 8000000 in
set_option maxRecDepth 100000 in
theorem cmp_Compare_int.calls (a0 : Int) (a1 : Int) (r : Int) (w : World) (h : cmp_Compare_int.f a0 a1 = some r) :
    Calls Tryd.prog 145 #[.int .i64 a0, .int .i64 a1] w fun e w' => e = .returned (.int .i64 r) ∧ Drawn0 w w' := by
  have H : ((cmp_isNaN_int.f a0).bind fun t180 => ((cmp_isNaN_int.f a1).bind fun t181 => (if t180 = true then (if t181 = true then (some 0) else (some (-1))) else (if t181 = true then (some 1) else (if a0 < a1 then (some (-1)) else (if a0 > a1 then (some 1) else (some 0))))))) = some r := h
  clear h
  replace H := Option.bind_eq_some_iff.mp H
  obtain ⟨t180, A30, H⟩ := H
  replace H : ((cmp_isNaN_int.f a1).bind fun t181 => (if t180 = true then (if t181 = true then (some 0) else (some (-1))) else (if t181 = true then (some 1) else (if a0 < a1 then (some (-1)) else (if a0 > a1 then (some 1) else (some 0)))))) = some r := H
  have A3 := Aside0.mk A30
  clear A30
  replace H := Option.bind_eq_some_iff.mp H
  obtain ⟨t181, A40, H⟩ := H
  replace H : (if t180 = true then (if t181 = true then (some 0) else (some (-1))) else (if t181 = true then (some 1) else (if a0 < a1 then (some (-1)) else (if a0 > a1 then (some 1) else (some 0))))) = some r := H
  have A4 := Aside0.mk A40
  clear A40
  by_cases c5 : t180 = true
  · subst c5
    have H1 : (if t181 = true then (some 0) else (some (-1))) = some r := by rw [if_pos rfl] at H; exact H
    clear H
    have H := H1
    clear H1
    by_cases c6 : t181 = true
    · subst c6
      have H1 : (some 0) = some r := by rw [if_pos rfl] at H; exact H
      clear H
      have H := H1
      clear H1
      obtain rfl := Option.some.inj H
      go_enter Tryd.func145, Tryd.ntmps145
      go_wp2_with (first | ((with_reducible refine gate_callee (f := 173) rfl ?_); refine goesL_ (some 8) rfl rfl Tryd.func173 (by kernel_rfl) rfl #[.int .i64 a0] rfl (by (try simp only [List.map_toArray, List.map_cons, List.map_nil]); first | done | rfl | (simp only [List.length_drop, List.length_take]; rfl)) ?_; (with_reducible refine (cmp_isNaN_int.calls a0 true _ A3.out).mono ?_); rintro e w' ⟨rfl, ⟨nd, rfl⟩⟩; refine ⟨_, rfl, ?_⟩) | ((with_reducible refine gate_callee (f := 173) rfl ?_); refine goesL_ (some 10) rfl rfl Tryd.func173 (by kernel_rfl) rfl #[.int .i64 a1] rfl (by (try simp only [List.map_toArray, List.map_cons, List.map_nil]); first | done | rfl | (simp only [List.length_drop, List.length_take]; rfl)) ?_; (with_reducible refine (cmp_isNaN_int.calls a1 true _ A4.out).mono ?_); rintro e w' ⟨rfl, ⟨nd, rfl⟩⟩; refine ⟨_, rfl, ?_⟩))
      go_ret
      exact ⟨by first | rfl | (simp; done) | (simp [*]; done), by repeat (first | exact Drawn0.refl _ | apply Drawn0.step)⟩
    · replace c6 := Bool.eq_false_iff.mpr c6
      subst c6
      have H1 : (some (-1)) = some r := by rw [if_neg (show ¬ (false = true) by decide)] at H; exact H
      clear H
      have H := H1
      clear H1
      obtain rfl := Option.some.inj H
      go_enter Tryd.func145, Tryd.ntmps145
      go_wp2_with (first | ((with_reducible refine gate_callee (f := 173) rfl ?_); refine goesL_ (some 8) rfl rfl Tryd.func173 (by kernel_rfl) rfl #[.int .i64 a0] rfl (by (try simp only [List.map_toArray, List.map_cons, List.map_nil]); first | done | rfl | (simp only [List.length_drop, List.length_take]; rfl)) ?_; (with_reducible refine (cmp_isNaN_int.calls a0 true _ A3.out).mono ?_); rintro e w' ⟨rfl, ⟨nd, rfl⟩⟩; refine ⟨_, rfl, ?_⟩) | ((with_reducible refine gate_callee (f := 173) rfl ?_); refine goesL_ (some 10) rfl rfl Tryd.func173 (by kernel_rfl) rfl #[.int .i64 a1] rfl (by (try simp only [List.map_toArray, List.map_cons, List.map_nil]); first | done | rfl | (simp only [List.length_drop, List.length_take]; rfl)) ?_; (with_reducible refine (cmp_isNaN_int.calls a1 false _ A4.out).mono ?_); rintro e w' ⟨rfl, ⟨nd, rfl⟩⟩; refine ⟨_, rfl, ?_⟩))
      go_ret
      exact ⟨by first | rfl | (simp; done) | (simp [*]; done), by repeat (first | exact Drawn0.refl _ | apply Drawn0.step)⟩
  · replace c5 := Bool.eq_false_iff.mpr c5
    subst c5
    have H1 : (if t181 = true then (some 1) else (if a0 < a1 then (some (-1)) else (if a0 > a1 then (some 1) else (some 0)))) = some r := by rw [if_neg (show ¬ (false = true) by decide)] at H; exact H
    clear H
    have H := H1
    clear H1
    by_cases c7 : t181 = true
    · subst c7
      have H1 : (some 1) = some r := by rw [if_pos rfl] at H; exact H
      clear H
      have H := H1
      clear H1
      obtain rfl := Option.some.inj H
      go_enter Tryd.func145, Tryd.ntmps145
      go_wp2_with (first | ((with_reducible refine gate_callee (f := 173) rfl ?_); refine goesL_ (some 8) rfl rfl Tryd.func173 (by kernel_rfl) rfl #[.int .i64 a0] rfl (by (try simp only [List.map_toArray, List.map_cons, List.map_nil]); first | done | rfl | (simp only [List.length_drop, List.length_take]; rfl)) ?_; (with_reducible refine (cmp_isNaN_int.calls a0 false _ A3.out).mono ?_); rintro e w' ⟨rfl, ⟨nd, rfl⟩⟩; refine ⟨_, rfl, ?_⟩) | ((with_reducible refine gate_callee (f := 173) rfl ?_); refine goesL_ (some 10) rfl rfl Tryd.func173 (by kernel_rfl) rfl #[.int .i64 a1] rfl (by (try simp only [List.map_toArray, List.map_cons, List.map_nil]); first | done | rfl | (simp only [List.length_drop, List.length_take]; rfl)) ?_; (with_reducible refine (cmp_isNaN_int.calls a1 true _ A4.out).mono ?_); rintro e w' ⟨rfl, ⟨nd, rfl⟩⟩; refine ⟨_, rfl, ?_⟩))
      go_ret
      exact ⟨by first | rfl | (simp; done) | (simp [*]; done), by repeat (first | exact Drawn0.refl _ | apply Drawn0.step)⟩
    · replace c7 := Bool.eq_false_iff.mpr c7
      subst c7
      have H1 : (if a0 < a1 then (some (-1)) else (if a0 > a1 then (some 1) else (some 0))) = some r := by rw [if_neg (show ¬ (false = true) by decide)] at H; exact H
      clear H
      have H := H1
      clear H1
      by_cases c8 : a0 < a1
      · rw [if_pos c8] at H
        have c8b0 : decide (a0 < a1) = true := decide_eq_true c8
        clear c8
        obtain rfl := Option.some.inj H
        go_enter Tryd.func145, Tryd.ntmps145
        go_wp2_with (first | ((with_reducible refine gate_callee (f := 173) rfl ?_); refine goesL_ (some 8) rfl rfl Tryd.func173 (by kernel_rfl) rfl #[.int .i64 a0] rfl (by (try simp only [List.map_toArray, List.map_cons, List.map_nil]); first | done | rfl | (simp only [List.length_drop, List.length_take]; rfl)) ?_; (with_reducible refine (cmp_isNaN_int.calls a0 false _ A3.out).mono ?_); rintro e w' ⟨rfl, ⟨nd, rfl⟩⟩; refine ⟨_, rfl, ?_⟩) | ((with_reducible refine gate_callee (f := 173) rfl ?_); refine goesL_ (some 10) rfl rfl Tryd.func173 (by kernel_rfl) rfl #[.int .i64 a1] rfl (by (try simp only [List.map_toArray, List.map_cons, List.map_nil]); first | done | rfl | (simp only [List.length_drop, List.length_take]; rfl)) ?_; (with_reducible refine (cmp_isNaN_int.calls a1 false _ A4.out).mono ?_); rintro e w' ⟨rfl, ⟨nd, rfl⟩⟩; refine ⟨_, rfl, ?_⟩))
        go_ret
        exact ⟨by first | rfl | (simp; done) | (simp [*]; done), by repeat (first | exact Drawn0.refl _ | apply Drawn0.step)⟩
      · rw [if_neg c8] at H
        have c8b0 : decide (a0 < a1) = false := decide_eq_false c8
        clear c8
        by_cases c9 : a0 > a1
        · rw [if_pos c9] at H
          have c9b0 : decide (a1 < a0) = true := decide_eq_true c9
          clear c9
          obtain rfl := Option.some.inj H
          go_enter Tryd.func145, Tryd.ntmps145
          go_wp2_with (first | ((with_reducible refine gate_callee (f := 173) rfl ?_); refine goesL_ (some 8) rfl rfl Tryd.func173 (by kernel_rfl) rfl #[.int .i64 a0] rfl (by (try simp only [List.map_toArray, List.map_cons, List.map_nil]); first | done | rfl | (simp only [List.length_drop, List.length_take]; rfl)) ?_; (with_reducible refine (cmp_isNaN_int.calls a0 false _ A3.out).mono ?_); rintro e w' ⟨rfl, ⟨nd, rfl⟩⟩; refine ⟨_, rfl, ?_⟩) | ((with_reducible refine gate_callee (f := 173) rfl ?_); refine goesL_ (some 10) rfl rfl Tryd.func173 (by kernel_rfl) rfl #[.int .i64 a1] rfl (by (try simp only [List.map_toArray, List.map_cons, List.map_nil]); first | done | rfl | (simp only [List.length_drop, List.length_take]; rfl)) ?_; (with_reducible refine (cmp_isNaN_int.calls a1 false _ A4.out).mono ?_); rintro e w' ⟨rfl, ⟨nd, rfl⟩⟩; refine ⟨_, rfl, ?_⟩))
          go_ret
          exact ⟨by first | rfl | (simp; done) | (simp [*]; done), by repeat (first | exact Drawn0.refl _ | apply Drawn0.step)⟩
        · rw [if_neg c9] at H
          have c9b0 : decide (a1 < a0) = false := decide_eq_false c9
          clear c9
          obtain rfl := Option.some.inj H
          go_enter Tryd.func145, Tryd.ntmps145
          go_wp2_with (first | ((with_reducible refine gate_callee (f := 173) rfl ?_); refine goesL_ (some 8) rfl rfl Tryd.func173 (by kernel_rfl) rfl #[.int .i64 a0] rfl (by (try simp only [List.map_toArray, List.map_cons, List.map_nil]); first | done | rfl | (simp only [List.length_drop, List.length_take]; rfl)) ?_; (with_reducible refine (cmp_isNaN_int.calls a0 false _ A3.out).mono ?_); rintro e w' ⟨rfl, ⟨nd, rfl⟩⟩; refine ⟨_, rfl, ?_⟩) | ((with_reducible refine gate_callee (f := 173) rfl ?_); refine goesL_ (some 10) rfl rfl Tryd.func173 (by kernel_rfl) rfl #[.int .i64 a1] rfl (by (try simp only [List.map_toArray, List.map_cons, List.map_nil]); first | done | rfl | (simp only [List.length_drop, List.length_take]; rfl)) ?_; (with_reducible refine (cmp_isNaN_int.calls a1 false _ A4.out).mono ?_); rintro e w' ⟨rfl, ⟨nd, rfl⟩⟩; refine ⟨_, rfl, ?_⟩))
          go_ret
          exact ⟨by first | rfl | (simp; done) | (simp [*]; done), by repeat (first | exact Drawn0.refl _ | apply Drawn0.step)⟩

end Go.Proofs.YtgdomnlkafcddaaDoor.Q
namespace Go.Proofs.YtgdomnlkafcddaaDoor.Q
open Go.RowKit Go.Proofs.YtgdomnlkafcddaaDoorW.PrintWords Go.Proofs.YtgdomnlkafcddaaDoorW.PrintLast Go.Proofs.YtgdomnlkafcddaaDoorW.PrintMore
attribute [local go_sem] max2_int min2_int max_two min_two max_three min_three max_four min_four   -- for this text's walks alone
set_option linter.unusedVariables false
set_option linter.unusedSimpArgs false

/-! ### slices_Compare_int_int: function 115 -/
def slices_Compare_int_int.l0 : Nat → List Int → List Int → List Int → Int → Int → Option (Int)
  | 0, _, _, _, _, _ => none
  | k + 1, x0, x1, x9, x10, x11 => if x11 < x10 then (if 0 ≤ x11 then (if x11 < (x9.length : Int) then (if x11 ≥ (x1.length : Int) then (some 1) else (if x11 < (x1.length : Int) then ((cmp_Compare_int.f (rd x9 x11) (rd x1 x11)).bind fun t184 => (if t184 = 0 then (slices_Compare_int_int.l0 k x0 x1 x9 x10 (wrap64 (x11 + 1))) else (some t184))) else (none))) else (none)) else (none)) else (if (x0.length : Int) < (x1.length : Int) then (some (-1)) else (some 0))
def slices_Compare_int_int.f (k : Nat) (l0 : List Int) (l1 : List Int) : Option (Int) := slices_Compare_int_int.l0 k l0 l1 l0 (l0.length : Int) 0
theorem slices_Compare_int_int.mono_l : ∀ k, (∀ y0 y1 y2 y3 y4, LeO (slices_Compare_int_int.l0 k y0 y1 y2 y3 y4) (slices_Compare_int_int.l0 (k + 1) y0 y1 y2 y3 y4))
  | 0 => fun _ _ _ _ _ r h => by simp [slices_Compare_int_int.l0] at h
  | k + 1 => by
    have ih0 := slices_Compare_int_int.mono_l k
    · intro y0 y1 y2 y3 y4
      unfold slices_Compare_int_int.l0
      repeat' first
      | (with_reducible exact ih0 _ _ _ _ _)
      | (with_reducible exact LeO.refl _)
      | (with_reducible exact LeO.none _)
      | (with_reducible refine LeO.ite ?_ ?_)
      | (with_reducible refine LeO.bind ?_ (fun _ => ?_))
      | exact ih0 _ _ _ _ _
      | exact LeO.none _
      | refine LeO.ite ?_ ?_
      | refine LeO.bind ?_ (fun _ => ?_)
theorem slices_Compare_int_int.mono : ∀ a0 a1 k, LeO (slices_Compare_int_int.f k a0 a1) (slices_Compare_int_int.f (k + 1) a0 a1) := by
  intro a0 a1 k
  have ih0 := slices_Compare_int_int.mono_l k
  unfold slices_Compare_int_int.f
  repeat' first
      | (with_reducible exact ih0 _ _ _ _ _)
      | (with_reducible exact LeO.refl _)
      | (with_reducible exact LeO.none _)
      | (with_reducible refine LeO.ite ?_ ?_)
      | (with_reducible refine LeO.bind ?_ (fun _ => ?_))
      | exact ih0 _ _ _ _ _
      | exact LeO.none _
      | refine LeO.ite ?_ ?_
      | refine LeO.bind ?_ (fun _ => ?_)
set_option maxHeartbeats 8000000 in
set_option maxRecDepth 100000 in
theorem slices_Compare_int_int.calls (k : Nat) (A0 : Option Addr) (c0 : Nat) (l0 : List Int) (A1 : Option Addr) (c1 : Nat) (l1 : List Int) (r : Int) (w : World) (hr0 : Kd.C (Kd.int .i64) w A0 l0.length l0) (hc0 : l0.length ≤ c0) (hr1 : Kd.C (Kd.int .i64) w A1 l1.length l1) (hc1 : l1.length ≤ c1) (h : slices_Compare_int_int.f k l0 l1 = some r) :
    Calls Tryd.prog 115 #[.slice A0 l0.length c0, .slice A1 l1.length c1] w fun e w' => e = .returned (.int .i64 r) ∧ Drawn0 w w' := by
  have HR0 := Aside0.mk hr0
  have HC0 := Aside0.mk hc0
  clear hr0 hc0
  have HR1 := Aside0.mk hr1
  have HC1 := Aside0.mk hc1
  clear hr1 hc1
  have H : (slices_Compare_int_int.l0 k l0 l1 l0 (l0.length : Int) 0) = some r := h
  clear h
  have H' := Aside0.mk H
  clear H
  go_enter Tryd.func115, Tryd.ntmps115
  go_wp2
  go_loopg [11] k (fun kq v11 w' => ∃ (x11_1 : Int), v11 = .int .i64 x11_1 ∧ Aside0 (slices_Compare_int_int.l0 kq l0 l1 l0 (l0.length : Int) x11_1 = some r) ∧ Aside0 (kq ≤ k) ∧ Drawn0 w w')
  case atStart => exact ⟨(0), (by first | rfl | (simp; done) | (simp [*]; done)), H', ⟨Nat.le_refl _⟩, by repeat (first | exact Drawn0.refl _ | apply Drawn0.step)⟩
  case round =>
    clear H'
    try clear c1
    try clear p2
    obtain ⟨x11_1, rfl, HA, HK1, ⟨m1, rfl⟩⟩ := hrel
    cases gk with
    | zero => exact absurd HA.out (by simp [slices_Compare_int_int.l0])
    | succ k1 =>
      have H := HA.out
      clear HA
      simp only [slices_Compare_int_int.l0] at H
      by_cases c3 : x11_1 < (l0.length : Int)
      · rw [if_pos c3] at H
        have c3b0 : decide (x11_1 < (l0.length : Int)) = true := decide_eq_true c3
        clear c3
        by_cases c4 : 0 ≤ x11_1
        · rw [if_pos c4] at H
          have c4b0 : decide (0 ≤ x11_1) = true := decide_eq_true c4
          clear c4
          by_cases c5 : x11_1 < (l0.length : Int)
          · rw [if_pos c5] at H
            have c5b0 : decide (x11_1 < (l0.length : Int)) = true := decide_eq_true c5
            clear c5
            by_cases c6 : x11_1 ≥ (l1.length : Int)
            · rw [if_pos c6] at H
              have c6b0 : decide ((l1.length : Int) ≤ x11_1) = true := decide_eq_true c6
              clear c6
              obtain rfl := Option.some.inj H
              have p182 : 0 ≤ (x11_1 : Int) := of_decide_eq_true (by first | (with_reducible assumption) | assumption)
              have q182 : x11_1 < (l0.length : Int) := of_decide_eq_true (by first | (with_reducible assumption) | assumption)
              obtain ⟨ad182, e182, hx182_0⟩ := Kd.at_int HR0.out x11_1 p182 q182
              cases e182
              replace p182 := eq_true p182
              replace q182 := eq_true q182
              go_wp2
              go_ret
              exact ⟨by first | rfl | (simp; done) | (simp [*]; done), by repeat (first | exact Drawn0.refl _ | apply Drawn0.step)⟩
            · rw [if_neg c6] at H
              have c6b0 : decide ((l1.length : Int) ≤ x11_1) = false := decide_eq_false c6
              clear c6
              by_cases c7 : x11_1 < (l1.length : Int)
              · rw [if_pos c7] at H
                have c7b0 : decide (x11_1 < (l1.length : Int)) = true := decide_eq_true c7
                clear c7
                replace H := Option.bind_eq_some_iff.mp H
                obtain ⟨t184, A80, H⟩ := H
                replace H : (if t184 = 0 then (slices_Compare_int_int.l0 k1 l0 l1 l0 (l0.length : Int) (wrap64 (x11_1 + 1))) else (some t184)) = some r := H
                have A8 := Aside0.mk A80
                clear A80
                by_cases c9 : t184 = 0
                · rw [if_pos c9] at H
                  have c9b0 : (t184 == 0) = true := beq_iff_eq.mpr c9
                  have c9b1 : (t184 != 0) = false := bne_eq_false_iff_eq.mpr c9
                  clear c9
                  have H' := Aside0.mk H
                  clear H
                  have p182 : 0 ≤ (x11_1 : Int) := of_decide_eq_true (by first | (with_reducible assumption) | assumption)
                  have q182 : x11_1 < (l0.length : Int) := of_decide_eq_true (by first | (with_reducible assumption) | assumption)
                  obtain ⟨ad182, e182, hx182_0⟩ := Kd.at_int HR0.out x11_1 p182 q182
                  cases e182
                  replace p182 := eq_true p182
                  replace q182 := eq_true q182
                  have p183 : 0 ≤ (x11_1 : Int) := of_decide_eq_true (by first | (with_reducible assumption) | assumption)
                  have q183 : x11_1 < (l1.length : Int) := of_decide_eq_true (by first | (with_reducible assumption) | assumption)
                  obtain ⟨ad183, e183, hx183_0⟩ := Kd.at_int HR1.out x11_1 p183 q183
                  cases e183
                  replace p183 := eq_true p183
                  replace q183 := eq_true q183
                  go_wp2_with (first | ((with_reducible refine gate_callee (f := 145) rfl ?_); refine goesL_ (some 26) rfl rfl Tryd.func145 (by kernel_rfl) rfl #[.int .i64 (rd l0 x11_1), .int .i64 (rd l1 x11_1)] rfl (by (try simp only [List.map_toArray, List.map_cons, List.map_nil]); first | done | rfl | (simp only [List.length_drop, List.length_take]; rfl)) ?_; (with_reducible refine (cmp_Compare_int.calls (rd l0 x11_1) (rd l1 x11_1) t184 _ A8.out).mono ?_); rintro e w' ⟨rfl, ⟨nd, rfl⟩⟩; refine ⟨_, rfl, ?_⟩))
                  go_roundg k1
                  case measure => have := HK1.out; omega
                  case rel => exact ⟨(wrap64 (x11_1 + 1)), (by first | rfl | (simp; done) | (simp [*]; done)), H', ⟨by have := HK1.out; omega⟩, by repeat (first | exact Drawn0.refl _ | apply Drawn0.step)⟩
                · rw [if_neg c9] at H
                  have c9b0 : (t184 == 0) = false := beq_eq_false_iff_ne.mpr c9
                  have c9b1 : (t184 != 0) = true := bne_iff_ne.mpr c9
                  obtain rfl := Option.some.inj H
                  have p182 : 0 ≤ (x11_1 : Int) := of_decide_eq_true (by first | (with_reducible assumption) | assumption)
                  have q182 : x11_1 < (l0.length : Int) := of_decide_eq_true (by first | (with_reducible assumption) | assumption)
                  obtain ⟨ad182, e182, hx182_0⟩ := Kd.at_int HR0.out x11_1 p182 q182
                  cases e182
                  replace p182 := eq_true p182
                  replace q182 := eq_true q182
                  have p183 : 0 ≤ (x11_1 : Int) := of_decide_eq_true (by first | (with_reducible assumption) | assumption)
                  have q183 : x11_1 < (l1.length : Int) := of_decide_eq_true (by first | (with_reducible assumption) | assumption)
                  obtain ⟨ad183, e183, hx183_0⟩ := Kd.at_int HR1.out x11_1 p183 q183
                  cases e183
                  replace p183 := eq_true p183
                  replace q183 := eq_true q183
                  go_wp2_with (first | ((with_reducible refine gate_callee (f := 145) rfl ?_); refine goesL_ (some 26) rfl rfl Tryd.func145 (by kernel_rfl) rfl #[.int .i64 (rd l0 x11_1), .int .i64 (rd l1 x11_1)] rfl (by (try simp only [List.map_toArray, List.map_cons, List.map_nil]); first | done | rfl | (simp only [List.length_drop, List.length_take]; rfl)) ?_; (with_reducible refine (cmp_Compare_int.calls (rd l0 x11_1) (rd l1 x11_1) t184 _ A8.out).mono ?_); rintro e w' ⟨rfl, ⟨nd, rfl⟩⟩; refine ⟨_, rfl, ?_⟩))
                  go_ret
                  exact ⟨by first | rfl | (simp; done) | (simp [*]; done), by repeat (first | exact Drawn0.refl _ | apply Drawn0.step)⟩
              · rw [if_neg c7] at H
                exact absurd H (by simp)
          · rw [if_neg c5] at H
            exact absurd H (by simp)
        · rw [if_neg c4] at H
          exact absurd H (by simp)
      · rw [if_neg c3] at H
        have c3b0 : decide (x11_1 < (l0.length : Int)) = false := decide_eq_false c3
        clear c3
        by_cases c10 : (l0.length : Int) < (l1.length : Int)
        · rw [if_pos c10] at H
          have c10b0 : decide ((l0.length : Int) < (l1.length : Int)) = true := decide_eq_true c10
          have c10b1 : decide (l0.length < l1.length) = true := decide_eq_true (Int.ofNat_lt.mp c10)
          clear c10
          obtain rfl := Option.some.inj H
          go_wp2
          go_ret
          exact ⟨by first | rfl | (simp; done) | (simp [*]; done), by repeat (first | exact Drawn0.refl _ | apply Drawn0.step)⟩
        · rw [if_neg c10] at H
          have c10b0 : decide ((l0.length : Int) < (l1.length : Int)) = false := decide_eq_false c10
          have c10b1 : decide (l0.length < l1.length) = false := decide_eq_false (fun h => c10 (Int.ofNat_lt.mpr h))
          clear c10
          obtain rfl := Option.some.inj H
          go_wp2
          go_ret
          exact ⟨by first | rfl | (simp; done) | (simp [*]; done), by repeat (first | exact Drawn0.refl _ | apply Drawn0.step)⟩

end Go.Proofs.YtgdomnlkafcddaaDoor.Q
namespace Go.Proofs.YtgdomnlkafcddaaDoor.Q
open Go.RowKit Go.Proofs.YtgdomnlkafcddaaDoorW.PrintWords Go.Proofs.YtgdomnlkafcddaaDoorW.PrintLast Go.Proofs.YtgdomnlkafcddaaDoorW.PrintMore
attribute [local go_sem] max2_int min2_int max_two min_two max_three min_three max_four min_four   -- for this text's walks alone
set_option linter.unusedVariables false
set_option linter.unusedSimpArgs false

/-! ### tape_Less: function 70 -/
def tape_Less.f (k : Nat) (l0 : List Int) (l1 : List Int) : Option (Bool) := if (l0.length : Int) = (l1.length : Int) then ((slices_Compare_int_int.f k l0 l1).bind fun t185 => (some (decide (t185 < 0)))) else (some (decide ((l0.length : Int) < (l1.length : Int))))
theorem tape_Less.mono : ∀ a0 a1 k, LeO (tape_Less.f k a0 a1) (tape_Less.f (k + 1) a0 a1) := by
  intro a0 a1 k
  unfold tape_Less.f
  repeat' first
      | (with_reducible exact slices_Compare_int_int.mono _ _ _)
      | (with_reducible exact LeO.refl _)
      | (with_reducible exact LeO.none _)
      | (with_reducible refine LeO.ite ?_ ?_)
      | (with_reducible refine LeO.bind ?_ (fun _ => ?_))
      | exact slices_Compare_int_int.mono _ _ _
      | exact LeO.none _
      | refine LeO.ite ?_ ?_
      | refine LeO.bind ?_ (fun _ => ?_)
set_option maxHeartbeats 8000000 in
set_option maxRecDepth 100000 in
theorem tape_Less.calls (k : Nat) (A0 : Option Addr) (c0 : Nat) (l0 : List Int) (A1 : Option Addr) (c1 : Nat) (l1 : List Int) (r : Bool) (w : World) (hr0 : Kd.C (Kd.int .i64) w A0 l0.length l0) (hc0 : l0.length ≤ c0) (hr1 : Kd.C (Kd.int .i64) w A1 l1.length l1) (hc1 : l1.length ≤ c1) (h : tape_Less.f k l0 l1 = some r) :
    Calls Tryd.prog 70 #[.slice A0 l0.length c0, .slice A1 l1.length c1] w fun e w' => e = .returned (.bool r) ∧ Drawn0 w w' := by
  have HR0 := Aside0.mk hr0
  have HC0 := Aside0.mk hc0
  clear hr0 hc0
  have HR1 := Aside0.mk hr1
  have HC1 := Aside0.mk hc1
  clear hr1 hc1
  have H : (if (l0.length : Int) = (l1.length : Int) then ((slices_Compare_int_int.f k l0 l1).bind fun t185 => (some (decide (t185 < 0)))) else (some (decide ((l0.length : Int) < (l1.length : Int))))) = some r := h
  clear h
  by_cases c3 : (l0.length : Int) = (l1.length : Int)
  · rw [if_pos c3] at H
    have c3b0 : ((l0.length : Int) == (l1.length : Int)) = true := beq_iff_eq.mpr c3
    have c3b1 : ((l0.length : Int) != (l1.length : Int)) = false := bne_eq_false_iff_eq.mpr c3
    have c3b2 : (l0.length == l1.length) = true := by first | simpa using c3 | (simp at c3 ⊢; omega)
    clear c3
    replace H := Option.bind_eq_some_iff.mp H
    obtain ⟨t185, A40, H⟩ := H
    replace H : (some (decide (t185 < 0))) = some r := H
    have A4 := Aside0.mk A40
    clear A40
    obtain rfl := Option.some.inj H
    go_enter Tryd.func70, Tryd.ntmps70
    go_wp2_with (first | ((with_reducible refine gate_callee (f := 115) rfl ?_); refine goesL_ (some 17) rfl rfl Tryd.func115 (by kernel_rfl) rfl #[.slice A0 l0.length c0, .slice A1 l1.length c1] rfl (by (try simp only [List.map_toArray, List.map_cons, List.map_nil]); first | done | rfl | (simp only [List.length_drop, List.length_take]; rfl)) ?_; (with_reducible refine (slices_Compare_int_int.calls k _ _ l0 _ _ l1 t185 _ ?side1 ?side2 ?side3 ?side4 A4.out).mono ?_); (case side1 => repeat (first | exact HR0.out | (with_reducible refine Kd.C_alloc ?_ _) | (with_reducible refine Kd.C_drewN ?_ _) | (with_reducible refine Kd.C_drew ?_))); (case side2 => exact HC0.out); (case side3 => repeat (first | exact HR1.out | (with_reducible refine Kd.C_alloc ?_ _) | (with_reducible refine Kd.C_drewN ?_ _) | (with_reducible refine Kd.C_drew ?_))); (case side4 => exact HC1.out); rintro e w' ⟨rfl, ⟨nd, rfl⟩⟩; refine ⟨_, rfl, ?_⟩))
    go_ret
    exact ⟨by first | rfl | (simp; done) | (simp [*]; done), by repeat (first | exact Drawn0.refl _ | apply Drawn0.step)⟩
  · rw [if_neg c3] at H
    have c3b0 : ((l0.length : Int) == (l1.length : Int)) = false := beq_eq_false_iff_ne.mpr c3
    have c3b1 : ((l0.length : Int) != (l1.length : Int)) = true := bne_iff_ne.mpr c3
    have c3b2 : (l0.length == l1.length) = false := by first | simpa using c3 | (simp at c3 ⊢; omega)
    obtain rfl := Option.some.inj H
    go_enter Tryd.func70, Tryd.ntmps70
    go_wp2
    go_ret
    exact ⟨by first | rfl | (simp; done) | (simp [*]; done), by repeat (first | exact Drawn0.refl _ | apply Drawn0.step)⟩

end Go.Proofs.YtgdomnlkafcddaaDoor.Q
namespace Go.Proofs.YtgdomnlkafcddaaDoor.Q
open Go.RowKit Go.Proofs.YtgdomnlkafcddaaDoorW.PrintWords Go.Proofs.YtgdomnlkafcddaaDoorW.PrintLast Go.Proofs.YtgdomnlkafcddaaDoorW.PrintMore
set_option linter.unusedVariables false
set_option linter.unusedSimpArgs false
set_option linter.unusedSectionVars false
noncomputable def rose_try (k : Nat) (a0 a1 a2 : Int) (l3 : List S63) (l m : List Int) (out : List (List Int)) : Option (Option Int × List (List Int)) :=
  (gen_Mend.f a0 a1 a2 l3 m).bind fun r => match r.2 with
    | some c => some (some c, out)
    | none => (tape_Less.f k r.1 l).bind fun b => if b = true then (if out.length < 5864062014805 then some (none, out ++ [r.1]) else none) else some (none, out)
def TryPost (w0 w : World) (bo : Nat) (ov : Value) (w' : World) (r2 : List (List Int)) : Prop :=
  ∃ ov', w'.heap[bo]? = some (Obj.cells #[ov'] 49 (0, 0)) ∧ Kd.S (Kd.slice 3 (Kd.int .i64)) 36 w' w0.heap.size (fun _ => True) ov' r2 ∧ KeepBut w w' bo ov.ownBlock ∧
    (ov'.ownBlock = ov.ownBlock ∨ ∃ b, ov'.ownBlock = some b ∧ w.heap.size ≤ b) ∧ Below w0.heap.size w0 w'
theorem TryPost.same {w0 w w' : World} {bo : Nat} {ov : Value} {out : List (List Int)} (hbo : w.heap[bo]? = some (Obj.cells #[ov] 49 (0, 0))) (HO : Kd.S (Kd.slice 3 (Kd.int .i64)) 36 w w0.heap.size (fun _ => True) ov out) (hB : Below w0.heap.size w0 w) (hb : Below w.heap.size w w') : TryPost w0 w bo ov w' out :=
  ⟨ov, blk_below hbo hb, Kd.S_below HO hb, KeepBut.of_below hb _ _, .inl rfl, below_step hB hb⟩
section
variable (k : Nat) (a0 a1 a2 : Int) (A3 : Option Addr) (c3 : Nat) (l3 : List S63) (A : Option Addr) (c : Nat) (l : List Int) (Am : Option Addr) (cm : Nat) (m : List Int) (bg bl bo : Nat) (ov : Value) (out : List (List Int)) (w0 w : World)
  (hbg : w.heap[bg]? = some (Obj.cells #[.int .i64 a0, .int .i64 a1, .int .i64 a2, .slice A3 l3.length c3] 63 (0, 0)))
  (hbl : w.heap[bl]? = some (Obj.cells #[.slice A l.length c] 36 (0, 0)))
  (hbo : w.heap[bo]? = some (Obj.cells #[ov] 49 (0, 0)))
  (hr3 : Kd.C k63 w A3 l3.length l3) (hc3 : l3.length ≤ c3) (hr : Kd.C (Kd.int .i64) w A l.length l) (hc : l.length ≤ c) (hm : Kd.C (Kd.int .i64) w Am m.length m) (hcm : m.length ≤ cm)
  (HO : Kd.S (Kd.slice 3 (Kd.int .i64)) 36 w w0.heap.size (fun _ => True) ov out) (hB : Below w0.heap.size w0 w) (hbase : w0.heap.size ≤ bo)
include hbg hbl hbo hr3 hc3 hr hc hm hcm HO hB hbase
set_option maxHeartbeats 4000000 in
set_option maxRecDepth 100000 in
theorem rose_try.err (x : List Int) (q : Int) (h : gen_Mend.f a0 a1 a2 l3 m = some (x, some q)) :
    Calls Tryd.prog 73 #[.slice Am m.length cm, .pointer (some ⟨bg, 0, none⟩), .pointer (some ⟨bl, 0, none⟩), .pointer (some ⟨bo, 0, none⟩)] w fun e w' => e = .returned (.iface 66 (.int .i64 q)) ∧ TryPost w0 w bo ov w' out := by
  have hu63 := Tryd.underlying63
  have hu30 := Tryd.underlying30
  have HA := Aside0.mk h
  have HR3 := Aside0.mk hr3
  have HC3 := Aside0.mk hc3
  have HM := Aside0.mk hm
  have HCM := Aside0.mk hcm
  have HP := fun w' => TryPost.same (w' := w') hbo HO hB
  have HP' := Aside0.mk HP
  have g0 : w.cell? ⟨bg, 0, none⟩ = some (.int .i64 a0) := (blk_cell hbg 0).trans rfl
  have g1 : w.cell? ⟨bg, 1, none⟩ = some (.int .i64 a1) := (blk_cell hbg 1).trans rfl
  have g2 : w.cell? ⟨bg, 2, none⟩ = some (.int .i64 a2) := (blk_cell hbg 2).trans rfl
  have g3 : w.cell? ⟨bg, 3, none⟩ = some (.slice A3 l3.length c3) := (blk_cell hbg 3).trans rfl
  clear h hr3 hc3 hm hcm HP hbg hbl hbo hr hc HO hB hbase
  go_enter Tryd.func73, Tryd.ntmps73
  go_wp2_with (first | ((with_reducible refine gate_callee (f := 43) rfl ?_); refine goesL_ (some 10) rfl rfl Tryd.func43 (by kernel_rfl) rfl #[.agg #[.int .i64 a0, .int .i64 a1, .int .i64 a2, .slice A3 l3.length c3], .slice Am m.length cm] rfl (by (try simp only [List.map_toArray, List.map_cons, List.map_nil]); first | done | rfl) ?_; (with_reducible refine (gen_Mend.calls a0 a1 a2 _ _ l3 _ _ m x (some q) _ HR3.out HC3.out HM.out HCM.out HA.out).mono ?_); rintro e w1 ⟨v, rfl, ho, hb⟩; refine ⟨_, rfl, ?_⟩; have HB := Aside0.mk hb; clear ho hb; (try simp only [errW_none, errW_some])))
  go_ret
  exact ⟨rfl, HP'.out _ HB.out⟩
set_option maxHeartbeats 4000000 in
set_option maxRecDepth 100000 in
theorem rose_try.no (x : List Int) (h : gen_Mend.f a0 a1 a2 l3 m = some (x, none)) (h2 : tape_Less.f k x l = some false) :
    Calls Tryd.prog 73 #[.slice Am m.length cm, .pointer (some ⟨bg, 0, none⟩), .pointer (some ⟨bl, 0, none⟩), .pointer (some ⟨bo, 0, none⟩)] w fun e w' => e = .returned .nilIface ∧ TryPost w0 w bo ov w' out := by
  have hu63 := Tryd.underlying63
  have hu30 := Tryd.underlying30
  have HA := Aside0.mk h
  have HA2 := Aside0.mk h2
  have HR3 := Aside0.mk hr3
  have HC3 := Aside0.mk hc3
  have HR := Aside0.mk hr
  have HC := Aside0.mk hc
  have HM := Aside0.mk hm
  have HCM := Aside0.mk hcm
  have HBL := Aside0.mk hbl
  have HP := fun w' => TryPost.same (w' := w') hbo HO hB
  have HP' := Aside0.mk HP
  have g0 : w.cell? ⟨bg, 0, none⟩ = some (.int .i64 a0) := (blk_cell hbg 0).trans rfl
  have g1 : w.cell? ⟨bg, 1, none⟩ = some (.int .i64 a1) := (blk_cell hbg 1).trans rfl
  have g2 : w.cell? ⟨bg, 2, none⟩ = some (.int .i64 a2) := (blk_cell hbg 2).trans rfl
  have g3 : w.cell? ⟨bg, 3, none⟩ = some (.slice A3 l3.length c3) := (blk_cell hbg 3).trans rfl
  clear h h2 hr3 hc3 hr hc hm hcm HP hbg hbl hbo HO hB hbase
  go_enter Tryd.func73, Tryd.ntmps73
  go_wp2_with (first
    | ((with_reducible refine gate_callee (f := 43) rfl ?_); refine goesL_ (some 10) rfl rfl Tryd.func43 (by kernel_rfl) rfl #[.agg #[.int .i64 a0, .int .i64 a1, .int .i64 a2, .slice A3 l3.length c3], .slice Am m.length cm] rfl (by (try simp only [List.map_toArray, List.map_cons, List.map_nil]); first | done | rfl) ?_; (with_reducible refine (gen_Mend.calls a0 a1 a2 _ _ l3 _ _ m x none _ HR3.out HC3.out HM.out HCM.out HA.out).mono ?_); rintro e w1 ⟨v, rfl, ho, hb⟩; refine ⟨_, rfl, ?_⟩; have HB := Aside0.mk hb; have HO := Aside0.mk ho; obtain ⟨Ao, co, eo⟩ := Kd.R_slice ho; subst eo; have hl1 : w1.cell? ⟨bl, 0, none⟩ = some (.slice A l.length c) := (blk_cell (blk_below HBL.out hb) 0).trans rfl; clear ho hb; (try simp only [errW_none, errW_some]))
    | (go_at_call 70; (with_reducible refine (tape_Less.calls k _ _ x _ _ l false _ (Kd.R_reads' HO.out).2.2 (Kd.R_reads' HO.out).2.1 (Kd.C_below HR.out HB.out) HC.out HA2.out).mono ?_); rintro e w2 ⟨rfl, hd⟩; have HB2 := Aside0.mk (below_step HB.out hd.below); clear hd))
  go_ret
  exact ⟨rfl, HP'.out _ HB2.out⟩
set_option maxHeartbeats 4000000 in
set_option maxRecDepth 100000 in
theorem rose_try.yes (x : List Int) (h : gen_Mend.f a0 a1 a2 l3 m = some (x, none)) (h2 : tape_Less.f k x l = some true) (hlen : out.length < 5864062014805) :
    Calls Tryd.prog 73 #[.slice Am m.length cm, .pointer (some ⟨bg, 0, none⟩), .pointer (some ⟨bl, 0, none⟩), .pointer (some ⟨bo, 0, none⟩)] w fun e w' => e = .returned .nilIface ∧ TryPost w0 w bo ov w' (out ++ [x]) := by
  obtain ⟨Av, cv, rfl⟩ := Kd.S_slice HO
  have hu63 := Tryd.underlying63
  have hu30 := Tryd.underlying30
  have HA := Aside0.mk h
  have HA2 := Aside0.mk h2
  have HR3 := Aside0.mk hr3
  have HC3 := Aside0.mk hc3
  have HR := Aside0.mk hr
  have HC := Aside0.mk hc
  have HM := Aside0.mk hm
  have HCM := Aside0.mk hcm
  have HBL := Aside0.mk hbl
  have HBO := Aside0.mk hbo
  have HS := Aside0.mk HO
  have HB0 := Aside0.mk hB
  have HBA := Aside0.mk hbase
  have HL := Aside0.mk hlen
  have g0 : w.cell? ⟨bg, 0, none⟩ = some (.int .i64 a0) := (blk_cell hbg 0).trans rfl
  have g1 : w.cell? ⟨bg, 1, none⟩ = some (.int .i64 a1) := (blk_cell hbg 1).trans rfl
  have g2 : w.cell? ⟨bg, 2, none⟩ = some (.int .i64 a2) := (blk_cell hbg 2).trans rfl
  have g3 : w.cell? ⟨bg, 3, none⟩ = some (.slice A3 l3.length c3) := (blk_cell hbg 3).trans rfl
  clear h h2 hr3 hc3 hr hc hm hcm hbg hbl hbo HO hB hbase hlen
  go_enter Tryd.func73, Tryd.ntmps73
  go_wp2_with (first
    | ((with_reducible refine gate_callee (f := 43) rfl ?_); refine goesL_ (some 10) rfl rfl Tryd.func43 (by kernel_rfl) rfl #[.agg #[.int .i64 a0, .int .i64 a1, .int .i64 a2, .slice A3 l3.length c3], .slice Am m.length cm] rfl (by (try simp only [List.map_toArray, List.map_cons, List.map_nil]); first | done | rfl) ?_; (with_reducible refine (gen_Mend.calls a0 a1 a2 _ _ l3 _ _ m x none _ HR3.out HC3.out HM.out HCM.out HA.out).mono ?_); rintro e w1 ⟨v, rfl, ho, hb⟩; refine ⟨_, rfl, ?_⟩; have HB := Aside0.mk hb; have HO := Aside0.mk ho; obtain ⟨Ao, co, eo⟩ := Kd.R_slice ho; subst eo; have hl1 : w1.cell? ⟨bl, 0, none⟩ = some (.slice A l.length c) := (blk_cell (blk_below HBL.out hb) 0).trans rfl; clear ho hb; (try simp only [errW_none, errW_some]))
    | (go_at_call 70; (with_reducible refine (tape_Less.calls k _ _ x _ _ l true _ (Kd.R_reads' HO.out).2.2 (Kd.R_reads' HO.out).2.1 (Kd.C_below HR.out HB.out) HC.out HA2.out).mono ?_); rintro e w2 ⟨rfl, hd⟩; have HB2 := Aside0.mk (below_step HB.out hd.below); have HO2 := Aside0.mk (Kd.R_below HO.out hd.below); have HBO2 := Aside0.mk (blk_below HBO.out HB2.out); have hv2 : w2.cell? ⟨bo, 0, none⟩ = some (.slice Av out.length cv) := (blk_cell HBO2.out 0).trans rfl; have HS2 := Aside0.mk (Kd.S_elder' HS.out (Kd.R_base HO2.out) HB2.out); have HB02 := Aside0.mk (below_step HB0.out HB2.out); clear hd)
    | ((with_reducible refine gate_builtin (b := .append) (xs := #[.tmp 20, .tmp 22]) rfl ?_); at_builtin; refine Kd.S_append (Kd.slice 3 (Kd.int .i64)) (w0 := w0) w0.heap.size rfl (.tmp 20) (.tmp 22) 49 36 (.slice none 0 0) 24 rfl Tryd.underlying49 info36 rfl (by decide) (by omega) (.slice Av out.length cv) out x [.slice Ao x.length co] (fun _ => True) (fun k_ => some k_ = (.slice Ao x.length co : Value).ownBlock) rfl rfl ?aP ?aN ?aF ?aO ?aB ?aS ?aL ?_; (case aP => exact Kd.M_row (Kd.R_mono (Kd.R_tight rfl (Kd.R_lower HO2.out HB0.out.size)) (fun _ h_ => h_))); (case aN => exact (fun k_ hk_ => ⟨trivial, fun e_ => absurd (Kd.R_base HO2.out k_ hk_.symm) (Nat.not_le.2 (Kd.S_lt HS.out k_ e_.symm))⟩)); (case aF => exact (fun _ _ => trivial)); (case aO => exact Kd.S_mono HS2.out (fun k_ hk => ⟨trivial, fun e_ => hk.2 e_⟩)); (case aB => exact HB02.out); (case aS => exact HB02.out.size); (case aL => have := HL.out; omega); intro v1 w3 ho hb hg hat; have HB3 := Aside0.mk hb; have HO3 := Aside0.mk ho; have HG := Aside0.mk hg; have HAT := Aside0.mk hat; have HBO3 := Aside0.mk (blk_grown HBO2.out hg (Kd.S_ne HS2.out HBO2.out (by decide))); obtain ⟨Aq, cq, eq⟩ := Kd.S_slice ho; subst eq; have hv3 : w3.cell? ⟨bo, 0, none⟩ = some (.slice Av out.length cv) := (blk_cell HBO3.out 0).trans rfl; have hf3 := blk_frozen HBO3.out 0; clear ho hb hg hat))
  go_ret
  have HO4 := HO3.out
  have hat := HAT.out
  rw [show (out ++ [x]).length = out.length + 1 by simp] at HO4 hat
  refine ⟨rfl, _, (blk_set HBO3.out 0 _).trans rfl, Kd.S_set HO4 HBO3.out (by decide) 0 _, ((KeepBut.of_below HB2.out bo _).trans (KeepBut.of_grown HG.out bo) (.inl rfl)).set_ 0 _, ?_, below_set HB3.out HBA.out⟩
  rcases hat with h | ⟨b, h1, h2⟩
  · exact .inl h
  · exact .inr ⟨b, h1, Nat.le_trans HB2.out.size h2⟩
theorem rose_try.calls (r1 : Option Int) (r2 : List (List Int)) (h : rose_try k a0 a1 a2 l3 l m out = some (r1, r2)) :
    Calls Tryd.prog 73 #[.slice Am m.length cm, .pointer (some ⟨bg, 0, none⟩), .pointer (some ⟨bl, 0, none⟩), .pointer (some ⟨bo, 0, none⟩)] w fun e w' => e = .returned (errW r1) ∧ TryPost w0 w bo ov w' r2 := by
  unfold rose_try at h
  obtain ⟨⟨x, q⟩, hM, h⟩ := Option.bind_eq_some_iff.mp h
  cases q with
  | some q =>
    simp only [Option.some.injEq, Prod.mk.injEq] at h
    obtain ⟨rfl, rfl⟩ := h
    exact rose_try.err a0 a1 a2 A3 c3 l3 A c l Am cm m bg bl bo ov out w0 w hbg hbl hbo hr3 hc3 hr hc hm hcm HO hB hbase x q hM
  | none =>
    obtain ⟨b, hL, h⟩ := Option.bind_eq_some_iff.mp h
    cases b with
    | false =>
      simp only [Bool.false_eq_true, if_false, Option.some.injEq, Prod.mk.injEq] at h
      obtain ⟨rfl, rfl⟩ := h
      exact rose_try.no k a0 a1 a2 A3 c3 l3 A c l Am cm m bg bl bo ov out w0 w hbg hbl hbo hr3 hc3 hr hc hm hcm HO hB hbase x hM hL
    | true =>
      simp only [if_true] at h
      split at h
      · rename_i hlen
        simp only [Option.some.injEq, Prod.mk.injEq] at h
        obtain ⟨rfl, rfl⟩ := h
        exact rose_try.yes k a0 a1 a2 A3 c3 l3 A c l Am cm m bg bl bo ov out w0 w hbg hbl hbo hr3 hc3 hr hc hm hcm HO hB hbase x hM hL hlen
      · cases h
end
end Go.Proofs.YtgdomnlkafcddaaDoor.Q
namespace Go.Proofs
open Go.Shelf
def Tryd.lays2_15_ren : Go.Shelf.Ren := ⟨fun | 15 => 75 | n => n, fun | 22 => 36 | 3 => 3 | 4 => 4 | n => n, fun | n => n⟩
theorem Tryd.lays2_15 : Go.Proofs.Lays2.n15 Tryd.prog Tryd.lays2_15_ren := {
  mixed := by kernel_rfl
  f15 := Tryd.func75.trans (congrArg some (by kernel_rfl))
  t3 := Tryd.underlying3
  a3 := Tryd.isAgg3
  z3 := Tryd.sizeOf3
  v3 := Tryd.zeroValue3
  t4 := Tryd.underlying4
  a4 := Tryd.isAgg4
  z4 := Tryd.sizeOf4
  v4 := Tryd.zeroValue4
  t22 := Tryd.underlying36
  a22 := Tryd.isAgg36
  z22 := Tryd.sizeOf36
  v22 := Tryd.zeroValue36
  i3 := by kernel_rfl }
open Go.RowKit in
theorem Tryd.slices_Clone_int (b off n c : Nat) (zs : List Int) (w : World) (hz : n ≤ zs.length) (hbig : n * 8 ≤ 140737488355328) (hc : ∀ j, j < zs.length → w.cell? ⟨b, off + j, none⟩ = some (.int .i64 (zs.getD j 0))) :
    Calls Tryd.prog 75 #[.slice (some ⟨b, off, none⟩) n c] w fun e w' => ∃ v', e = .returned v' ∧ w'.ownsRow w.heap.size 3 1 v' n ((zs.take n).map (Value.int .i64)) ∧ v' ≠ .slice none 0 0 ∧ Below w.heap.size w w' := Any.slices_Clone_int Tryd.lays2_15 b off n c zs w hz hbig hc
open Go.RowKit in
theorem Tryd.slices_Clone_int_nil (n c : Nat) (w : World) :
    Calls Tryd.prog 75 #[.slice none n c] w fun e w' => e = .returned (.slice none 0 0) ∧ w' = w := Any.slices_Clone_int_nil Tryd.lays2_15 n c w
open Go.RowKit in
theorem Tryd.slices_Clone_int_zero (a : Addr) (c : Nat) (w : World) :
    Calls Tryd.prog 75 #[.slice (some a) 0 c] w fun e w' => ∃ v', e = .returned v' ∧ w'.ownsRow w.heap.size 3 1 v' 0 [] ∧ v' ≠ .slice none 0 0 ∧ Below w.heap.size w w' := Any.slices_Clone_int_zero Tryd.lays2_15 a c w
def Tryd.lays2_23_ren : Go.Shelf.Ren := ⟨fun | 23 => 76 | n => n, fun | 22 => 36 | 3 => 3 | 4 => 4 | 0 => 0 | n => n, fun | n => n⟩
theorem Tryd.lays2_23 : Go.Proofs.Lays2.n23 Tryd.prog Tryd.lays2_23_ren := {
  mixed := by kernel_rfl
  f23 := Tryd.func76.trans (congrArg some (by kernel_rfl))
  t0 := Tryd.underlying0
  a0 := Tryd.isAgg0
  z0 := Tryd.sizeOf0
  v0 := Tryd.zeroValue0
  t3 := Tryd.underlying3
  a3 := Tryd.isAgg3
  z3 := Tryd.sizeOf3
  v3 := Tryd.zeroValue3
  t4 := Tryd.underlying4
  a4 := Tryd.isAgg4
  z4 := Tryd.sizeOf4
  v4 := Tryd.zeroValue4
  t22 := Tryd.underlying36
  a22 := Tryd.isAgg36
  z22 := Tryd.sizeOf36
  v22 := Tryd.zeroValue36
  i3 := by kernel_rfl }
open Go.RowKit Go.Sort in
theorem Tryd.slices_Delete_int (blk off cap i j : Nat) (zs : List Int) (w : World) (hH : Go.Sort.Holds (Value.int .i64) w blk off zs.toArray) (hcap : zs.length ≤ cap) (hm : cap ≤ 9223372036854775807) (hij : i ≤ j) (hj : j ≤ zs.length) :
    Calls Tryd.prog 76 #[.slice (some ⟨blk, off, none⟩) zs.length cap, .int .i64 i, .int .i64 j] w fun e w' => e = .returned (.slice (some ⟨blk, off, none⟩) (zs.length - (j - i)) cap) ∧ ∃ q, w' = putRow (Value.int .i64) (Go.Sort.ahead w q) blk off (zs.take i ++ zs.drop j ++ List.replicate (j - i) 0).toArray := Any.slices_Delete_int Tryd.lays2_23 blk off cap i j zs w hH hcap hm hij hj
end Go.Proofs
namespace Go.Proofs.YtgdomnlkafcddaaDoor.Q
open Go.RowKit Go.Proofs.YtgdomnlkafcddaaDoorW.PrintWords Go.Proofs.YtgdomnlkafcddaaDoorW.PrintLast Go.Proofs.YtgdomnlkafcddaaDoorW.PrintMore
def slices_Clone.f (l0 : List Int) : Option (List Int) := if l0.length * 8 ≤ 140737488355328 then some l0 else none
theorem slices_Clone.calls (A0 : Option Addr) (c0 : Nat) (l0 : List Int) (r : List Int) (w : World) (hr0 : Kd.C (Kd.int .i64) w A0 l0.length l0) (h : slices_Clone.f l0 = some r) :
    Calls Tryd.prog 75 #[.slice A0 l0.length c0] w fun e w' => ∃ v0_ : Value, e = .returned v0_ ∧ Kd.R (Kd.int .i64) 3 w' w.heap.size (fun _ => True) v0_ r ∧ Below w.heap.size w w' := by
  unfold slices_Clone.f at h
  split at h
  case isFalse => cases h
  rename_i hb
  obtain rfl := Option.some.inj h
  cases A0 with
  | none =>
    have h0 : l0 = [] := by
      cases l0 with
      | nil => rfl
      | cons x r =>
        obtain ⟨ad, e, _⟩ := Kd.at_int hr0 0 (Int.le_refl 0) (by simp)
        cases e
    subst h0
    refine (Tryd.slices_Clone_int_nil 0 c0 w).mono ?_
    rintro e w' ⟨rfl, rfl⟩
    exact ⟨_, rfl, Kd.R_nil _ _ _ _ _, Below.refl _ _⟩
  | some ad =>
    by_cases h0 : l0.length = 0
    · obtain rfl := List.length_eq_zero_iff.1 h0
      refine (Tryd.slices_Clone_int_zero ad c0 w).mono ?_
      rintro e w' ⟨v', rfl, ho, _, hb'⟩
      exact ⟨v', rfl, Kd.R_of_own (enc := Value.int .i64) (xs := []) ho (fun _ _ => trivial), hb'⟩
    · have hall : ∀ j, j < l0.length → w.cell? (ad.add j) = some (.int .i64 (l0.getD j 0)) := by
        intro j hj
        obtain ⟨ad', e, hc'⟩ := Kd.at_int hr0 (j : Int) (by omega) (by omega)
        injection e with e
        subst e
        rw [Int.toNat_natCast] at hc'
        rw [hc']
        simp [rd]
      obtain ⟨bk, o, sp⟩ := ad
      have hs : sp = none := by
        have h1 := hall 0 (by omega)
        simp only [Addr.add, if_true, World.cell?] at h1
        cases sp with
        | none => rfl
        | some s => split at h1 <;> simp at h1
      subst hs
      refine (Tryd.slices_Clone_int bk o l0.length c0 l0 w (Nat.le_refl _) hb (fun j hj => ?_)).mono ?_
      · have h1 := hall j hj
        unfold Addr.add at h1
        split at h1
        · rename_i hj0
          subst hj0
          simpa using h1
        · exact h1
      · rintro e w' ⟨v', rfl, ho, _, hb'⟩
        rw [List.take_length] at ho
        exact ⟨v', rfl, Kd.R_of_own (enc := Value.int .i64) ho (fun _ _ => trivial), hb'⟩
end Go.Proofs.YtgdomnlkafcddaaDoor.Q
namespace Go.Proofs.YtgdomnlkafcddaaDoor.Q
open Go.RowKit Go.Proofs.YtgdomnlkafcddaaDoorW.PrintWords Go.Proofs.YtgdomnlkafcddaaDoorW.PrintLast Go.Proofs.YtgdomnlkafcddaaDoorW.PrintMore
set_option linter.unusedVariables false
set_option linter.unusedSimpArgs false
set_option maxHeartbeats 8000000 in
set_option maxRecDepth 100000 in
theorem rose_with.calls (bt : Nat) (A : Option Addr) (c : Nat) (l : List Int) (w : World) (hbt : w.heap[bt]? = some (Obj.cells #[.slice A l.length c] 36 (0, 0))) (hr : Kd.C (Kd.int .i64) w A l.length l) (hb : l.length * 8 ≤ 140737488355328) (i x : Int) (h0 : 0 ≤ i) (h1 : i < (l.length : Int)) :
    Calls Tryd.prog 74 #[.int .i64 i, .int .i64 x, .pointer (some ⟨bt, 0, none⟩)] w fun e w' => ∃ v, e = .returned v ∧ Kd.R (Kd.int .i64) 3 w' w.heap.size (fun _ => True) v (l.set i.toNat x) ∧ Below w.heap.size w w' := by
  have hcb : w.cell? ⟨bt, 0, none⟩ = some (.slice A l.length c) := (blk_cell hbt 0).trans rfl
  have HR := Aside0.mk hr
  have hcl : slices_Clone.f l = some l := by simp [slices_Clone.f, hb]
  have HCL := Aside0.mk hcl
  have p0 := eq_true h0
  have p1 := eq_true h1
  clear hr hcl
  go_enter Tryd.func74, Tryd.ntmps74
  go_wp2_with (first | ((with_reducible refine gate_callee (f := 75) rfl ?_); refine goesL_ (some 8) rfl rfl Tryd.func75 (by kernel_rfl) rfl #[.slice A l.length c] rfl (by (try simp only [List.map_toArray, List.map_cons, List.map_nil]); first | done | rfl) ?_; (with_reducible refine (slices_Clone.calls A c l l _ HR.out HCL.out).mono ?_); rintro e w1 ⟨v, rfl, ho, hb1⟩; refine ⟨_, rfl, ?_⟩; obtain ⟨go, co, eo, gb, gl, cl, HG⟩ := Kd.R_form ho (by omega); subst eo; obtain ⟨hx0, hf0⟩ := Kd.R_celln 0 ho i h0 h1; have HP := Aside0.mk (Kd.R_putg ho i x); have GB := Aside0.mk gb; have HB := Aside0.mk hb1; clear ho hb1 gb gl cl HG))
  go_ret
  exact ⟨_, rfl, HP.out.1, below_set HB.out GB.out⟩
end Go.Proofs.YtgdomnlkafcddaaDoor.Q
namespace Go.Proofs.YtgdomnlkafcddaaDoor.Q
open Go.RowKit Go.Proofs.YtgdomnlkafcddaaDoorW.PrintWords Go.Proofs.YtgdomnlkafcddaaDoorW.PrintLast Go.Proofs.YtgdomnlkafcddaaDoorW.PrintMore
theorem heap_putRow {α : Type} [Inhabited α] (enc : α → Value) (w : World) (blk off : Nat) (d : Array α) {cur : Array Value} {e : TypeId} {fr : Nat × Nat} (h : w.heap[blk]? = some (Obj.cells cur e fr)) :
    (Sort.putRow enc w blk off d).heap[blk]? = some (Obj.cells (Sort.putCells enc off d cur) e fr) := by
  unfold Sort.putRow Sort.mapBlock
  simp only [Array.getElem?_modify, if_true, h, Option.map_some, Sort.onCells]
theorem heap_putRow_far {α : Type} [Inhabited α] (enc : α → Value) (w : World) (blk off : Nat) (d : Array α) (k : Nat) (h : k ≠ blk) : (Sort.putRow enc w blk off d).heap[k]? = w.heap[k]? := by
  unfold Sort.putRow Sort.mapBlock
  simp only [Array.getElem?_modify]
  rw [if_neg (fun e => h e.symm)]
theorem slices_Delete.calls (v : Value) (xs : List Int) (i j : Nat) (w : World) (base : Nat) (ok : Nat → Prop) (HO : Kd.R (Kd.int .i64) 3 w base ok v xs) (hij : i < j) (hj : j ≤ xs.length) :
    Calls Tryd.prog 76 #[v, .int .i64 i, .int .i64 j] w fun e w' => ∃ v', e = .returned v' ∧ Kd.R (Kd.int .i64) 3 w' base ok v' (xs.take i ++ xs.drop j) ∧ v'.ownBlock = v.ownBlock ∧ w.grownBy w' v.ownBlock := by
  have ho := Kd.own_of_R HO
  obtain ⟨hlen, hor⟩ := ho
  rcases hor with ⟨_, hn⟩ | ⟨g, cap, cur, rfl, hb, hh, hnc, hcm, hcs, htk⟩
  · omega
  rw [Nat.mul_one] at htk hcs
  have hcell : ∀ q, q < xs.length → cur[q]? = some (Value.int .i64 (xs.getD q 0)) := by
    intro q hq
    have h1 : (cur.toList.take xs.length)[q]? = (encs (Value.int .i64) xs)[q]? := by rw [htk]
    rw [List.getElem?_take, if_pos hq, Array.getElem?_toList] at h1
    rw [h1]
    simp [encs, hq]
  have hH : Sort.Holds (Value.int .i64) w g 0 xs.toArray := by
    intro q hq
    have hq' : q < xs.length := by simpa using hq
    refine ⟨?_, blk_frozen hh _⟩
    rw [Nat.zero_add, blk_cell hh q, hcell q hq']
    simp [hq']
  refine (Tryd.slices_Delete_int g 0 cap i j xs w hH hnc (Nat.le_trans hcm (by decide)) (Nat.le_of_lt hij) hj).mono ?_
  rintro e w' ⟨rfl, q, rfl⟩
  have hD : (xs.take i ++ xs.drop j).length = xs.length - (j - i) := by simp; omega
  refine ⟨_, rfl, Kd.R_of_own (enc := Value.int .i64) ?_ (fun k hk => HO.1 k hk), rfl, ?_⟩
  · refine ⟨by simp [encs], .inr ⟨g, cap, _, by rw [hD], hb, heap_putRow _ _ g 0 _ (show (Sort.ahead w q).heap[g]? = _ from hh), by omega, hcm, by simp [Sort.putCells, hcs], ?_⟩⟩
    apply List.ext_getElem?
    intro p
    rw [Nat.mul_one, List.getElem?_take]
    split
    · rename_i hp
      have hp2 : p < xs.length := by omega
      rw [Array.getElem?_toList]
      simp only [Sort.putCells, Array.getElem?_mapIdx, hcell p hp2, Option.map_some, encs, List.getElem?_map]
      have hsz : p < (xs.take i ++ xs.drop j ++ List.replicate (j - i) (0 : Int)).toArray.size := by simp; omega
      rw [if_pos ⟨Nat.zero_le _, by omega⟩, Nat.sub_zero]
      have e1 : (xs.take i ++ xs.drop j ++ List.replicate (j - i) (0 : Int))[p]'(by simpa using hsz) = (xs.take i ++ xs.drop j)[p] := List.getElem_append_left hp
      rw [getElem!_pos _ p hsz, List.getElem_toArray, e1, List.getElem?_eq_getElem hp]
      rfl
    · rename_i hp
      rw [List.getElem?_eq_none]
      simp [encs]
      omega
  · refine ⟨rfl, rfl, rfl, by simp [Sort.putRow, Sort.mapBlock, Sort.ahead], fun k hk hne => heap_putRow_far _ _ g 0 _ k (fun e => hne (by rw [e]; rfl))⟩
end Go.Proofs.YtgdomnlkafcddaaDoor.Q
namespace Go.Proofs.YtgdomnlkafcddaaDoor.Q
open Go.RowKit Go.Proofs.YtgdomnlkafcddaaDoorW.PrintWords Go.Proofs.YtgdomnlkafcddaaDoorW.PrintLast Go.Proofs.YtgdomnlkafcddaaDoorW.PrintMore
set_option linter.unusedVariables false
set_option linter.unusedSimpArgs false
def rose_tries (l : List Int) (i : Nat) : List (List Int) := if 0 < rd l (i : Int) then [l.set i 0, l.set i (wrap64 ((rd l (i : Int)).tdiv 2)), l.set i (wrap64 (rd l (i : Int) - 1))] else []
def rose_ms (l : List Int) (i : Nat) : List (List Int) := rose_tries l i ++ [l.take i ++ l.drop (i + 1)]
noncomputable def rose_in (k : Nat) (a0 a1 a2 : Int) (l3 : List S63) (l : List Int) : List (List Int) → List (List Int) → Option (Option Int × List (List Int))
  | [], out => some (none, out)
  | m :: ms, out => (rose_try k a0 a1 a2 l3 l m out).bind fun r => match r.1 with
    | some c => some (some c, r.2)
    | none => rose_in k a0 a1 a2 l3 l ms r.2
noncomputable def rose_out (k : Nat) (a0 a1 a2 : Int) (l3 : List S63) (l : List Int) : Nat → Nat → List (List Int) → Option (Option Int × List (List Int))
  | 0, _, out => some (none, out)
  | n + 1, i, out => (rose_in k a0 a1 a2 l3 l (rose_ms l i) out).bind fun r => match r.1 with
    | some c => some (some c, r.2)
    | none => rose_out k a0 a1 a2 l3 l n (i + 1) r.2
noncomputable def rose_Less.g (k : Nat) (a0 a1 a2 : Int) (l3 : List S63) (l : List Int) : Option (List (List Int) × Option Int) :=
  (gen_Replay.f a0 a1 a2 l3 l).bind fun r => match r.2.2.2 with
    | some c => some ([], some c)
    | none => if l.length < 1000000000000 then ((rose_out k a0 a1 a2 l3 l l.length 0 []).bind fun r => match r.1 with
      | some c => some ([], some c)
      | none => some (r.2, none)) else none
noncomputable def rose_Less.f (a0 a1 a2 : Int) (l3 : List S63) (l : List Int) : Option (List (List Int) × Option Int) := Olim fun k => rose_Less.g k a0 a1 a2 l3 l
/-- What holds of the told tapes while more are tried; w: the world when the variable for them is made. -/
structure RoseS (w w' : World) (bo : Nat) (ov : Value) (out : List (List Int)) : Prop where
  o : w'.heap[bo]? = some (Obj.cells #[ov] 49 (0, 0))
  s : Kd.S (Kd.slice 3 (Kd.int .i64)) 36 w' w.heap.size (fun _ => True) ov out
  b : Below w.heap.size w w'
  ge : w.heap.size ≤ bo
section
variable {w w' w1 : World} {bo : Nat} {ov : Value} {out : List (List Int)}
theorem RoseS.step (h : RoseS w w' bo ov out) (hb : Below w'.heap.size w' w1) : RoseS w w1 bo ov out :=
  ⟨blk_below h.o hb, Kd.S_below h.s hb, below_step h.b hb, h.ge⟩
theorem RoseS.tried (h : RoseS w w' bo ov out) {r2 : List (List Int)} (ht : TryPost w w' bo ov w1 r2) : ∃ ov', RoseS w w1 bo ov' r2 ∧
    ∀ {α : Type} {d : Kd α} {e : Nat} {v : Value} {xs : List α}, d.R e w' w.heap.size (fun k => k ≠ bo ∧ some k ≠ ov.ownBlock) v xs → d.R e w1 w.heap.size (fun k => k ≠ bo ∧ some k ≠ ov'.ownBlock) v xs := by
  obtain ⟨ov', h1, h2, h3, h4, h5⟩ := ht
  refine ⟨ov', ⟨h1, h2, h5, h.ge⟩, fun hR => ?_⟩
  refine Kd.R_mono (Kd.R_move (Kd.R_bound hR) (fun k hk => h3.2 k hk.2.2.1 hk.1.1 hk.1.2)) (fun k hk => ⟨hk.1.1, ?_⟩)
  rcases h4 with h4 | ⟨b, hb, hle⟩
  · rw [h4]; exact hk.1.2
  · rw [hb]
    intro he
    injection he with he
    have := hk.2.2.1
    omega
theorem below_none {w w1 : World} (h : w.grownBy w1 none) : Below w.heap.size w w1 := ⟨h.os, h.tape, h.output, h.size, fun i hi => h.block i hi (by simp)⟩
/-- What is made in the round is apart from the told tapes. -/
theorem RoseS.apart (h : RoseS w w' bo ov out) {α : Type} {d : Kd α} {e : Nat} {v : Value} {xs : List α} (hR : d.R e w1 w.heap.size (fun k => w'.heap.size ≤ k) v xs) : d.R e w1 w.heap.size (fun k => k ≠ bo ∧ some k ≠ ov.ownBlock) v xs :=
  Kd.R_mono hR (fun k hk => ⟨by have := blk_lt h.o; omega, fun he => by have := Kd.S_lt h.s k he.symm; omega⟩)
end
def RoseT (wS wr wc : World) (v : Value) (ts : List (List Int)) : Prop :=
  Below wr.heap.size wr wc ∧ Kd.R (Kd.slice 3 (Kd.int .i64)) 36 wc wS.heap.size (fun k => wr.heap.size ≤ k) v ts
set_option maxHeartbeats 8000000 in
set_option maxRecDepth 100000 in
theorem rose_Less.calls (a0 a1 a2 : Int) (A3 : Option Addr) (c3 : Nat) (l3 : List S63) (A : Option Addr) (c : Nat) (l : List Int) (r1 : List (List Int)) (r2 : Option Int) (w : World)
    (hr3 : Kd.C k63 w A3 l3.length l3) (hc3 : l3.length ≤ c3) (hr : Kd.C (Kd.int .i64) w A l.length l) (hc : l.length ≤ c) (h : rose_Less.f a0 a1 a2 l3 l = some (r1, r2)) :
    Calls Tryd.prog 33 #[.agg #[.int .i64 a0, .int .i64 a1, .int .i64 a2, .slice A3 l3.length c3], .slice A l.length c] w fun e w' => ∃ v : Value, e = .returned (.tuple #[v, errW r2]) ∧ Kd.S (Kd.slice 3 (Kd.int .i64)) 36 w' w.heap.size (fun _ => True) v r1 ∧ Below w.heap.size w w' := by
  obtain ⟨k, h⟩ := Olim_some h
  unfold rose_Less.g at h
  have hu63 := Tryd.underlying63
  have hu30 := Tryd.underlying30
  have hmf : ∀ (fn : Fn) (first cap : Array Value) (w : World), (Instr.makeFunc fn first cap).run Tryd.prog w = .ok (.func fn first cap) w := fun _ _ _ _ => rfl
  obtain ⟨⟨t1, t2, t3, t4⟩, hA, h⟩ := Option.bind_eq_some_iff.mp h
  have A1 := Aside0.mk hA
  clear hA
  have HR3 := Aside0.mk hr3
  have HR := Aside0.mk hr
  have HC := Aside0.mk hc
  have HC3 := Aside0.mk hc3
  clear hr3 hr hc hc3
  rcases t4 with _ | q
  · dsimp only at h
    split at h
    case isFalse => cases h
    rename_i hlen
    obtain ⟨⟨e1, o1⟩, hO, h⟩ := Option.bind_eq_some_iff.mp h
    have HO := Aside0.mk hO
    have HL := Aside0.mk hlen
    have HH := Aside0.mk h
    clear hO hlen h
    go_enter Tryd.func33, Tryd.ntmps33
    go_wp2_with (first
      | ((with_reducible refine gate_dst (N := 2) rfl ?_); refine box_event ?hg (N := 2) ?hd (cs := #[.int .i64 a0, .int .i64 a1, .int .i64 a2, .slice A3 l3.length c3]) (t := 63) ?hr ?_; (case hd => rfl); (case hg => rfl); (case hr => first | (go_simp; done) | (go_simp; rfl)); intro g2 hg2 w2 hbox hb; have BA := Aside0.mk hbox; have HB := Aside0.mk hb; clear hbox hb hg2)
      | ((with_reducible refine gate_dst (N := 3) rfl ?_); refine box_event ?hg (N := 3) ?hd (cs := #[.slice A l.length c]) (t := 36) ?hr ?_; (case hd => rfl); (case hg => rfl); (case hr => first | (go_simp; done) | (go_simp; rfl)); intro g3 hg3 w3 hbox hb; have BA1 := Aside0.mk (blk_below BA.out hb); have BT := Aside0.mk hbox; have HB1 := Aside0.mk (below_step HB.out hb); clear BA HB hbox hb hg3; have ha0 : w3.cell? ⟨g2, 0, none⟩ = some (.int .i64 a0) := (blk_cell BA1.out 0).trans rfl; have ha1 : w3.cell? ⟨g2, 1, none⟩ = some (.int .i64 a1) := (blk_cell BA1.out 1).trans rfl; have ha2 : w3.cell? ⟨g2, 2, none⟩ = some (.int .i64 a2) := (blk_cell BA1.out 2).trans rfl; have ha3 : w3.cell? ⟨g2, 3, none⟩ = some (.slice A3 l3.length c3) := (blk_cell BA1.out 3).trans rfl; have hl0 : w3.cell? ⟨g3, 0, none⟩ = some (.slice A l.length c) := (blk_cell BT.out 0).trans rfl)
      | ((with_reducible refine gate_callee (f := 44) rfl ?_); refine goesL_ (some 20) rfl rfl Tryd.func44 (by kernel_rfl) rfl #[.agg #[.int .i64 a0, .int .i64 a1, .int .i64 a2, .slice A3 l3.length c3], .slice A l.length c] rfl (by (try simp only [List.map_toArray, List.map_cons, List.map_nil]); first | done | rfl) ?_; (with_reducible refine (gen_Replay.calls a0 a1 a2 _ _ l3 _ _ l t1 t2 t3 none _ (Kd.C_below HR3.out HB1.out) HC3.out (Kd.C_below HR.out HB1.out) HC.out A1.out).mono ?_); rintro e w4 ⟨v4, rfl, ho, hb⟩; refine ⟨_, rfl, ?_⟩; have BA2 := Aside0.mk (blk_below BA1.out hb); have BT2 := Aside0.mk (blk_below BT.out hb); have HB2 := Aside0.mk (below_step HB1.out hb); obtain ⟨Ar, cr, er⟩ := Kd.R_slice ho; subst er; clear BA1 BT HB1 ho hb; (try simp only [errW_none, errW_some]))
      | ((with_reducible refine gate_dst (N := 6) rfl ?_); refine box_event ?hg (N := 6) ?hd (cs := #[.bool false, .int .i64 0, .slice none 0 0]) (t := 27) ?hr ?_; (case hd => rfl); (case hg => rfl); (case hr => first | (go_simp; done) | (go_simp; rfl)); intro g6 hg6 w6 hbox hb; have BA3 := Aside0.mk (blk_below BA2.out hb); have BT3 := Aside0.mk (blk_below BT2.out hb); have BV := Aside0.mk hbox; have HB3 := Aside0.mk (below_step HB2.out hb); have GV := Aside0.mk (hg6 ▸ HB2.out.size : w.heap.size ≤ g6); have hf60 := blk_frozen hbox 0; have hf61 := blk_frozen hbox 1; have hf62 := blk_frozen hbox 2; have hv60 : w6.cell? ⟨g6, 0, none⟩ = some (.bool false) := (blk_cell hbox 0).trans rfl; have hv61 : w6.cell? ⟨g6, 1, none⟩ = some (.int .i64 0) := (blk_cell hbox 1).trans rfl; have hv62 : w6.cell? ⟨g6, 2, none⟩ = some (.slice none 0 0) := (blk_cell hbox 2).trans rfl; clear BA2 BT2 HB2 hbox hb hg6)
      | ((with_reducible refine gate_dst (N := 8) rfl ?_); refine box_event ?hg (N := 8) ?hd (cs := #[.slice none 0 0]) (t := 49) ?hr ?_; (case hd => rfl); (case hg => rfl); (case hr => first | (go_simp; done) | (go_simp; rfl)); intro g8 hg8 w8 hbox hb; have n2 : g2 ≠ g6 := blk_ne BA3.out BV.out (by decide); have n3 : g3 ≠ g6 := blk_ne BT3.out BV.out (by decide); obtain ⟨wS, hbS, hgS, hwS, hS2, hS3⟩ : ∃ W : World, Below W.heap.size W w8 ∧ g8 = W.heap.size ∧ Below w.heap.size w W ∧ W.heap[g2]? = some (Obj.cells #[.int .i64 a0, .int .i64 a1, .int .i64 a2, .slice A3 l3.length c3] 63 (0, 0)) ∧ W.heap[g3]? = some (Obj.cells #[.slice A l.length c] 36 (0, 0)) := ⟨_, hb, hg8, below_set (below_set (below_set HB3.out GV.out) GV.out) GV.out, blk_far (blk_far (blk_far BA3.out n2 _) n2 _) n2 _, blk_far (blk_far (blk_far BT3.out n3 _) n3 _) n3 _⟩; have HS := Aside0.mk (show RoseS wS w8 g8 (.slice none 0 0) [] from ⟨hbox, Kd.S_nil _ _ _ _ _, hbS, Nat.le_of_eq hgS.symm⟩); have HW := Aside0.mk hwS; have HG := Aside0.mk hS2; have HT := Aside0.mk hS3; have hl8 : w8.cell? ⟨g3, 0, none⟩ = some (.slice A l.length c) := (blk_cell (blk_below hS3 hbS) 0).trans rfl; clear n2 n3 hbS hgS hwS hS2 hS3 hb hg8 hbox BA3 BT3 BV HB3 GV))
    have HRS := Aside0.mk (Kd.C_below HR.out HW.out)
    have HRS3 := Aside0.mk (Kd.C_below HR3.out HW.out)
    have HIN := Aside0.mk (show l.length * 8 ≤ 140737488355328 by have := HL.out; omega)
    have hlb : l.length ≤ 1000000000000 := Nat.le_of_lt HL.out
    go_loopg [30] l.length (fun kq v30 w' => ∃ (i : Nat) (ov : Value) (out : List (List Int)), v30 = .int .i64 (i : Int) ∧ Aside0 (i + kq = l.length) ∧ Aside0 (rose_out k a0 a1 a2 l3 l kq i out = some (e1, o1)) ∧ Aside0 (RoseS wS w' g8 ov out))
    case atStart => exact ⟨0, _, [], rfl, ⟨Nat.zero_add _⟩, HO, HS⟩
    case round =>
      clear HO HS A1
      obtain ⟨i, ov, out, rfl, HI, HO, HS⟩ := hrel
      cases gk with
      | zero =>
        have hge : decide ((i : Int) < (l.length : Int)) = false := decide_eq_false (by have := HI.out; omega)
        have hgn : decide (i < l.length) = false := decide_eq_false (by have := HI.out; omega)
        have h9 := HO.out
        simp only [rose_out, Option.some.injEq, Prod.mk.injEq] at h9
        obtain ⟨rfl, rfl⟩ := h9
        have h8 := HH.out
        simp only [Option.some.injEq, Prod.mk.injEq] at h8
        obtain ⟨rfl, rfl⟩ := h8
        have ho8 : wr.cell? ⟨g8, 0, none⟩ = some ov := (blk_cell HS.out.o 0).trans rfl
        obtain ⟨Aq, cq, eq⟩ := Kd.S_slice HS.out.s
        subst eq
        go_wp2
        go_ret2
        exact ⟨_, rfl, Kd.S_lower HS.out.s HW.out.size, below_step HW.out (HS.out.b)⟩
      | succ kn =>
        have hi : i < l.length := by have := HI.out; omega
        have p0 : 0 ≤ (i : Int) := by omega
        have p1 : (i : Int) < (l.length : Int) := by omega
        have hlt : decide ((i : Int) < (l.length : Int)) = true := decide_eq_true p1
        have hln : decide (i < l.length) = true := decide_eq_true hi
        have P0 := Aside0.mk p0
        have P1 := Aside0.mk p1
        obtain ⟨ad, eA, hx⟩ := Kd.at_int (Kd.C_below HRS.out HS.out.b) (i : Int) p0 p1
        rw [Int.toNat_natCast] at hx
        cases eA
        have hl8 : wr.cell? ⟨g3, 0, none⟩ = some (.slice (some ad) l.length c) := (blk_cell (blk_below HT.out HS.out.b) 0).trans rfl
        obtain ⟨wo, rfl⟩ : ∃ wo : World, wo = wr := ⟨_, rfl⟩
        have q0 := eq_true p0
        have q1 := eq_true p1
        clear p0 p1
        go_upto_if 36 with (fail)
        go_cut [13] (fun v13 wc => Aside0 (RoseT wS wo wc v13 (rose_tries l i)))
        case first =>
          by_cases hx0 : 0 < rd l (i : Int)
          · have hts : rose_tries l i = [l.set i 0, l.set i (wrap64 ((rd l (i : Int)).tdiv 2)), l.set i (wrap64 (rd l (i : Int) - 1))] := by unfold rose_tries; rw [if_pos hx0]
            have HTS := Aside0.mk hts
            clear hts
            go_wp2_with (first
              | ((with_reducible refine gate_dst (N := 40) rfl ?_); refine goesCL_ (some 40) rfl rfl #[.pointer (some ⟨g3, 0, none⟩)] Tryd.func74 (by kernel_rfl) rfl #[.int .i64 (i : Int), .int .i64 0] rfl (by first | rfl | (go_simp; done)) (by (try simp only [List.map_toArray, List.map_cons, List.map_nil]); first | done | rfl) ?_; refine (rose_with.calls g3 (some ad) c l _ (blk_below HT.out HS.out.b) (Kd.C_below HRS.out HS.out.b) HIN.out (i : Int) 0 P0.out P1.out).mono ?_; rintro e w10 ⟨v10, rfl, ho, hb⟩; refine ⟨_, rfl, ?_⟩; obtain ⟨B10, d10, e10⟩ := Kd.R_slice ho; rw [List.length_set] at e10; subst e10; have HS10 := Aside0.mk (HS.out.step hb); have R10 := Aside0.mk (Kd.R_lower (Kd.R_mono (Kd.R_bound ho) (fun k hk => (hk.2.1 : wo.heap.size ≤ k))) HS.out.b.size); have Z10 := Aside0.mk hb; clear ho hb)
              | ((with_reducible refine gate_dst (N := 45) rfl ?_); refine goesCL_ (some 45) rfl rfl #[.pointer (some ⟨g3, 0, none⟩)] Tryd.func74 (by kernel_rfl) rfl #[.int .i64 (i : Int), .int .i64 (wrap64 ((rd l (i : Int)).tdiv 2))] rfl (by first | rfl | (go_simp; done)) (by (try simp only [List.map_toArray, List.map_cons, List.map_nil]); first | done | rfl) ?_; refine (rose_with.calls g3 (some ad) c l _ (blk_below HT.out HS10.out.b) (Kd.C_below HRS.out HS10.out.b) HIN.out (i : Int) _ P0.out P1.out).mono ?_; rintro e w11 ⟨v11, rfl, ho, hb⟩; refine ⟨_, rfl, ?_⟩; obtain ⟨B11, d11, e11⟩ := Kd.R_slice ho; rw [List.length_set] at e11; subst e11; have HS11 := Aside0.mk (HS10.out.step hb); have R11 := Aside0.mk (Kd.R_lower (Kd.R_mono (Kd.R_bound ho) (fun k hk => (Nat.le_trans Z10.out.size hk.2.1 : wo.heap.size ≤ k))) HS10.out.b.size); have R10' := Aside0.mk (Kd.R_below R10.out hb); have Z11 := Aside0.mk (below_step Z10.out hb); clear ho hb HS10 R10 Z10)
              | ((with_reducible refine gate_dst (N := 50) rfl ?_); refine goesCL_ (some 50) rfl rfl #[.pointer (some ⟨g3, 0, none⟩)] Tryd.func74 (by kernel_rfl) rfl #[.int .i64 (i : Int), .int .i64 (wrap64 (rd l (i : Int) - 1))] rfl (by first | rfl | (go_simp; done)) (by (try simp only [List.map_toArray, List.map_cons, List.map_nil]); first | done | rfl) ?_; refine (rose_with.calls g3 (some ad) c l _ (blk_below HT.out HS11.out.b) (Kd.C_below HRS.out HS11.out.b) HIN.out (i : Int) _ P0.out P1.out).mono ?_; rintro e w12 ⟨v12, rfl, ho, hb⟩; refine ⟨_, rfl, ?_⟩; obtain ⟨B12, d12, e12⟩ := Kd.R_slice ho; rw [List.length_set] at e12; subst e12; have HS12 := Aside0.mk (HS11.out.step hb); have R12 := Aside0.mk (Kd.R_lower (Kd.R_mono (Kd.R_bound ho) (fun k hk => (Nat.le_trans Z11.out.size hk.2.1 : wo.heap.size ≤ k))) HS11.out.b.size); have R11' := Aside0.mk (Kd.R_below R11.out hb); have R10 := Aside0.mk (Kd.R_below R10'.out hb); have Z12 := Aside0.mk (below_step Z11.out hb); clear ho hb HS11 R11 R10' Z11)
              | ((with_reducible refine gate_dst (N := 51) rfl ?_); refine Kd.R_lit (Kd.slice 3 (Kd.int .i64)) (w0 := wS) wS.heap.size 36 ?hg (N := 51) ?hd (xs := [l.set i 0, l.set i (wrap64 ((rd l (i : Int)).tdiv 2)), l.set i (wrap64 (rd l (i : Int) - 1))]) (inner := [.slice B10 l.length d10, .slice B11 l.length d11, .slice B12 l.length d12]) (ok := fun k => wo.heap.size ≤ k) (okp := fun k => wo.heap.size ≤ k) ?hr ?hp (fun _ hk => hk) Z12.out.size HS12.out.b HS12.out.b.size (by simp) ?_; (case hd => rfl); (case hg => rfl); (case hr => first | (go_simp; done) | (go_simp; rfl)); (case hp => exact Reps.one (Kd.M_row R10.out) (Reps.one (Kd.M_row R11'.out) (Reps.one (Kd.M_row R12.out) (Reps.none _ _)))); intro v13 w13 ho hb hg hnew; have HS13 := Aside0.mk (HS12.out.step (below_none hg)); have Z13 := Aside0.mk (below_step Z12.out (below_none hg)); obtain ⟨h0, inner, hown, hrep⟩ := ho; obtain ⟨Aq, cq, eq, hread⟩ := own_reads_row hown hrep rfl; subst eq; have RD := Aside0.mk hread; clear h0 inner hown hrep hread hb hg hnew HS12 Z12 R10 R11' R12)
              | ((with_reducible refine gate_builtin (b := .append) (xs := #[.tmp 37, .tmp 51]) rfl ?_); at_builtin; refine Kd.R_append_rows (Kd.slice 3 (Kd.int .i64)) (Rr := fun x cs => (Kd.slice 3 (Kd.int .i64)).M w13 wS.heap.size (fun k => (wo.heap.size ≤ k) ∧ some k ≠ (Value.slice Aq 3 cq).ownBlock) x cs) (w0 := wS) wS.heap.size rfl (.tmp 37) (.tmp 51) 49 36 (.slice none 0 0) 24 rfl Tryd.underlying49 info36 rfl (by decide) (by omega) (.slice none 0 0) [] [l.set i 0, l.set i (wrap64 ((rd l (i : Int)).tdiv 2)), l.set i (wrap64 (rd l (i : Int) - 1))] Aq 3 cq (fun k => wo.heap.size ≤ k) (fun k => (wo.heap.size ≤ k) ∧ some k ≠ (Value.slice Aq 3 cq).ownBlock) rfl rfl (Kd.R_nil _ _ _ _ _) RD.out (fun _ _ hk => hk) (fun k hk => ⟨hk.1, by simp [Value.ownBlock]⟩) (fun k hk => Nat.le_trans Z13.out.size hk) HS13.out.b HS13.out.b.size (by simp) ?_; intro v14 w14 ho hb hg hat; have HS14 := Aside0.mk (HS13.out.step (below_none hg)); have R14 := Aside0.mk ho; have Z14 := Aside0.mk (below_step Z13.out (below_none hg)); clear ho hb hg hat HS13 Z13 RD))
            go_meet
            case rel => exact ⟨Z14.out, by rw [HTS.out]; exact R14.out⟩
          · have hts : rose_tries l i = [] := by unfold rose_tries; rw [if_neg hx0]
            have HTS := Aside0.mk hts
            have hxf : decide (0 < rd l (i : Int)) = false := decide_eq_false hx0
            clear hts
            go_wp2
            go_meet
            case rel => exact ⟨Below.refl _ _, by rw [HTS.out]; exact Kd.R_nil _ _ _ _ _⟩
        case rest =>
          obtain ⟨hz, hr2⟩ := hcut.out
          obtain ⟨B13, d13, e13⟩ := Kd.R_slice hr2
          subst e13
          have HR2 := Aside0.mk hr2
          have Z2 := Aside0.mk hz
          have hl9 : wc.cell? ⟨g3, 0, none⟩ = some (.slice (some ad) l.length c) := (blk_cell (blk_below (blk_below HT.out HS.out.b) hz) 0).trans rfl
          clear hr2 hz hcut
          have hcl : slices_Clone.f l = some l := by simp [slices_Clone.f, HIN.out]
          have HCL := Aside0.mk hcl
          clear hcl
          obtain ⟨dl, hdl⟩ : ∃ dl : List Int, dl = l.take i ++ l.drop (i + 1) := ⟨_, rfl⟩
          have HDL := Aside0.mk hdl
          clear hdl
          obtain ⟨ms, hms⟩ : ∃ ms : List (List Int), ms = rose_ms l i := ⟨_, rfl⟩
          have HMS := Aside0.mk hms
          clear hms
          have HTL := Aside0.mk (show (rose_tries l i).length ≤ 3 by unfold rose_tries; split <;> simp)
          have HII := Aside0.mk hi
          go_wp2_with (first
            | ((with_reducible refine gate_callee (f := 75) rfl ?_); refine goesL_ (some 55) rfl rfl Tryd.func75 (by kernel_rfl) rfl #[.slice (some ad) l.length c] rfl (by (try simp only [List.map_toArray, List.map_cons, List.map_nil]); first | done | rfl) ?_; (with_reducible refine (slices_Clone.calls _ c l l _ (Kd.C_below HRS.out (below_step HS.out.b Z2.out)) HCL.out).mono ?_); rintro e w15 ⟨v15, rfl, ho, hb⟩; refine ⟨_, rfl, ?_⟩; have HB15 := Aside0.mk hb; have RC := Aside0.mk ho; clear ho hb)
            | ((with_reducible refine gate_callee (f := 76) rfl ?_); refine goesL_ (some 59) rfl rfl Tryd.func76 (by kernel_rfl) rfl #[v15, .int .i64 (i : Int), .int .i64 ((i : Int) + 1)] rfl (by (try simp only [List.map_toArray, List.map_cons, List.map_nil]); first | done | rfl) ?_; refine calls_of_args (show (#[v15, .int .i64 (i : Int), .int .i64 ((i : Int) + 1)] : Array Value) = #[v15, .int .i64 ((i : Nat) : Int), .int .i64 (((i + 1 : Nat)) : Int)] by simp) ?_; refine (slices_Delete.calls v15 l i (i + 1) _ _ _ RC.out (Nat.lt_succ_self i) HII.out).mono ?_; rintro e w16 ⟨v16, rfl, hR, hO, hg⟩; refine ⟨_, rfl, ?_⟩; rw [← HDL.out] at hR; have HB16 := Aside0.mk (HB15.out.grown hg HB15.out.size (Kd.R_base RC.out)); have R16 := Aside0.mk hR; obtain ⟨B16, d16, e16⟩ := Kd.R_slice hR; subst e16; clear hR hO hg HB15 RC)
            | ((with_reducible refine gate_builtin (b := .append) (xs := #[.tmp 53, .tmp 60]) rfl ?_); at_builtin; refine Kd.R_append (Kd.slice 3 (Kd.int .i64)) (w0 := wS) wS.heap.size rfl (.tmp 53) (.tmp 60) 49 36 (.slice none 0 0) 24 rfl Tryd.underlying49 info36 rfl (by decide) (by omega) (.slice B13 (rose_tries l i).length d13) (rose_tries l i) dl [.slice B16 dl.length d16] (fun k => wo.heap.size ≤ k) (fun k => some k = (Value.slice B16 dl.length d16).ownBlock) rfl rfl ?aP ?aN ?aF ?aO ?aB ?aS ?aL ?_; (case aP => exact Kd.M_row (Kd.R_mono (Kd.R_tight rfl (Kd.R_lower R16.out (Nat.le_trans HS.out.b.size Z2.out.size))) (fun _ h_ => h_))); (case aN => exact (fun k_ hk_ => ⟨Nat.le_trans Z2.out.size (Kd.R_base R16.out k_ hk_.symm), fun e_ => absurd (Kd.R_base R16.out k_ hk_.symm) (Nat.not_le.2 (Kd.R_lt HR2.out k_ e_.symm))⟩)); (case aF => exact (fun k hk => Nat.le_trans (Nat.le_trans Z2.out.size HB16.out.size) hk)); (case aO => exact Kd.R_below HR2.out HB16.out); (case aB => exact below_step (below_step HS.out.b Z2.out) HB16.out); (case aS => exact Nat.le_trans (Nat.le_trans HS.out.b.size Z2.out.size) HB16.out.size); (case aL => have := HTL.out; omega); intro v17 w17 ho hb hg hat; have Z17 := Aside0.mk ((below_step Z2.out HB16.out).grown hg (Nat.le_trans Z2.out.size HB16.out.size) (fun k hk => HR2.out.1 k hk)); have hq : Kd.R (Kd.slice 3 (Kd.int .i64)) 36 w17 wS.heap.size (fun k => wo.heap.size ≤ k) v17 ms := (by rw [HMS.out, rose_ms, ← HDL.out]; exact ho); have R17 := Aside0.mk hq; obtain ⟨B17, d17, e17⟩ := Kd.R_slice hq; subst e17; clear hq ho hb hg hat HR2 R16 HB16 Z2))
          have HS5 := Aside0.mk (HS.out.step Z17.out)
          have HM5 := Aside0.mk (HS.out.apart R17.out)
          clear HS R17 Z17 hl8 hl9 hx
          have h9 := HO.out
          unfold rose_out at h9
          rw [← HMS.out] at h9
          have HN := Aside0.mk (show (rose_in k a0 a1 a2 l3 l (ms.drop 0) out).bind (fun r => match r.1 with | some c => some (some c, r.2) | none => rose_out k a0 a1 a2 l3 l kn (i + 1) r.2) = some (e1, o1) from h9)
          have HML := Aside0.mk (show ms.length ≤ 4 by rw [HMS.out, rose_ms, List.length_append]; have := HTL.out; simp; omega)
          have hml : ms.length ≤ 4 := HML.out
          clear h9 HO
          go_loopg [63] ms.length (fun kq v63 w' => ∃ (j : Nat) (ov : Value) (out : List (List Int)), v63 = .int .i64 (j : Int) ∧ Aside0 (j + kq = ms.length) ∧ Aside0 ((rose_in k a0 a1 a2 l3 l (ms.drop j) out).bind (fun r => match r.1 with | some c => some (some c, r.2) | none => rose_out k a0 a1 a2 l3 l kn (i + 1) r.2) = some (e1, o1)) ∧ Aside0 (RoseS wS w' g8 ov out) ∧ Aside0 (Kd.R (Kd.slice 3 (Kd.int .i64)) 36 w' wS.heap.size (fun k => k ≠ g8 ∧ some k ≠ ov.ownBlock) (.slice B17 ms.length d17) ms))
          case atStart => exact ⟨0, _, _, rfl, ⟨Nat.zero_add _⟩, HN, HS5, HM5⟩
          case round =>
            clear HN HS5 HM5
            obtain ⟨j, ov, out, rfl, HJ, HN, HS, HM⟩ := hrel
            cases gk with
            | zero =>
              have hge : decide ((j : Int) < (ms.length : Int)) = false := decide_eq_false (by have := HJ.out; omega)
              have hgn : decide (j < ms.length) = false := decide_eq_false (by have := HJ.out; omega)
              have h9 := HN.out
              rw [List.drop_eq_nil_of_le (by have := HJ.out; omega)] at h9
              simp only [rose_in, Option.bind_some] at h9
              have HO := Aside0.mk h9
              clear h9 HN
              go_wp2
              go_roundg kn
              case measure => omega
              case rel => exact ⟨i + 1, ov, out, by first | rfl | simp, ⟨by have := HI.out; omega⟩, HO, HS⟩
            | succ kj =>
              have hj : j < ms.length := by have := HJ.out; omega
              have hlt2 : decide ((j : Int) < (ms.length : Int)) = true := decide_eq_true (by omega)
              have hlt3 : decide (j < ms.length) = true := decide_eq_true hj
              have h9 := HN.out
              rw [List.drop_eq_getElem_cons hj] at h9
              simp only [rose_in] at h9
              obtain ⟨⟨x1, x2⟩, hB, h9⟩ := Option.bind_eq_some_iff.mp h9
              obtain ⟨⟨y1, y2⟩, hT, hB⟩ := Option.bind_eq_some_iff.mp hB
              obtain ⟨ad2, A2, c2, ea2, hx2, hl2, hi2⟩ := at_L1 (Kd.R_reads' HM.out).2.2 (j : Int) (by omega) (by omega)
              rw [Int.toNat_natCast] at hx2
              have er : rd_L1 ms (j : Int) = ms[j] := by simp [rd_L1, hj]
              rw [er] at hx2 hl2 hi2
              cases ea2
              have HI2 := Aside0.mk hi2
              have HL2 := Aside0.mk hl2
              clear hi2 hl2 er HN
              rcases y1 with _ | q
              · have h10 : (rose_in k a0 a1 a2 l3 l (ms.drop (j + 1)) y2).bind (fun r => match r.1 with | some c => some (some c, r.2) | none => rose_out k a0 a1 a2 l3 l kn (i + 1) r.2) = some (e1, o1) := by
                  simp only at hB
                  rw [hB]
                  exact h9
                have HN := Aside0.mk h10
                have HTT := Aside0.mk hT
                clear h9 h10 hB hT
                go_wp2_with (first | ((with_reducible refine gate_dst (N := 69) rfl ?_); refine goesCL_ (some 69) rfl rfl #[.pointer (some ⟨g2, 0, none⟩), .pointer (some ⟨g3, 0, none⟩), .pointer (some ⟨g8, 0, none⟩)] Tryd.func73 (by kernel_rfl) rfl #[.slice A2 (ms[j]).length c2] rfl (by first | rfl | (go_simp; done)) (by (try simp only [List.map_toArray, List.map_cons, List.map_nil]); first | done | rfl) ?_; refine (rose_try.calls k a0 a1 a2 A3 c3 l3 (some ad) c l A2 c2 ms[j] g2 g3 g8 ov out wS _ (blk_below HG.out HS.out.b) (blk_below HT.out HS.out.b) HS.out.o (Kd.C_below HRS3.out HS.out.b) HC3.out (Kd.C_below HRS.out HS.out.b) HC.out HI2.out HL2.out HS.out.s HS.out.b HS.out.ge none y2 HTT.out).mono ?_; rintro e w20 ⟨rfl, hT⟩; refine ⟨_, rfl, ?_⟩; obtain ⟨ov1, hs1, hmv⟩ := HS.out.tried hT; have HS1 := Aside0.mk hs1; have HM1 := Aside0.mk (hmv HM.out); clear hT hs1 hmv HS HM; (try simp only [errW_none, errW_some])))
                go_roundg kj
                case measure => omega
                case rel => exact ⟨j + 1, ov1, y2, by first | rfl | simp, ⟨by have := HJ.out; omega⟩, HN, HS1, HM1⟩
              · simp only [Option.some.injEq, Prod.mk.injEq] at hB
                obtain ⟨rfl, rfl⟩ := hB
                simp only [Option.some.injEq, Prod.mk.injEq] at h9
                obtain ⟨rfl, rfl⟩ := h9
                have h8 := HH.out
                simp only [Option.some.injEq, Prod.mk.injEq] at h8
                obtain ⟨rfl, rfl⟩ := h8
                have HTT := Aside0.mk hT
                clear hT
                go_wp2_with (first | ((with_reducible refine gate_dst (N := 69) rfl ?_); refine goesCL_ (some 69) rfl rfl #[.pointer (some ⟨g2, 0, none⟩), .pointer (some ⟨g3, 0, none⟩), .pointer (some ⟨g8, 0, none⟩)] Tryd.func73 (by kernel_rfl) rfl #[.slice A2 (ms[j]).length c2] rfl (by first | rfl | (go_simp; done)) (by (try simp only [List.map_toArray, List.map_cons, List.map_nil]); first | done | rfl) ?_; refine (rose_try.calls k a0 a1 a2 A3 c3 l3 (some ad) c l A2 c2 ms[j] g2 g3 g8 ov out wS _ (blk_below HG.out HS.out.b) (blk_below HT.out HS.out.b) HS.out.o (Kd.C_below HRS3.out HS.out.b) HC3.out (Kd.C_below HRS.out HS.out.b) HC.out HI2.out HL2.out HS.out.s HS.out.b HS.out.ge (some q) y2 HTT.out).mono ?_; rintro e w20 ⟨rfl, hT⟩; refine ⟨_, rfl, ?_⟩; obtain ⟨ov1, hs1, hmv⟩ := HS.out.tried hT; have HS1 := Aside0.mk hs1; have HM1 := Aside0.mk (hmv HM.out); clear hT hs1 hmv HS HM; (try simp only [errW_none, errW_some])))
                go_ret2
                exact ⟨_, rfl, Kd.S_nil _ _ _ _ _, below_step HW.out HS1.out.b⟩
  · dsimp only at h
    simp only [Option.some.injEq, Prod.mk.injEq] at h
    obtain ⟨rfl, rfl⟩ := h
    go_enter Tryd.func33, Tryd.ntmps33
    go_wp2_with (first
      | ((with_reducible refine gate_dst (N := 2) rfl ?_); refine box_event ?hg (N := 2) ?hd (cs := #[.int .i64 a0, .int .i64 a1, .int .i64 a2, .slice A3 l3.length c3]) (t := 63) ?hr ?_; (case hd => rfl); (case hg => rfl); (case hr => first | (go_simp; done) | (go_simp; rfl)); intro g2 hg2 w2 hbox hb; have BA := Aside0.mk hbox; have HB := Aside0.mk hb; clear hbox hb hg2)
      | ((with_reducible refine gate_dst (N := 3) rfl ?_); refine box_event ?hg (N := 3) ?hd (cs := #[.slice A l.length c]) (t := 36) ?hr ?_; (case hd => rfl); (case hg => rfl); (case hr => first | (go_simp; done) | (go_simp; rfl)); intro g3 hg3 w3 hbox hb; have BA1 := Aside0.mk (blk_below BA.out hb); have BT := Aside0.mk hbox; have HB1 := Aside0.mk (below_step HB.out hb); clear BA HB hbox hb hg3; have ha0 : w3.cell? ⟨g2, 0, none⟩ = some (.int .i64 a0) := (blk_cell BA1.out 0).trans rfl; have ha1 : w3.cell? ⟨g2, 1, none⟩ = some (.int .i64 a1) := (blk_cell BA1.out 1).trans rfl; have ha2 : w3.cell? ⟨g2, 2, none⟩ = some (.int .i64 a2) := (blk_cell BA1.out 2).trans rfl; have ha3 : w3.cell? ⟨g2, 3, none⟩ = some (.slice A3 l3.length c3) := (blk_cell BA1.out 3).trans rfl; have hl0 : w3.cell? ⟨g3, 0, none⟩ = some (.slice A l.length c) := (blk_cell BT.out 0).trans rfl)
      | ((with_reducible refine gate_callee (f := 44) rfl ?_); refine goesL_ (some 20) rfl rfl Tryd.func44 (by kernel_rfl) rfl #[.agg #[.int .i64 a0, .int .i64 a1, .int .i64 a2, .slice A3 l3.length c3], .slice A l.length c] rfl (by (try simp only [List.map_toArray, List.map_cons, List.map_nil]); first | done | rfl) ?_; (with_reducible refine (gen_Replay.calls a0 a1 a2 _ _ l3 _ _ l t1 t2 t3 (some q) _ (Kd.C_below HR3.out HB1.out) HC3.out (Kd.C_below HR.out HB1.out) HC.out A1.out).mono ?_); rintro e w4 ⟨v4, rfl, ho, hb⟩; refine ⟨_, rfl, ?_⟩; have BA2 := Aside0.mk (blk_below BA1.out hb); have BT2 := Aside0.mk (blk_below BT.out hb); have HB2 := Aside0.mk (below_step HB1.out hb); obtain ⟨Ar, cr, er⟩ := Kd.R_slice ho; subst er; clear BA1 BT HB1 ho hb; (try simp only [errW_none, errW_some]))
      | ((with_reducible refine gate_dst (N := 6) rfl ?_); refine box_event ?hg (N := 6) ?hd (cs := #[.bool false, .int .i64 0, .slice none 0 0]) (t := 27) ?hr ?_; (case hd => rfl); (case hg => rfl); (case hr => first | (go_simp; done) | (go_simp; rfl)); intro g6 hg6 w6 hbox hb; have BA3 := Aside0.mk (blk_below BA2.out hb); have BT3 := Aside0.mk (blk_below BT2.out hb); have BV := Aside0.mk hbox; have HB3 := Aside0.mk (below_step HB2.out hb); have GV := Aside0.mk (hg6 ▸ HB2.out.size : w.heap.size ≤ g6); have hf60 := blk_frozen hbox 0; have hf61 := blk_frozen hbox 1; have hf62 := blk_frozen hbox 2; have hv60 : w6.cell? ⟨g6, 0, none⟩ = some (.bool false) := (blk_cell hbox 0).trans rfl; have hv61 : w6.cell? ⟨g6, 1, none⟩ = some (.int .i64 0) := (blk_cell hbox 1).trans rfl; have hv62 : w6.cell? ⟨g6, 2, none⟩ = some (.slice none 0 0) := (blk_cell hbox 2).trans rfl; clear BA2 BT2 HB2 hbox hb hg6))
    go_ret2
    exact ⟨_, rfl, Kd.S_nil _ _ _ _ _, below_set (below_set (below_set HB3.out GV.out) GV.out) GV.out⟩
end Go.Proofs.YtgdomnlkafcddaaDoor.Q
namespace Go.Proofs.YtgdomnlkafcddaaDoor.Q
open Go.RowKit Go.Proofs.YtgdomnlkafcddaaDoorW.PrintWords Go.Proofs.YtgdomnlkafcddaaDoorW.PrintLast Go.Proofs.YtgdomnlkafcddaaDoorW.PrintMore
set_option linter.unusedVariables false
set_option linter.unusedSimpArgs false
theorem cmp_ok (a b : Int) : ∃ c, cmp_Compare_int.f a b = some c := by
  unfold cmp_Compare_int.f cmp_isNaN_int.f
  simp only [Option.bind_some, bne_self_eq_false, Bool.false_eq_true, if_false]
  by_cases h1 : a < b
  · exact ⟨_, if_pos h1⟩
  · rw [if_neg h1]
    by_cases h2 : a > b
    · exact ⟨_, if_pos h2⟩
    · exact ⟨_, if_neg h2⟩
theorem compare_loop (a b : List Int) (ha : a.length < 4611686018427387904) : ∀ (j i : Nat), i + j = a.length → ∃ k r, slices_Compare_int_int.l0 k a b a (a.length : Int) (i : Int) = some r := by
  intro j
  induction j with
  | zero =>
    intro i hi
    have hlt : ¬ (i : Int) < (a.length : Int) := by omega
    by_cases h : (a.length : Int) < (b.length : Int)
    · exact ⟨1, -1, by simp only [slices_Compare_int_int.l0]; rw [if_neg hlt, if_pos h]⟩
    · exact ⟨1, 0, by simp only [slices_Compare_int_int.l0]; rw [if_neg hlt, if_neg h]⟩
  | succ j ih =>
    intro i hi
    have hlt : (i : Int) < (a.length : Int) := by omega
    have h0 : (0 : Int) ≤ (i : Int) := by omega
    have hw3 : wrap64 ((i : Int) + 1) = ((i + 1 : Nat) : Int) := by rw [wrap64_id (by omega) (by omega)]; omega
    by_cases hb : (i : Int) ≥ (b.length : Int)
    · exact ⟨1, 1, by simp only [slices_Compare_int_int.l0]; rw [if_pos hlt, if_pos h0, if_pos hlt, if_pos hb]⟩
    · obtain ⟨c, hc⟩ := cmp_ok (rd a (i : Int)) (rd b (i : Int))
      obtain ⟨k, r, hk⟩ := ih (i + 1) (by omega)
      by_cases h : c = 0
      · exact ⟨k + 1, r, by simp only [slices_Compare_int_int.l0]; rw [if_pos hlt, if_pos h0, if_pos hlt, if_neg hb, if_pos (by omega), hc, Option.bind_some, if_pos h, hw3]; exact hk⟩
      · exact ⟨k + 1, c, by simp only [slices_Compare_int_int.l0]; rw [if_pos hlt, if_pos h0, if_pos hlt, if_neg hb, if_pos (by omega), hc, Option.bind_some, if_neg h]⟩
theorem less_halts (a b : List Int) (ha : a.length < 4611686018427387904) : ∃ k r, tape_Less.f k a b = some r := by
  by_cases h : (a.length : Int) = (b.length : Int)
  · obtain ⟨k, r, hk⟩ := compare_loop a b ha a.length 0 (by omega)
    refine ⟨k, decide (r < 0), ?_⟩
    unfold tape_Less.f slices_Compare_int_int.f
    rw [if_pos h]
    rw [show slices_Compare_int_int.l0 k a b a (a.length : Int) 0 = some r from hk]
    rfl
  · refine ⟨0, decide ((a.length : Int) < (b.length : Int)), ?_⟩
    unfold tape_Less.f
    rw [if_neg h]
theorem tape_Less.fle {k k' : Nat} (hk : k ≤ k') {a b : List Int} {r : Bool} (h : tape_Less.f k a b = some r) : tape_Less.f k' a b = some r :=
  LeO.le (f := fun k => tape_Less.f k a b) (fun k => tape_Less.mono _ _ k) hk h
section
variable {k k' : Nat} {a0 a1 a2 : Int} {l3 : List S63} {l : List Int}
theorem rose_try.fle (hk : k ≤ k') {m : List Int} {out : List (List Int)} {r : Option Int × List (List Int)} (h : rose_try k a0 a1 a2 l3 l m out = some r) : rose_try k' a0 a1 a2 l3 l m out = some r := by
  unfold rose_try at h ⊢
  obtain ⟨⟨x, q⟩, hM, h⟩ := Option.bind_eq_some_iff.mp h
  rw [hM]
  cases q with
  | some q => exact h
  | none =>
    obtain ⟨b, hL, h⟩ := Option.bind_eq_some_iff.mp h
    simp only [Option.bind_some]
    rw [tape_Less.fle hk hL]
    exact h
theorem rose_in.fle (hk : k ≤ k') : ∀ {ms : List (List Int)} {out : List (List Int)} {r : Option Int × List (List Int)}, rose_in k a0 a1 a2 l3 l ms out = some r → rose_in k' a0 a1 a2 l3 l ms out = some r
  | [], _, _, h => h
  | m :: ms, out, r, h => by
    simp only [rose_in] at h ⊢
    obtain ⟨⟨y1, y2⟩, hT, h⟩ := Option.bind_eq_some_iff.mp h
    rw [rose_try.fle hk hT]
    simp only [Option.bind_some]
    cases y1 with
    | some q => exact h
    | none => exact rose_in.fle hk h
theorem rose_out.fle (hk : k ≤ k') : ∀ {n i : Nat} {out : List (List Int)} {r : Option Int × List (List Int)}, rose_out k a0 a1 a2 l3 l n i out = some r → rose_out k' a0 a1 a2 l3 l n i out = some r
  | 0, _, _, _, h => h
  | n + 1, i, out, r, h => by
    simp only [rose_out] at h ⊢
    obtain ⟨⟨y1, y2⟩, hT, h⟩ := Option.bind_eq_some_iff.mp h
    rw [rose_in.fle hk hT]
    simp only [Option.bind_some]
    cases y1 with
    | some q => exact h
    | none => exact rose_out.fle hk h
theorem rose_Less.gle (hk : k ≤ k') {r : List (List Int) × Option Int} (h : rose_Less.g k a0 a1 a2 l3 l = some r) : rose_Less.g k' a0 a1 a2 l3 l = some r := by
  unfold rose_Less.g at h ⊢
  obtain ⟨⟨t1, t2, t3, t4⟩, hR, h⟩ := Option.bind_eq_some_iff.mp h
  rw [hR]
  simp only [Option.bind_some]
  cases t4 with
  | some q => exact h
  | none =>
    dsimp only at h ⊢
    by_cases hl : l.length < 1000000000000
    · rw [if_pos hl] at h ⊢
      obtain ⟨y, hO, h⟩ := Option.bind_eq_some_iff.mp h
      rw [rose_out.fle hk hO]
      exact h
    · rw [if_neg hl] at h
      cases h
theorem rose_Less.of {r : List (List Int) × Option Int} (h : rose_Less.g k a0 a1 a2 l3 l = some r) : rose_Less.f a0 a1 a2 l3 l = some r := Olim_of (fun k => LeO.of fun _ h => rose_Less.gle (Nat.le_succ k) h) h
end
/-- What is told of the tape l: it is mended of something, and less. -/
def Lesser (x : S63) (l r : List Int) : Prop := r.length ≤ Cn 6 ∧ (∃ k, tape_Less.f k r l = some true) ∧ ∃ m, gen_Mend.f x.f0 x.f1 x.f2 x.f3 m = some (r, none)
section
variable (x : S63) (hok : ∀ l, ∃ m v, gen_Mend.f x.f0 x.f1 x.f2 x.f3 l = some (m, none) ∧ OKv 6 (val27 v) ∧ m.length ≤ Cn 6 ∧ gen_Replay.f x.f0 x.f1 x.f2 x.f3 m = some (v.1, v.2.1, v.2.2, none)) (l : List Int)
include hok
theorem rose_try_ok (m : List Int) (out : List (List Int)) (ho : out.length < 5864062014805) : ∃ k out', rose_try k x.f0 x.f1 x.f2 x.f3 l m out = some (none, out') ∧ out'.length ≤ out.length + 1 ∧ ∀ r ∈ out', r ∈ out ∨ Lesser x l r := by
  have hC : Cn 6 = 25137931 := by decide
  obtain ⟨y, v, hM, _, hy, _⟩ := hok m
  obtain ⟨k, b, hL⟩ := less_halts y l (by omega)
  cases b with
  | false =>
    refine ⟨k, out, ?_, by omega, fun r hr => .inl hr⟩
    unfold rose_try
    rw [hM]
    simp only [Option.bind_some]
    rw [hL]
    rfl
  | true =>
    refine ⟨k, out ++ [y], ?_, by simp, fun r hr => ?_⟩
    · unfold rose_try
      rw [hM]
      simp only [Option.bind_some]
      rw [hL]
      simp only [Option.bind_some, if_true]
      rw [if_pos ho]
    · rcases List.mem_append.1 hr with hr | hr
      · exact .inl hr
      · rw [List.mem_singleton.1 hr]
        exact .inr ⟨hy, ⟨k, hL⟩, m, hM⟩
theorem rose_in_ok : ∀ (ms out : List (List Int)), out.length + ms.length ≤ 5864062014805 → ∃ k out', rose_in k x.f0 x.f1 x.f2 x.f3 l ms out = some (none, out') ∧ out'.length ≤ out.length + ms.length ∧ ∀ r ∈ out', r ∈ out ∨ Lesser x l r
  | [], out, _ => ⟨0, out, rfl, by simp, fun r hr => .inl hr⟩
  | m :: ms, out, h => by
    rw [List.length_cons] at h
    obtain ⟨k1, o1, h1, h2, h3⟩ := rose_try_ok x hok l m out (by omega)
    obtain ⟨k2, o2, g1, g2, g3⟩ := rose_in_ok ms o1 (by omega)
    refine ⟨max k1 k2, o2, ?_, by rw [List.length_cons]; omega, fun r hr => ?_⟩
    · simp only [rose_in]
      rw [rose_try.fle (Nat.le_max_left k1 k2) h1]
      exact rose_in.fle (Nat.le_max_right k1 k2) g1
    · rcases g3 r hr with hr | hr
      · exact h3 r hr
      · exact .inr hr
theorem rose_out_ok : ∀ (n i : Nat) (out : List (List Int)), out.length + n * 4 ≤ 5864062014805 → ∃ k out', rose_out k x.f0 x.f1 x.f2 x.f3 l n i out = some (none, out') ∧ out'.length ≤ out.length + n * 4 ∧ ∀ r ∈ out', r ∈ out ∨ Lesser x l r
  | 0, i, out, _ => ⟨0, out, rfl, by simp, fun r hr => .inl hr⟩
  | n + 1, i, out, h => by
    rw [Nat.succ_mul] at h
    have hms : (rose_ms l i).length ≤ 4 := by
      unfold rose_ms rose_tries
      split <;> simp
    obtain ⟨k1, o1, h1, h2, h3⟩ := rose_in_ok x hok l (rose_ms l i) out (by omega)
    obtain ⟨k2, o2, g1, g2, g3⟩ := rose_out_ok n (i + 1) o1 (by omega)
    refine ⟨max k1 k2, o2, ?_, by rw [Nat.succ_mul]; omega, fun r hr => ?_⟩
    · simp only [rose_out]
      rw [rose_in.fle (Nat.le_max_left k1 k2) h1]
      exact rose_out.fle (Nat.le_max_right k1 k2) g1
    · rcases g3 r hr with hr | hr
      · exact h3 r hr
      · exact .inr hr
end
/-- What is replayed is no longer than the most that a generator takes. -/
theorem play_bnd (T : List Int) : ∀ k,
    (∀ n s x v s', OKg n x → gen_made.f (playStp T) k s x.f0 x.f1 x.f2 x.f3 = some (.ok (v, s')) → s' ≤ s + Cn n) ∧
    (∀ n s xs (i : Nat) d e f v s', (∀ y ∈ xs, OKg n y) → gen_made.l0 (playStp T) k s xs (xs.length : Int) (i : Int) d e f = some (.ok (v, s')) → i ≤ xs.length → xs.length ≤ 30 → s' ≤ s + (xs.length - i) * Cn n) ∧
    (∀ n s (c i : Nat) a0 a1 a2 xs d e f v s', (∀ y ∈ xs, OKg n y) → gen_made.l1 (playStp T) k s (c : Int) (i : Int) a0 a1 a2 xs d e f = some (.ok (v, s')) → i ≤ c → c ≤ 30 → s' ≤ s + (c - i) * Cn n)
  | 0 => ⟨fun _ _ _ _ _ _ h => by simp [gen_made.f] at h, fun _ _ _ _ _ _ _ _ _ _ h => by simp [gen_made.l0] at h, fun _ _ _ _ _ _ _ _ _ _ _ _ _ _ h => by simp [gen_made.l1] at h⟩
  | k + 1 => by
    obtain ⟨ih0, ih1, ih2⟩ := play_bnd T k
    have hstep : ∀ s m t s', playStp T s m = .ok (t, s') → 0 ≤ t ∧ t ≤ m ∧ s' = s + 1 := by
      intro s m t s' h
      unfold playStp at h
      split at h
      · cases h
      split at h
      · cases h
      split at h
      · cases h
      cases h
      omega
    refine ⟨?_, ?_, ?_⟩
    · intro n s x v s' hx h
      cases n with
      | zero => exact hx.elim
      | succ n =>
      obtain ⟨hl, hone, hsub⟩ := hx
      simp only [gen_made.f] at h
      simp only [Cn]
      rcases hone with ⟨h1, h3, hA⟩ | ⟨h1, h3, hA⟩ | h1 | ⟨h1, hA, hA5, h3⟩ | ⟨h1, h3⟩
      · simp [h1] at h
        obtain ⟨_, rfl⟩ := h
        omega
      · simp only [h1, show ¬ (2 : Int) = 1 by decide, if_false, if_true] at h
        obtain ⟨⟨t, s1⟩, ht, h⟩ := ebind_ok h
        obtain ⟨_, _, rfl⟩ := hstep _ _ _ _ ht
        cases h
        omega
      · simp only [h1, show ¬ (3 : Int) = 1 by decide, show ¬ (3 : Int) = 2 by decide, if_false, if_true] at h
        have h2 := ih1 n s x.f3 0 _ _ _ _ _ hsub h (Nat.zero_le _) hl
        have h4 : (x.f3.length - 0) * Cn n ≤ 30 * Cn n := Nat.mul_le_mul_right _ (by omega)
        omega
      · simp only [h1, show ¬ (4 : Int) = 1 by decide, show ¬ (4 : Int) = 2 by decide, show ¬ (4 : Int) = 3 by decide, if_false, if_true] at h
        obtain ⟨⟨t, s1⟩, ht, h⟩ := ebind_ok h
        obtain ⟨t0, t1, rfl⟩ := hstep _ _ _ _ ht
        obtain ⟨cn, rfl⟩ := Int.eq_ofNat_of_zero_le t0
        have h2 := ih2 n (s + 1) cn 0 _ _ _ x.f3 _ _ _ _ _ hsub h (Nat.zero_le _) (by omega)
        have h4 : (cn - 0) * Cn n ≤ 30 * Cn n := Nat.mul_le_mul_right _ (by omega)
        omega
      · simp only [h1, show ¬ (5 : Int) = 1 by decide, show ¬ (5 : Int) = 2 by decide, show ¬ (5 : Int) = 3 by decide, show ¬ (5 : Int) = 4 by decide, if_false, if_true] at h
        obtain ⟨⟨t, s1⟩, ht, h⟩ := ebind_ok h
        obtain ⟨t0, t1, rfl⟩ := hstep _ _ _ _ ht
        obtain ⟨cn, rfl⟩ := Int.eq_ofNat_of_zero_le t0
        simp only [if_pos t0] at h
        by_cases g1 : ((cn : Nat) : Int) < (x.f3.length : Int)
        · rw [if_pos g1] at h
          have g1' : cn < x.f3.length := by omega
          rw [rd_T63_at g1'] at h
          obtain ⟨⟨u1, u2⟩, hu, h⟩ := obind_ok h
          cases h
          have h2 := ih0 n (s + 1) _ _ _ (hsub _ (List.getElem_mem g1')) hu
          have h4 : 1 * Cn n ≤ 30 * Cn n := Nat.mul_le_mul_right _ (by omega)
          omega
        · rw [if_neg g1] at h; cases h
    · intro n s xs i d e f v s' hsub h hi hl
      simp only [gen_made.l0] at h
      by_cases hlt : (i : Int) < (xs.length : Int)
      · have hi' : i < xs.length := by omega
        have hw3 : wrap64 ((i : Int) + 1) = ((i + 1 : Nat) : Int) := by rw [wrap64_id (by omega) (by omega)]; omega
        rw [if_pos hlt, if_pos (by omega), if_pos hlt, rd_T63_at hi', hw3] at h
        obtain ⟨⟨u1, u2⟩, hu, h⟩ := obind_ok h
        by_cases g2 : f.length < 3518437208883
        · rw [if_pos g2] at h
          have h2 := ih0 n s _ _ _ (hsub _ (List.getElem_mem hi')) hu
          have h4 := ih1 n u2 xs (i + 1) _ _ _ _ _ hsub h (by omega) hl
          have h5 : (xs.length - i) * Cn n = (xs.length - (i + 1)) * Cn n + Cn n := by
            rw [show xs.length - i = (xs.length - (i + 1)) + 1 by omega, Nat.succ_mul]
          omega
        · rw [if_neg g2] at h; cases h
      · rw [if_neg hlt] at h
        cases h
        omega
    · intro n s c i a0 a1 a2 xs d e f v s' hsub h hi hc
      simp only [gen_made.l1] at h
      by_cases hlt : (i : Int) < (c : Int)
      · have hw3 : wrap64 ((i : Int) + 1) = ((i + 1 : Nat) : Int) := by rw [wrap64_id (by omega) (by omega)]; omega
        rw [if_pos hlt, hw3] at h
        by_cases g0 : 0 < (xs.length : Int)
        · have g0' : 0 < xs.length := by omega
          have hr0 : rd_T63 xs 0 = xs[0] := by simpa using rd_T63_at (n := 0) g0'
          rw [if_pos g0, hr0] at h
          obtain ⟨⟨u1, u2⟩, hu, h⟩ := obind_ok h
          by_cases g2 : f.length < 3518437208883
          · rw [if_pos g2] at h
            have h2 := ih0 n s _ _ _ (hsub _ (List.getElem_mem g0')) hu
            have h4 := ih2 n u2 c (i + 1) _ _ _ xs _ _ _ _ _ hsub h (by omega) hc
            have h5 : (c - i) * Cn n = (c - (i + 1)) * Cn n + Cn n := by
              rw [show c - i = (c - (i + 1)) + 1 by omega, Nat.succ_mul]
            omega
          · rw [if_neg g2] at h; cases h
        · rw [if_neg g0] at h; cases h
      · rw [if_neg hlt] at h
        cases h
        omega
/-- A tape that is replayed without a fault is short. -/
theorem replay_short {x : S63} {T : List Int} {b : Bool} {n : Int} {xs : List S27} (hx : OKg 6 x) (h : gen_Replay.f x.f0 x.f1 x.f2 x.f3 T = some (b, n, xs, none)) : T.length ≤ Cn 6 := by
  obtain ⟨k, h⟩ := Olim_some h
  unfold gen_Replay.g at h
  obtain ⟨e, hC, h⟩ := Option.bind_eq_some_iff.mp h
  cases e with
  | some c => simp at h
  | none =>
    dsimp only at h
    split at h
    case isFalse => cases h
    split at h
    · rename_i b' n' xs' t hm
      split at h
      · simp at h
      · rename_i hlt
        have := (play_bnd T k).1 6 0 x _ _ hx hm
        omega
    · simp at h
    · cases h
/-- Less answers; what it tells is less. -/
theorem rose_halts (x : S63) (l : List Int) (hl : l.length < 4611686018427387904) : ∃ r e, rose_Less.f x.f0 x.f1 x.f2 x.f3 l = some (r, e) ∧ r.length ≤ 4 * Cn 6 ∧ (∀ y ∈ r, Lesser x l y) ∧ (∀ b n xs, OKg 6 x → gen_Replay.f x.f0 x.f1 x.f2 x.f3 l = some (b, n, xs, none) → e = none) := by
  have hC : Cn 6 = 25137931 := by decide
  obtain ⟨b, n, xs, e, hR, _⟩ := replay_halts x l hl
  cases e with
  | some q =>
    refine ⟨[], some q, rose_Less.of (k := 0) ?_, by simp, by simp, fun b' n' xs' _ h' => by rw [hR] at h'; simp at h'⟩
    unfold rose_Less.g
    rw [hR]
    rfl
  | none =>
    rcases gen_law x with ⟨c, hM, hR'⟩ | ⟨hok, hall⟩
    · have := hR' l
      rw [hR] at this
      simp at this
    · have hs := replay_short hok hR
      obtain ⟨k, o, h1, h2, h3⟩ := rose_out_ok x hall l l.length 0 [] (by simp; omega)
      refine ⟨o, none, rose_Less.of (k := k) ?_, by simp at h2; omega, fun y hy => (h3 y hy).resolve_left (by simp), fun _ _ _ _ _ => rfl⟩
      unfold rose_Less.g
      rw [hR]
      simp only [Option.bind_some]
      rw [if_pos (by omega), h1]
      rfl
end Go.Proofs.YtgdomnlkafcddaaDoor.Q
namespace Go.Proofs.YtgdomnlkafcddaaDoor.Q
open Go.RowKit Go.Proofs.YtgdomnlkafcddaaDoorW.PrintWords Go.Proofs.YtgdomnlkafcddaaDoorW.PrintLast Go.Proofs.YtgdomnlkafcddaaDoorW.PrintMore
attribute [local go_sem] max2_int min2_int max_two min_two max_three min_three max_four min_four   -- for this text's walks alone
set_option linter.unusedVariables false
set_option linter.unusedSimpArgs false

/-! ### assayerlaw5_ints: function 28 -/
def assayerlaw5_ints.f (l0 : List Int) : Option (List Int) := (some (([] : List Int) : List Int)).bind fun y101 => (if y101.length + l0.length < 17592186044416 then (some (y101 ++ l0)) else (none))
set_option maxHeartbeats 8000000 in
set_option maxRecDepth 100000 in
theorem assayerlaw5_ints.calls (A0 : Option Addr) (c0 : Nat) (l0 : List Int) (r : List Int) (w : World) (hr0 : Kd.C (Kd.int .i64) w A0 l0.length l0) (hc0 : l0.length ≤ c0) (h : assayerlaw5_ints.f l0 = some r) :
    Calls Tryd.prog 28 #[.slice A0 l0.length c0] w fun e w' => ∃ v0_ : Value, e = .returned (v0_) ∧ Kd.R (Kd.int .i64) 3 w' w.heap.size (fun _ => True) v0_ r ∧ Below w.heap.size w w' := by
  have HR0 := Aside0.mk hr0
  have HC0 := Aside0.mk hc0
  clear hr0 hc0
  have HB := Aside0.mk (Below.refl w.heap.size w)
  have H : ((some (([] : List Int) : List Int)).bind fun y101 => (if y101.length + l0.length < 17592186044416 then (some (y101 ++ l0)) else (none))) = some r := h
  clear h
  obtain ⟨y101, hy101⟩ : ∃ y_ : List Int, y_ = (([] : List Int)) := ⟨_, rfl⟩
  replace H : (if y101.length + l0.length < 17592186044416 then (some (y101 ++ l0)) else (none)) = some r := by first | (rw [hy101]; with_reducible exact H) | (have H2_ := (Option.bind_some _ _).symm.trans H; rw [hy101]; with_reducible exact H2_) | (have H2_ := (Option.bind_some _ _).symm.trans H; with_reducible exact H2_) | with_reducible exact H | (rw [hy101]; exact H) | exact H
  have Ny101 := Aside0.mk hy101
  clear hy101
  by_cases c2 : y101.length + l0.length < 17592186044416
  · rw [if_pos c2] at H
    have LMc2 := Aside0.mk c2
    clear c2
    obtain ⟨y104, hy104⟩ : ∃ y_ : List Int, y_ = (y101 ++ l0) := ⟨_, rfl⟩
    replace H : (some y104) = some r := by first | (rw [hy104]; with_reducible exact H) | (have H2_ := (Option.bind_some _ _).symm.trans H; rw [hy104]; with_reducible exact H2_) | (have H2_ := (Option.bind_some _ _).symm.trans H; with_reducible exact H2_) | with_reducible exact H | (rw [hy104]; exact H) | exact H
    have Ny104 := Aside0.mk hy104
    clear hy104
    obtain rfl := Option.some.inj H
    go_enter Tryd.func28, Tryd.ntmps28
    go_wp2_with (first | ((with_reducible refine gate_dst (N := 3) rfl ?_); refine Kd.R_lit (Kd.int .i64) _ 3 ?hg (N := 3) ?hd (xs := ([] : List Int)) (inner := []) (ok := fun _ => True) (okp := fun _ => True) ?hr ?hp (fun _ hk => hk) trivial (Below.refl _ _) (Nat.le_refl _) (by simp) ?_; (case hd => rfl); (case hg => rfl); (case hr => first | (go_simp; done) | (go_simp; rfl)); (case hp => exact (Reps.none _ _)); intro v102 w3 ho4 hb hg_ hnew_; clear hg_ hnew_; (first | rw [← Ny101.out] at ho4 | (simp only [Int.reduceToNat] at ho4; rw [← Ny101.out] at ho4)); have n0_ := Aside0.mk (Kd.R_lower ho4 (below_size (by repeat (first | (with_reducible first | exact HB.out | apply below_alloc | apply pw_below_drewN | apply below_drew1) | exact HB.out)))); have n1_ := Aside0.mk (below_step (by repeat (first | (with_reducible first | exact HB.out | apply below_alloc | apply pw_below_drewN | apply below_drew1) | exact HB.out)) hb); clear HB; have HO103 := n0_; have HB := n1_; clear n0_ n1_; clear hb ho4) | ((with_reducible refine gate_builtin (b := .append) (xs := #[.tmp 3, .tmp 4]) rfl ?_); at_builtin; refine Kd.R_append_rows (Kd.int .i64) (w0 := w) w.heap.size rfl (.tmp 3) (.tmp 4) 36 3 (.int .i64 0) 8 rfl Tryd.underlying36 info3 rfl (by decide) (by omega) v102 y101 l0 _ _ _ (fun _ => True) (fun _ => False) rfl rfl ?aO ?aR (fun _ _ h => h) (fun _ h => h.elim) ?aF ?aB ?aS ?aL ?_; (case aR => repeat (first | exact (Kd.C_below HR0.out HB.out) | (with_reducible refine Kd.C_alloc ?_ _) | (with_reducible refine Kd.C_drewN ?_ _) | (with_reducible refine Kd.C_drew ?_))); (case aB => exact (by repeat (first | (with_reducible first | exact HB.out | apply below_alloc | apply pw_below_drewN | apply below_drew1) | exact HB.out))); (case aF => exact (fun _ _ => trivial)); (case aO => exact (by (with_reducible repeat (first | apply Kd.R_alloc | apply Kd.R_drewN | apply Kd.R_drew)); exact HO103.out)); (case aS => exact (below_size (by repeat (first | (with_reducible first | exact HB.out | apply below_alloc | apply pw_below_drewN | apply below_drew1) | exact HB.out)))); (case aL => have := LMc2.out; omega); intro v105 w5 ho hb hg hat; rw [← Ny104.out] at ho; have n0_ := Aside0.mk (hb); have n1_ := Aside0.mk (ho); clear HB; clear HO103; have HB := n0_; have HO106 := n1_; clear n0_ n1_; clear ho hb hg hat))
    go_ret
    exact ⟨_, by first | rfl | (simp [errW_none, errW_some] <;> rfl) | (simp [*, errW_none, errW_some] <;> rfl), by (with_reducible repeat (first | apply Kd.R_alloc | apply Kd.R_drewN | apply Kd.R_drew)); exact HO106.out, by repeat (first | (with_reducible first | exact HB.out | apply below_alloc | apply pw_below_drewN | apply below_drew1) | exact HB.out)⟩
  · rw [if_neg c2] at H
    exact absurd H (by simp)

end Go.Proofs.YtgdomnlkafcddaaDoor.Q
namespace Go.Proofs.YtgdomnlkafcddaaDoor.Q
open Go.RowKit Go.Proofs.YtgdomnlkafcddaaDoorW.PrintWords Go.Proofs.YtgdomnlkafcddaaDoorW.PrintLast Go.Proofs.YtgdomnlkafcddaaDoorW.PrintMore
attribute [local go_sem] max2_int min2_int max_two min_two max_three min_three max_four min_four   -- for this text's walks alone
set_option linter.unusedVariables false
set_option linter.unusedSimpArgs false

/-! ### assayerlaw5_rows: function 24 -/
def assayerlaw5_rows.l0 : Nat → List (List Int) → List (List Int) → Int → Option ((List (List Int)))
  | 0, _, _, _ => none
  | k + 1, x0, x3, x4 => if x4 < (x0.length : Int) then (if 0 ≤ x4 then ((assayerlaw5_ints.f (rd_L1 x0 x4)).bind fun t108 => (if x3.length < 5864062014805 then (assayerlaw5_rows.l0 k x0 (x3 ++ [t108]) (wrap64 (x4 + 1))) else (none))) else (none)) else (some x3)
def assayerlaw5_rows.f (k : Nat) (l0 : List (List Int)) : Option ((List (List Int))) := assayerlaw5_rows.l0 k l0 ([] : List (List Int)) 0
theorem assayerlaw5_rows.mono_l : ∀ k, (∀ y0 y1 y2, LeO (assayerlaw5_rows.l0 k y0 y1 y2) (assayerlaw5_rows.l0 (k + 1) y0 y1 y2))
  | 0 => fun _ _ _ r h => by simp [assayerlaw5_rows.l0] at h
  | k + 1 => by
    have ih0 := assayerlaw5_rows.mono_l k
    · intro y0 y1 y2
      unfold assayerlaw5_rows.l0
      repeat' first
      | (with_reducible exact ih0 _ _ _)
      | (with_reducible exact LeO.refl _)
      | (with_reducible exact LeO.none _)
      | (with_reducible refine LeO.ite ?_ ?_)
      | (with_reducible refine LeO.bind ?_ (fun _ => ?_))
      | exact ih0 _ _ _
      | exact LeO.none _
      | refine LeO.ite ?_ ?_
      | refine LeO.bind ?_ (fun _ => ?_)
theorem assayerlaw5_rows.mono : ∀ a0 k, LeO (assayerlaw5_rows.f k a0) (assayerlaw5_rows.f (k + 1) a0) := by
  intro a0 k
  have ih0 := assayerlaw5_rows.mono_l k
  unfold assayerlaw5_rows.f
  repeat' first
      | (with_reducible exact ih0 _ _ _)
      | (with_reducible exact LeO.refl _)
      | (with_reducible exact LeO.none _)
      | (with_reducible refine LeO.ite ?_ ?_)
      | (with_reducible refine LeO.bind ?_ (fun _ => ?_))
      | exact ih0 _ _ _
      | exact LeO.none _
      | refine LeO.ite ?_ ?_
      | refine LeO.bind ?_ (fun _ => ?_)
set_option maxHeartbeats 8000000 in
set_option maxRecDepth 100000 in
theorem assayerlaw5_rows.calls (k : Nat) (A0 : Option Addr) (c0 : Nat) (l0 : List (List Int)) (r : List (List Int)) (w : World) (hr0 : Kd.C (Kd.slice 3 (Kd.int .i64)) w A0 l0.length l0) (hc0 : l0.length ≤ c0) (h : assayerlaw5_rows.f k l0 = some r) :
    Calls Tryd.prog 24 #[.slice A0 l0.length c0] w fun e w' => ∃ v0_ : Value, e = .returned (v0_) ∧ Kd.S (Kd.slice 3 (Kd.int .i64)) 36 w' w.heap.size (fun _ => True) v0_ r ∧ Below w.heap.size w w' := by
  have HR0 := Aside0.mk hr0
  have HC0 := Aside0.mk hc0
  clear hr0 hc0
  have HB := Aside0.mk (Below.refl w.heap.size w)
  have H : (assayerlaw5_rows.l0 k l0 ([] : List (List Int)) 0) = some r := h
  clear h
  have H' := Aside0.mk H
  clear H
  go_enter Tryd.func24, Tryd.ntmps24
  go_wp2
  go_loopg [3, 4] k (fun kq v3 v4 w' => ∃ (x3_1 : List (List Int)) (x4_1 : Int), v4 = .int .i64 x4_1 ∧ Aside0 (assayerlaw5_rows.l0 kq l0 x3_1 x4_1 = some r) ∧ Aside0 (kq ≤ k) ∧ Aside0 (Kd.S (Kd.slice 3 (Kd.int .i64)) 36 w' w.heap.size (fun _ => True) v3 x3_1) ∧ Aside0 (Below w.heap.size w w'))
  case atStart => exact ⟨(([] : List (List Int))), (0), (by first | rfl | (simp; done) | (simp [*]; done)), H', ⟨Nat.le_refl _⟩, ⟨by first | exact Kd.S_nil _ _ _ _ _ | exact Kd.N_nil _ _ _ _ _ | exact Kd.V_nil _ _ _ _ _ | exact Kd.Q_nil _ _ _ _ _ | exact Kd.R_nil _ _ _ _ _⟩, ⟨by repeat (first | (with_reducible first | exact HB.out | apply below_alloc | apply pw_below_drewN | apply below_drew1) | exact HB.out)⟩⟩
  case round =>
    clear H'
    obtain ⟨x3_1, x4_1, rfl, HA, HK1, HO_3, HB⟩ := hrel
    cases gk with
    | zero => exact absurd HA.out (by simp [assayerlaw5_rows.l0])
    | succ k1 =>
      have H := HA.out
      clear HA
      simp only [assayerlaw5_rows.l0] at H
      by_cases c2 : x4_1 < (l0.length : Int)
      · rw [if_pos c2] at H
        have c2b0 : decide (x4_1 < (l0.length : Int)) = true := decide_eq_true c2
        clear c2
        by_cases c3 : 0 ≤ x4_1
        · rw [if_pos c3] at H
          have c3b0 : decide (0 ≤ x4_1) = true := decide_eq_true c3
          clear c3
          replace H := Option.bind_eq_some_iff.mp H
          obtain ⟨t108, A40, H⟩ := H
          replace H : (if x3_1.length < 5864062014805 then (assayerlaw5_rows.l0 k1 l0 (x3_1 ++ [t108]) (wrap64 (x4_1 + 1))) else (none)) = some r := H
          have A4 := Aside0.mk A40
          clear A40
          by_cases c5 : x3_1.length < 5864062014805
          · rw [if_pos c5] at H
            have LMc5 := Aside0.mk c5
            clear c5
            obtain ⟨y111, hy111⟩ : ∃ y_ : List (List Int), y_ = (x3_1 ++ [t108]) := ⟨_, rfl⟩
            replace H : (assayerlaw5_rows.l0 k1 l0 y111 (wrap64 (x4_1 + 1))) = some r := by first | (rw [hy111]; with_reducible exact H) | (have H2_ := (Option.bind_some _ _).symm.trans H; rw [hy111]; with_reducible exact H2_) | (have H2_ := (Option.bind_some _ _).symm.trans H; with_reducible exact H2_) | with_reducible exact H | (rw [hy111]; exact H) | exact H
            have Ny111 := Aside0.mk hy111
            clear hy111
            have H' := Aside0.mk H
            clear H
            have p107 : 0 ≤ (x4_1 : Int) := of_decide_eq_true (by first | (with_reducible assumption) | assumption)
            have q107 : x4_1 < (l0.length : Int) := of_decide_eq_true (by first | (with_reducible assumption) | assumption)
            obtain ⟨ad107, A107_0, c107_0, e107, hx107_0, hl107_0, hi107_0⟩ := at_L1 HR0.out x4_1 p107 q107
            cases e107
            replace hx107_0 := (HB.out.cell (World.block_lt_of_cell? w _ hx107_0)).trans hx107_0
            have HR107_0 := Aside0.mk hi107_0
            have HC107_0 := Aside0.mk hl107_0
            clear hi107_0 hl107_0
            replace p107 := eq_true p107
            replace q107 := eq_true q107
            go_wp2_with (first | ((with_reducible refine gate_callee (f := 28) rfl ?_); refine goesL_ (some 16) rfl rfl Tryd.func28 (by kernel_rfl) rfl #[.slice A107_0 (rd_L1 l0 x4_1).length c107_0] rfl (by (try simp only [List.map_toArray, List.map_cons, List.map_nil]); first | done | rfl | (simp only [List.length_drop, List.length_take]; rfl)) ?_; (with_reducible refine (assayerlaw5_ints.calls _ _ (rd_L1 l0 x4_1) t108 _ ?side1 ?side2 A4.out).mono ?_); (case side1 => repeat (first | exact (Kd.C_below HR107_0.out HB.out) | (with_reducible refine Kd.C_alloc ?_ _) | (with_reducible refine Kd.C_drewN ?_ _) | (with_reducible refine Kd.C_drew ?_))); (case side2 => exact HC107_0.out); rintro e w6 ⟨v109, rfl, ho0, hb⟩; refine ⟨_, rfl, ?_⟩; have n0_ := Aside0.mk (Kd.S_elder' (by (with_reducible repeat (first | apply Kd.S_alloc | apply Kd.S_drewN | apply Kd.S_drew)); exact HO_3.out) (Kd.R_base ho0) hb); have n1_ := Aside0.mk (Kd.R_lower ho0 (below_size (by repeat (first | (with_reducible first | exact HB.out | apply below_alloc | apply pw_below_drewN | apply below_drew1) | exact HB.out)))); have n2_ := Aside0.mk (below_step (by repeat (first | (with_reducible first | exact HB.out | apply below_alloc | apply pw_below_drewN | apply below_drew1) | exact HB.out)) hb); clear HO_3; clear HB; have HO_3 := n0_; have HO110 := n1_; have HB := n2_; clear n0_ n1_ n2_; (try clear hb); (try clear hb2); (try clear hk); (try clear hi); (try clear ho0); obtain ⟨Ao8, co8, eo8⟩ := Kd.R_slice HO110.out; subst eo8) | ((with_reducible refine gate_builtin (b := .append) (xs := #[.tmp 11, .tmp 17]) rfl ?_); at_builtin; refine Kd.S_append (Kd.slice 3 (Kd.int .i64)) (w0 := w) w.heap.size rfl (.tmp 11) (.tmp 17) 49 36 (.slice none 0 0) 24 rfl Tryd.underlying49 info36 rfl (by decide) (by omega) u3 x3_1 t108 [.slice Ao8 t108.length co8] (fun _ => True) (fun k_ => some k_ = (.slice Ao8 t108.length co8 : Value).ownBlock) rfl rfl ?aP (fun k_ hk_ => ((Kd.R_mono (ok' := fun k_ => ((fun _ => True)) k_ ∧ some k_ ≠ (u3 : Value).ownBlock) (Kd.R_apart' (HO110.out) (Kd.S_typed HO_3.out) (by decide)) (fun k_ hk => ⟨trivial, hk.2⟩))).1 k_ hk_.symm) ?aF ?aO ?aB ?aS ?aL ?_; (case aP => exact Kd.M_row (Kd.R_mono (Kd.R_tight rfl (Kd.R_mono (ok' := fun k_ => ((fun _ => True)) k_ ∧ some k_ ≠ (u3 : Value).ownBlock) (Kd.R_apart' (HO110.out) (Kd.S_typed HO_3.out) (by decide)) (fun k_ hk => ⟨trivial, hk.2⟩))) (fun _ h_ => h_))); (case aB => exact (by repeat (first | (with_reducible first | exact HB.out | apply below_alloc | apply pw_below_drewN | apply below_drew1) | exact HB.out))); (case aF => exact (fun _ _ => trivial)); (case aO => exact (by (with_reducible repeat (first | apply Kd.S_alloc | apply Kd.S_drewN | apply Kd.S_drew)); exact Kd.S_mono HO_3.out (fun k_ hk => ⟨trivial, fun e_ => hk.2 e_⟩))); (case aS => exact (below_size (by repeat (first | (with_reducible first | exact HB.out | apply below_alloc | apply pw_below_drewN | apply below_drew1) | exact HB.out)))); (case aL => have := LMc5.out; omega); intro v112 w7 ho hb hg hat; rw [← Ny111.out] at ho; have n0_ := Aside0.mk (hb); have n1_ := Aside0.mk (ho); clear HB; clear HO_3; clear HO110; have HB := n0_; have HO113 := n1_; clear n0_ n1_; clear ho hb hg hat))
            go_roundg k1
            case measure => have := HK1.out; omega
            case rel => exact ⟨(y111), (wrap64 (x4_1 + 1)), (by first | rfl | (simp; done) | (simp [*]; done)), H', ⟨by have := HK1.out; omega⟩, ⟨by (with_reducible repeat (first | apply Kd.S_alloc | apply Kd.S_drewN | apply Kd.S_drew)); exact HO113.out⟩, ⟨by repeat (first | (with_reducible first | exact HB.out | apply below_alloc | apply pw_below_drewN | apply below_drew1) | exact HB.out)⟩⟩
          · rw [if_neg c5] at H
            exact absurd H (by simp)
        · rw [if_neg c3] at H
          exact absurd H (by simp)
      · rw [if_neg c2] at H
        have c2b0 : decide (x4_1 < (l0.length : Int)) = false := decide_eq_false c2
        clear c2
        obtain rfl := Option.some.inj H
        go_wp2
        go_ret
        exact ⟨_, by first | rfl | (simp [errW_none, errW_some] <;> rfl) | (simp [*, errW_none, errW_some] <;> rfl), by (with_reducible repeat (first | apply Kd.S_alloc | apply Kd.S_drewN | apply Kd.S_drew)); exact HO_3.out, by repeat (first | (with_reducible first | exact HB.out | apply below_alloc | apply pw_below_drewN | apply below_drew1) | exact HB.out)⟩

end Go.Proofs.YtgdomnlkafcddaaDoor.Q
namespace Go.Proofs.YtgdomnlkafcddaaDoor.Q
open Go.RowKit Go.Proofs.YtgdomnlkafcddaaDoorW.PrintWords Go.Proofs.YtgdomnlkafcddaaDoorW.PrintLast Go.Proofs.YtgdomnlkafcddaaDoorW.PrintMore
attribute [local go_sem] max2_int min2_int max_two min_two max_three min_three max_four min_four   -- for this text's walks alone
set_option linter.unusedVariables false
set_option linter.unusedSimpArgs false

/-! ### assayerlaw5_spoil: function 29 -/
def assayerlaw5_spoil.l0 : Nat → List Int → Int → Int → Option (List Int)
  | 0, _, _, _ => none
  | k + 1, x0, x1, x4 => if x4 < (x0.length : Int) then (if 0 ≤ x4 then (assayerlaw5_spoil.l0 k (x0.set (x4 : Int).toNat x1) x1 (wrap64 (x4 + 1))) else (none)) else (some x0)
def assayerlaw5_spoil.f (k : Nat) (l0 : List Int) (a1 : Int) : Option (List Int) := assayerlaw5_spoil.l0 k l0 a1 0
theorem assayerlaw5_spoil.mono_l : ∀ k, (∀ y0 y1 y2, LeO (assayerlaw5_spoil.l0 k y0 y1 y2) (assayerlaw5_spoil.l0 (k + 1) y0 y1 y2))
  | 0 => fun _ _ _ r h => by simp [assayerlaw5_spoil.l0] at h
  | k + 1 => by
    have ih0 := assayerlaw5_spoil.mono_l k
    · intro y0 y1 y2
      unfold assayerlaw5_spoil.l0
      repeat' first
      | (with_reducible exact ih0 _ _ _)
      | (with_reducible exact LeO.refl _)
      | (with_reducible exact LeO.none _)
      | (with_reducible refine LeO.ite ?_ ?_)
      | (with_reducible refine LeO.bind ?_ (fun _ => ?_))
      | exact ih0 _ _ _
      | exact LeO.none _
      | refine LeO.ite ?_ ?_
      | refine LeO.bind ?_ (fun _ => ?_)
theorem assayerlaw5_spoil.mono : ∀ a0 a1 k, LeO (assayerlaw5_spoil.f k a0 a1) (assayerlaw5_spoil.f (k + 1) a0 a1) := by
  intro a0 a1 k
  have ih0 := assayerlaw5_spoil.mono_l k
  unfold assayerlaw5_spoil.f
  repeat' first
      | (with_reducible exact ih0 _ _ _)
      | (with_reducible exact LeO.refl _)
      | (with_reducible exact LeO.none _)
      | (with_reducible refine LeO.ite ?_ ?_)
      | (with_reducible refine LeO.bind ?_ (fun _ => ?_))
      | exact ih0 _ _ _
      | exact LeO.none _
      | refine LeO.ite ?_ ?_
      | refine LeO.bind ?_ (fun _ => ?_)
set_option maxHeartbeats 8000000 in
set_option maxRecDepth 100000 in
theorem assayerlaw5_spoil.calls (k : Nat) (P0_ : Nat → Prop) (u9000_ : Value) (l0 : List Int) (a1 : Int) (r : List Int) (w0 w : World) (hB : Below w0.heap.size w0 w) (ho0 : Kd.R (Kd.int .i64) 3 w w0.heap.size P0_ u9000_ l0) (h : assayerlaw5_spoil.f k l0 a1 = some r) :
    Calls Tryd.prog 29 #[u9000_, .int .i64 a1] w fun e w' => e = .returned (.tuple #[]) ∧ Kd.R (Kd.int .i64) 3 w' w0.heap.size (fun k_ => (P0_ k_ ∨ w.heap.size ≤ k_)) u9000_ r ∧ Below w0.heap.size w0 w' ∧ Kept w w' (fun k_ => P0_ k_) := by
  have HO0 := Aside0.mk (show Kd.R (Kd.int .i64) 3 w w0.heap.size (fun k_ => (P0_ k_ ∨ w.heap.size ≤ k_)) u9000_ l0 from Kd.R_mono ho0 (fun k_ hk => (.inl hk)))
  have HK := Aside0.mk (Kept.refl w (fun k_ => P0_ k_))
  have HW0 := Aside0.mk hB.size
  have HB := Aside0.mk hB
  clear hB
  have H : (assayerlaw5_spoil.l0 k l0 a1 0) = some r := h
  clear h
  have H' := Aside0.mk H
  clear H
  go_enter Tryd.func29, Tryd.ntmps29
  go_wp2
  go_loopg [4] k (fun kq v4 w' => ∃ (x0_1 : List Int) (x4_1 : Int), v4 = .int .i64 x4_1 ∧ Aside0 (assayerlaw5_spoil.l0 kq x0_1 a1 x4_1 = some r) ∧ Aside0 (kq ≤ k) ∧ Aside0 (Kd.R (Kd.int .i64) 3 w' w0.heap.size (fun k_ => (P0_ k_ ∨ w.heap.size ≤ k_)) u9000_ x0_1) ∧ Aside0 (Kept w w' (fun k_ => P0_ k_)) ∧ Aside0 (Below w0.heap.size w0 w'))
  case atStart => exact ⟨(l0), (0), (by first | rfl | (simp; done) | (simp [*]; done)), H', ⟨Nat.le_refl _⟩, ⟨by (with_reducible repeat (first | apply Kd.R_alloc | apply Kd.R_drewN | apply Kd.R_drew)); exact HO0.out⟩, ⟨by repeat (first | (with_reducible first | exact HK.out | apply Kept.alloc | apply Kept.drewN | apply Kept.drew) | exact HK.out)⟩, ⟨by repeat (first | (with_reducible first | exact HB.out | apply below_alloc | apply pw_below_drewN | apply below_drew1) | exact HB.out)⟩⟩
  case round =>
    clear H'
    try clear c2
    try clear p2
    obtain ⟨x0_1, x4_1, rfl, HA, HK1, HO_0, HK, HB⟩ := hrel
    cases gk with
    | zero => exact absurd HA.out (by simp [assayerlaw5_spoil.l0])
    | succ k1 =>
      have H := HA.out
      clear HA
      simp only [assayerlaw5_spoil.l0] at H
      by_cases c3 : x4_1 < (x0_1.length : Int)
      · rw [if_pos c3] at H
        have c3b0 : decide (x4_1 < (x0_1.length : Int)) = true := decide_eq_true c3
        clear c3
        by_cases c4 : 0 ≤ x4_1
        · rw [if_pos c4] at H
          have c4b0 : decide (0 ≤ x4_1) = true := decide_eq_true c4
          clear c4
          obtain ⟨y192, hy192⟩ : ∃ y_ : List Int, y_ = (x0_1.set (x4_1 : Int).toNat a1) := ⟨_, rfl⟩
          replace H : (assayerlaw5_spoil.l0 k1 y192 a1 (wrap64 (x4_1 + 1))) = some r := by first | (rw [hy192]; with_reducible exact H) | (have H2_ := (Option.bind_some _ _).symm.trans H; rw [hy192]; with_reducible exact H2_) | (have H2_ := (Option.bind_some _ _).symm.trans H; with_reducible exact H2_) | with_reducible exact H | (rw [hy192]; exact H) | exact H
          have Ny192 := Aside0.mk hy192
          clear hy192
          have H' := Aside0.mk H
          clear H
          obtain ⟨Ao6, co6, eo6⟩ := Kd.R_slice HO_0.out
          subst eo6
          have p5 : 0 ≤ (x4_1 : Int) := of_decide_eq_true (by first | (with_reducible assumption) | assumption)
          have q5 : (x4_1 : Int) < ((x0_1.length : Int) : Int) := of_decide_eq_true (by first | (with_reducible assumption) | assumption)
          obtain ⟨go5, co5, eo5, gb5, gl5, cl5, HG5⟩ := Kd.R_form HO_0.out (by omega)
          (first | cases eo5 | (injection eo5 with ea_ en_ ec_; (first | subst ea_ | (injection ea_ with ea_; subst ea_)); subst ec_; clear en_))
          have GB5 := Aside0.mk gb5
          have GG5 := Aside0.mk HG5
          clear gb5 gl5 HG5
          have HMgo5 := Aside0.mk (show (P0_ go5 ∨ w.heap.size ≤ go5) from (HO_0.out.1 _ rfl))
          obtain ⟨hx5_0, hf5_0⟩ := Kd.R_celln 0 HO_0.out (x4_1 : Int) p5 q5
          replace p5 := eq_true p5
          replace q5 := eq_true q5
          have HP7 := Kd.R_putg HO_0.out (x4_1 : Int) a1
          go_wp2_with (first | ((with_reducible refine gate_store (t := 3) (p := 14) rfl ?_); refine store_event (t := 3) (p := 14) (v := ?vo_w8) (w1 := (wr.setCell ⟨go5, (x4_1 : Int).toNat, none⟩ (.int .i64 a1))) ?hg ?ho ?hn ?hr ?_; (case ho => rfl); (case hg => rfl); (case hn => rfl); (case hr => first | (go_simp; done) | (go_simp; rfl)); intro w8 hw; have hg : wr.grownBy w8 (some go5) := (by rw [hw]; exact HP7.2); have hp_ : Kd.R (Kd.int .i64) 3 w8 w0.heap.size (fun k_ => (P0_ k_ ∨ w.heap.size ≤ k_)) (.slice (some ⟨go5, 0, none⟩) x0_1.length co6) y192 := (by rw [hw, Ny192.out]; exact HP7.1); clear HP7; have n0_ := Aside0.mk (hp_); have n1_ := Aside0.mk ((by rw [hw]; exact below_set (HB.out) GB5.out : Below w0.heap.size w0 w8)); have n2_ := Aside0.mk (Kept.of_grown (S := (fun k_ => P0_ k_)) hg (by repeat (first | (with_reducible first | exact HK.out | apply Kept.alloc | apply Kept.drewN | apply Kept.drew) | exact HK.out)) (fun k_ e_ => (HO_0.out.1 k_ e_))); clear HO_0; clear HB; clear HK; have HO_0 := n0_; have HB := n1_; have HK := n2_; clear n0_ n1_ n2_; clear hg hw hp_))
          go_roundg k1
          case measure => have := HK1.out; omega
          case rel => exact ⟨(y192), (wrap64 (x4_1 + 1)), (by first | rfl | (simp; done) | (simp [*]; done)), H', ⟨by have := HK1.out; omega⟩, ⟨by (with_reducible repeat (first | apply Kd.R_alloc | apply Kd.R_drewN | apply Kd.R_drew)); exact HO_0.out⟩, ⟨by repeat (first | (with_reducible first | exact HK.out | apply Kept.alloc | apply Kept.drewN | apply Kept.drew) | exact HK.out)⟩, ⟨by repeat (first | (with_reducible first | exact HB.out | apply below_alloc | apply pw_below_drewN | apply below_drew1) | exact HB.out)⟩⟩
        · rw [if_neg c4] at H
          exact absurd H (by simp)
      · rw [if_neg c3] at H
        have c3b0 : decide (x4_1 < (x0_1.length : Int)) = false := decide_eq_false c3
        clear c3
        obtain rfl := Option.some.inj H
        obtain ⟨Ao9, co9, eo9⟩ := Kd.R_slice HO_0.out
        subst eo9
        go_wp2
        first | go_end0 | ((try simp only [Exit.inBlock, Exit.then]); refine bodyPost_ret (results_none rfl _ _ _) rfl ?_)
        exact ⟨by first | rfl | (simp [errW_none, errW_some] <;> rfl) | (simp [*, errW_none, errW_some] <;> rfl), by (with_reducible repeat (first | apply Kd.R_alloc | apply Kd.R_drewN | apply Kd.R_drew)); exact HO_0.out, by repeat (first | (with_reducible first | exact HB.out | apply below_alloc | apply pw_below_drewN | apply below_drew1) | exact HB.out), by repeat (first | (with_reducible first | exact HK.out | apply Kept.alloc | apply Kept.drewN | apply Kept.drew) | exact HK.out)⟩

end Go.Proofs.YtgdomnlkafcddaaDoor.Q
namespace Go.Proofs.YtgdomnlkafcddaaDoor.Q
open Go.RowKit Go.Proofs.YtgdomnlkafcddaaDoorW.PrintWords Go.Proofs.YtgdomnlkafcddaaDoorW.PrintLast Go.Proofs.YtgdomnlkafcddaaDoorW.PrintMore
attribute [local go_sem] max2_int min2_int max_two min_two max_three min_three max_four min_four   -- for this text's walks alone
set_option linter.unusedVariables false
set_option linter.unusedSimpArgs false

/-! ### assayersame_Ints: function 30 -/
def assayersame_Ints.l0 : Nat → List Int → List Int → Int → Option (Bool)
  | 0, _, _, _ => none
  | k + 1, x0, x1, x5 => if x5 < (x0.length : Int) then (if 0 ≤ x5 then (if x5 < (x1.length : Int) then (if (rd x0 x5) = (rd x1 x5) then (assayersame_Ints.l0 k x0 x1 (wrap64 (x5 + 1))) else (some false)) else (none)) else (none)) else (some true)
def assayersame_Ints.f (k : Nat) (l0 : List Int) (l1 : List Int) : Option (Bool) := if (l0.length : Int) = (l1.length : Int) then (assayersame_Ints.l0 k l0 l1 0) else (some false)
theorem assayersame_Ints.mono_l : ∀ k, (∀ y0 y1 y2, LeO (assayersame_Ints.l0 k y0 y1 y2) (assayersame_Ints.l0 (k + 1) y0 y1 y2))
  | 0 => fun _ _ _ r h => by simp [assayersame_Ints.l0] at h
  | k + 1 => by
    have ih0 := assayersame_Ints.mono_l k
    · intro y0 y1 y2
      unfold assayersame_Ints.l0
      repeat' first
      | (with_reducible exact ih0 _ _ _)
      | (with_reducible exact LeO.refl _)
      | (with_reducible exact LeO.none _)
      | (with_reducible refine LeO.ite ?_ ?_)
      | (with_reducible refine LeO.bind ?_ (fun _ => ?_))
      | exact ih0 _ _ _
      | exact LeO.none _
      | refine LeO.ite ?_ ?_
      | refine LeO.bind ?_ (fun _ => ?_)
theorem assayersame_Ints.mono : ∀ a0 a1 k, LeO (assayersame_Ints.f k a0 a1) (assayersame_Ints.f (k + 1) a0 a1) := by
  intro a0 a1 k
  have ih0 := assayersame_Ints.mono_l k
  unfold assayersame_Ints.f
  repeat' first
      | (with_reducible exact ih0 _ _ _)
      | (with_reducible exact LeO.refl _)
      | (with_reducible exact LeO.none _)
      | (with_reducible refine LeO.ite ?_ ?_)
      | (with_reducible refine LeO.bind ?_ (fun _ => ?_))
      | exact ih0 _ _ _
      | exact LeO.none _
      | refine LeO.ite ?_ ?_
      | refine LeO.bind ?_ (fun _ => ?_)
set_option maxHeartbeats 8000000 in
set_option maxRecDepth 100000 in
theorem assayersame_Ints.calls (k : Nat) (A0 : Option Addr) (c0 : Nat) (l0 : List Int) (A1 : Option Addr) (c1 : Nat) (l1 : List Int) (r : Bool) (w : World) (hr0 : Kd.C (Kd.int .i64) w A0 l0.length l0) (hc0 : l0.length ≤ c0) (hr1 : Kd.C (Kd.int .i64) w A1 l1.length l1) (hc1 : l1.length ≤ c1) (h : assayersame_Ints.f k l0 l1 = some r) :
    Calls Tryd.prog 30 #[.slice A0 l0.length c0, .slice A1 l1.length c1] w fun e w' => e = .returned (.bool r) ∧ Drawn0 w w' := by
  have HR0 := Aside0.mk hr0
  have HC0 := Aside0.mk hc0
  clear hr0 hc0
  have HR1 := Aside0.mk hr1
  have HC1 := Aside0.mk hc1
  clear hr1 hc1
  have H : (if (l0.length : Int) = (l1.length : Int) then (assayersame_Ints.l0 k l0 l1 0) else (some false)) = some r := h
  clear h
  by_cases c3 : (l0.length : Int) = (l1.length : Int)
  · rw [if_pos c3] at H
    have c3b0 : ((l0.length : Int) == (l1.length : Int)) = true := beq_iff_eq.mpr c3
    have c3b1 : ((l0.length : Int) != (l1.length : Int)) = false := bne_eq_false_iff_eq.mpr c3
    have c3b2 : (l0.length == l1.length) = true := by first | simpa using c3 | (simp at c3 ⊢; omega)
    clear c3
    have H' := Aside0.mk H
    clear H
    go_enter Tryd.func30, Tryd.ntmps30
    go_wp2
    repeat (go_quiet (fail); try go_wp2)
    go_loopg [5] k (fun kq v5 w' => ∃ (x5_1 : Int), v5 = .int .i64 x5_1 ∧ Aside0 (assayersame_Ints.l0 kq l0 l1 x5_1 = some r) ∧ Aside0 (kq ≤ k) ∧ Drawn0 w w')
    case atStart => exact ⟨(0), (by first | rfl | (simp; done) | (simp [*]; done)), H', ⟨Nat.le_refl _⟩, by repeat (first | exact Drawn0.refl _ | apply Drawn0.step)⟩
    case round =>
      clear H'
      try clear c1
      try clear p2
      try clear c3
      try clear c3b0
      try clear c3b1
      try clear c3b2
      obtain ⟨x5_1, rfl, HA, HK1, ⟨m1, rfl⟩⟩ := hrel
      cases gk with
      | zero => exact absurd HA.out (by simp [assayersame_Ints.l0])
      | succ k1 =>
        have H := HA.out
        clear HA
        simp only [assayersame_Ints.l0] at H
        by_cases c4 : x5_1 < (l0.length : Int)
        · rw [if_pos c4] at H
          have c4b0 : decide (x5_1 < (l0.length : Int)) = true := decide_eq_true c4
          clear c4
          by_cases c5 : 0 ≤ x5_1
          · rw [if_pos c5] at H
            have c5b0 : decide (0 ≤ x5_1) = true := decide_eq_true c5
            clear c5
            by_cases c6 : x5_1 < (l1.length : Int)
            · rw [if_pos c6] at H
              have c6b0 : decide (x5_1 < (l1.length : Int)) = true := decide_eq_true c6
              clear c6
              by_cases c7 : (rd l0 x5_1) = (rd l1 x5_1)
              · rw [if_pos c7] at H
                have c7b0 : ((rd l0 x5_1) == (rd l1 x5_1)) = true := beq_iff_eq.mpr c7
                have c7b1 : ((rd l0 x5_1) != (rd l1 x5_1)) = false := bne_eq_false_iff_eq.mpr c7
                clear c7
                have H' := Aside0.mk H
                clear H
                have p193 : 0 ≤ (x5_1 : Int) := of_decide_eq_true (by first | (with_reducible assumption) | assumption)
                have q193 : x5_1 < (l0.length : Int) := of_decide_eq_true (by first | (with_reducible assumption) | assumption)
                obtain ⟨ad193, e193, hx193_0⟩ := Kd.at_int HR0.out x5_1 p193 q193
                cases e193
                replace p193 := eq_true p193
                replace q193 := eq_true q193
                have p194 : 0 ≤ (x5_1 : Int) := of_decide_eq_true (by first | (with_reducible assumption) | assumption)
                have q194 : x5_1 < (l1.length : Int) := of_decide_eq_true (by first | (with_reducible assumption) | assumption)
                obtain ⟨ad194, e194, hx194_0⟩ := Kd.at_int HR1.out x5_1 p194 q194
                cases e194
                replace p194 := eq_true p194
                replace q194 := eq_true q194
                go_wp2
                repeat (go_quiet (fail); try go_wp2)
                go_roundg k1
                case measure => have := HK1.out; omega
                case rel => exact ⟨(wrap64 (x5_1 + 1)), (by first | rfl | (simp; done) | (simp [*]; done)), H', ⟨by have := HK1.out; omega⟩, by repeat (first | exact Drawn0.refl _ | apply Drawn0.step)⟩
              · rw [if_neg c7] at H
                have c7b0 : ((rd l0 x5_1) == (rd l1 x5_1)) = false := beq_eq_false_iff_ne.mpr c7
                have c7b1 : ((rd l0 x5_1) != (rd l1 x5_1)) = true := bne_iff_ne.mpr c7
                obtain rfl := Option.some.inj H
                have p193 : 0 ≤ (x5_1 : Int) := of_decide_eq_true (by first | (with_reducible assumption) | assumption)
                have q193 : x5_1 < (l0.length : Int) := of_decide_eq_true (by first | (with_reducible assumption) | assumption)
                obtain ⟨ad193, e193, hx193_0⟩ := Kd.at_int HR0.out x5_1 p193 q193
                cases e193
                replace p193 := eq_true p193
                replace q193 := eq_true q193
                have p194 : 0 ≤ (x5_1 : Int) := of_decide_eq_true (by first | (with_reducible assumption) | assumption)
                have q194 : x5_1 < (l1.length : Int) := of_decide_eq_true (by first | (with_reducible assumption) | assumption)
                obtain ⟨ad194, e194, hx194_0⟩ := Kd.at_int HR1.out x5_1 p194 q194
                cases e194
                replace p194 := eq_true p194
                replace q194 := eq_true q194
                go_wp2
                repeat (go_quiet (fail); try go_wp2)
                go_ret
                exact ⟨by first | rfl | (simp; done) | (simp [*]; done), by repeat (first | exact Drawn0.refl _ | apply Drawn0.step)⟩
            · rw [if_neg c6] at H
              exact absurd H (by simp)
          · rw [if_neg c5] at H
            exact absurd H (by simp)
        · rw [if_neg c4] at H
          have c4b0 : decide (x5_1 < (l0.length : Int)) = false := decide_eq_false c4
          clear c4
          obtain rfl := Option.some.inj H
          go_wp2
          repeat (go_quiet (fail); try go_wp2)
          go_ret
          exact ⟨by first | rfl | (simp; done) | (simp [*]; done), by repeat (first | exact Drawn0.refl _ | apply Drawn0.step)⟩
  · rw [if_neg c3] at H
    have c3b0 : ((l0.length : Int) == (l1.length : Int)) = false := beq_eq_false_iff_ne.mpr c3
    have c3b1 : ((l0.length : Int) != (l1.length : Int)) = true := bne_iff_ne.mpr c3
    have c3b2 : (l0.length == l1.length) = false := by first | simpa using c3 | (simp at c3 ⊢; omega)
    obtain rfl := Option.some.inj H
    go_enter Tryd.func30, Tryd.ntmps30
    go_wp2
    repeat (go_quiet (fail); try go_wp2)
    go_ret
    exact ⟨by first | rfl | (simp; done) | (simp [*]; done), by repeat (first | exact Drawn0.refl _ | apply Drawn0.step)⟩

end Go.Proofs.YtgdomnlkafcddaaDoor.Q
namespace Go.Proofs.YtgdomnlkafcddaaDoor.Q
open Go.RowKit Go.Proofs.YtgdomnlkafcddaaDoorW.PrintWords Go.Proofs.YtgdomnlkafcddaaDoorW.PrintLast Go.Proofs.YtgdomnlkafcddaaDoorW.PrintMore
attribute [local go_sem] max2_int min2_int max_two min_two max_three min_three max_four min_four   -- for this text's walks alone
set_option linter.unusedVariables false
set_option linter.unusedSimpArgs false

/-! ### assayersame_Rows: function 31 -/
def assayersame_Rows.l0 : Nat → List (List Int) → List (List Int) → Int → Option (Bool)
  | 0, _, _, _ => none
  | k + 1, x0, x1, x5 => if x5 < (x0.length : Int) then (if 0 ≤ x5 then (if x5 < (x1.length : Int) then ((assayersame_Ints.f k (rd_L1 x0 x5) (rd_L1 x1 x5)).bind fun t197 => (if t197 = true then (assayersame_Rows.l0 k x0 x1 (wrap64 (x5 + 1))) else (some false))) else (none)) else (none)) else (some true)
def assayersame_Rows.f (k : Nat) (l0 : List (List Int)) (l1 : List (List Int)) : Option (Bool) := if (l0.length : Int) = (l1.length : Int) then (assayersame_Rows.l0 k l0 l1 0) else (some false)
theorem assayersame_Rows.mono_l : ∀ k, (∀ y0 y1 y2, LeO (assayersame_Rows.l0 k y0 y1 y2) (assayersame_Rows.l0 (k + 1) y0 y1 y2))
  | 0 => fun _ _ _ r h => by simp [assayersame_Rows.l0] at h
  | k + 1 => by
    have ih0 := assayersame_Rows.mono_l k
    · intro y0 y1 y2
      unfold assayersame_Rows.l0
      repeat' first
      | (with_reducible exact ih0 _ _ _)
      | (with_reducible exact assayersame_Ints.mono _ _ _)
      | (with_reducible exact LeO.refl _)
      | (with_reducible exact LeO.none _)
      | (with_reducible refine LeO.ite ?_ ?_)
      | (with_reducible refine LeO.bind ?_ (fun _ => ?_))
      | exact ih0 _ _ _
      | exact assayersame_Ints.mono _ _ _
      | exact LeO.none _
      | refine LeO.ite ?_ ?_
      | refine LeO.bind ?_ (fun _ => ?_)
theorem assayersame_Rows.mono : ∀ a0 a1 k, LeO (assayersame_Rows.f k a0 a1) (assayersame_Rows.f (k + 1) a0 a1) := by
  intro a0 a1 k
  have ih0 := assayersame_Rows.mono_l k
  unfold assayersame_Rows.f
  repeat' first
      | (with_reducible exact ih0 _ _ _)
      | (with_reducible exact assayersame_Ints.mono _ _ _)
      | (with_reducible exact LeO.refl _)
      | (with_reducible exact LeO.none _)
      | (with_reducible refine LeO.ite ?_ ?_)
      | (with_reducible refine LeO.bind ?_ (fun _ => ?_))
      | exact ih0 _ _ _
      | exact assayersame_Ints.mono _ _ _
      | exact LeO.none _
      | refine LeO.ite ?_ ?_
      | refine LeO.bind ?_ (fun _ => ?_)
set_option maxHeartbeats 8000000 in
set_option maxRecDepth 100000 in
theorem assayersame_Rows.calls (k : Nat) (A0 : Option Addr) (c0 : Nat) (l0 : List (List Int)) (A1 : Option Addr) (c1 : Nat) (l1 : List (List Int)) (r : Bool) (w : World) (hr0 : Kd.C (Kd.slice 3 (Kd.int .i64)) w A0 l0.length l0) (hc0 : l0.length ≤ c0) (hr1 : Kd.C (Kd.slice 3 (Kd.int .i64)) w A1 l1.length l1) (hc1 : l1.length ≤ c1) (h : assayersame_Rows.f k l0 l1 = some r) :
    Calls Tryd.prog 31 #[.slice A0 l0.length c0, .slice A1 l1.length c1] w fun e w' => e = .returned (.bool r) ∧ Drawn0 w w' := by
  have HR0 := Aside0.mk hr0
  have HC0 := Aside0.mk hc0
  clear hr0 hc0
  have HR1 := Aside0.mk hr1
  have HC1 := Aside0.mk hc1
  clear hr1 hc1
  have H : (if (l0.length : Int) = (l1.length : Int) then (assayersame_Rows.l0 k l0 l1 0) else (some false)) = some r := h
  clear h
  by_cases c3 : (l0.length : Int) = (l1.length : Int)
  · rw [if_pos c3] at H
    have c3b0 : ((l0.length : Int) == (l1.length : Int)) = true := beq_iff_eq.mpr c3
    have c3b1 : ((l0.length : Int) != (l1.length : Int)) = false := bne_eq_false_iff_eq.mpr c3
    have c3b2 : (l0.length == l1.length) = true := by first | simpa using c3 | (simp at c3 ⊢; omega)
    clear c3
    have H' := Aside0.mk H
    clear H
    go_enter Tryd.func31, Tryd.ntmps31
    go_wp2
    repeat (go_quiet (fail); try go_wp2)
    go_loopg [5] k (fun kq v5 w' => ∃ (x5_1 : Int), v5 = .int .i64 x5_1 ∧ Aside0 (assayersame_Rows.l0 kq l0 l1 x5_1 = some r) ∧ Aside0 (kq ≤ k) ∧ Drawn0 w w')
    case atStart => exact ⟨(0), (by first | rfl | (simp; done) | (simp [*]; done)), H', ⟨Nat.le_refl _⟩, by repeat (first | exact Drawn0.refl _ | apply Drawn0.step)⟩
    case round =>
      clear H'
      try clear c1
      try clear p2
      try clear c3
      try clear c3b0
      try clear c3b1
      try clear c3b2
      obtain ⟨x5_1, rfl, HA, HK1, ⟨m1, rfl⟩⟩ := hrel
      cases gk with
      | zero => exact absurd HA.out (by simp [assayersame_Rows.l0])
      | succ k1 =>
        have H := HA.out
        clear HA
        simp only [assayersame_Rows.l0] at H
        by_cases c4 : x5_1 < (l0.length : Int)
        · rw [if_pos c4] at H
          have c4b0 : decide (x5_1 < (l0.length : Int)) = true := decide_eq_true c4
          clear c4
          by_cases c5 : 0 ≤ x5_1
          · rw [if_pos c5] at H
            have c5b0 : decide (0 ≤ x5_1) = true := decide_eq_true c5
            clear c5
            by_cases c6 : x5_1 < (l1.length : Int)
            · rw [if_pos c6] at H
              have c6b0 : decide (x5_1 < (l1.length : Int)) = true := decide_eq_true c6
              clear c6
              replace H := Option.bind_eq_some_iff.mp H
              obtain ⟨t197, A70, H⟩ := H
              replace H : (if t197 = true then (assayersame_Rows.l0 k1 l0 l1 (wrap64 (x5_1 + 1))) else (some false)) = some r := H
              have A7 := Aside0.mk A70
              clear A70
              by_cases c8 : t197 = true
              · subst c8
                have H1 : (assayersame_Rows.l0 k1 l0 l1 (wrap64 (x5_1 + 1))) = some r := by rw [if_pos rfl] at H; exact H
                clear H
                have H := H1
                clear H1
                have H' := Aside0.mk H
                clear H
                have p195 : 0 ≤ (x5_1 : Int) := of_decide_eq_true (by first | (with_reducible assumption) | assumption)
                have q195 : x5_1 < (l0.length : Int) := of_decide_eq_true (by first | (with_reducible assumption) | assumption)
                obtain ⟨ad195, A195_0, c195_0, e195, hx195_0, hl195_0, hi195_0⟩ := at_L1 HR0.out x5_1 p195 q195
                cases e195
                have HR195_0 := Aside0.mk hi195_0
                have HC195_0 := Aside0.mk hl195_0
                clear hi195_0 hl195_0
                replace p195 := eq_true p195
                replace q195 := eq_true q195
                have p196 : 0 ≤ (x5_1 : Int) := of_decide_eq_true (by first | (with_reducible assumption) | assumption)
                have q196 : x5_1 < (l1.length : Int) := of_decide_eq_true (by first | (with_reducible assumption) | assumption)
                obtain ⟨ad196, A196_0, c196_0, e196, hx196_0, hl196_0, hi196_0⟩ := at_L1 HR1.out x5_1 p196 q196
                cases e196
                have HR196_0 := Aside0.mk hi196_0
                have HC196_0 := Aside0.mk hl196_0
                clear hi196_0 hl196_0
                replace p196 := eq_true p196
                replace q196 := eq_true q196
                go_wp2_with (first | (go_at_call 30; (with_reducible refine (assayersame_Ints.calls k1 _ _ (rd_L1 l0 x5_1) _ _ (rd_L1 l1 x5_1) true _ ?side1 ?side2 ?side3 ?side4 A7.out).mono ?_); (case side1 => repeat (first | exact HR195_0.out | (with_reducible refine Kd.C_alloc ?_ _) | (with_reducible refine Kd.C_drewN ?_ _) | (with_reducible refine Kd.C_drew ?_))); (case side2 => exact HC195_0.out); (case side3 => repeat (first | exact HR196_0.out | (with_reducible refine Kd.C_alloc ?_ _) | (with_reducible refine Kd.C_drewN ?_ _) | (with_reducible refine Kd.C_drew ?_))); (case side4 => exact HC196_0.out); rintro e w' ⟨rfl, ⟨nd, rfl⟩⟩; (try first | exact ⟨rfl, _, World.drewN_drewN _ _ _⟩ | exact ⟨rfl, _, Eq.trans (World.drewN_drewN _ _ _) (congrArg (World.drewN _) (Nat.add_assoc _ _ _))⟩)))
                repeat (go_quiet (first | (go_at_call 30; (with_reducible refine (assayersame_Ints.calls k1 _ _ (rd_L1 l0 x5_1) _ _ (rd_L1 l1 x5_1) true _ ?side1 ?side2 ?side3 ?side4 A7.out).mono ?_); (case side1 => repeat (first | exact HR195_0.out | (with_reducible refine Kd.C_alloc ?_ _) | (with_reducible refine Kd.C_drewN ?_ _) | (with_reducible refine Kd.C_drew ?_))); (case side2 => exact HC195_0.out); (case side3 => repeat (first | exact HR196_0.out | (with_reducible refine Kd.C_alloc ?_ _) | (with_reducible refine Kd.C_drewN ?_ _) | (with_reducible refine Kd.C_drew ?_))); (case side4 => exact HC196_0.out); rintro e w' ⟨rfl, ⟨nd, rfl⟩⟩; (try first | exact ⟨rfl, _, World.drewN_drewN _ _ _⟩ | exact ⟨rfl, _, Eq.trans (World.drewN_drewN _ _ _) (congrArg (World.drewN _) (Nat.add_assoc _ _ _))⟩))); try go_wp2_with (first | (go_at_call 30; (with_reducible refine (assayersame_Ints.calls k1 _ _ (rd_L1 l0 x5_1) _ _ (rd_L1 l1 x5_1) true _ ?side1 ?side2 ?side3 ?side4 A7.out).mono ?_); (case side1 => repeat (first | exact HR195_0.out | (with_reducible refine Kd.C_alloc ?_ _) | (with_reducible refine Kd.C_drewN ?_ _) | (with_reducible refine Kd.C_drew ?_))); (case side2 => exact HC195_0.out); (case side3 => repeat (first | exact HR196_0.out | (with_reducible refine Kd.C_alloc ?_ _) | (with_reducible refine Kd.C_drewN ?_ _) | (with_reducible refine Kd.C_drew ?_))); (case side4 => exact HC196_0.out); rintro e w' ⟨rfl, ⟨nd, rfl⟩⟩; (try first | exact ⟨rfl, _, World.drewN_drewN _ _ _⟩ | exact ⟨rfl, _, Eq.trans (World.drewN_drewN _ _ _) (congrArg (World.drewN _) (Nat.add_assoc _ _ _))⟩))))
                go_roundg k1
                case measure => have := HK1.out; omega
                case rel => exact ⟨(wrap64 (x5_1 + 1)), (by first | rfl | (simp; done) | (simp [*]; done)), H', ⟨by have := HK1.out; omega⟩, by repeat (first | exact Drawn0.refl _ | apply Drawn0.step)⟩
              · replace c8 := Bool.eq_false_iff.mpr c8
                subst c8
                have H1 : (some false) = some r := by rw [if_neg (show ¬ (false = true) by decide)] at H; exact H
                clear H
                have H := H1
                clear H1
                obtain rfl := Option.some.inj H
                have p195 : 0 ≤ (x5_1 : Int) := of_decide_eq_true (by first | (with_reducible assumption) | assumption)
                have q195 : x5_1 < (l0.length : Int) := of_decide_eq_true (by first | (with_reducible assumption) | assumption)
                obtain ⟨ad195, A195_0, c195_0, e195, hx195_0, hl195_0, hi195_0⟩ := at_L1 HR0.out x5_1 p195 q195
                cases e195
                have HR195_0 := Aside0.mk hi195_0
                have HC195_0 := Aside0.mk hl195_0
                clear hi195_0 hl195_0
                replace p195 := eq_true p195
                replace q195 := eq_true q195
                have p196 : 0 ≤ (x5_1 : Int) := of_decide_eq_true (by first | (with_reducible assumption) | assumption)
                have q196 : x5_1 < (l1.length : Int) := of_decide_eq_true (by first | (with_reducible assumption) | assumption)
                obtain ⟨ad196, A196_0, c196_0, e196, hx196_0, hl196_0, hi196_0⟩ := at_L1 HR1.out x5_1 p196 q196
                cases e196
                have HR196_0 := Aside0.mk hi196_0
                have HC196_0 := Aside0.mk hl196_0
                clear hi196_0 hl196_0
                replace p196 := eq_true p196
                replace q196 := eq_true q196
                go_wp2_with (first | (go_at_call 30; (with_reducible refine (assayersame_Ints.calls k1 _ _ (rd_L1 l0 x5_1) _ _ (rd_L1 l1 x5_1) false _ ?side1 ?side2 ?side3 ?side4 A7.out).mono ?_); (case side1 => repeat (first | exact HR195_0.out | (with_reducible refine Kd.C_alloc ?_ _) | (with_reducible refine Kd.C_drewN ?_ _) | (with_reducible refine Kd.C_drew ?_))); (case side2 => exact HC195_0.out); (case side3 => repeat (first | exact HR196_0.out | (with_reducible refine Kd.C_alloc ?_ _) | (with_reducible refine Kd.C_drewN ?_ _) | (with_reducible refine Kd.C_drew ?_))); (case side4 => exact HC196_0.out); rintro e w' ⟨rfl, ⟨nd, rfl⟩⟩; (try first | exact ⟨rfl, _, World.drewN_drewN _ _ _⟩ | exact ⟨rfl, _, Eq.trans (World.drewN_drewN _ _ _) (congrArg (World.drewN _) (Nat.add_assoc _ _ _))⟩)))
                repeat (go_quiet (first | (go_at_call 30; (with_reducible refine (assayersame_Ints.calls k1 _ _ (rd_L1 l0 x5_1) _ _ (rd_L1 l1 x5_1) false _ ?side1 ?side2 ?side3 ?side4 A7.out).mono ?_); (case side1 => repeat (first | exact HR195_0.out | (with_reducible refine Kd.C_alloc ?_ _) | (with_reducible refine Kd.C_drewN ?_ _) | (with_reducible refine Kd.C_drew ?_))); (case side2 => exact HC195_0.out); (case side3 => repeat (first | exact HR196_0.out | (with_reducible refine Kd.C_alloc ?_ _) | (with_reducible refine Kd.C_drewN ?_ _) | (with_reducible refine Kd.C_drew ?_))); (case side4 => exact HC196_0.out); rintro e w' ⟨rfl, ⟨nd, rfl⟩⟩; (try first | exact ⟨rfl, _, World.drewN_drewN _ _ _⟩ | exact ⟨rfl, _, Eq.trans (World.drewN_drewN _ _ _) (congrArg (World.drewN _) (Nat.add_assoc _ _ _))⟩))); try go_wp2_with (first | (go_at_call 30; (with_reducible refine (assayersame_Ints.calls k1 _ _ (rd_L1 l0 x5_1) _ _ (rd_L1 l1 x5_1) false _ ?side1 ?side2 ?side3 ?side4 A7.out).mono ?_); (case side1 => repeat (first | exact HR195_0.out | (with_reducible refine Kd.C_alloc ?_ _) | (with_reducible refine Kd.C_drewN ?_ _) | (with_reducible refine Kd.C_drew ?_))); (case side2 => exact HC195_0.out); (case side3 => repeat (first | exact HR196_0.out | (with_reducible refine Kd.C_alloc ?_ _) | (with_reducible refine Kd.C_drewN ?_ _) | (with_reducible refine Kd.C_drew ?_))); (case side4 => exact HC196_0.out); rintro e w' ⟨rfl, ⟨nd, rfl⟩⟩; (try first | exact ⟨rfl, _, World.drewN_drewN _ _ _⟩ | exact ⟨rfl, _, Eq.trans (World.drewN_drewN _ _ _) (congrArg (World.drewN _) (Nat.add_assoc _ _ _))⟩))))
                go_ret
                exact ⟨by first | rfl | (simp; done) | (simp [*]; done), by repeat (first | exact Drawn0.refl _ | apply Drawn0.step)⟩
            · rw [if_neg c6] at H
              exact absurd H (by simp)
          · rw [if_neg c5] at H
            exact absurd H (by simp)
        · rw [if_neg c4] at H
          have c4b0 : decide (x5_1 < (l0.length : Int)) = false := decide_eq_false c4
          clear c4
          obtain rfl := Option.some.inj H
          go_wp2
          repeat (go_quiet (fail); try go_wp2)
          go_ret
          exact ⟨by first | rfl | (simp; done) | (simp [*]; done), by repeat (first | exact Drawn0.refl _ | apply Drawn0.step)⟩
  · rw [if_neg c3] at H
    have c3b0 : ((l0.length : Int) == (l1.length : Int)) = false := beq_eq_false_iff_ne.mpr c3
    have c3b1 : ((l0.length : Int) != (l1.length : Int)) = true := bne_iff_ne.mpr c3
    have c3b2 : (l0.length == l1.length) = false := by first | simpa using c3 | (simp at c3 ⊢; omega)
    obtain rfl := Option.some.inj H
    go_enter Tryd.func31, Tryd.ntmps31
    go_wp2
    repeat (go_quiet (fail); try go_wp2)
    go_ret
    exact ⟨by first | rfl | (simp; done) | (simp [*]; done), by repeat (first | exact Drawn0.refl _ | apply Drawn0.step)⟩

end Go.Proofs.YtgdomnlkafcddaaDoor.Q
namespace Go.Proofs.YtgdomnlkafcddaaDoor.As
open Go.RowKit Go.Extern.Stop Go.Stop Go.Extern
theorem valueOf156 (t : Addr) (w : World) : (ReflectliteValue.unpack (.iface 156 (.pointer (some t)))).run Tryd.prog w
    = .ok (.agg #[.pointer (some ⟨10, 156, none⟩), .pointer (some ⟨w.heap.size, 0, none⟩), .int .u64 150]) (w.alloc (.cells #[.pointer (some t)] 156)) := by kernel_rfl
theorem type156 (a : Addr) (w : World) : (ReflectliteValue.methodAny (ReflectliteValue.valueError "reflectlite.Value.Type" 0) (fun t _ _ _ => ReflectliteType.toType t) #[.agg #[.pointer (some ⟨10, 156, none⟩), .pointer (some a), .int .u64 150]]).run Tryd.prog w
    = .ok (.iface 212 (.agg #[.pointer (some ⟨10, 156, none⟩)])) w := by kernel_rfl
theorem methodKind (h : Value) (w : World) : (Go.method 390 212 (.agg #[h]) "Kind").run Tryd.prog w = .ok (225, h) w := by kernel_rfl
theorem kind156 (w : World) : ((ReflectliteType.abiMethod fun t => (fun a : Nat => Value.int IntKind.u8 (a : Int)) <$> Rtype.kind t) #[.pointer (some ⟨10, 156, none⟩)]).run Tryd.prog w = .ok (.int .u8 22) w := by kernel_rfl
theorem kind66 (w : World) : ((ReflectliteType.abiMethod fun t => (fun a : Nat => Value.int IntKind.u8 (a : Int)) <$> Rtype.kind t) #[.pointer (some ⟨10, 66, none⟩)]).run Tryd.prog w = .ok (.int .u8 2) w := by kernel_rfl
theorem rlm (z : Sem Value) (f : TypeId → Addr → Nat → Nat → Sem Value) (v : Value) :
    ReflectliteValue.method z f #[v] = (do match ← ReflectliteValue.parts v with | none => z | some (t, a, fl) => f t a fl (fl % 32)) := rfl
theorem parts156 (a : Addr) (w : World) : (ReflectliteValue.parts (.agg #[.pointer (some ⟨10, 156, none⟩), .pointer (some a), .int .u64 150])).run Tryd.prog w = .ok (some (156, a, 150)) w := by kernel_rfl
theorem isNil156 (a p : Addr) (W : World) (ha : W.cell? a = some (.pointer (some p))) :
    (ReflectliteValue.method (ReflectliteValue.valueError "reflectlite.Value.IsNil" 0) ReflectliteValue.isNil #[.agg #[.pointer (some ⟨10, 156, none⟩), .pointer (some a), .int .u64 150]]).run Tryd.prog W = .ok (.bool false) W := by
  rw [rlm]
  simp only [Sem.run_bind, parts156, Result.andThen]
  simp [ReflectliteValue.isNil, loadVar, isAgg, underlying, Tryd.underlying156, ha, Result.andThen]
theorem methodElem (h : Value) (w : World) : (Go.method 390 212 (.agg #[h]) "Elem").run Tryd.prog w = .ok (236, .agg #[h]) w := by kernel_rfl
theorem methodImplements (h : Value) (w : World) : (Go.method 390 212 (.agg #[h]) "Implements").run Tryd.prog w = .ok (237, .agg #[h]) w := by kernel_rfl
theorem methodAssignableTo (h : Value) (w : World) : (Go.method 390 212 (.agg #[h]) "AssignableTo").run Tryd.prog w = .ok (234, .agg #[h]) w := by kernel_rfl
theorem elem156 (w : World) : (ReflectliteType.method ReflectliteType.elem #[.agg #[.pointer (some ⟨10, 156, none⟩)]]).run Tryd.prog w = .ok (.iface 212 (.agg #[.pointer (some ⟨10, 66, none⟩)])) w := by kernel_rfl
theorem implements66 (w : World) : (ReflectliteType.relation "Implements" ReflectliteType.implements_ #[.agg #[.pointer (some ⟨10, 66, none⟩)], .iface 212 (.agg #[.pointer (some ⟨10, 30, none⟩)])]).run Tryd.prog w = .ok (.bool true) w := by kernel_rfl
theorem typeOf66 (v : Value) (w : World) : (ReflectliteType.typeOf #[.iface 66 v]).run Tryd.prog w = .ok (.iface 212 (.agg #[.pointer (some ⟨10, 66, none⟩)])) w := by kernel_rfl
theorem assignable66 (w : World) : (ReflectliteType.relation "AssignableTo" ReflectliteType.assignableTo #[.agg #[.pointer (some ⟨10, 66, none⟩)], .iface 212 (.agg #[.pointer (some ⟨10, 66, none⟩)])]).run Tryd.prog w = .ok (.bool true) w := by kernel_rfl
theorem valueOf66 (n : Int) (w : World) : (ReflectliteValue.unpack (.iface 66 (.int .i64 n))).run Tryd.prog w
    = .ok (.agg #[.pointer (some ⟨10, 66, none⟩), .pointer (some ⟨w.heap.size, 0, none⟩), .int .u64 130]) (w.alloc (.cells #[.int .i64 n] 66)) := by kernel_rfl
theorem elemOf156 (w : World) : (Rtype.elem? 156).run Tryd.prog w = .ok (some 66) w := by kernel_rfl
theorem mk66 (p : Addr) (w : World) : (ReflectliteValue.mk 66 p ReflectliteValue.flagAddr).run Tryd.prog w = .ok (.agg #[.pointer (some ⟨10, 66, none⟩), .pointer (some p), .int .u64 386]) w := by kernel_rfl
theorem elemV156 (a p : Addr) (W : World) (ha : W.cell? a = some (.pointer (some p))) :
    (ReflectliteValue.method (ReflectliteValue.valueError "reflectlite.Value.Elem" 0) ReflectliteValue.elem #[.agg #[.pointer (some ⟨10, 156, none⟩), .pointer (some a), .int .u64 150]]).run Tryd.prog W
      = .ok (.agg #[.pointer (some ⟨10, 66, none⟩), .pointer (some p), .int .u64 386]) W := by
  rw [rlm]
  simp only [Sem.run_bind, parts156, Result.andThen]
  simp [ReflectliteValue.elem, loadVar, isAgg, underlying, Tryd.underlying156, ha, Result.andThen, elemOf156, mk66]
theorem rls (v x : Value) : ReflectliteValue.set #[v, x] = (do
    let (some (dst, a, fl), some (src, b, _)) := (← ReflectliteValue.parts v, ← ReflectliteValue.parts x)
      | unsupported (.noEntry "extern/(internal/reflectlite.Value).Set.zeroValue")
    if fl / ReflectliteValue.flagAddr % 2 == 0 then unsupported (.noEntry "extern/(internal/reflectlite.Value).Set.unaddressable")
    let val ← loadVar src b
    if ← Rtype.directlyAssignable dst src then storeVar dst a val
    else if ← Rtype.implements dst src then
      if (← Rtype.kind src) == 20 then
        match val with
        | .nilIface => unsupported (.noEntry "extern/reflectlite: a nil value of one interface type handed on as a value of another")
        | _ => storeVar dst a val
      else storeVar dst a (.iface src val)
    else panicString ("reflectlite.Set: value of type " ++ (← Rtype.spelt src) ++ " is not assignable to type " ++ (← Rtype.spelt dst))
    pure (.tuple #[])) := rfl
theorem parts66a (a : Addr) (w : World) : (ReflectliteValue.parts (.agg #[.pointer (some ⟨10, 66, none⟩), .pointer (some a), .int .u64 386])).run Tryd.prog w = .ok (some (66, a, 386)) w := by kernel_rfl
theorem parts66 (a : Addr) (w : World) : (ReflectliteValue.parts (.agg #[.pointer (some ⟨10, 66, none⟩), .pointer (some a), .int .u64 130])).run Tryd.prog w = .ok (some (66, a, 130)) w := by kernel_rfl
theorem direct66 (w : World) : (Rtype.directlyAssignable 66 66).run Tryd.prog w = .ok true w := by kernel_rfl
theorem size66 (w : World) : (sizeOf 66).run Tryd.prog w = .ok 1 w := by kernel_rfl
theorem set66 (ta b : Addr) (n : Int) (old : Value) (W : World) (hb : W.cell? b = some (.int .i64 n)) (ht : W.cell? ta = some old) (hf : W.frozen? ta = false) :
    (ReflectliteValue.set #[.agg #[.pointer (some ⟨10, 66, none⟩), .pointer (some ta), .int .u64 386], .agg #[.pointer (some ⟨10, 66, none⟩), .pointer (some b), .int .u64 130]]).run Tryd.prog W
      = .ok (.tuple #[]) (W.setCell ta (.int .i64 n)) := by
  rw [rls]
  simp only [Sem.run_bind, parts66a, parts66, Result.andThen]
  simp [ReflectliteValue.flagAddr, loadVar, isAgg, underlying, Tryd.underlying66, hb, Result.andThen, direct66, storeVar, Value.cells, storeCells, Addr.add]
  rw [run_store Tryd.prog W ta _ _ (by rfl)]
  simp [ht, hf]
end Go.Proofs.YtgdomnlkafcddaaDoor.As
namespace Go.Proofs.YtgdomnlkafcddaaDoor.As
open Go.RowKit Go.Extern.Stop Go.Stop Go.Extern
theorem as_nil (t : Value) (w : World) :
    Calls Tryd.prog 117 #[.nilIface, t] w fun e w' => e = .returned (.bool false) ∧ w' = w := by
  go_enter Tryd.func117, Tryd.ntmps117
  go_wp2
  go_ret
  exact ⟨rfl, rfl⟩
set_option maxHeartbeats 4000000 in
theorem as_hit (n : Int) (t : Addr) (old : Value) (w : World) (hg : Q.GErr w) (ht0 : w.cell? t = some old) (hf0 : w.frozen? t = false) :
    Calls Tryd.prog 117 #[.iface 66 (.int .i64 n), .iface 156 (.pointer (some t))] w fun ev w' => ev = .returned (.bool true) ∧ w' = ((((w.alloc (.cells #[.pointer (some t)] 156)).alloc (.cells #[.pointer (some ⟨10, 156, none⟩), .pointer (some ⟨w.heap.size, 0, none⟩), .int .u64 150] 183)).alloc (.cells #[.pointer (some ⟨10, 156, none⟩), .pointer (some ⟨w.heap.size, 0, none⟩), .int .u64 150] 183)).alloc (.cells #[.int .i64 n] 66)).setCell t (.int .i64 n) := by
  have h147 := @run_callFunc_extern Tryd.prog 147 _ (fun args => ReflectliteValue.unpack (args.getD 0 (.tuple #[]))) Tryd.func147 (by kernel_rfl) (by kernel_rfl) (by kernel_rfl) (by kernel_rfl)
  have h148 := @run_callFunc_extern Tryd.prog 148 _ (ReflectliteValue.methodAny (ReflectliteValue.valueError "reflectlite.Value.Type" 0) (fun t _ _ _ => ReflectliteType.toType t)) Tryd.func148 (by kernel_rfl) (by kernel_rfl) (by kernel_rfl) (by kernel_rfl)
  have h149 := @run_callFunc_extern Tryd.prog 149 _ (ReflectliteValue.method (ReflectliteValue.valueError "reflectlite.Value.IsNil" 0) ReflectliteValue.isNil) Tryd.func149 (by kernel_rfl) (by kernel_rfl) (by kernel_rfl) (by kernel_rfl)
  have h225 := @run_callFunc_extern Tryd.prog 225 _ (ReflectliteType.abiMethod fun t => do pure (.int .u8 (← Rtype.kind t))) Tryd.func225 (by kernel_rfl) (by kernel_rfl) (by kernel_rfl) (by kernel_rfl)
  have h236 := @run_callFunc_extern Tryd.prog 236 _ (ReflectliteType.method ReflectliteType.elem) Tryd.func236 (by kernel_rfl) (by kernel_rfl) (by kernel_rfl) (by kernel_rfl)
  have h237 := @run_callFunc_extern Tryd.prog 237 _ (ReflectliteType.relation "Implements" ReflectliteType.implements_) Tryd.func237 (by kernel_rfl) (by kernel_rfl) (by kernel_rfl) (by kernel_rfl)
  have h174 := @run_callFunc_extern Tryd.prog 174 _ ReflectliteType.typeOf Tryd.func174 (by kernel_rfl) (by kernel_rfl) (by kernel_rfl) (by kernel_rfl)
  have h234 := @run_callFunc_extern Tryd.prog 234 _ (ReflectliteType.relation "AssignableTo" ReflectliteType.assignableTo) Tryd.func234 (by kernel_rfl) (by kernel_rfl) (by kernel_rfl) (by kernel_rfl)
  have h175 := @run_callFunc_extern Tryd.prog 175 _ (ReflectliteValue.method (ReflectliteValue.valueError "reflectlite.Value.Elem" 0) ReflectliteValue.elem) Tryd.func175 (by kernel_rfl) (by kernel_rfl) (by kernel_rfl) (by kernel_rfl)
  have h176 := @run_callFunc_extern Tryd.prog 176 _ ReflectliteValue.set Tryd.func176 (by kernel_rfl) (by kernel_rfl) (by kernel_rfl) (by kernel_rfl)
  have tO := typeOf66
  have mA := methodAssignableTo
  have a25 := assignable66
  have v25 := valueOf66
  have f6 := valueOf156
  have f7 := type156
  have mK := methodKind
  have mE := methodElem
  have mI := methodImplements
  have k27 := kind156
  have k25 := kind66
  have e27 := elem156
  have i25 := implements66
  have n8 := isNil156 ⟨w.heap.size, 0, none⟩ t ((w.alloc (.cells #[.pointer (some t)] 156)).alloc (.cells #[.pointer (some ⟨10, 156, none⟩), .pointer (some ⟨w.heap.size, 0, none⟩), .int .u64 150] 183)) (by simp)
  have hlt : 3 < w.heap.size := World.block_lt_of_cell? w _ hg
  have hg2 : ((w.alloc (.cells #[.pointer (some t)] 156)).alloc (.cells #[.pointer (some ⟨10, 156, none⟩), .pointer (some ⟨w.heap.size, 0, none⟩), .int .u64 150] 183)).cell? ⟨3, 0, none⟩ = some (.iface 212 (.agg #[.pointer (some ⟨10, 30, none⟩)])) := by
    rw [World.cell?_alloc_lt _ _ ⟨3, 0, none⟩ (by simp; omega), World.cell?_alloc_lt _ _ ⟨3, 0, none⟩ hlt]; exact hg
  have htl : t.block < w.heap.size := by
    rcases Nat.lt_or_ge t.block w.heap.size with h | h
    · exact h
    · simp [World.cell?, Array.getElem?_eq_none h] at ht0
  have el := elemV156 ⟨w.heap.size, 0, none⟩ t (((w.alloc (.cells #[.pointer (some t)] 156)).alloc (.cells #[.pointer (some ⟨10, 156, none⟩), .pointer (some ⟨w.heap.size, 0, none⟩), .int .u64 150] 183)).alloc (.cells #[.pointer (some ⟨10, 156, none⟩), .pointer (some ⟨w.heap.size, 0, none⟩), .int .u64 150] 183)) (by rw [World.cell?_alloc_lt _ _ ⟨w.heap.size, 0, none⟩ (by simp; omega)]; simp)
  have st := set66 t ⟨w.heap.size + 1 + 1 + 1, 0, none⟩ n old ((((w.alloc (.cells #[.pointer (some t)] 156)).alloc (.cells #[.pointer (some ⟨10, 156, none⟩), .pointer (some ⟨w.heap.size, 0, none⟩), .int .u64 150] 183)).alloc (.cells #[.pointer (some ⟨10, 156, none⟩), .pointer (some ⟨w.heap.size, 0, none⟩), .int .u64 150] 183)).alloc (.cells #[.int .i64 n] 66))
    (by rw [World.cell?_alloc_at _ _ _ _ (by simp)]; rfl)
    (by rw [World.cell?_alloc_lt _ _ t (by simp; omega), World.cell?_alloc_lt _ _ t (by simp; omega), World.cell?_alloc_lt _ _ t (by simp; omega), World.cell?_alloc_lt _ _ t htl]; exact ht0)
    (by rw [World.frozen?_alloc_old _ _ t (by simp; omega), World.frozen?_alloc_old _ _ t (by simp; omega), World.frozen?_alloc_old _ _ t (by simp; omega), World.frozen?_alloc_old _ _ t (Nat.ne_of_lt htl)]; exact hf0)
  clear hg
  go_enter Tryd.func117, Tryd.ntmps117
  go_wp2
  refine wp_loop_rounds 1 ?_
  rw [rounds_succ]
  go_wp2
  go_ret
  exact ⟨rfl, rfl⟩
end Go.Proofs.YtgdomnlkafcddaaDoor.As

namespace Go.Proofs.YtgdomnlkafcddaaDoor.Q
open Go.RowKit Go.Proofs.YtgdomnlkafcddaaDoorW.PrintWords
def plain_Told.f (a0 : Option Int) : Option Int := some (a0.getD 0)
set_option maxHeartbeats 1000000 in
theorem plain_Told.calls (a0 : Option Int) (r : Int) (w : World) (h : plain_Told.f a0 = some r) (hG : GErr w) :
    Calls Tryd.prog 72 #[errW a0] w fun e w' => e = .returned (.int .i64 r) ∧ Below w.heap.size w w' := by
  obtain rfl := Option.some.inj h
  clear h
  cases a0 with
  | none =>
    clear hG
    show Calls Tryd.prog 72 #[.nilIface] w _
    go_enter Tryd.func72, Tryd.ntmps72
    go_wp2_with fail
    go_ret
    exact ⟨rfl, Below.refl _ _⟩
  | some n =>
    show Calls Tryd.prog 72 #[.iface 66 (.int .i64 n)] w _
    have hG' : GErr (w.alloc (.cells #[.int .i64 0] 66)) := hG.below ((Below.refl _ _).alloc (Nat.le_refl _) _)
    clear hG
    have C := As.as_hit n ⟨w.heap.size, 0, none⟩ (.int .i64 0) (w.alloc (.cells #[.int .i64 0] 66)) hG' (by simp) (by simp)
    have C' := Aside0.mk C
    clear C hG'
    go_enter Tryd.func72, Tryd.ntmps72
    go_wp2_with fail
    refine C'.out.mono ?_
    rintro e w1 ⟨rfl, rfl⟩
    clear C'
    go_wp2_with fail
    go_ret
    exact ⟨rfl, below_alloc (below_alloc (below_alloc (below_alloc (below_alloc (Below.refl _ _) _) _) _) _) _⟩
end Go.Proofs.YtgdomnlkafcddaaDoor.Q
namespace Go.Proofs.YtgdomnlkafcddaaDoor.Q
open Go.RowKit Go.Proofs.YtgdomnlkafcddaaDoorW.PrintWords Go.Proofs.YtgdomnlkafcddaaDoorW.PrintLast Go.Proofs.YtgdomnlkafcddaaDoorW.PrintMore
attribute [local go_sem] max2_int min2_int max_two min_two max_three min_three max_four min_four   -- for this text's walks alone
set_option linter.unusedVariables false
set_option linter.unusedSimpArgs false

/-! ### assayersame_Told: function 32 -/
def assayersame_Told.f (a0 : Option Int) (a1 : Option Int) : Option (Bool) := (plain_Told.f a0).bind fun t201 => ((plain_Told.f a1).bind fun t202 => (some (t201 == t202)))
set_option maxHeartbeats 8000000 in
set_option maxRecDepth 100000 in
theorem assayersame_Told.calls (a0 : Option Int) (a1 : Option Int) (r : Bool) (w : World) (h : assayersame_Told.f a0 a1 = some r) (hGErr : GErr w) :
    Calls Tryd.prog 32 #[errW a0, errW a1] w fun e w' => e = .returned (.bool r) ∧ Below w.heap.size w w' := by
  have HGErr := Aside0.mk hGErr
  clear hGErr
  have HB := Aside0.mk (Below.refl w.heap.size w)
  have H : ((plain_Told.f a0).bind fun t201 => ((plain_Told.f a1).bind fun t202 => (some (t201 == t202)))) = some r := h
  clear h
  replace H := Option.bind_eq_some_iff.mp H
  obtain ⟨t201, A30, H⟩ := H
  replace H : ((plain_Told.f a1).bind fun t202 => (some (t201 == t202))) = some r := H
  have A3 := Aside0.mk A30
  clear A30
  replace H := Option.bind_eq_some_iff.mp H
  obtain ⟨t202, A40, H⟩ := H
  replace H : (some (t201 == t202)) = some r := H
  have A4 := Aside0.mk A40
  clear A40
  obtain rfl := Option.some.inj H
  have CA3 := fun W G0_ => plain_Told.calls a0 t201 W A3.out G0_
  try simp only [errW_none, errW_some] at CA3
  go_enter Tryd.func32, Tryd.ntmps32
  go_wp2_with (first | (go_at_call 72; (with_reducible refine (CA3 _ ?gGErr).mono ?_); (case gGErr => exact (HGErr.out.below (by repeat (first | (with_reducible first | exact HB.out | apply below_alloc | apply pw_below_drewN | apply below_drew1) | exact HB.out)))); rintro e w5 ⟨rfl, hb⟩; have n0_ := Aside0.mk (below_step (by repeat (first | (with_reducible first | exact HB.out | apply below_alloc | apply pw_below_drewN | apply below_drew1) | exact HB.out)) hb); clear HB; have HB := n0_; clear n0_; (try clear hb); (try clear hb2); (try clear hk); (try clear hi); have CA4 := fun W G0_ => plain_Told.calls a1 t202 W A4.out G0_; try simp only [errW_none, errW_some] at CA4) | (go_at_call 72; (with_reducible refine (CA4 _ ?gGErr).mono ?_); (case gGErr => exact (HGErr.out.below (by repeat (first | (with_reducible first | exact HB.out | apply below_alloc | apply pw_below_drewN | apply below_drew1) | exact HB.out)))); rintro e w6 ⟨rfl, hb⟩; have n0_ := Aside0.mk (below_step (by repeat (first | (with_reducible first | exact HB.out | apply below_alloc | apply pw_below_drewN | apply below_drew1) | exact HB.out)) hb); clear HB; have HB := n0_; clear n0_; (try clear hb); (try clear hb2); (try clear hk); (try clear hi)))
  go_ret
  exact ⟨by first | rfl | (simp [errW_none, errW_some] <;> rfl) | (simp [*, errW_none, errW_some] <;> rfl), by repeat (first | (with_reducible first | exact HB.out | apply below_alloc | apply pw_below_drewN | apply below_drew1) | exact HB.out)⟩

end Go.Proofs.YtgdomnlkafcddaaDoor.Q
namespace Go.Proofs.YtgdomnlkafcddaaDoor.Q
open Go.RowKit Go.Proofs.YtgdomnlkafcddaaDoorW.PrintWords Go.Proofs.YtgdomnlkafcddaaDoorW.PrintLast Go.Proofs.YtgdomnlkafcddaaDoorW.PrintMore
set_option linter.unusedVariables false
set_option linter.unusedSimpArgs false
theorem own_ints {l : List Int} (h : l.length < 17592186044416) : assayerlaw5_ints.f l = some l := by
  simp [assayerlaw5_ints.f, h]
theorem own_same_loop (l : List Int) (hl : l.length < 17592186044416) : ∀ (j i : Nat), i + j = l.length → assayersame_Ints.l0 (j + 1) l l (i : Int) = some true := by
  intro j
  induction j with
  | zero =>
    intro i hi
    have hlt : ¬ (i : Int) < (l.length : Int) := by omega
    simp [assayersame_Ints.l0, hlt]
  | succ j ih =>
    intro i hi
    have hlt : (i : Int) < (l.length : Int) := by omega
    have h0 : (0 : Int) ≤ (i : Int) := by omega
    have hw3 : wrap64 ((i : Int) + 1) = ((i + 1 : Nat) : Int) := by rw [wrap64_id (by omega) (by omega)]; omega
    have := ih (i + 1) (by omega)
    unfold assayersame_Ints.l0
    rw [if_pos hlt, if_pos h0, if_pos hlt, if_pos rfl, hw3]
    exact this
theorem own_same {l : List Int} (hl : l.length < 17592186044416) {k : Nat} (hk : l.length + 1 ≤ k) : assayersame_Ints.f k l l = some true := by
  have h := own_same_loop l hl l.length 0 (by omega)
  have h2 : assayersame_Ints.f (l.length + 1) l l = some true := by
    simp only [assayersame_Ints.f, if_true]
    exact h
  exact LeO.le (f := fun k => assayersame_Ints.f k l l) (fun k => assayersame_Ints.mono _ _ k) hk h2
theorem own_spoil_loop (a : Int) : ∀ (j i : Nat) (l : List Int), l.length < 17592186044416 → i + j = l.length → ∃ r, assayerlaw5_spoil.l0 (j + 1) l a (i : Int) = some r ∧ r.length = l.length := by
  intro j
  induction j with
  | zero =>
    intro i l hl hi
    have hlt : ¬ (i : Int) < (l.length : Int) := by omega
    exact ⟨l, by simp [assayerlaw5_spoil.l0, hlt], rfl⟩
  | succ j ih =>
    intro i l hl hi
    have hlt : (i : Int) < (l.length : Int) := by omega
    have h0 : (0 : Int) ≤ (i : Int) := by omega
    have hw3 : wrap64 ((i : Int) + 1) = ((i + 1 : Nat) : Int) := by rw [wrap64_id (by omega) (by omega)]; omega
    obtain ⟨r, hr, hrl⟩ := ih (i + 1) (l.set i a) (by simpa using hl) (by simp; omega)
    refine ⟨r, ?_, by simpa using hrl⟩
    unfold assayerlaw5_spoil.l0
    rw [if_pos hlt, if_pos h0, hw3, Int.toNat_natCast]
    exact hr
theorem own_spoil {l : List Int} (hl : l.length < 17592186044416) (a : Int) : ∃ r, r.length = l.length ∧ ∀ k, l.length + 1 ≤ k → assayerlaw5_spoil.f k l a = some r := by
  obtain ⟨r, hr, h2⟩ := own_spoil_loop a l.length 0 l hl (by omega)
  exact ⟨r, h2, fun k hk => LeO.le (f := fun k => assayerlaw5_spoil.f k l a) (fun k => assayerlaw5_spoil.mono _ _ k) hk hr⟩
theorem own_rows_loop (m : List (List Int)) (hm : m.length < 5864062014805) (hr : ∀ y ∈ m, y.length < 17592186044416) : ∀ (j i : Nat), i + j = m.length → assayerlaw5_rows.l0 (j + 1) m (m.take i) (i : Int) = some m := by
  intro j
  induction j with
  | zero =>
    intro i hi
    have hlt : ¬ (i : Int) < (m.length : Int) := by omega
    unfold assayerlaw5_rows.l0
    rw [if_neg hlt, List.take_of_length_le (by omega)]
  | succ j ih =>
    intro i hi
    have hlt : (i : Int) < (m.length : Int) := by omega
    have h0 : (0 : Int) ≤ (i : Int) := by omega
    have hi' : i < m.length := by omega
    have hw3 : wrap64 ((i : Int) + 1) = ((i + 1 : Nat) : Int) := by rw [wrap64_id (by omega) (by omega)]; omega
    have er : rd_L1 m (i : Int) = m[i] := by simp [rd_L1, hi']
    have h := ih (i + 1) (by omega)
    unfold assayerlaw5_rows.l0
    rw [if_pos hlt, if_pos h0, er, own_ints (hr _ (List.getElem_mem hi')), Option.bind_some, if_pos (by rw [List.length_take]; omega), hw3, ← List.take_succ_eq_append_getElem hi']
    exact h
theorem own_rows {m : List (List Int)} (hm : m.length < 5864062014805) (hr : ∀ y ∈ m, y.length < 17592186044416) {k : Nat} (hk : m.length + 1 ≤ k) : assayerlaw5_rows.f k m = some m :=
  LeO.le (f := fun k => assayerlaw5_rows.f k m) (fun k => assayerlaw5_rows.mono _ k) hk (own_rows_loop m hm hr m.length 0 (by omega))
theorem own_last_loop (m : List (List Int)) (B : Nat) (hm : m.length < 5864062014805) (hB : B < 17592186044416) (hr : ∀ y ∈ m, y.length ≤ B) : ∀ (j i : Nat), i + j = m.length → assayersame_Rows.l0 (j + (B + 2)) m m (i : Int) = some true := by
  intro j
  induction j with
  | zero =>
    intro i hi
    have hlt : ¬ (i : Int) < (m.length : Int) := by omega
    rw [Nat.zero_add]
    unfold assayersame_Rows.l0
    rw [if_neg hlt]
  | succ j ih =>
    intro i hi
    have hlt : (i : Int) < (m.length : Int) := by omega
    have h0 : (0 : Int) ≤ (i : Int) := by omega
    have hi' : i < m.length := by omega
    have hw3 : wrap64 ((i : Int) + 1) = ((i + 1 : Nat) : Int) := by rw [wrap64_id (by omega) (by omega)]; omega
    have er : rd_L1 m (i : Int) = m[i] := by simp [rd_L1, hi']
    have h := ih (i + 1) (by omega)
    have hy := hr _ (List.getElem_mem hi')
    rw [show j + 1 + (B + 2) = (j + (B + 2)) + 1 by omega]
    unfold assayersame_Rows.l0
    rw [if_pos hlt, if_pos h0, if_pos hlt, er, own_same (by omega) (by omega), Option.bind_some, if_pos rfl, hw3]
    exact h
theorem own_last {m : List (List Int)} {B : Nat} (hm : m.length < 5864062014805) (hB : B < 17592186044416) (hr : ∀ y ∈ m, y.length ≤ B) {k : Nat} (hk : m.length + (B + 2) ≤ k) : assayersame_Rows.f k m m = some true := by
  have h := own_last_loop m B hm hB hr m.length 0 (by omega)
  have h2 : assayersame_Rows.f (m.length + (B + 2)) m m = some true := by
    simp only [assayersame_Rows.f, if_true]
    exact h
  exact LeO.le (f := fun k => assayersame_Rows.f k m m) (fun k => assayersame_Rows.mono _ _ k) hk h2
theorem own_told (e : Option Int) : assayersame_Told.f e e = some true := by
  simp [assayersame_Told.f, plain_Told.f]
end Go.Proofs.YtgdomnlkafcddaaDoor.Q
namespace Go.Proofs.YtgdomnlkafcddaaDoor.Q
open Go.RowKit Go.Proofs.YtgdomnlkafcddaaDoorW.PrintWords Go.Proofs.YtgdomnlkafcddaaDoorW.PrintLast Go.Proofs.YtgdomnlkafcddaaDoorW.PrintMore
set_option linter.unusedVariables false
set_option linter.unusedSimpArgs false
structure RoseFacts (k : Nat) (a0 a1 a2 : Int) (l3 : List S63) (l : List Int) (a : Int) (m : List (List Int)) (e1 : Option Int) (f4 : List (List Int)) : Prop where
  own : assayerlaw5_ints.f l = some l
  less : rose_Less.f a0 a1 a2 l3 l = some (m, e1)
  one : rose_Less.f 2 0 1 ([] : List S63) [1] = some (f4, none)
  four : f4.length = 4
  same : assayersame_Ints.f k l l = some true
  rows : assayerlaw5_rows.f k m = some m
  len : m.length ≤ 1000000000000
  spoil : ∀ y ∈ m, ∃ z, assayerlaw5_spoil.f k y a = some z
  ints : ∀ y ∈ m, assayersame_Ints.f k y y = some true
  last : assayersame_Rows.f k m m = some true
  told : assayersame_Told.f e1 e1 = some true
/-- Rows that are spoiled, rows that stay, and a box: the spoiled ones lie below N, the others do not. -/
structure RoseW (w w' : World) (N gb : Nat) (cs : Array Value) (vm : Value) (m : List (List Int)) (vs : Value) (was : List (List Int)) : Prop where
  b : Below w.heap.size w w'
  g : w'.heap[gb]? = some (Obj.cells cs 63 (0, 0))
  m : Kd.S (Kd.slice 3 (Kd.int .i64)) 36 w' w.heap.size (fun k => k < N) vm m
  s : Kd.S (Kd.slice 3 (Kd.int .i64)) 36 w' w.heap.size (fun k => N ≤ k) vs was
section
variable {w W w' : World} {N gb : Nat} {cs : Array Value} {vm vs : Value} {m was : List (List Int)}
theorem RoseW.step (h : RoseW w W N gb cs vm m vs was) (hb : Below W.heap.size W w') : RoseW w w' N gb cs vm m vs was :=
  ⟨below_step h.b hb, blk_below h.g hb, Kd.S_below h.m hb, Kd.S_below h.s hb⟩
theorem RoseW.spoiled (h : RoseW w W N gb cs vm m vs was) {ve : Value} {y z : List Int} {oki : Nat → Prop} {i : Nat} (hR : Kd.R (Kd.int .i64) 3 W w.heap.size oki ve y) (hoki : ∀ k, oki k → k < N)
    (back : ∀ {w1 : World} {row : Option Nat} {x' : List Int}, W.grownBy w1 row → (∀ k, row = some k → oki k) → (Kd.slice 3 (Kd.int .i64)).M w1 w.heap.size oki x' [ve] → Kd.S (Kd.slice 3 (Kd.int .i64)) 36 w1 w.heap.size (fun k => k < N) vm (m.set i x'))
    {ok' : Nat → Prop} (hR' : Kd.R (Kd.int .i64) 3 w' w.heap.size ok' ve z) (hB : Below w.heap.size w w') (hK : Kept W w' (fun k => some k = ve.ownBlock)) : RoseW w w' N gb cs vm (m.set i z) vs was := by
  have hg : W.grownBy w' ve.ownBlock := ⟨hB.os.trans h.b.os.symm, hB.tape.trans h.b.tape.symm, hB.output.trans h.b.output.symm, hK.1, fun k hk hne => hK.2 k hk hne⟩
  refine ⟨hB, blk_grown h.g hg (Kd.R_ne hR h.g (by decide)), back hg (fun k hk => hR.1 k hk) (Kd.M_row (Kd.R_reok rfl hR' (fun k hk => hR.1 k hk))), Kd.S_grown h.s hg (fun k hk he => ?_)⟩
  have := hoki k (hR.1 k he.symm)
  omega
end
set_option maxHeartbeats 8000000 in
set_option maxRecDepth 100000 in
theorem assayerlaw5_RoseOwn.walk (k : Nat) (a0 a1 a2 : Int) (A3 : Option Addr) (c3 : Nat) (l3 : List S63) (A : Option Addr) (c : Nat) (l : List Int) (a : Int) (m : List (List Int)) (e1 : Option Int) (f4 : List (List Int)) (w : World)
    (hr3 : Kd.C k63 w A3 l3.length l3) (hc3 : l3.length ≤ c3) (hr : Kd.C (Kd.int .i64) w A l.length l) (hc : l.length ≤ c) (hf : RoseFacts k a0 a1 a2 l3 l a m e1 f4) (hG : GErr w) :
    Calls Tryd.prog 7 #[.agg #[.int .i64 a0, .int .i64 a1, .int .i64 a2, .slice A3 l3.length c3], .slice A l.length c, .int .i64 a] w fun e w' => e = .returned (.bool true) ∧ Below w.heap.size w w' := by
  have hu63 := Tryd.underlying63
  have hu30 := Tryd.underlying30
  have hu66 := Tryd.underlying66
  have HR3 := Aside0.mk hr3
  have HC3 := Aside0.mk hc3
  have HR := Aside0.mk hr
  have HC := Aside0.mk hc
  have HF := Aside0.mk hf
  have HG := Aside0.mk hG
  obtain ⟨o1, ho1⟩ : ∃ o1 : List Int, o1 = [1] := ⟨_, rfl⟩
  have HO1 := Aside0.mk ho1
  clear hr3 hc3 hr hc hf hG ho1
  go_enter Tryd.func7, Tryd.ntmps7
  go_wp2_with (first
    | ((with_reducible refine gate_dst (N := 3) rfl ?_); refine box_event ?hg (N := 3) ?hd (cs := #[.int .i64 a0, .int .i64 a1, .int .i64 a2, .slice A3 l3.length c3]) (t := 63) ?hr ?_; (case hd => rfl); (case hg => rfl); (case hr => first | (go_simp; done) | (go_simp; rfl)); intro gb hg w1 hbox hb; have BK := Aside0.mk hbox; have HB := Aside0.mk hb; clear hbox hb hg)
    | ((with_reducible refine gate_callee (f := 28) rfl ?_); refine goesL_ (some 22) rfl rfl Tryd.func28 (by kernel_rfl) rfl #[.slice A l.length c] rfl (by (try simp only [List.map_toArray, List.map_cons, List.map_nil]); first | done | rfl) ?_; (with_reducible refine (assayerlaw5_ints.calls _ c l l _ (Kd.C_below HR.out HB.out) HC.out HF.out.own).mono ?_); rintro e w2 ⟨v2, rfl, ho, hb⟩; refine ⟨_, rfl, ?_⟩; have BK2 := Aside0.mk (blk_below BK.out hb); have HB2 := Aside0.mk (below_step HB.out hb); have HOW := Aside0.mk ho; obtain ⟨Ao, co, eo⟩ := Kd.R_slice ho; subst eo; have ha0 : w2.cell? ⟨gb, 0, none⟩ = some (.int .i64 a0) := (blk_cell BK2.out 0).trans rfl; have ha1 : w2.cell? ⟨gb, 1, none⟩ = some (.int .i64 a1) := (blk_cell BK2.out 1).trans rfl; have ha2 : w2.cell? ⟨gb, 2, none⟩ = some (.int .i64 a2) := (blk_cell BK2.out 2).trans rfl; have ha3 : w2.cell? ⟨gb, 3, none⟩ = some (.slice A3 l3.length c3) := (blk_cell BK2.out 3).trans rfl; clear ho hb BK HB)
    | ((with_reducible refine gate_dst (N := 26) rfl ?_); refine goesL_ (some 26) rfl rfl Tryd.func33 (by kernel_rfl) rfl #[.agg #[.int .i64 a0, .int .i64 a1, .int .i64 a2, .slice A3 l3.length c3], .slice Ao l.length co] rfl (by (try simp only [List.map_toArray, List.map_cons, List.map_nil]); first | done | rfl) ?_; (with_reducible refine (rose_Less.calls a0 a1 a2 _ _ l3 _ _ l m e1 _ (Kd.C_below HR3.out HB2.out) HC3.out (Kd.R_reads' HOW.out).2.2 (Kd.R_reads' HOW.out).2.1 HF.out.less).mono ?_); rintro e w3 ⟨v3, rfl, ho, hb⟩; refine ⟨_, rfl, ?_⟩; have BK3 := Aside0.mk (blk_below BK2.out hb); have HB3 := Aside0.mk (below_step HB2.out hb); have HOW3 := Aside0.mk (Kd.R_below HOW.out hb); obtain ⟨N, hN⟩ : ∃ N : Nat, N = w3.heap.size := ⟨_, rfl⟩; have HN := Aside0.mk hN; have HM3 := Aside0.mk (Kd.S_lower (Kd.S_mono (Kd.S_bound ho) (fun k hk => (hN ▸ hk.2.2.1 : k < N))) HB2.out.size); obtain ⟨Am, cm, em⟩ := Kd.S_slice ho; subst em; clear ho hb hN BK2 HB2 HOW)
    | ((with_reducible refine gate_dst (N := 31) rfl ?_); refine Kd.R_lit (Kd.int .i64) _ 3 ?hg (N := 31) ?hd (xs := ([1] : List Int)) (inner := [.int .i64 1]) (ok := fun _ => True) (okp := fun _ => True) ?hr ?hp (fun _ hk => hk) trivial (Below.refl _ _) (Nat.le_refl _) (by simp) ?_; (case hd => rfl); (case hg => rfl); (case hr => first | (go_simp; done) | (go_simp; rfl)); (case hp => exact (Reps.one (show Kd.M (Kd.int .i64) _ _ _ 1 [.int .i64 1] from rfl) (Reps.none _ _))); intro v4 w4 ho hb hg_ hnew_; rw [← HO1.out] at ho; have BK4 := Aside0.mk (blk_below BK3.out hb); have HB4 := Aside0.mk (below_step HB3.out hb); have HOW4 := Aside0.mk (Kd.R_below HOW3.out hb); have HM4 := Aside0.mk (Kd.S_below HM3.out hb); have HE := Aside0.mk ho; have HN4 := Aside0.mk (HN.out ▸ hb.size : N ≤ w4.heap.size); obtain ⟨A4, c4, e4⟩ := Kd.R_slice ho; subst e4; clear ho hb hg_ hnew_ BK3 HB3 HOW3 HM3 HN)
    | ((with_reducible refine gate_dst (N := 32) rfl ?_); refine goesL_ (some 32) rfl rfl Tryd.func33 (by kernel_rfl) rfl #[.agg #[.int .i64 2, .int .i64 0, .int .i64 1, .slice none 0 0], .slice A4 o1.length c4] rfl (by (try simp only [List.map_toArray, List.map_cons, List.map_nil]); first | done | rfl) ?_; (refine (rose_Less.calls 2 0 1 none 0 ([] : List S63) _ _ o1 f4 none _ (Kd.C_nil _ _) (Nat.le_refl _) (Kd.R_reads' HE.out).2.2 (Kd.R_reads' HE.out).2.1 (HO1.out ▸ HF.out.one)).mono ?_); rintro e w5 ⟨v5, rfl, ho, hb⟩; refine ⟨_, rfl, ?_⟩; have BK5 := Aside0.mk (blk_below BK4.out hb); have HB5 := Aside0.mk (below_step HB4.out hb); have HOW5 := Aside0.mk (Kd.R_below HOW4.out hb); have HM5 := Aside0.mk (Kd.S_below HM4.out hb); have HN5 := Aside0.mk (Nat.le_trans HN4.out hb.size); obtain ⟨A5, c5, e5⟩ := Kd.S_slice ho; rw [HF.out.four] at e5; subst e5; clear ho hb BK4 HB4 HOW4 HM4 HN4 HE; (try simp only [errW_none, errW_some]))
    | ((with_reducible refine gate_callee (f := 30) rfl ?_); refine goesL_ (some 37) rfl rfl Tryd.func30 (by kernel_rfl) rfl #[.slice Ao l.length co, .slice A l.length c] rfl (by (try simp only [List.map_toArray, List.map_cons, List.map_nil]); first | done | rfl) ?_; (with_reducible refine (assayersame_Ints.calls k _ _ l _ _ l true _ (Kd.R_reads' HOW5.out).2.2 (Kd.R_reads' HOW5.out).2.1 (Kd.C_below HR.out HB5.out) HC.out HF.out.same).mono ?_); rintro e w6 ⟨rfl, hd⟩; refine ⟨_, rfl, ?_⟩; have BK6 := Aside0.mk (blk_below BK5.out hd.below); have HB6 := Aside0.mk (below_step HB5.out hd.below); have HM6 := Aside0.mk (Kd.S_below HM5.out hd.below); have HN6 := Aside0.mk (Nat.le_trans HN5.out hd.below.size); clear hd BK5 HB5 HOW5 HM5 HN5)
    | ((with_reducible refine gate_callee (f := 24) rfl ?_); refine goesL_ (some 39) rfl rfl Tryd.func24 (by kernel_rfl) rfl #[.slice Am m.length cm] rfl (by (try simp only [List.map_toArray, List.map_cons, List.map_nil]); first | done | rfl) ?_; (with_reducible refine (assayerlaw5_rows.calls k _ _ m m _ (Kd.S_reads' HM6.out).2.2 (Kd.S_reads' HM6.out).2.1 HF.out.rows).mono ?_); rintro e w7 ⟨v7, rfl, ho, hb⟩; refine ⟨_, rfl, ?_⟩; obtain ⟨As, cs, es⟩ := Kd.S_slice ho; subst es; have HW := Aside0.mk (show RoseW w w7 N gb #[.int .i64 a0, .int .i64 a1, .int .i64 a2, .slice A3 l3.length c3] (.slice Am m.length cm) m (.slice As m.length cs) m from ⟨below_step HB6.out hb, blk_below BK6.out hb, Kd.S_below HM6.out hb, Kd.S_lower (Kd.S_mono (Kd.S_bound ho) (fun k hk => Nat.le_trans HN6.out hk.2.1)) HB6.out.size⟩); clear ho hb BK6 HB6 HM6 HN6))
  have hml : m.length ≤ 1000000000000 := HF.out.len
  go_loopg [14] m.length (fun kq v14 w' => ∃ (i : Nat) (x : List (List Int)), v14 = .int .i64 (i : Int) ∧ Aside0 (m.length ≤ i + 2 * kq) ∧ Aside0 (i ≤ m.length + 1) ∧ Aside0 (i % 2 = 0) ∧ Aside0 (x.length = m.length) ∧ Aside0 (∀ j, (j % 2 = 1 ∨ i ≤ j) → x[j]? = m[j]?) ∧ Aside0 (RoseW w w' N gb #[.int .i64 a0, .int .i64 a1, .int .i64 a2, .slice A3 l3.length c3] (.slice Am m.length cm) x (.slice As m.length cs) m))
  case atStart => exact ⟨0, m, rfl, ⟨by omega⟩, ⟨by omega⟩, ⟨rfl⟩, ⟨rfl⟩, ⟨fun _ _ => rfl⟩, HW⟩
  case round =>
    clear HW ha0 ha1 ha2 ha3
    obtain ⟨i, x, rfl, HK, HI, HE2, HX, HXM, HW⟩ := hrel
    by_cases hi : i < m.length
    · have hkp : 0 < gk := by have := HK.out; omega
      obtain ⟨kn, rfl⟩ : ∃ kn, gk = kn + 1 := ⟨gk - 1, by omega⟩
      have hlt : decide (i < m.length) = true := decide_eq_true hi
      have hlt' : decide ((i : Int) < (m.length : Int)) = true := decide_eq_true (by omega)
      have hix : i < x.length := by have := HX.out; omega
      have p0 : 0 ≤ (i : Int) := by omega
      have p1 : (i : Int) < (m.length : Int) := by omega
      obtain ⟨ad, A9, c9, e9, hx9, hl9, hi9⟩ := at_L1 (Kd.S_reads' HW.out.m).2.2 (i : Int) p0 (by omega)
      cases e9
      obtain ⟨oki, ce, hcl, hM, hcc, hoki, back⟩ := Kd.S_borrow HW.out.m ([] : List Int) (i : Int) p0 p1
      obtain ⟨ve, rfl, hR⟩ := hM
      have hv := hcc 0 _ rfl
      rw [Nat.add_zero, show ((Kd.slice 3 (Kd.int .i64))).sz = 1 from rfl, Nat.mul_one] at hv
      replace hv := Option.some.inj (hv.symm.trans hx9)
      subst hv
      have er : rd_L1 x (i : Int) = m[i] := by
        have h := HXM.out i (.inr (Nat.le_refl _))
        rw [List.getElem?_eq_getElem hix, List.getElem?_eq_getElem hi] at h
        simpa [rd_L1, hix] using h
      have hR2 : Kd.R (Kd.int .i64) 3 wr w.heap.size oki (.slice A9 (rd_L1 x (i : Int)).length c9) (rd_L1 x (i : Int)) := hR
      rw [er] at hR2 hx9
      obtain ⟨z, hz⟩ := HF.out.spoil m[i] (List.getElem_mem hi)
      have HR9 := Aside0.mk hR2
      have HZ := Aside0.mk hz
      have HOK := Aside0.mk (show ∀ k, oki k → k < N from fun k hk => (hoki k hk).1)
      rw [er, Int.toNat_natCast] at back
      have HBK := Aside0.mk @back
      rw [Int.toNat_natCast] at hx9
      have q0 := eq_true p0
      have q1 := eq_true p1
      clear hcc hcl hoki hR hR2 hz back hl9 hi9 er p0 p1 hkp
      obtain ⟨wo, rfl⟩ : ∃ wo : World, wo = wr := ⟨_, rfl⟩
      go_wp2_with (first
        | ((with_reducible refine gate_callee (f := 29) rfl ?_); refine goesL_ (some 51) rfl rfl Tryd.func29 (by kernel_rfl) rfl #[.slice A9 (m[i]).length c9, .int .i64 a] rfl (by (try simp only [List.map_toArray, List.map_cons, List.map_nil]); first | done | rfl) ?_; (refine (assayerlaw5_spoil.calls k (fun q => some q = (Value.slice A9 (m[i]).length c9).ownBlock) _ m[i] a z w _ HW.out.b (Kd.R_tight rfl HR9.out) HZ.out).mono ?_); rintro e w9 ⟨rfl, hR', hB', hK'⟩; refine ⟨_, rfl, ?_⟩; have HW9 := Aside0.mk (HW.out.spoiled HR9.out HOK.out HBK.out hR' hB' hK'); clear hR' hB' hK' HW))
      go_roundg kn
      case measure => omega
      case rel => exact ⟨i + 2, x.set i z, by first | rfl | simp, ⟨by have := HK.out; omega⟩, ⟨by have := HI.out; omega⟩, ⟨by have := HE2.out; omega⟩, ⟨by simp [HX.out]⟩, ⟨fun j hj => by rw [List.getElem?_set_ne (by have := HE2.out; omega)]; exact HXM.out j (by omega)⟩, HW9⟩
    · have hlt : decide (i < m.length) = false := decide_eq_false hi
      have hlt' : decide ((i : Int) < (m.length : Int)) = false := decide_eq_false (by omega)
      go_wp2
      have HX2 := Aside0.mk (show ∀ j, j % 2 = 1 → x[j]? = m[j]? from fun j hj => HXM.out j (.inl hj))
      clear HK HI HE2 HXM hi hlt hlt'
      go_loopg [15] m.length (fun kq v15 w' => ∃ (i : Nat), v15 = .int .i64 (i : Int) ∧ Aside0 (m.length ≤ i + 2 * kq) ∧ Aside0 (i ≤ m.length + 2) ∧ Aside0 (i % 2 = 1) ∧ Aside0 (RoseW w w' N gb #[.int .i64 a0, .int .i64 a1, .int .i64 a2, .slice A3 l3.length c3] (.slice Am m.length cm) x (.slice As m.length cs) m))
      case atStart => exact ⟨1, rfl, ⟨by omega⟩, ⟨by omega⟩, ⟨rfl⟩, HW⟩
      case round =>
        clear HW
        obtain ⟨i, rfl, HK, HI, HE2, HW⟩ := hrel
        by_cases hi : i < m.length
        · obtain ⟨kn, rfl⟩ : ∃ kn, gk = kn + 1 := ⟨gk - 1, by have := HK.out; omega⟩
          have hlt : decide (i < m.length) = true := decide_eq_true hi
          have hlt' : decide ((i : Int) < (m.length : Int)) = true := decide_eq_true (by omega)
          have hix : i < x.length := by have := HX.out; omega
          have p0 : 0 ≤ (i : Int) := by omega
          have p1 : (i : Int) < (m.length : Int) := by omega
          obtain ⟨ad, A9, c9, e9, hx9, hl9, hi9⟩ := at_L1 (Kd.S_reads' HW.out.m).2.2 (i : Int) p0 (by omega)
          cases e9
          obtain ⟨ad2, A8, c8, e8, hx8, hl8, hi8⟩ := at_L1 (Kd.S_reads' HW.out.s).2.2 (i : Int) p0 p1
          cases e8
          have er : rd_L1 x (i : Int) = m[i] := by
            have h := HX2.out i HE2.out
            rw [List.getElem?_eq_getElem hix, List.getElem?_eq_getElem hi] at h
            simpa [rd_L1, hix] using h
          have er2 : rd_L1 m (i : Int) = m[i] := by simp [rd_L1, hi]
          rw [er, Int.toNat_natCast] at hx9
          rw [er] at hl9 hi9
          rw [er2, Int.toNat_natCast] at hx8
          rw [er2] at hl8 hi8
          have HI9 := Aside0.mk hi9
          have HI8 := Aside0.mk hi8
          have HL9 := Aside0.mk hl9
          have HL8 := Aside0.mk hl8
          have HZ := Aside0.mk (HF.out.ints m[i] (List.getElem_mem hi))
          have q0 := eq_true p0
          have q1 := eq_true p1
          clear hl9 hi9 hl8 hi8 er er2 p0 p1
          go_wp2
          go_quiet (first | (go_at_call 30; (with_reducible refine (assayersame_Ints.calls k _ _ m[i] _ _ m[i] true _ ?side1 ?side2 ?side3 ?side4 HZ.out).mono ?_); (case side1 => repeat (first | exact HI9.out | (with_reducible refine Kd.C_drewN ?_ _) | (with_reducible refine Kd.C_drew ?_))); (case side2 => exact HL9.out); (case side3 => repeat (first | exact HI8.out | (with_reducible refine Kd.C_drewN ?_ _) | (with_reducible refine Kd.C_drew ?_))); (case side4 => exact HL8.out); rintro e w' ⟨rfl, ⟨nd, rfl⟩⟩; (try first | exact ⟨rfl, _, World.drewN_drewN _ _ _⟩ | exact ⟨rfl, _, Eq.trans (World.drewN_drewN _ _ _) (congrArg (World.drewN _) (Nat.add_assoc _ _ _))⟩)))
          go_wp2
          go_roundg kn
          case measure => omega
          case rel => exact ⟨i + 2, by first | rfl | simp, ⟨by have := HK.out; omega⟩, ⟨by have := HI.out; omega⟩, ⟨by have := HE2.out; omega⟩, ⟨HW.out.step (by repeat (first | exact Below.refl _ _ | apply pw_below_drewN | apply below_drew1))⟩⟩
        · have hlt : decide (i < m.length) = false := decide_eq_false hi
          have hlt' : decide ((i : Int) < (m.length : Int)) = false := decide_eq_false (by omega)
          have ha0 : wr.cell? ⟨gb, 0, none⟩ = some (.int .i64 a0) := (blk_cell HW.out.g 0).trans rfl
          have ha1 : wr.cell? ⟨gb, 1, none⟩ = some (.int .i64 a1) := (blk_cell HW.out.g 1).trans rfl
          have ha2 : wr.cell? ⟨gb, 2, none⟩ = some (.int .i64 a2) := (blk_cell HW.out.g 2).trans rfl
          have ha3 : wr.cell? ⟨gb, 3, none⟩ = some (.slice A3 l3.length c3) := (blk_cell HW.out.g 3).trans rfl
          go_wp2_with (first
            | ((with_reducible refine gate_dst (N := 72) rfl ?_); refine goesL_ (some 72) rfl rfl Tryd.func33 (by kernel_rfl) rfl #[.agg #[.int .i64 a0, .int .i64 a1, .int .i64 a2, .slice A3 l3.length c3], .slice A l.length c] rfl (by (try simp only [List.map_toArray, List.map_cons, List.map_nil]); first | done | rfl) ?_; (with_reducible refine (rose_Less.calls a0 a1 a2 _ _ l3 _ _ l m e1 _ (Kd.C_below HR3.out HW.out.b) HC3.out (Kd.C_below HR.out HW.out.b) HC.out HF.out.less).mono ?_); rintro e w11 ⟨v11, rfl, ho, hb⟩; refine ⟨_, rfl, ?_⟩; have HW2 := Aside0.mk (HW.out.step hb); have HN2 := Aside0.mk ho; obtain ⟨An, cn, en⟩ := Kd.S_slice ho; subst en; clear ho hb)
            | ((with_reducible refine gate_callee (f := 31) rfl ?_); refine goesL_ (some 77) rfl rfl Tryd.func31 (by kernel_rfl) rfl #[.slice An m.length cn, .slice As m.length cs] rfl (by (try simp only [List.map_toArray, List.map_cons, List.map_nil]); first | done | rfl) ?_; (with_reducible refine (assayersame_Rows.calls k _ _ m _ _ m true _ (Kd.S_reads' HN2.out).2.2 (Kd.S_reads' HN2.out).2.1 (Kd.S_reads' HW2.out.s).2.2 (Kd.S_reads' HW2.out.s).2.1 HF.out.last).mono ?_); rintro e w12 ⟨rfl, hd⟩; refine ⟨_, rfl, ?_⟩; have HB12 := Aside0.mk (below_step HW2.out.b hd.below); clear hd)
            | ((with_reducible refine gate_callee (f := 32) rfl ?_); refine goesL_ (some 80) rfl rfl Tryd.func32 (by kernel_rfl) rfl #[errW e1, errW e1] rfl (by (try simp only [List.map_toArray, List.map_cons, List.map_nil]); first | done | rfl) ?_; (with_reducible refine (assayersame_Told.calls e1 e1 true _ HF.out.told (HG.out.below HB12.out)).mono ?_); rintro e w13 ⟨rfl, hb⟩; refine ⟨_, rfl, ?_⟩; have HB13 := Aside0.mk (below_step HB12.out hb); clear hb))
          go_ret
          exact ⟨rfl, HB13.out⟩
end Go.Proofs.YtgdomnlkafcddaaDoor.Q
namespace Go.Proofs.YtgdomnlkafcddaaDoor.Q
open Go.RowKit Go.Proofs.YtgdomnlkafcddaaDoorW.PrintWords Go.Proofs.YtgdomnlkafcddaaDoorW.PrintLast Go.Proofs.YtgdomnlkafcddaaDoorW.PrintMore
set_option linter.unusedVariables false
set_option linter.unusedSimpArgs false
theorem assayerlaw5_RoseOwn.calls (k : Nat) (a0 a1 a2 : Int) (A3 : Option Addr) (c3 : Nat) (l3 : List S63) (A : Option Addr) (c : Nat) (l : List Int) (a : Int) (r : Bool) (w : World)
    (hr3 : Kd.C k63 w A3 l3.length l3) (hc3 : l3.length ≤ c3) (hr : Kd.C (Kd.int .i64) w A l.length l) (hc : l.length ≤ c) (hf : r = true ∧ ∃ m e1 f4, RoseFacts k a0 a1 a2 l3 l a m e1 f4) (hG : GErr w) :
    Calls Tryd.prog 7 #[.agg #[.int .i64 a0, .int .i64 a1, .int .i64 a2, .slice A3 l3.length c3], .slice A l.length c, .int .i64 a] w fun e w' => e = .returned (.bool r) ∧ Below w.heap.size w w' := by
  obtain ⟨rfl, m, e1, f4, hf⟩ := hf
  exact assayerlaw5_RoseOwn.walk k a0 a1 a2 A3 c3 l3 A c l a m e1 f4 w hr3 hc3 hr hc hf hG
theorem rose_one : rose_Less.f 2 0 1 ([] : List S63) [1] = some ([[0], [0], [0], [0]], none) := by
  have hR : gen_Replay.f 2 0 1 ([] : List S63) [1] = some (false, 1, [], none) := Olim_of (fun k => gen_Replay.gmono _ _ _ _ _ k) (k := 6) (by kernel_rfl)
  have hM1 : gen_Mend.f 2 0 1 ([] : List S63) [0] = some ([0], none) := Olim_of (fun k => gen_Mend.gmono _ _ _ _ _ k) (k := 6) (by kernel_rfl)
  have hM2 : gen_Mend.f 2 0 1 ([] : List S63) [] = some ([0], none) := Olim_of (fun k => gen_Mend.gmono _ _ _ _ _ k) (k := 6) (by kernel_rfl)
  have hL : tape_Less.f 3 [0] [1] = some true := by kernel_rfl
  have hms : rose_ms [1] 0 = [[0], [0], [0], []] := by kernel_rfl
  refine rose_Less.of (k := 3) ?_
  unfold rose_Less.g
  rw [hR]
  simp only [Option.bind_some]
  rw [if_pos (by decide)]
  have h1 : ∀ out : List (List Int), out.length < 5864062014805 → rose_try 3 2 0 1 ([] : List S63) [1] [0] out = some (none, out ++ [[0]]) := by
    intro out ho
    unfold rose_try
    rw [hM1]
    simp only [Option.bind_some]
    rw [hL]
    simp only [Option.bind_some, if_true]
    rw [if_pos ho]
  have h2 : ∀ out : List (List Int), out.length < 5864062014805 → rose_try 3 2 0 1 ([] : List S63) [1] [] out = some (none, out ++ [[0]]) := by
    intro out ho
    unfold rose_try
    rw [hM2]
    simp only [Option.bind_some]
    rw [hL]
    simp only [Option.bind_some, if_true]
    rw [if_pos ho]
  have h3 : rose_out 3 2 0 1 ([] : List S63) [1] 1 0 [] = some (none, [[0], [0], [0], [0]]) := by
    simp only [rose_out, hms, rose_in]
    rw [h1 _ (by decide)]
    simp only [Option.bind_some]
    rw [h1 _ (by decide)]
    simp only [Option.bind_some]
    rw [h1 _ (by decide)]
    simp only [Option.bind_some]
    rw [h2 _ (by decide)]
    rfl
  rw [show ([1] : List Int).length = 1 from rfl, h3]
  rfl
theorem RoseOwn_true (x : S63) (l : List Int) (a : Int) (hl : l.length < 17592186044416) : ∃ k, true = true ∧ ∃ m e1 f4, RoseFacts k x.f0 x.f1 x.f2 x.f3 l a m e1 f4 := by
  have hC : Cn 6 = 25137931 := by decide
  obtain ⟨m, e1, hL, hm, hy, _⟩ := rose_halts x l (by omega)
  have hb : ∀ y ∈ m, y.length ≤ Cn 6 := fun y h => (hy y h).1
  refine ⟨l.length + m.length + Cn 6 + 3, rfl, m, e1, _, own_ints hl, hL, rose_one, rfl, own_same hl (by omega), own_rows (by omega) (fun y h => by have := hb y h; omega) (by omega), by omega, fun y h => ?_, fun y h => ?_, own_last (by omega) (by omega) hb (by omega), own_told e1⟩
  · have := hb y h
    obtain ⟨z, _, hz⟩ := own_spoil (l := y) (by omega) a
    exact ⟨z, hz _ (by omega)⟩
  · have := hb y h
    exact own_same (by omega) (by omega)
end Go.Proofs.YtgdomnlkafcddaaDoor.Q
