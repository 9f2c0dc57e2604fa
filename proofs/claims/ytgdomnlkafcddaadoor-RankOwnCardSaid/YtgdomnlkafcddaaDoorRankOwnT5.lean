/- Part 5 of the proof for RankOwn: contracts of functions, step by step over the code; The plain law of making: of a right generator something is always mended, and it is replayed as it was mended. The plain law of replaying: of a right generator whatever numbers are replayed or told to be wrong. What is replayed to its end fits: the numbers are, one by one, in range of the branches. rank.Rank (function 40): all roads. rank.Nth (function 41): all roads. RankOwn (function 9): the walk, where all is as the plain law has it. RankOwn's plain law: all is as the walk has it, whatever the generator, the tape and the numbers.. -/
import Derived.Test.YtgdomnlkafcddaaDoorRankOwnT1
import Derived.Test.YtgdomnlkafcddaaDoorRankOwnT4
import Derived.Test.YtgdomnlkafcddaaDoorRankOwnT2
namespace Go.Proofs.YtgdomnlkafcddaaDoor.Q
open Go.RowKit Go.Proofs.YtgdomnlkafcddaaDoorW.PrintWords Go.Proofs.YtgdomnlkafcddaaDoorW.PrintLast Go.Proofs.YtgdomnlkafcddaaDoorW.PrintMore
set_option linter.unusedVariables false
set_option linter.unusedSimpArgs false

theorem LeO.obind {α β : Type} {x y : Option (Except Int α)} {f g : α → Option (Except Int β)} (h : LeO x y) (hf : ∀ a, LeO (f a) (g a)) : LeO (obind x f) (obind y g) := by
 intro r hr
 match x, h, hr with
 | some (.ok a), h, hr =>
  rw [h _ rfl]
  exact hf a r hr
 | some (.error c), h, hr =>
  rw [h _ rfl]
  exact hr
theorem gen_made.mono_l {σ : Type} (stp : σ → Int → Except Int (Int × σ)) : ∀ k, (∀ y0 y1 y2 y3 y4, LeO (gen_made.f stp k y0 y1 y2 y3 y4) (gen_made.f stp (k + 1) y0 y1 y2 y3 y4)) ∧ (∀ y0 y1 y2 y3 y4 y5 y6, LeO (gen_made.l0 stp k y0 y1 y2 y3 y4 y5 y6) (gen_made.l0 stp (k + 1) y0 y1 y2 y3 y4 y5 y6)) ∧ (∀ y0 y1 y2 y3 y4 y5 y6 y7 y8 y9, LeO (gen_made.l1 stp k y0 y1 y2 y3 y4 y5 y6 y7 y8 y9) (gen_made.l1 stp (k + 1) y0 y1 y2 y3 y4 y5 y6 y7 y8 y9))
 | 0 => ⟨fun _ _ _ _ _ r h => by simp [gen_made.f] at h, fun _ _ _ _ _ _ _ r h => by simp [gen_made.l0] at h, fun _ _ _ _ _ _ _ _ _ _ r h => by simp [gen_made.l1] at h⟩
 | k + 1 => by
  obtain ⟨ih0, ih1, ih2⟩ := gen_made.mono_l stp k
  refine ⟨?_, ?_, ?_⟩
  ·intro y0 y1 y2 y3 y4
   unfold gen_made.f
   repeat' first
   | (with_reducible exact ih0 _ _ _ _ _)
   | (with_reducible exact ih1 _ _ _ _ _ _ _)
   | (with_reducible exact ih2 _ _ _ _ _ _ _ _ _ _)
   | (with_reducible exact LeO.refl _)
   | (with_reducible refine LeO.ite ?_ ?_)
   | (with_reducible refine LeO.obind ?_ (fun _ => ?_))
   | (unfold ebind; refine LeO.obind (LeO.refl _) (fun _ => ?_))
  ·intro y0 y1 y2 y3 y4 y5 y6
   unfold gen_made.l0
   repeat' first
   | (with_reducible exact ih0 _ _ _ _ _)
   | (with_reducible exact ih1 _ _ _ _ _ _ _)
   | (with_reducible exact LeO.refl _)
   | (with_reducible refine LeO.ite ?_ ?_)
   | (with_reducible refine LeO.obind ?_ (fun _ => ?_))
  ·intro y0 y1 y2 y3 y4 y5 y6 y7 y8 y9
   unfold gen_made.l1
   repeat' first
   | (with_reducible exact ih0 _ _ _ _ _)
   | (with_reducible exact ih2 _ _ _ _ _ _ _ _ _ _)
   | (with_reducible exact LeO.refl _)
   | (with_reducible refine LeO.ite ?_ ?_)
   | (with_reducible refine LeO.obind ?_ (fun _ => ?_))
section
variable {σ : Type} {stp : σ → Int → Except Int (Int × σ)}
theorem gen_made.fle {k k' : Nat} (hk : k ≤ k') {st : σ} {a b c : Int} {l : List S63} {r : Except Int ((Bool × Int × List S27) × σ)} (h : gen_made.f stp k st a b c l = some r) : gen_made.f stp k' st a b c l = some r :=
 LeO.le (f := fun k => gen_made.f stp k st a b c l) (fun k => (gen_made.mono_l stp k).1 _ _ _ _ _) hk h
theorem gen_made.le0 {k k' : Nat} (hk : k ≤ k') {st : σ} {l : List S63} {a b : Int} {t : Bool} {c : Int} {d : List S27} {r : Except Int ((Bool × Int × List S27) × σ)} (h : gen_made.l0 stp k st l a b t c d = some r) : gen_made.l0 stp k' st l a b t c d = some r :=
 LeO.le (f := fun k => gen_made.l0 stp k st l a b t c d) (fun k => (gen_made.mono_l stp k).2.1 _ _ _ _ _ _ _) hk h
theorem gen_made.le1 {k k' : Nat} (hk : k ≤ k') {st : σ} {a b g0 g1 g2 : Int} {l : List S63} {t : Bool} {c : Int} {d : List S27} {r : Except Int ((Bool × Int × List S27) × σ)} (h : gen_made.l1 stp k st a b g0 g1 g2 l t c d = some r) : gen_made.l1 stp k' st a b g0 g1 g2 l t c d = some r :=
 LeO.le (f := fun k => gen_made.l1 stp k st a b g0 g1 g2 l t c d) (fun k => (gen_made.mono_l stp k).2.2 _ _ _ _ _ _ _ _ _ _) hk h
end
def OKv : Nat → S27 → Prop
 | 0, _ => False
 | n + 1, x => x.f2.length ≤ 30 ∧ -9223372036854775808 ≤ x.f1 ∧ x.f1 ≤ 9223372036854775807 ∧ ∀ y ∈ x.f2, OKv n y
theorem OKv.succ : ∀ (n : Nat) (x : S27), OKv n x → OKv (n + 1) x
 | 0, _, h => h.elim
 | n + 1, x, ⟨h1, h2, h3, h4⟩ => ⟨h1, h2, h3, fun y hy => OKv.succ n y (h4 y hy)⟩
def val27 (v : Bool × Int × List S27) : S27 := ⟨v.1, v.2.1, v.2.2⟩
theorem wrap64_bnd (n : Int) : -9223372036854775808 ≤ wrap64 n ∧ wrap64 n ≤ 9223372036854775807 := by
 unfold wrap64
 omega
theorem gen_Replay.gmono (a b c : Int) (l : List S63) (l1 : List Int) (k : Nat) : LeO (gen_Replay.g k a b c l l1) (gen_Replay.g (k + 1) a b c l l1) := by
 unfold gen_Replay.g
 refine LeO.bind (gen_Check.mono _ _ _ _ k) (fun e => ?_)
 cases e with
 | some c => exact LeO.refl _
 | none =>
  dsimp only
  refine LeO.ite ?_ (LeO.refl _)
  intro r hr
  rcases hm : gen_made.f (playStp l1) k 0 a b c l with _ | (c' | v)
  ·rw [hm] at hr; cases hr
  ·rw [(gen_made.mono_l (playStp l1) k).1 _ _ _ _ _ _ hm]
   rw [hm] at hr
   exact hr
  ·rw [(gen_made.mono_l (playStp l1) k).1 _ _ _ _ _ _ hm]
   rw [hm] at hr
   exact hr
end Go.Proofs.YtgdomnlkafcddaaDoor.Q
namespace Go.Proofs.YtgdomnlkafcddaaDoor.Q
open Go.RowKit Go.Proofs.YtgdomnlkafcddaaDoorW.PrintWords Go.Proofs.YtgdomnlkafcddaaDoorW.PrintLast Go.Proofs.YtgdomnlkafcddaaDoorW.PrintMore
set_option linter.unusedVariables false
set_option linter.unusedSimpArgs false
theorem play_step (T : List Int) (s : Nat) (hs : s ≤ T.length) (m : Int) : (∃ x, 0 ≤ x ∧ x ≤ m ∧ s < T.length ∧ playStp T s m = .ok (x, s + 1)) ∨ ∃ c, playStp T s m = .error c := by
 unfold playStp
 by_cases h1 : s = T.length
 ·exact .inr ⟨5, by rw [if_pos h1]⟩
 rw [if_neg h1]
 by_cases h2 : rd T (s : Int) < 0
 ·exact .inr ⟨1, by rw [if_pos h2]⟩
 rw [if_neg h2]
 by_cases h3 : m < rd T (s : Int)
 ·exact .inr ⟨1, by rw [if_pos h3]⟩
 rw [if_neg h3]
 exact .inl ⟨_, by omega, by omega, by omega, rfl⟩
def PlayOk (n : Nat) (T : List Int) (x : S63) : Prop :=
 ∀ s : Nat, s ≤ T.length → ∃ k, (∃ v s', gen_made.f (playStp T) k s x.f0 x.f1 x.f2 x.f3 = some (.ok (v, s')) ∧ OKv n (val27 v) ∧ s' ≤ T.length) ∨ ∃ c, gen_made.f (playStp T) k s x.f0 x.f1 x.f2 x.f3 = some (.error c)
theorem play_loop0 (n : Nat) (T : List Int) (xs : List S63) (hl : xs.length ≤ 30) (ih : ∀ y ∈ xs, PlayOk n T y) :
  ∀ (j i : Nat), i + j = xs.length → ∀ (s : Nat) (acc : List S27), s ≤ T.length → acc.length = i → (∀ y ∈ acc, OKv n y) →
   ∃ k, (∃ acc' s', gen_made.l0 (playStp T) k s xs (xs.length : Int) (i : Int) true 0 acc = some (.ok ((true, 0, acc'), s')) ∧ acc'.length = xs.length ∧ (∀ y ∈ acc', OKv n y) ∧ s' ≤ T.length) ∨ ∃ c, gen_made.l0 (playStp T) k s xs (xs.length : Int) (i : Int) true 0 acc = some (.error c) := by
 intro j
 induction j with
 | zero =>
  intro i hi s acc hs ha hv
  have hlt : ¬ (i : Int) < (xs.length : Int) := by omega
  exact ⟨1, .inl ⟨acc, s, by simp [gen_made.l0, hlt], by omega, hv, hs⟩⟩
 | succ j ihj =>
  intro i hi s acc hs ha hv
  have hlt : (i : Int) < (xs.length : Int) := by omega
  have h0 : (0 : Int) ≤ (i : Int) := by omega
  have hi' : i < xs.length := by omega
  have hw3 : wrap64 ((i : Int) + 1) = ((i + 1 : Nat) : Int) := by rw [wrap64_id (by omega) (by omega)]; omega
  have hacc : acc.length < 3518437208883 := by omega
  obtain ⟨k1, ⟨v, s1, h1, hv1, hs1⟩ | ⟨c, h1⟩⟩ := ih xs[i] (List.getElem_mem hi') s hs
  ·obtain ⟨k2, h2⟩ := ihj (i + 1) (by omega) s1 (acc ++ [val27 v]) hs1 (by simp [ha]) (by
    intro y hy
    rcases List.mem_append.1 hy with hy | hy
    ·exact hv y hy
    ·rw [List.mem_singleton.1 hy]; exact hv1)
   have e : ∀ r, gen_made.l0 (playStp T) k2 s1 xs (xs.length : Int) ((i + 1 : Nat) : Int) true 0 (acc ++ [val27 v]) = some r → gen_made.l0 (playStp T) (max k1 k2 + 1) s xs (xs.length : Int) (i : Int) true 0 acc = some r := by
    intro r hr
    simp only [gen_made.l0, if_pos hlt, if_pos h0, rd_T63_at hi', hw3]
    rw [gen_made.fle (Nat.le_max_left k1 k2) h1]
    simp only [obind, if_pos hacc]
    exact gen_made.le0 (Nat.le_max_right k1 k2) hr
   refine ⟨max k1 k2 + 1, ?_⟩
   rcases h2 with ⟨acc', s', h2, g⟩ | ⟨c, h2⟩
   ·exact .inl ⟨acc', s', e _ h2, g⟩
   ·exact .inr ⟨c, e _ h2⟩
  ·refine ⟨k1 + 1, .inr ⟨c, ?_⟩⟩
   simp only [gen_made.l0, if_pos hlt, if_pos h0, rd_T63_at hi', hw3]
   rw [h1]
   rfl
theorem play_loop1 (n : Nat) (T : List Int) (xs : List S63) (hl : 0 < xs.length) (g0 g1 g2 : Int) (ih : PlayOk n T xs[0]) (c0 : Nat) (hc : c0 ≤ 30) :
  ∀ (j i : Nat), i + j = c0 → ∀ (s : Nat) (acc : List S27), s ≤ T.length → acc.length = i → (∀ y ∈ acc, OKv n y) →
   ∃ k, (∃ acc' s', gen_made.l1 (playStp T) k s (c0 : Int) (i : Int) g0 g1 g2 xs true 0 acc = some (.ok ((true, 0, acc'), s')) ∧ acc'.length = c0 ∧ (∀ y ∈ acc', OKv n y) ∧ s' ≤ T.length) ∨ ∃ c, gen_made.l1 (playStp T) k s (c0 : Int) (i : Int) g0 g1 g2 xs true 0 acc = some (.error c) := by
 intro j
 induction j with
 | zero =>
  intro i hi s acc hs ha hv
  have hlt : ¬ (i : Int) < (c0 : Int) := by omega
  exact ⟨1, .inl ⟨acc, s, by simp [gen_made.l1, hlt], by omega, hv, hs⟩⟩
 | succ j ihj =>
  intro i hi s acc hs ha hv
  have hlt : (i : Int) < (c0 : Int) := by omega
  have h0 : (0 : Int) < (xs.length : Int) := by omega
  have hr0 : rd_T63 xs 0 = xs[0] := by simpa using rd_T63_at (n := 0) hl
  have hw3 : wrap64 ((i : Int) + 1) = ((i + 1 : Nat) : Int) := by rw [wrap64_id (by omega) (by omega)]; omega
  have hacc : acc.length < 3518437208883 := by omega
  obtain ⟨k1, ⟨v, s1, h1, hv1, hs1⟩ | ⟨c, h1⟩⟩ := ih s hs
  ·obtain ⟨k2, h2⟩ := ihj (i + 1) (by omega) s1 (acc ++ [val27 v]) hs1 (by simp [ha]) (by
    intro y hy
    rcases List.mem_append.1 hy with hy | hy
    ·exact hv y hy
    ·rw [List.mem_singleton.1 hy]; exact hv1)
   have e : ∀ r, gen_made.l1 (playStp T) k2 s1 (c0 : Int) ((i + 1 : Nat) : Int) g0 g1 g2 xs true 0 (acc ++ [val27 v]) = some r → gen_made.l1 (playStp T) (max k1 k2 + 1) s (c0 : Int) (i : Int) g0 g1 g2 xs true 0 acc = some r := by
    intro r hr
    simp only [gen_made.l1, if_pos hlt, if_pos h0, hr0, hw3]
    rw [gen_made.fle (Nat.le_max_left k1 k2) h1]
    simp only [obind, if_pos hacc]
    exact gen_made.le1 (Nat.le_max_right k1 k2) hr
   refine ⟨max k1 k2 + 1, ?_⟩
   rcases h2 with ⟨acc', s', h2, g⟩ | ⟨c, h2⟩
   ·exact .inl ⟨acc', s', e _ h2, g⟩
   ·exact .inr ⟨c, e _ h2⟩
  ·refine ⟨k1 + 1, .inr ⟨c, ?_⟩⟩
   simp only [gen_made.l1, if_pos hlt, if_pos h0, hr0, hw3]
   rw [h1]
   rfl
theorem play_ok : ∀ (n : Nat) (T : List Int) (x : S63), OKg n x → PlayOk n T x := by
 intro n T
 induction n with
 | zero => intro x h; exact h.elim
 | succ n ihn =>
  intro x ⟨hl, hone, hsub⟩ s hs
  rcases hone with ⟨h1, h3, hA⟩ | ⟨h1, h3, hA⟩ | h1 | ⟨h1, hA, hA5, h3⟩ | ⟨h1, h3⟩
  ·exact ⟨1, .inl ⟨(false, x.f1, []), s, by simp [gen_made.f, h1], ⟨by simp [val27], by simp [val27]; omega, by simp [val27]; omega, by simp [val27]⟩, hs⟩⟩
  ·have hw : wrap64 (x.f2 - x.f1) = x.f2 - x.f1 := wrap64_id (by omega) (by omega)
   rcases play_step T s hs (x.f2 - x.f1) with ⟨c, c0, c1, hlt, hc⟩ | ⟨c, hc⟩
   ·have hbd := wrap64_bnd (x.f1 + c)
    refine ⟨1, .inl ⟨(false, wrap64 (x.f1 + c), []), s + 1, ?_, ⟨by simp [val27], by simpa [val27] using hbd.1, by simpa [val27] using hbd.2, by simp [val27]⟩, hlt⟩⟩
    simp only [gen_made.f, h1, hw, if_true, show ¬ (2 : Int) = 1 by decide, if_false, ebind, obind, hc]
   ·refine ⟨1, .inr ⟨c, ?_⟩⟩
    simp only [gen_made.f, h1, hw, if_true, show ¬ (2 : Int) = 1 by decide, if_false, ebind, obind, hc]
  ·obtain ⟨k, h2⟩ := play_loop0 n T x.f3 hl (fun y hy => ihn y (hsub y hy)) x.f3.length 0 (by omega) s [] hs rfl (by simp)
   refine ⟨k + 1, ?_⟩
   simp only [gen_made.f, h1, show ¬ (3 : Int) = 1 by decide, show ¬ (3 : Int) = 2 by decide, if_false, if_true]
   rcases h2 with ⟨acc', s', h2, ha, hv, hs'⟩ | ⟨c, h2⟩
   ·exact .inl ⟨(true, 0, acc'), s', h2, ⟨by simp [val27]; omega, by simp [val27], by simp [val27], by simpa [val27] using hv⟩, hs'⟩
   ·exact .inr ⟨c, h2⟩
  ·have h3' : 0 < x.f3.length := by omega
   rcases play_step T s hs x.f1 with ⟨c, c0, c1, hlt, hc⟩ | ⟨c, hc⟩
   ·obtain ⟨cn, rfl⟩ := Int.eq_ofNat_of_zero_le c0
    obtain ⟨k, h2⟩ := play_loop1 n T x.f3 h3' 4 x.f1 x.f2 (ihn _ (hsub _ (List.getElem_mem h3'))) cn (by omega) cn 0 (by omega) (s + 1) [] hlt rfl (by simp)
    refine ⟨k + 1, ?_⟩
    simp only [gen_made.f, h1, show ¬ (4 : Int) = 1 by decide, show ¬ (4 : Int) = 2 by decide, show ¬ (4 : Int) = 3 by decide, if_false, if_true, ebind, obind, hc]
    rcases h2 with ⟨acc', s', h2, ha, hv, hs'⟩ | ⟨c, h2⟩
    ·exact .inl ⟨(true, 0, acc'), s', h2, ⟨by simp [val27]; omega, by simp [val27], by simp [val27], by simpa [val27] using hv⟩, hs'⟩
    ·exact .inr ⟨c, h2⟩
   ·refine ⟨1, .inr ⟨c, ?_⟩⟩
    simp only [gen_made.f, h1, show ¬ (4 : Int) = 1 by decide, show ¬ (4 : Int) = 2 by decide, show ¬ (4 : Int) = 3 by decide, if_false, if_true, ebind, obind, hc]
  ·have hw : wrap64 ((x.f3.length : Int) - 1) = (x.f3.length : Int) - 1 := wrap64_id (by omega) (by omega)
   rcases play_step T s hs ((x.f3.length : Int) - 1) with ⟨c, c0, c1, hlt, hc⟩ | ⟨c, hc⟩
   ·obtain ⟨cn, rfl⟩ := Int.eq_ofNat_of_zero_le c0
    have hcn : cn < x.f3.length := by omega
    have hci : ((cn : Nat) : Int) < (x.f3.length : Int) := by omega
    obtain ⟨k, h2⟩ := ihn _ (hsub _ (List.getElem_mem hcn)) (s + 1) hlt
    refine ⟨k + 1, ?_⟩
    simp only [gen_made.f, h1, hw, show ¬ (5 : Int) = 1 by decide, show ¬ (5 : Int) = 2 by decide, show ¬ (5 : Int) = 3 by decide, show ¬ (5 : Int) = 4 by decide, if_false, if_true, ebind, obind, hc, if_pos c0, if_pos hci, rd_T63_at hcn]
    rcases h2 with ⟨v, s', h2, hv, hs'⟩ | ⟨c, h2⟩
    ·rw [h2]
     exact .inl ⟨v, s', rfl, OKv.succ n _ hv, hs'⟩
    ·rw [h2]
     exact .inr ⟨c, rfl⟩
   ·refine ⟨1, .inr ⟨c, ?_⟩⟩
    simp only [gen_made.f, h1, hw, show ¬ (5 : Int) = 1 by decide, show ¬ (5 : Int) = 2 by decide, show ¬ (5 : Int) = 3 by decide, show ¬ (5 : Int) = 4 by decide, if_false, if_true, ebind, obind, hc]
/-- Replay answers, whatever the generator and the numbers. -/
theorem replay_halts (x : S63) (T : List Int) (hT : T.length < 4611686018427387904) : ∃ b n xs e, gen_Replay.f x.f0 x.f1 x.f2 x.f3 T = some (b, n, xs, e) ∧ OKv 6 ⟨b, n, xs⟩ := by
 have hz : OKv 6 (⟨false, 0, []⟩ : S27) := ⟨by simp, by simp, by simp, by simp⟩
 obtain ⟨k, e, hk, he⟩ := check_halts x
 cases e with
 | some c =>
  refine ⟨false, 0, [], some c, Olim_of (fun k => gen_Replay.gmono _ _ _ _ _ k) (k := k) ?_, hz⟩
  unfold gen_Replay.g
  rw [hk]
  rfl
 | none =>
  obtain ⟨k2, h2⟩ := play_ok 6 T x (he rfl) 0 (Nat.zero_le _)
  rcases h2 with ⟨v, s', h2, hv, hs'⟩ | ⟨c, h2⟩
  ·obtain ⟨v1, v2, v3⟩ := v
   by_cases hlt : (s' : Int) < (T.length : Int)
   ·refine ⟨false, 0, [], some 3, Olim_of (fun k => gen_Replay.gmono _ _ _ _ _ k) (k := max k k2) ?_, hz⟩
    unfold gen_Replay.g
    rw [gen_Check.fle (Nat.le_max_left k k2) hk]
    simp only [Option.bind_some]
    rw [if_pos hT, gen_made.fle (Nat.le_max_right k k2) h2]
    simp only [if_pos hlt]
   ·refine ⟨v1, v2, v3, none, Olim_of (fun k => gen_Replay.gmono _ _ _ _ _ k) (k := max k k2) ?_, hv⟩
    unfold gen_Replay.g
    rw [gen_Check.fle (Nat.le_max_left k k2) hk]
    simp only [Option.bind_some]
    rw [if_pos hT, gen_made.fle (Nat.le_max_right k k2) h2]
    simp only [if_neg hlt]
  ·refine ⟨false, 0, [], some c, Olim_of (fun k => gen_Replay.gmono _ _ _ _ _ k) (k := max k k2) ?_, hz⟩
   unfold gen_Replay.g
   rw [gen_Check.fle (Nat.le_max_left k k2) hk]
   simp only [Option.bind_some]
   rw [if_pos hT, gen_made.fle (Nat.le_max_right k k2) h2]
end Go.Proofs.YtgdomnlkafcddaaDoor.Q
namespace Go.Proofs.YtgdomnlkafcddaaDoor.Q
open Go.RowKit Go.Proofs.YtgdomnlkafcddaaDoorW.PrintWords Go.Proofs.YtgdomnlkafcddaaDoorW.PrintLast Go.Proofs.YtgdomnlkafcddaaDoorW.PrintMore
set_option linter.unusedVariables false
set_option linter.unusedSimpArgs false
theorem playStp_ok {T : List Int} {s : Nat} {m : Int} {t : Int × Nat} (hs : s ≤ T.length) (h : playStp T s m = .ok t) : t.2 = s + 1 ∧ s < T.length ∧ ∃ c : Nat, t.1 = (c : Int) ∧ rd T (s : Int) = (c : Int) ∧ (c : Int) ≤ m := by
 rcases play_step T s hs m with ⟨x, h0, h1, h2, h3⟩ | ⟨c, h3⟩
 ·rw [h3] at h
  unfold playStp at h3
  injection h with h
  subst h
  obtain ⟨c, rfl⟩ := Int.eq_ofNat_of_zero_le h0
  refine ⟨rfl, h2, c, rfl, ?_, h1⟩
  split at h3
  ·cases h3
  ·split at h3
   ·cases h3
   ·split at h3
    ·cases h3
    ·injection h3 with h3
     injection h3
 ·rw [h3] at h
  cases h
def MF (T : List Int) (y : S63) : Prop :=
 ∀ (k s : Nat) v (s' : Nat), s ≤ T.length → gen_made.f (playStp T) k s y.f0 y.f1 y.f2 y.f3 = some (.ok (v, s')) → s' ≤ T.length ∧ ∀ rest, Fits T rest s' → Fits T (y :: rest) s
theorem fits_l0 (T : List Int) (xs : List S63) (hl : xs.length ≤ 30) (hm : ∀ y ∈ xs, MF T y) : ∀ (k s i : Nat) (b0 : Bool) (b1 : Int) (b2 : List S27) v (s' : Nat), s ≤ T.length → i ≤ xs.length → gen_made.l0 (playStp T) k s xs (xs.length : Int) (i : Int) b0 b1 b2 = some (.ok (v, s')) → s' ≤ T.length ∧ ∀ rest, Fits T rest s' → Fits T (xs.drop i ++ rest) s := by
 intro k
 induction k with
 | zero => intro s i b0 b1 b2 v s' hs hi h; simp [gen_made.l0] at h
 | succ k ih =>
  intro s i b0 b1 b2 v s' hs hi h
  by_cases hlt : i < xs.length
  ·have h0 : (i : Int) < (xs.length : Int) := by omega
   have h1 : (0 : Int) ≤ (i : Int) := by omega
   have hw3 : wrap64 ((i : Int) + 1) = ((i + 1 : Nat) : Int) := by rw [wrap64_id (by omega) (by omega)]; omega
   simp only [gen_made.l0, if_pos h0, if_pos h1, rd_T63_at hlt, hw3] at h
   obtain ⟨t, h2, h3⟩ := obind_ok h
   split at h3
   ·obtain ⟨hs1, hf⟩ := hm _ (List.getElem_mem hlt) k s t.1 t.2 hs h2
    obtain ⟨hs2, hg⟩ := ih t.2 (i + 1) _ _ _ v s' hs1 hlt h3
    refine ⟨hs2, fun rest hr => ?_⟩
    rw [List.drop_eq_getElem_cons hlt, List.cons_append]
    exact hf _ (hg rest hr)
   ·cases h3
  ·have h0 : ¬ (i : Int) < (xs.length : Int) := by omega
   simp only [gen_made.l0, if_neg h0] at h
   injection h with h
   injection h with h
   injection h with _ h
   subst h
   exact ⟨hs, fun rest hr => by rw [List.drop_of_length_le (by omega)]; exact hr⟩
theorem fits_l1 (T : List Int) (xs : List S63) (hl : 0 < xs.length) (hm : MF T xs[0]) (g0 g1 g2 : Int) (c : Nat) (hc : c ≤ 30) : ∀ (k s i : Nat) (b0 : Bool) (b1 : Int) (b2 : List S27) v (s' : Nat), s ≤ T.length → i ≤ c → gen_made.l1 (playStp T) k s (c : Int) (i : Int) g0 g1 g2 xs b0 b1 b2 = some (.ok (v, s')) → s' ≤ T.length ∧ ∀ rest, Fits T rest s' → Fits T (List.replicate (c - i) xs[0] ++ rest) s := by
 intro k
 induction k with
 | zero => intro s i b0 b1 b2 v s' hs hi h; simp [gen_made.l1] at h
 | succ k ih =>
  intro s i b0 b1 b2 v s' hs hi h
  by_cases hlt : i < c
  ·have h0 : (i : Int) < (c : Int) := by omega
   have h1 : (0 : Int) < (xs.length : Int) := by omega
   have hr0 : rd_T63 xs 0 = xs[0] := by simpa using rd_T63_at (n := 0) hl
   have hw3 : wrap64 ((i : Int) + 1) = ((i + 1 : Nat) : Int) := by rw [wrap64_id (by omega) (by omega)]; omega
   simp only [gen_made.l1, if_pos h0, if_pos h1, hr0, hw3] at h
   obtain ⟨t, h2, h3⟩ := obind_ok h
   split at h3
   ·obtain ⟨hs1, hf⟩ := hm k s t.1 t.2 hs h2
    obtain ⟨hs2, hg⟩ := ih t.2 (i + 1) _ _ _ v s' hs1 hlt h3
    refine ⟨hs2, fun rest hr => ?_⟩
    rw [show c - i = (c - (i + 1)) + 1 by omega, List.replicate_succ, List.cons_append]
    exact hf _ (hg rest hr)
   ·cases h3
  ·have h0 : ¬ (i : Int) < (c : Int) := by omega
   simp only [gen_made.l1, if_neg h0] at h
   injection h with h
   injection h with h
   injection h with _ h
   subst h
   exact ⟨hs, fun rest hr => by rw [show c - i = 0 by omega]; exact hr⟩
theorem made_fits (T : List Int) : ∀ (n : Nat) (x : S63), OKg n x → MF T x := by
 intro n
 induction n with
 | zero => intro x h; exact h.elim
 | succ n ihn =>
  intro x ⟨hl, hone, hsub⟩ k s v s' hs h
  cases k with
  | zero => simp [gen_made.f] at h
  | succ k =>
  rcases hone with ⟨h1, h3, hA⟩ | ⟨h1, h3, hA⟩ | h1 | ⟨h1, hA, hA5, h3⟩ | ⟨h1, h3⟩
  ·simp only [gen_made.f, h1, if_true] at h
   injection h with h
   injection h with h
   injection h with _ h
   subst h
   exact ⟨hs, fun rest hr => Fits.none (by omega) (by unfold rank_branches2; rw [if_neg (by omega), if_neg (by omega), if_neg (by omega)]) hr⟩
  ·have hw : wrap64 (x.f2 - x.f1) = x.f2 - x.f1 := wrap64_id (by omega) (by omega)
   simp only [gen_made.f, h1, hw, if_true, show ¬ (2 : Int) = 1 by decide, if_false] at h
   obtain ⟨t, h2, h4⟩ := ebind_ok h
   obtain ⟨e2, hlt, c, e1, hrd, hcm⟩ := playStp_ok hs h2
   injection h4 with h4
   injection h4 with h4
   injection h4 with _ h4
   rw [e2] at h4
   subst h4
   have hbr : rank_branches2 x = List.replicate (x.f2 - x.f1 + 1).toNat [] := by unfold rank_branches2; rw [if_pos h1]
   refine ⟨by omega, fun rest hr => Fits.one (by omega) hlt c hrd (by rw [hbr, List.length_replicate]; omega) ?_⟩
   simp only [hbr, List.getElem_replicate, List.nil_append]
   exact hr
  ·simp only [gen_made.f, h1, show ¬ (3 : Int) = 1 by decide, show ¬ (3 : Int) = 2 by decide, if_false, if_true] at h
   obtain ⟨g1, g2⟩ := fits_l0 T x.f3 hl (fun y hy => ihn y (hsub y hy)) k s 0 _ _ _ v s' hs (Nat.zero_le _) h
   exact ⟨g1, fun rest hr => Fits.both h1 (by simpa using g2 rest hr)⟩
  ·simp only [gen_made.f, h1, show ¬ (4 : Int) = 1 by decide, show ¬ (4 : Int) = 2 by decide, show ¬ (4 : Int) = 3 by decide, if_false, if_true] at h
   have h3' : 0 < x.f3.length := by omega
   obtain ⟨t, h2, h4⟩ := ebind_ok h
   obtain ⟨e2, hlt, c, e1, hrd, hcm⟩ := playStp_ok hs h2
   rw [e1, e2] at h4
   obtain ⟨g1, g2⟩ := fits_l1 T x.f3 h3' (ihn _ (hsub _ (List.getElem_mem h3'))) _ _ _ c (by omega) k (s + 1) 0 _ _ _ v s' hlt (Nat.zero_le _) h4
   have hbr : rank_branches2 x = (List.range (x.f1.toNat + 1)).map (fun k => List.replicate k (x.f3.getD 0 z63)) := by unfold rank_branches2; rw [if_neg (by omega), if_pos h1]
   have hg0 : x.f3.getD 0 z63 = x.f3[0] := by simp [h3']
   refine ⟨g1, fun rest hr => Fits.one (by omega) hlt c hrd (by rw [hbr, List.length_map, List.length_range]; omega) ?_⟩
   simp only [hbr, List.getElem_map, List.getElem_range, hg0]
   exact g2 rest hr
  ·have hw : wrap64 ((x.f3.length : Int) - 1) = (x.f3.length : Int) - 1 := wrap64_id (by omega) (by omega)
   simp only [gen_made.f, h1, hw, show ¬ (5 : Int) = 1 by decide, show ¬ (5 : Int) = 2 by decide, show ¬ (5 : Int) = 3 by decide, show ¬ (5 : Int) = 4 by decide, if_false, if_true] at h
   obtain ⟨t, h2, h4⟩ := ebind_ok h
   obtain ⟨e2, hlt, c, e1, hrd, hcm⟩ := playStp_ok hs h2
   have hcn : c < x.f3.length := by omega
   rw [e1, e2, if_pos (by omega), if_pos (by omega)] at h4
   obtain ⟨t2, h5, h6⟩ := obind_ok h4
   rw [rd_T63_at hcn] at h5
   injection h6 with h6
   injection h6 with h6
   injection h6 with _ h6
   subst h6
   obtain ⟨g1, g2⟩ := ihn _ (hsub _ (List.getElem_mem hcn)) k (s + 1) t2.1 t2.2 hlt h5
   have hbr : rank_branches2 x = x.f3.map (fun y => [y]) := by unfold rank_branches2; rw [if_neg (by omega), if_neg (by omega), if_pos h1]
   refine ⟨g1, fun rest hr => Fits.one (by omega) hlt c hrd (by rw [hbr, List.length_map]; exact hcn) ?_⟩
   simp only [hbr, List.getElem_map, List.singleton_append]
   exact g2 rest hr
theorem replay_fits {x : S63} (hx : OKg 6 x) {T : List Int} {r1 : Bool} {r2 : Int} {r3 : List S27} (h : gen_Replay.f x.f0 x.f1 x.f2 x.f3 T = some (r1, r2, r3, none)) : Fits T [x] 0 := by
 obtain ⟨k, h⟩ := Olim_some h
 unfold gen_Replay.g at h
 obtain ⟨e, h1, h2⟩ := Option.bind_eq_some_iff.1 h
 cases e with
 | some c => simp at h2
 | none =>
  simp only at h2
  split at h2
  ·cases hm : gen_made.f (playStp T) k 0 x.f0 x.f1 x.f2 x.f3 with
   | none => rw [hm] at h2; simp at h2
   | some r =>
    rw [hm] at h2
    cases r with
    | error c => simp at h2
    | ok v => exact (made_fits T 6 x hx k 0 v.1 v.2 (Nat.zero_le _) hm).2 [] (Fits.nil _)
  ·simp at h2
end Go.Proofs.YtgdomnlkafcddaaDoor.Q
namespace Go.Proofs.YtgdomnlkafcddaaDoor.Q
open Go.RowKit Go.Proofs.YtgdomnlkafcddaaDoorW.PrintWords Go.Proofs.YtgdomnlkafcddaaDoorW.PrintLast Go.Proofs.YtgdomnlkafcddaaDoorW.PrintMore
set_option linter.unusedVariables false
set_option linter.unusedSimpArgs false
set_option linter.unusedSectionVars false
section
variable (x : S63) (A3 : Option Addr) (c3 : Nat) (A1 : Option Addr) (c1 : Nat) (T : List Int) (w : World) (hC : Kd.C k63 w A3 x.f3.length x.f3) (hl : x.f3.length ≤ c3) (hC1 : Kd.C (Kd.int .i64) w A1 T.length T) (hl1 : T.length ≤ c1)
include hC hl hC1 hl1
set_option maxHeartbeats 16000000 in
set_option maxRecDepth 100000 in
theorem rank_Rank2.err_ (kc : Nat) (n0 er : Int) (hcount : gen_Count.f kc x.f0 x.f1 x.f2 x.f3 = some (n0, some er)) :
  Calls Tryd.prog 40 #[.agg #[.int .i64 x.f0, .int .i64 x.f1, .int .i64 x.f2, .slice A3 x.f3.length c3], .slice A1 T.length c1] w fun e w' => ∃ n : Int, e = .returned (.tuple #[.int .i64 n, errW (some er)]) ∧ Below w.heap.size w w' := by
 have hu63 := Tryd.underlying63
 have hu30 := Tryd.underlying30
 have hu66 := Tryd.underlying66
 have hu27 := Tryd.underlying27
 have HC := Aside0.mk hC
 have HL := Aside0.mk hl
 have HC1 := Aside0.mk hC1
 have HL1 := Aside0.mk hl1
 have HN := Aside0.mk hcount
 clear hC hl hC1 hl1 hcount
 go_enter Tryd.func40, Tryd.ntmps40
 go_wp2_with (first
  | ((with_reducible refine gate_dst (N := 2) rfl ?_); refine box_event ?hg (N := 2) ?hd (cs := #[.int .i64 x.f0, .int .i64 x.f1, .int .i64 x.f2, .slice A3 x.f3.length c3]) (t := 63) ?hr ?_; (case hd => rfl); (case hg => rfl); (case hr => first | (go_simp; done) | (go_simp; rfl)); intro gb hg w1 hbox hb; have BK := Aside0.mk hbox; have HB := Aside0.mk hb; have ha0 : w1.cell? ⟨gb, 0, none⟩ = some (.int .i64 x.f0) := (blk_cell hbox 0).trans rfl; have ha1 : w1.cell? ⟨gb, 1, none⟩ = some (.int .i64 x.f1) := (blk_cell hbox 1).trans rfl; have ha2 : w1.cell? ⟨gb, 2, none⟩ = some (.int .i64 x.f2) := (blk_cell hbox 2).trans rfl; have ha3 : w1.cell? ⟨gb, 3, none⟩ = some (.slice A3 x.f3.length c3) := (blk_cell hbox 3).trans rfl; clear hbox hb hg)
  | ((with_reducible refine gate_callee (f := 42) rfl ?_); refine goesL_ (some 21) rfl rfl Tryd.func42 (by kernel_rfl) rfl #[.agg #[.int .i64 x.f0, .int .i64 x.f1, .int .i64 x.f2, .slice A3 x.f3.length c3]] rfl (by (try simp only [List.map_toArray, List.map_cons, List.map_nil]); first | done | rfl) ?_; (with_reducible refine (gen_Count.calls kc x.f0 x.f1 x.f2 A3 c3 x.f3 n0 (some er) _ (Kd.C_below HC.out HB.out) HL.out HN.out).mono ?_); rintro e w2 ⟨he, hb⟩; rw [errW_some] at he; subst he; refine ⟨_, rfl, ?_⟩; have hbk2 := blk_below BK.out hb; have ha0 : w2.cell? ⟨gb, 0, none⟩ = some (.int .i64 x.f0) := (blk_cell hbk2 0).trans rfl; have ha1 : w2.cell? ⟨gb, 1, none⟩ = some (.int .i64 x.f1) := (blk_cell hbk2 1).trans rfl; have ha2 : w2.cell? ⟨gb, 2, none⟩ = some (.int .i64 x.f2) := (blk_cell hbk2 2).trans rfl; have ha3 : w2.cell? ⟨gb, 3, none⟩ = some (.slice A3 x.f3.length c3) := (blk_cell hbk2 3).trans rfl; have BK2 := Aside0.mk hbk2; have HB2 := Aside0.mk (below_step HB.out hb); clear hb hbk2))
 go_ret2
 exact ⟨_, (by rw [errW_some]; first | done | rfl), HB2.out⟩
set_option maxHeartbeats 16000000 in
set_option maxRecDepth 100000 in
theorem rank_Rank2.bad_ (kc : Nat) (n0 er : Int) (hcount : gen_Count.f kc x.f0 x.f1 x.f2 x.f3 = some (n0, none)) (r1 : Bool) (r2 : Int) (r3 : List S27) (hrep : gen_Replay.f x.f0 x.f1 x.f2 x.f3 T = some (r1, r2, r3, some er)) :
  Calls Tryd.prog 40 #[.agg #[.int .i64 x.f0, .int .i64 x.f1, .int .i64 x.f2, .slice A3 x.f3.length c3], .slice A1 T.length c1] w fun e w' => ∃ n : Int, e = .returned (.tuple #[.int .i64 n, errW (some er)]) ∧ Below w.heap.size w w' := by
 have hu63 := Tryd.underlying63
 have hu30 := Tryd.underlying30
 have hu66 := Tryd.underlying66
 have hu27 := Tryd.underlying27
 have HC := Aside0.mk hC
 have HL := Aside0.mk hl
 have HC1 := Aside0.mk hC1
 have HL1 := Aside0.mk hl1
 have HN := Aside0.mk hcount
 have HRE := Aside0.mk hrep
 clear hC hl hC1 hl1 hcount hrep
 go_enter Tryd.func40, Tryd.ntmps40
 go_wp2_with (first
  | ((with_reducible refine gate_dst (N := 2) rfl ?_); refine box_event ?hg (N := 2) ?hd (cs := #[.int .i64 x.f0, .int .i64 x.f1, .int .i64 x.f2, .slice A3 x.f3.length c3]) (t := 63) ?hr ?_; (case hd => rfl); (case hg => rfl); (case hr => first | (go_simp; done) | (go_simp; rfl)); intro gb hg w1 hbox hb; have BK := Aside0.mk hbox; have HB := Aside0.mk hb; have ha0 : w1.cell? ⟨gb, 0, none⟩ = some (.int .i64 x.f0) := (blk_cell hbox 0).trans rfl; have ha1 : w1.cell? ⟨gb, 1, none⟩ = some (.int .i64 x.f1) := (blk_cell hbox 1).trans rfl; have ha2 : w1.cell? ⟨gb, 2, none⟩ = some (.int .i64 x.f2) := (blk_cell hbox 2).trans rfl; have ha3 : w1.cell? ⟨gb, 3, none⟩ = some (.slice A3 x.f3.length c3) := (blk_cell hbox 3).trans rfl; clear hbox hb hg)
  | ((with_reducible refine gate_callee (f := 42) rfl ?_); refine goesL_ (some 21) rfl rfl Tryd.func42 (by kernel_rfl) rfl #[.agg #[.int .i64 x.f0, .int .i64 x.f1, .int .i64 x.f2, .slice A3 x.f3.length c3]] rfl (by (try simp only [List.map_toArray, List.map_cons, List.map_nil]); first | done | rfl) ?_; (with_reducible refine (gen_Count.calls kc x.f0 x.f1 x.f2 A3 c3 x.f3 n0 none _ (Kd.C_below HC.out HB.out) HL.out HN.out).mono ?_); rintro e w2 ⟨he, hb⟩; rw [errW_none] at he; subst he; refine ⟨_, rfl, ?_⟩; have hbk2 := blk_below BK.out hb; have ha0 : w2.cell? ⟨gb, 0, none⟩ = some (.int .i64 x.f0) := (blk_cell hbk2 0).trans rfl; have ha1 : w2.cell? ⟨gb, 1, none⟩ = some (.int .i64 x.f1) := (blk_cell hbk2 1).trans rfl; have ha2 : w2.cell? ⟨gb, 2, none⟩ = some (.int .i64 x.f2) := (blk_cell hbk2 2).trans rfl; have ha3 : w2.cell? ⟨gb, 3, none⟩ = some (.slice A3 x.f3.length c3) := (blk_cell hbk2 3).trans rfl; have BK2 := Aside0.mk hbk2; have HB2 := Aside0.mk (below_step HB.out hb); clear hb hbk2)
  | ((with_reducible refine gate_callee (f := 44) rfl ?_); refine goesL_ (some 30) rfl rfl Tryd.func44 (by kernel_rfl) rfl #[.agg #[.int .i64 x.f0, .int .i64 x.f1, .int .i64 x.f2, .slice A3 x.f3.length c3], .slice A1 T.length c1] rfl (by (try simp only [List.map_toArray, List.map_cons, List.map_nil]); first | done | rfl) ?_; (with_reducible refine (gen_Replay.calls x.f0 x.f1 x.f2 A3 c3 x.f3 A1 c1 T r1 r2 r3 (some er) _ (Kd.C_below HC.out HB2.out) HL.out (Kd.C_below HC1.out HB2.out) HL1.out HRE.out).mono ?_); rintro e w3 ⟨v3, he, ho3, hb⟩; obtain ⟨B3, d3, e3⟩ := Kd.R_slice ho3; subst e3; rw [errW_some] at he; subst he; clear ho3; refine ⟨_, rfl, ?_⟩; have BK3 := Aside0.mk (blk_below BK2.out hb); have HB3 := Aside0.mk (below_step HB2.out hb); clear hb)
  | ((with_reducible refine gate_dst (N := 8) rfl ?_); refine box_event ?hg (N := 8) ?hd (cs := #[.bool false, .int .i64 0, .slice none 0 0]) (t := 27) ?hr ?_; (case hd => rfl); (case hg => rfl); (case hr => first | (go_simp; done) | (go_simp; rfl)); intro g8 hg8 w8 hbox hb; have GV := Aside0.mk (hg8 ▸ HB3.out.size : w.heap.size ≤ g8); have NB := Aside0.mk (show gb ≠ g8 by rw [hg8]; exact Nat.ne_of_lt (blk_lt BK3.out)); have hbk8 := blk_below BK3.out hb; have HB8 := Aside0.mk (below_step HB3.out hb); have hf60 := blk_frozen hbox 0; have hf61 := blk_frozen hbox 1; have hf62 := blk_frozen hbox 2; have hv60 : w8.cell? ⟨g8, 0, none⟩ = some (.bool false) := (blk_cell hbox 0).trans rfl; have hv61 : w8.cell? ⟨g8, 1, none⟩ = some (.int .i64 0) := (blk_cell hbox 1).trans rfl; have hv62 : w8.cell? ⟨g8, 2, none⟩ = some (.slice none 0 0) := (blk_cell hbox 2).trans rfl; have ha0 : w8.cell? ⟨gb, 0, none⟩ = some (.int .i64 x.f0) := (blk_cell hbk8 0).trans rfl; have ha1 : w8.cell? ⟨gb, 1, none⟩ = some (.int .i64 x.f1) := (blk_cell hbk8 1).trans rfl; have ha2 : w8.cell? ⟨gb, 2, none⟩ = some (.int .i64 x.f2) := (blk_cell hbk8 2).trans rfl; have ha3 : w8.cell? ⟨gb, 3, none⟩ = some (.slice A3 x.f3.length c3) := (blk_cell hbk8 3).trans rfl; have hnb := NB.out; clear hbox hb hg8 hbk8))
 go_ret2
 exact ⟨_, (by rw [errW_some]; first | done | rfl), by repeat (first | (with_reducible exact HB8.out) | refine below_set ?_ GV.out | exact HB8.out)⟩
end
/-- What rank.Rank tells to be wrong. -/
noncomputable def rank_Rank2 (x : S63) (T : List Int) : Option Int :=
 match Olim (fun k => gen_Count.f k x.f0 x.f1 x.f2 x.f3) with
 | none => none
 | some (_, some er) => some er
 | some (n, none) => match gen_Replay.f x.f0 x.f1 x.f2 x.f3 T with
  | none => none
  | some (_, _, _, e) => e
theorem rank_Rank2.calls (x : S63) (A3 : Option Addr) (c3 : Nat) (A1 : Option Addr) (c1 : Nat) (T : List Int) (w : World) (hC : Kd.C k63 w A3 x.f3.length x.f3) (hl : x.f3.length ≤ c3) (hC1 : Kd.C (Kd.int .i64) w A1 T.length T) (hl1 : T.length ≤ c1) (hTl : T.length < 4611686018427387904) :
  Calls Tryd.prog 40 #[.agg #[.int .i64 x.f0, .int .i64 x.f1, .int .i64 x.f2, .slice A3 x.f3.length c3], .slice A1 T.length c1] w fun e w' => ∃ n : Int, e = .returned (.tuple #[.int .i64 n, errW (rank_Rank2 x T)]) ∧ Below w.heap.size w w' := by
 obtain ⟨k, c, e, h, h0, h1, hg⟩ := Count_halts x
 have hO := Olim_of (f := fun k => gen_Count.f k x.f0 x.f1 x.f2 x.f3) (fun k => gen_Count.mono _ _ _ _ k) (k := k) h
 unfold rank_Rank2
 rw [hO]
 cases e with
 | some er => exact rank_Rank2.err_ x A3 c3 A1 c1 T w hC hl hC1 hl1 k c er h
 | none =>
  obtain ⟨b, n, xs, e, hr, _⟩ := replay_halts x T hTl
  simp only [hr]
  cases e with
  | some er => exact rank_Rank2.bad_ x A3 c3 A1 c1 T w hC hl hC1 hl1 k c er h b n xs hr
  | none => exact rank_Rank2.ok_ x A3 c3 A1 c1 T w hC hl hC1 hl1 k 887503681 c (Nat.le_refl _) hTl h b n xs hr ⟨6, hg rfl, by omega, by decide, trivial⟩ (replay_fits (hg rfl) hr)
end Go.Proofs.YtgdomnlkafcddaaDoor.Q
namespace Go.Proofs.YtgdomnlkafcddaaDoor.Q
open Go.RowKit Go.Proofs.YtgdomnlkafcddaaDoorW.PrintWords Go.Proofs.YtgdomnlkafcddaaDoorW.PrintLast Go.Proofs.YtgdomnlkafcddaaDoorW.PrintMore
set_option linter.unusedVariables false
set_option linter.unusedSimpArgs false
section
variable (x : S63) (A3 : Option Addr) (c3 : Nat) (i0 n0 : Int) (w : World) (hC : Kd.C k63 w A3 x.f3.length x.f3) (hl : x.f3.length ≤ c3)
include hC hl
set_option maxHeartbeats 16000000 in
set_option maxRecDepth 100000 in
theorem rank_Nth2.err_ (kc : Nat) (er : Int) (hcount : gen_Count.f kc x.f0 x.f1 x.f2 x.f3 = some (n0, some er)) :
  Calls Tryd.prog 41 #[.agg #[.int .i64 x.f0, .int .i64 x.f1, .int .i64 x.f2, .slice A3 x.f3.length c3], .int .i64 i0] w fun e w' => ∃ v, e = .returned (.tuple #[v, errW (some er)]) ∧ Kd.R (Kd.int .i64) 3 w' w.heap.size (fun _ => True) v [] ∧ Below w.heap.size w w' := by
 have hu63 := Tryd.underlying63
 have hu30 := Tryd.underlying30
 have hu66 := Tryd.underlying66
 have HC := Aside0.mk hC
 have HL := Aside0.mk hl
 have HN := Aside0.mk hcount
 clear hC hl hcount
 go_enter Tryd.func41, Tryd.ntmps41
 go_wp2_with (first
  | ((with_reducible refine gate_dst (N := 2) rfl ?_); refine box_event ?hg (N := 2) ?hd (cs := #[.int .i64 x.f0, .int .i64 x.f1, .int .i64 x.f2, .slice A3 x.f3.length c3]) (t := 63) ?hr ?_; (case hd => rfl); (case hg => rfl); (case hr => first | (go_simp; done) | (go_simp; rfl)); intro gb hg w1 hbox hb; have BK := Aside0.mk hbox; have HB := Aside0.mk hb; have ha0 : w1.cell? ⟨gb, 0, none⟩ = some (.int .i64 x.f0) := (blk_cell hbox 0).trans rfl; have ha1 : w1.cell? ⟨gb, 1, none⟩ = some (.int .i64 x.f1) := (blk_cell hbox 1).trans rfl; have ha2 : w1.cell? ⟨gb, 2, none⟩ = some (.int .i64 x.f2) := (blk_cell hbox 2).trans rfl; have ha3 : w1.cell? ⟨gb, 3, none⟩ = some (.slice A3 x.f3.length c3) := (blk_cell hbox 3).trans rfl; clear hbox hb hg)
  | ((with_reducible refine gate_callee (f := 42) rfl ?_); refine goesL_ (some 18) rfl rfl Tryd.func42 (by kernel_rfl) rfl #[.agg #[.int .i64 x.f0, .int .i64 x.f1, .int .i64 x.f2, .slice A3 x.f3.length c3]] rfl (by (try simp only [List.map_toArray, List.map_cons, List.map_nil]); first | done | rfl) ?_; (with_reducible refine (gen_Count.calls kc x.f0 x.f1 x.f2 A3 c3 x.f3 n0 (some er) _ (Kd.C_below HC.out HB.out) HL.out HN.out).mono ?_); rintro e w2 ⟨he, hb⟩; rw [errW_some] at he; subst he; refine ⟨_, rfl, ?_⟩; have HB2 := Aside0.mk (below_step HB.out hb); clear hb))
 go_ret2
 exact ⟨_, (by rw [errW_some]; first | done | rfl), Kd.R_nil _ _ _ _ _, HB2.out⟩
set_option maxHeartbeats 16000000 in
set_option maxRecDepth 100000 in
theorem rank_Nth2.low_ (kc : Nat) (hcount : gen_Count.f kc x.f0 x.f1 x.f2 x.f3 = some (n0, none)) (hi0 : i0 < 0) :
  Calls Tryd.prog 41 #[.agg #[.int .i64 x.f0, .int .i64 x.f1, .int .i64 x.f2, .slice A3 x.f3.length c3], .int .i64 i0] w fun e w' => ∃ v, e = .returned (.tuple #[v, errW (some 1)]) ∧ Kd.R (Kd.int .i64) 3 w' w.heap.size (fun _ => True) v [] ∧ Below w.heap.size w w' := by
 have hu63 := Tryd.underlying63
 have hu30 := Tryd.underlying30
 have hu66 := Tryd.underlying66
 have HC := Aside0.mk hC
 have HL := Aside0.mk hl
 have HN := Aside0.mk hcount
 have i1 : decide (i0 < 0) = true := decide_eq_true (by omega)
 have i4 : (i0 < 0) = True := eq_true (by omega)
 clear hC hl hcount hi0
 go_enter Tryd.func41, Tryd.ntmps41
 go_wp2_with (first
  | ((with_reducible refine gate_dst (N := 2) rfl ?_); refine box_event ?hg (N := 2) ?hd (cs := #[.int .i64 x.f0, .int .i64 x.f1, .int .i64 x.f2, .slice A3 x.f3.length c3]) (t := 63) ?hr ?_; (case hd => rfl); (case hg => rfl); (case hr => first | (go_simp; done) | (go_simp; rfl)); intro gb hg w1 hbox hb; have BK := Aside0.mk hbox; have HB := Aside0.mk hb; have ha0 : w1.cell? ⟨gb, 0, none⟩ = some (.int .i64 x.f0) := (blk_cell hbox 0).trans rfl; have ha1 : w1.cell? ⟨gb, 1, none⟩ = some (.int .i64 x.f1) := (blk_cell hbox 1).trans rfl; have ha2 : w1.cell? ⟨gb, 2, none⟩ = some (.int .i64 x.f2) := (blk_cell hbox 2).trans rfl; have ha3 : w1.cell? ⟨gb, 3, none⟩ = some (.slice A3 x.f3.length c3) := (blk_cell hbox 3).trans rfl; clear hbox hb hg)
  | ((with_reducible refine gate_callee (f := 42) rfl ?_); refine goesL_ (some 18) rfl rfl Tryd.func42 (by kernel_rfl) rfl #[.agg #[.int .i64 x.f0, .int .i64 x.f1, .int .i64 x.f2, .slice A3 x.f3.length c3]] rfl (by (try simp only [List.map_toArray, List.map_cons, List.map_nil]); first | done | rfl) ?_; (with_reducible refine (gen_Count.calls kc x.f0 x.f1 x.f2 A3 c3 x.f3 n0 none _ (Kd.C_below HC.out HB.out) HL.out HN.out).mono ?_); rintro e w2 ⟨he, hb⟩; rw [errW_none] at he; subst he; refine ⟨_, rfl, ?_⟩; have HB2 := Aside0.mk (below_step HB.out hb); clear hb))
 go_ret2
 exact ⟨_, (by rw [errW_some]; rfl), Kd.R_nil _ _ _ _ _, HB2.out⟩
set_option maxHeartbeats 16000000 in
set_option maxRecDepth 100000 in
theorem rank_Nth2.high_ (kc : Nat) (hcount : gen_Count.f kc x.f0 x.f1 x.f2 x.f3 = some (n0, none)) (hi0 : ¬ i0 < 0) (hin : n0 ≤ i0) :
  Calls Tryd.prog 41 #[.agg #[.int .i64 x.f0, .int .i64 x.f1, .int .i64 x.f2, .slice A3 x.f3.length c3], .int .i64 i0] w fun e w' => ∃ v, e = .returned (.tuple #[v, errW (some 1)]) ∧ Kd.R (Kd.int .i64) 3 w' w.heap.size (fun _ => True) v [] ∧ Below w.heap.size w w' := by
 have hu63 := Tryd.underlying63
 have hu30 := Tryd.underlying30
 have hu66 := Tryd.underlying66
 have HC := Aside0.mk hC
 have HL := Aside0.mk hl
 have HN := Aside0.mk hcount
 have i1 : decide (i0 < 0) = false := decide_eq_false (by omega)
 have i2 : decide (n0 ≤ i0) = true := decide_eq_true (by omega)
 have i3 : decide (i0 ≥ n0) = true := decide_eq_true (by omega)
 have i4 : (i0 < 0) = False := eq_false (by omega)
 have i5 : (n0 ≤ i0) = True := eq_true (by omega)
 clear hC hl hcount hi0 hin
 go_enter Tryd.func41, Tryd.ntmps41
 go_wp2_with (first
  | ((with_reducible refine gate_dst (N := 2) rfl ?_); refine box_event ?hg (N := 2) ?hd (cs := #[.int .i64 x.f0, .int .i64 x.f1, .int .i64 x.f2, .slice A3 x.f3.length c3]) (t := 63) ?hr ?_; (case hd => rfl); (case hg => rfl); (case hr => first | (go_simp; done) | (go_simp; rfl)); intro gb hg w1 hbox hb; have BK := Aside0.mk hbox; have HB := Aside0.mk hb; have ha0 : w1.cell? ⟨gb, 0, none⟩ = some (.int .i64 x.f0) := (blk_cell hbox 0).trans rfl; have ha1 : w1.cell? ⟨gb, 1, none⟩ = some (.int .i64 x.f1) := (blk_cell hbox 1).trans rfl; have ha2 : w1.cell? ⟨gb, 2, none⟩ = some (.int .i64 x.f2) := (blk_cell hbox 2).trans rfl; have ha3 : w1.cell? ⟨gb, 3, none⟩ = some (.slice A3 x.f3.length c3) := (blk_cell hbox 3).trans rfl; clear hbox hb hg)
  | ((with_reducible refine gate_callee (f := 42) rfl ?_); refine goesL_ (some 18) rfl rfl Tryd.func42 (by kernel_rfl) rfl #[.agg #[.int .i64 x.f0, .int .i64 x.f1, .int .i64 x.f2, .slice A3 x.f3.length c3]] rfl (by (try simp only [List.map_toArray, List.map_cons, List.map_nil]); first | done | rfl) ?_; (with_reducible refine (gen_Count.calls kc x.f0 x.f1 x.f2 A3 c3 x.f3 n0 none _ (Kd.C_below HC.out HB.out) HL.out HN.out).mono ?_); rintro e w2 ⟨he, hb⟩; rw [errW_none] at he; subst he; refine ⟨_, rfl, ?_⟩; have HB2 := Aside0.mk (below_step HB.out hb); clear hb))
 go_ret2
 exact ⟨_, (by rw [errW_some]; rfl), Kd.R_nil _ _ _ _ _, HB2.out⟩
end
/-- What rank.Nth tells. -/
noncomputable def rank_Nth2 (x : S63) (i : Int) : List Int × Option Int :=
 match Olim (fun k => gen_Count.f k x.f0 x.f1 x.f2 x.f3) with
 | none => ([], none)
 | some (_, some er) => ([], some er)
 | some (n, none) => if i < 0 ∨ n ≤ i then ([], some 1) else (nthGo 887503681 [x] i [], none)
theorem rank_Nth2.calls (x : S63) (A3 : Option Addr) (c3 : Nat) (i0 : Int) (w : World) (hC : Kd.C k63 w A3 x.f3.length x.f3) (hl : x.f3.length ≤ c3) :
  Calls Tryd.prog 41 #[.agg #[.int .i64 x.f0, .int .i64 x.f1, .int .i64 x.f2, .slice A3 x.f3.length c3], .int .i64 i0] w fun e w' => ∃ v, e = .returned (.tuple #[v, errW (rank_Nth2 x i0).2]) ∧ Kd.R (Kd.int .i64) 3 w' w.heap.size (fun _ => True) v (rank_Nth2 x i0).1 ∧ Below w.heap.size w w' := by
 obtain ⟨k, c, e, h, h0, h1, hg⟩ := Count_halts x
 have hO := Olim_of (f := fun k => gen_Count.f k x.f0 x.f1 x.f2 x.f3) (fun k => gen_Count.mono _ _ _ _ k) (k := k) h
 unfold rank_Nth2
 rw [hO]
 cases e with
 | some er => exact rank_Nth2.err_ x A3 c3 i0 c w hC hl k er h
 | none =>
  by_cases hc : i0 < 0 ∨ c ≤ i0
  ·simp only [if_pos hc]
   by_cases hi : i0 < 0
   ·exact rank_Nth2.low_ x A3 c3 i0 c w hC hl k h hi
   ·exact rank_Nth2.high_ x A3 c3 i0 c w hC hl k h hi (by omega)
  ·simp only [if_neg hc]
   exact rank_Nth2.ok_ x A3 c3 i0 c w hC hl k 887503681 (Nat.le_refl _) h ⟨6, hg rfl, by omega, by decide, trivial⟩ (by omega) (by omega) _ rfl
end Go.Proofs.YtgdomnlkafcddaaDoor.Q
namespace Go.Proofs.YtgdomnlkafcddaaDoor.Q
open Go.RowKit Go.Proofs.YtgdomnlkafcddaaDoorW.PrintWords Go.Proofs.YtgdomnlkafcddaaDoorW.PrintLast Go.Proofs.YtgdomnlkafcddaaDoorW.PrintMore
set_option linter.unusedVariables false
set_option linter.unusedSimpArgs false
structure RankFacts (k : Nat) (x : S63) (i : Int) (l : List Int) (a : Int) (t : List Int) (e1 e2 : Option Int) (z : List Int) : Prop where
 len : l.length < 17592186044416
 own : assayerlaw5_ints.f l = some l
 rank : rank_Rank2 x l = e1
 nth : rank_Nth2 x i = (t, e2)
 one : gen_Count.f k 1 0 0 ([] : List S63) = some (1, none)
 same : assayersame_Ints.f k l l = some true
 was : assayerlaw5_ints.f t = some t
 spoil : assayerlaw5_spoil.f k t a = some z
 alike : assayersame_Ints.f k t t = some true
 told1 : assayersame_Told.f e1 e1 = some true
 told2 : assayersame_Told.f e2 e2 = some true
set_option maxHeartbeats 8000000 in
set_option maxRecDepth 100000 in
theorem assayerlaw5_RankOwn.walk (k : Nat) (x : S63) (A3 : Option Addr) (c3 : Nat) (i : Int) (A : Option Addr) (c : Nat) (l : List Int) (a : Int) (t : List Int) (e1 e2 : Option Int) (z : List Int) (w : World)
  (hr3 : Kd.C k63 w A3 x.f3.length x.f3) (hc3 : x.f3.length ≤ c3) (hr : Kd.C (Kd.int .i64) w A l.length l) (hc : l.length ≤ c) (hf : RankFacts k x i l a t e1 e2 z) (hG : GErr w) :
  Calls Tryd.prog 9 #[.agg #[.int .i64 x.f0, .int .i64 x.f1, .int .i64 x.f2, .slice A3 x.f3.length c3], .int .i64 i, .slice A l.length c, .int .i64 a] w fun e w' => e = .returned (.bool true) ∧ Below w.heap.size w w' := by
 have hu63 := Tryd.underlying63
 have hu30 := Tryd.underlying30
 have hu66 := Tryd.underlying66
 have HR3 := Aside0.mk hr3
 have HC3 := Aside0.mk hc3
 have HR := Aside0.mk hr
 have HC := Aside0.mk hc
 have HF := Aside0.mk hf
 have HG := Aside0.mk hG
 have hrank : ∀ (W : World) (B : Option Addr) (d : Nat), Kd.C k63 W A3 x.f3.length x.f3 → Kd.C (Kd.int .i64) W B l.length l → l.length ≤ d → Calls Tryd.prog 40 #[.agg #[.int .i64 x.f0, .int .i64 x.f1, .int .i64 x.f2, .slice A3 x.f3.length c3], .slice B l.length d] W fun e w' => ∃ n : Int, e = .returned (.tuple #[.int .i64 n, errW e1]) ∧ Below W.heap.size W w' := by
  intro W B d h1 h2 h3
  have h := rank_Rank2.calls x A3 c3 B d l W h1 hc3 h2 h3 (by have := hf.len; omega)
  rw [hf.rank] at h
  exact h
 have hnth : ∀ (W : World), Kd.C k63 W A3 x.f3.length x.f3 → Calls Tryd.prog 41 #[.agg #[.int .i64 x.f0, .int .i64 x.f1, .int .i64 x.f2, .slice A3 x.f3.length c3], .int .i64 i] W fun e w' => ∃ v, e = .returned (.tuple #[v, errW e2]) ∧ Kd.R (Kd.int .i64) 3 w' W.heap.size (fun _ => True) v t ∧ Below W.heap.size W w' := by
  intro W h1
  have h := rank_Nth2.calls x A3 c3 i W h1 hc3
  rw [hf.nth] at h
  exact h
 have HRK := Aside0.mk hrank
 have HNT := Aside0.mk hnth
 clear hr3 hc3 hr hc hf hG hrank hnth
 go_enter Tryd.func9, Tryd.ntmps9
 go_wp2_with (first
  | ((with_reducible refine gate_dst (N := 4) rfl ?_); refine box_event ?hg (N := 4) ?hd (cs := #[.int .i64 x.f0, .int .i64 x.f1, .int .i64 x.f2, .slice A3 x.f3.length c3]) (t := 63) ?hr ?_; (case hd => rfl); (case hg => rfl); (case hr => first | (go_simp; done) | (go_simp; rfl)); intro gb hg w1 hbox hb; have BK1 := Aside0.mk hbox; have HB1 := Aside0.mk hb; clear hbox hb hg)
  | ((with_reducible refine gate_dst (N := 26) rfl ?_); refine goesL_ (some 26) rfl rfl Tryd.func28 (by kernel_rfl) rfl #[.slice A l.length c] rfl (by (try simp only [List.map_toArray, List.map_cons, List.map_nil]); first | done | rfl) ?_; (with_reducible refine (assayerlaw5_ints.calls _ c l l _ (Kd.C_below HR.out HB1.out) HC.out HF.out.own).mono ?_); rintro e w2 ⟨v2, rfl, ho, hb⟩; refine ⟨_, rfl, ?_⟩; have BK2 := Aside0.mk (blk_below BK1.out hb); have HB2 := Aside0.mk (below_step HB1.out hb); have HO2 := Aside0.mk ho; obtain ⟨Ao, co, eo⟩ := Kd.R_slice ho; subst eo; have ha0 : w2.cell? ⟨gb, 0, none⟩ = some (.int .i64 x.f0) := (blk_cell BK2.out 0).trans rfl; have ha1 : w2.cell? ⟨gb, 1, none⟩ = some (.int .i64 x.f1) := (blk_cell BK2.out 1).trans rfl; have ha2 : w2.cell? ⟨gb, 2, none⟩ = some (.int .i64 x.f2) := (blk_cell BK2.out 2).trans rfl; have ha3 : w2.cell? ⟨gb, 3, none⟩ = some (.slice A3 x.f3.length c3) := (blk_cell BK2.out 3).trans rfl; clear ho hb BK1 HB1)
  | ((with_reducible refine gate_dst (N := 30) rfl ?_); refine goesL_ (some 30) rfl rfl Tryd.func40 (by kernel_rfl) rfl #[.agg #[.int .i64 x.f0, .int .i64 x.f1, .int .i64 x.f2, .slice A3 x.f3.length c3], .slice Ao l.length co] rfl (by (try simp only [List.map_toArray, List.map_cons, List.map_nil]); first | done | rfl) ?_; (with_reducible refine (HRK.out _ Ao co (Kd.C_below HR3.out HB2.out) (Kd.R_reads' HO2.out).2.2 (Kd.R_reads' HO2.out).2.1).mono ?_); rintro e w3 ⟨n3, rfl, hb⟩; refine ⟨_, rfl, ?_⟩; have BK3 := Aside0.mk (blk_below BK2.out hb); have HB3 := Aside0.mk (below_step HB2.out hb); have HO3 := Aside0.mk (Kd.R_below HO2.out hb); have ha0 : w3.cell? ⟨gb, 0, none⟩ = some (.int .i64 x.f0) := (blk_cell BK3.out 0).trans rfl; have ha1 : w3.cell? ⟨gb, 1, none⟩ = some (.int .i64 x.f1) := (blk_cell BK3.out 1).trans rfl; have ha2 : w3.cell? ⟨gb, 2, none⟩ = some (.int .i64 x.f2) := (blk_cell BK3.out 2).trans rfl; have ha3 : w3.cell? ⟨gb, 3, none⟩ = some (.slice A3 x.f3.length c3) := (blk_cell BK3.out 3).trans rfl; clear hb BK2 HB2 HO2)
  | ((with_reducible refine gate_dst (N := 36) rfl ?_); refine goesL_ (some 36) rfl rfl Tryd.func41 (by kernel_rfl) rfl #[.agg #[.int .i64 x.f0, .int .i64 x.f1, .int .i64 x.f2, .slice A3 x.f3.length c3], .int .i64 i] rfl (by (try simp only [List.map_toArray, List.map_cons, List.map_nil]); first | done | rfl) ?_; (with_reducible refine (HNT.out _ (Kd.C_below HR3.out HB3.out)).mono ?_); rintro e w4 ⟨v4, rfl, ho, hb⟩; refine ⟨_, rfl, ?_⟩; have BK4 := Aside0.mk (blk_below BK3.out hb); have B34 := Aside0.mk hb; have HO4 := Aside0.mk (Kd.R_below HO3.out hb); have HT4 := Aside0.mk ho; obtain ⟨At, ct, et⟩ := Kd.R_slice ho; subst et; have ha0 : w4.cell? ⟨gb, 0, none⟩ = some (.int .i64 x.f0) := (blk_cell BK4.out 0).trans rfl; have ha1 : w4.cell? ⟨gb, 1, none⟩ = some (.int .i64 x.f1) := (blk_cell BK4.out 1).trans rfl; have ha2 : w4.cell? ⟨gb, 2, none⟩ = some (.int .i64 x.f2) := (blk_cell BK4.out 2).trans rfl; have ha3 : w4.cell? ⟨gb, 3, none⟩ = some (.slice A3 x.f3.length c3) := (blk_cell BK4.out 3).trans rfl; clear ho hb)
  | ((with_reducible refine gate_dst (N := 41) rfl ?_); refine goesL_ (some 41) rfl rfl Tryd.func42 (by kernel_rfl) rfl #[.agg #[.int .i64 1, .int .i64 0, .int .i64 0, .slice none 0 0]] rfl (by (try simp only [List.map_toArray, List.map_cons, List.map_nil]); first | done | rfl) ?_; (refine (gen_Count.calls k 1 0 0 none 0 ([] : List S63) 1 none _ (Kd.C_nil _ _) (Nat.le_refl _) HF.out.one).mono ?_); rintro e w5 ⟨he, hb⟩; rw [errW_none] at he; subst he; refine ⟨_, rfl, ?_⟩; have B35 := Aside0.mk (below_step B34.out hb); have HO5 := Aside0.mk (Kd.R_below HO4.out hb); have HT5 := Aside0.mk (Kd.R_below HT4.out hb); clear hb HO4 HT4)
  | ((with_reducible refine gate_dst (N := 46) rfl ?_); refine goesL_ (some 46) rfl rfl Tryd.func30 (by kernel_rfl) rfl #[.slice Ao l.length co, .slice A l.length c] rfl (by (try simp only [List.map_toArray, List.map_cons, List.map_nil]); first | done | rfl) ?_; (with_reducible refine (assayersame_Ints.calls k _ _ l _ _ l true _ (Kd.R_reads' HO5.out).2.2 (Kd.R_reads' HO5.out).2.1 (Kd.C_below HR.out (below_step HB3.out B35.out)) HC.out HF.out.same).mono ?_); rintro e w6 ⟨rfl, hd⟩; refine ⟨_, rfl, ?_⟩; have B36 := Aside0.mk (below_step B35.out hd.below); have HT6 := Aside0.mk (Kd.R_below HT5.out hd.below); clear hd HT5 HO5 B35)
  | ((with_reducible refine gate_dst (N := 48) rfl ?_); refine goesL_ (some 48) rfl rfl Tryd.func28 (by kernel_rfl) rfl #[.slice At t.length ct] rfl (by (try simp only [List.map_toArray, List.map_cons, List.map_nil]); first | done | rfl) ?_; (with_reducible refine (assayerlaw5_ints.calls _ ct t t _ (Kd.R_reads' HT6.out).2.2 (Kd.R_reads' HT6.out).2.1 HF.out.was).mono ?_); rintro e w7 ⟨v7, rfl, ho, hb⟩; refine ⟨_, rfl, ?_⟩; have B37 := Aside0.mk (below_step B36.out hb); have HT7 := Aside0.mk (Kd.R_below HT6.out hb); have HTB := Aside0.mk (Kd.R_lt HT6.out); have HW7 := Aside0.mk (Kd.R_mono (Kd.R_bound ho) (fun k hk => hk.2.1)); obtain ⟨Aw, cw, ew⟩ := Kd.R_slice ho; subst ew; clear ho hb HT6 B36)
  | ((with_reducible refine gate_dst (N := 51) rfl ?_); refine goesL_ (some 51) rfl rfl Tryd.func29 (by kernel_rfl) rfl #[.slice At t.length ct, .int .i64 a] rfl (by (try simp only [List.map_toArray, List.map_cons, List.map_nil]); first | done | rfl) ?_; (with_reducible refine (assayerlaw5_spoil.calls k (fun q => some q = (Value.slice At t.length ct).ownBlock) _ t a z w3 _ B37.out (Kd.R_tight rfl HT7.out) HF.out.spoil).mono ?_); rintro e w8 ⟨rfl, hR', hB', hK'⟩; refine ⟨_, rfl, ?_⟩; have BK8 := Aside0.mk (blk_below BK3.out hB'); have B38 := Aside0.mk hB'; have hg8 : World.grownBy _ w8 (Value.slice At t.length ct).ownBlock := ⟨hB'.os.trans B37.out.os.symm, hB'.tape.trans B37.out.tape.symm, hB'.output.trans B37.out.output.symm, hK'.1, fun k hk hne => hK'.2 k hk hne⟩; have HW8 := Aside0.mk (Kd.R_grown HW7.out hg8 (fun k hk he => absurd (HTB.out k he.symm) (Nat.not_lt.2 hk))); have ha0 : w8.cell? ⟨gb, 0, none⟩ = some (.int .i64 x.f0) := (blk_cell BK8.out 0).trans rfl; have ha1 : w8.cell? ⟨gb, 1, none⟩ = some (.int .i64 x.f1) := (blk_cell BK8.out 1).trans rfl; have ha2 : w8.cell? ⟨gb, 2, none⟩ = some (.int .i64 x.f2) := (blk_cell BK8.out 2).trans rfl; have ha3 : w8.cell? ⟨gb, 3, none⟩ = some (.slice A3 x.f3.length c3) := (blk_cell BK8.out 3).trans rfl; clear hR' hB' hK' hg8 HT7 HW7 B37)
  | ((with_reducible refine gate_dst (N := 55) rfl ?_); refine goesL_ (some 55) rfl rfl Tryd.func41 (by kernel_rfl) rfl #[.agg #[.int .i64 x.f0, .int .i64 x.f1, .int .i64 x.f2, .slice A3 x.f3.length c3], .int .i64 i] rfl (by (try simp only [List.map_toArray, List.map_cons, List.map_nil]); first | done | rfl) ?_; (with_reducible refine (HNT.out _ (Kd.C_below HR3.out (below_step HB3.out B38.out))).mono ?_); rintro e w9 ⟨v9, rfl, ho, hb⟩; refine ⟨_, rfl, ?_⟩; have BK9 := Aside0.mk (blk_below BK8.out hb); have B39 := Aside0.mk (below_step B38.out hb); have HU9 := Aside0.mk ho; have HW9 := Aside0.mk (Kd.R_below HW8.out hb); obtain ⟨Au, cu, eu⟩ := Kd.R_slice ho; subst eu; have ha0 : w9.cell? ⟨gb, 0, none⟩ = some (.int .i64 x.f0) := (blk_cell BK9.out 0).trans rfl; have ha1 : w9.cell? ⟨gb, 1, none⟩ = some (.int .i64 x.f1) := (blk_cell BK9.out 1).trans rfl; have ha2 : w9.cell? ⟨gb, 2, none⟩ = some (.int .i64 x.f2) := (blk_cell BK9.out 2).trans rfl; have ha3 : w9.cell? ⟨gb, 3, none⟩ = some (.slice A3 x.f3.length c3) := (blk_cell BK9.out 3).trans rfl; clear ho hb HW8)
  | ((with_reducible refine gate_dst (N := 60) rfl ?_); refine goesL_ (some 60) rfl rfl Tryd.func30 (by kernel_rfl) rfl #[.slice Au t.length cu, .slice Aw t.length cw] rfl (by (try simp only [List.map_toArray, List.map_cons, List.map_nil]); first | done | rfl) ?_; (with_reducible refine (assayersame_Ints.calls k _ _ t _ _ t true _ (Kd.R_reads' HU9.out).2.2 (Kd.R_reads' HU9.out).2.1 (Kd.R_reads' HW9.out).2.2 (Kd.R_reads' HW9.out).2.1 HF.out.alike).mono ?_); rintro e w10 ⟨rfl, hd⟩; refine ⟨_, rfl, ?_⟩; have BK10 := Aside0.mk (blk_below BK9.out hd.below); have HB10 := Aside0.mk (below_step HB3.out (below_step B39.out hd.below)); have ha0 : w10.cell? ⟨gb, 0, none⟩ = some (.int .i64 x.f0) := (blk_cell BK10.out 0).trans rfl; have ha1 : w10.cell? ⟨gb, 1, none⟩ = some (.int .i64 x.f1) := (blk_cell BK10.out 1).trans rfl; have ha2 : w10.cell? ⟨gb, 2, none⟩ = some (.int .i64 x.f2) := (blk_cell BK10.out 2).trans rfl; have ha3 : w10.cell? ⟨gb, 3, none⟩ = some (.slice A3 x.f3.length c3) := (blk_cell BK10.out 3).trans rfl; clear hd HU9 HW9)
  | ((with_reducible refine gate_dst (N := 63) rfl ?_); refine goesL_ (some 63) rfl rfl Tryd.func32 (by kernel_rfl) rfl #[errW e2, errW e2] rfl (by (try simp only [List.map_toArray, List.map_cons, List.map_nil]); first | done | rfl) ?_; (with_reducible refine (assayersame_Told.calls e2 e2 true _ HF.out.told2 (HG.out.below HB10.out)).mono ?_); rintro e w11 ⟨rfl, hb⟩; refine ⟨_, rfl, ?_⟩; have BK11 := Aside0.mk (blk_below BK10.out hb); have HB11 := Aside0.mk (below_step HB10.out hb); have ha0 : w11.cell? ⟨gb, 0, none⟩ = some (.int .i64 x.f0) := (blk_cell BK11.out 0).trans rfl; have ha1 : w11.cell? ⟨gb, 1, none⟩ = some (.int .i64 x.f1) := (blk_cell BK11.out 1).trans rfl; have ha2 : w11.cell? ⟨gb, 2, none⟩ = some (.int .i64 x.f2) := (blk_cell BK11.out 2).trans rfl; have ha3 : w11.cell? ⟨gb, 3, none⟩ = some (.slice A3 x.f3.length c3) := (blk_cell BK11.out 3).trans rfl; clear hb)
  | ((with_reducible refine gate_dst (N := 67) rfl ?_); refine goesL_ (some 67) rfl rfl Tryd.func40 (by kernel_rfl) rfl #[.agg #[.int .i64 x.f0, .int .i64 x.f1, .int .i64 x.f2, .slice A3 x.f3.length c3], .slice A l.length c] rfl (by (try simp only [List.map_toArray, List.map_cons, List.map_nil]); first | done | rfl) ?_; (with_reducible refine (HRK.out _ A c (Kd.C_below HR3.out HB11.out) (Kd.C_below HR.out HB11.out) HC.out).mono ?_); rintro e w12 ⟨n12, rfl, hb⟩; refine ⟨_, rfl, ?_⟩; have HB12 := Aside0.mk (below_step HB11.out hb); clear hb)
  | ((with_reducible refine gate_dst (N := 72) rfl ?_); refine goesL_ (some 72) rfl rfl Tryd.func32 (by kernel_rfl) rfl #[errW e1, errW e1] rfl (by (try simp only [List.map_toArray, List.map_cons, List.map_nil]); first | done | rfl) ?_; (with_reducible refine (assayersame_Told.calls e1 e1 true _ HF.out.told1 (HG.out.below HB12.out)).mono ?_); rintro e w13 ⟨rfl, hb⟩; refine ⟨_, rfl, ?_⟩; have HB13 := Aside0.mk (below_step HB12.out hb); clear hb))
 go_ret
 exact ⟨rfl, HB13.out⟩
theorem assayerlaw5_RankOwn.calls (k : Nat) (a0 a1 a2 : Int) (A3 : Option Addr) (c3 : Nat) (l3 : List S63) (i : Int) (A : Option Addr) (c : Nat) (l : List Int) (a : Int) (r : Bool) (w : World)
  (hr3 : Kd.C k63 w A3 l3.length l3) (hc3 : l3.length ≤ c3) (hr : Kd.C (Kd.int .i64) w A l.length l) (hc : l.length ≤ c) (hf : r = true ∧ ∃ t e1 e2 z, RankFacts k ⟨a0, a1, a2, l3⟩ i l a t e1 e2 z) (hG : GErr w) :
  Calls Tryd.prog 9 #[.agg #[.int .i64 a0, .int .i64 a1, .int .i64 a2, .slice A3 l3.length c3], .int .i64 i, .slice A l.length c, .int .i64 a] w fun e w' => e = .returned (.bool r) ∧ Below w.heap.size w w' := by
 obtain ⟨rfl, t, e1, e2, z, hf⟩ := hf
 exact assayerlaw5_RankOwn.walk k ⟨a0, a1, a2, l3⟩ A3 c3 i A c l a t e1 e2 z w hr3 hc3 hr hc hf hG
end Go.Proofs.YtgdomnlkafcddaaDoor.Q
namespace Go.Proofs.YtgdomnlkafcddaaDoor.Q
open Go.RowKit Go.Proofs.YtgdomnlkafcddaaDoorW.PrintWords Go.Proofs.YtgdomnlkafcddaaDoorW.PrintLast Go.Proofs.YtgdomnlkafcddaaDoorW.PrintMore
set_option linter.unusedVariables false
set_option linter.unusedSimpArgs false
theorem nthGo_length : ∀ (f : Nat) (todo : List S63) (i : Int) (out : List Int), (nthGo f todo i out).length ≤ out.length + f
 | 0, _, _, _ => by rw [nthGo]; omega
 | f + 1, [], _, _ => by rw [nthGo]; omega
 | f + 1, x :: rest, i, out => by
  by_cases h : x.f0 = 3
  ·rw [nthGo_both h]
   have := nthGo_length f (x.f3 ++ rest) i out
   omega
  ·rcases hp : pick (prod rest) (rank_branches2 x) 0 i with ⟨i', _ | ⟨j, b⟩⟩
   ·rw [nthGo_none h hp]
    have := nthGo_length f rest i' out
    omega
   ·rw [nthGo_some h hp]
    have := nthGo_length f (b ++ rest) i' (out ++ [(j : Int)])
    rw [List.length_append, List.length_singleton] at this
    omega
theorem rank_Nth2_length (x : S63) (i : Int) : (rank_Nth2 x i).1.length ≤ 887503681 := by
 unfold rank_Nth2
 split
 ·simp
 ·simp
 ·split
  ·simp
  ·have := nthGo_length 887503681 [x] i []
   rw [List.length_nil, Nat.zero_add] at this
   exact this
theorem RankOwn_true (x : S63) (i : Int) (l : List Int) (a : Int) (hl : l.length < 17592186044416) : ∃ k, true = true ∧ ∃ t e1 e2 z, RankFacts k ⟨x.f0, x.f1, x.f2, x.f3⟩ i l a t e1 e2 z := by
 obtain ⟨t, e2⟩ : ∃ te, te = rank_Nth2 x i := ⟨_, rfl⟩
 rcases hn : rank_Nth2 x i with ⟨t, e2⟩
 have ht : t.length ≤ 887503681 := by have := rank_Nth2_length x i; rw [hn] at this; exact this
 obtain ⟨z, _, hz⟩ := own_spoil (l := t) (by omega) a
 have h6 : gen_Count.f 6 1 0 0 ([] : List S63) = some (1, none) := by kernel_rfl
 exact ⟨l.length + t.length + 8, rfl, t, _, e2, z, hl, own_ints hl, rfl, hn, LeO.le (f := fun k => gen_Count.f k 1 0 0 ([] : List S63)) (fun k => gen_Count.mono _ _ _ _ k) (by omega) h6, own_same hl (by omega), own_ints (by omega), hz _ (by omega), own_same (by omega) (by omega), own_told _, own_told e2⟩
end Go.Proofs.YtgdomnlkafcddaaDoor.Q
