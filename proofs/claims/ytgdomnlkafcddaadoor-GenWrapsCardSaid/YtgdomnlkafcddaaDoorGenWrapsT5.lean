/- Part 5 of the proof for GenWraps: contracts of functions, step by step over the code; GenWraps's plain law: what the walk computes is true, whatever the generator and the numbers.. -/
import Derived.Test.YtgdomnlkafcddaaDoorGenWrapsT3
import Derived.Test.YtgdomnlkafcddaaDoorGenWrapsT4
namespace Go.Proofs.YtgdomnlkafcddaaDoor.Q
open Go.RowKit Go.Proofs.YtgdomnlkafcddaaDoorW.PrintWords Go.Proofs.YtgdomnlkafcddaaDoorW.PrintLast Go.Proofs.YtgdomnlkafcddaaDoorW.PrintMore
set_option linter.unusedVariables false
set_option linter.unusedSimpArgs false
theorem just_ok {k : Nat} (hk : 5 ≤ k) : assayerlaw6_just.f k = some true := by
  unfold assayerlaw6_just.f
  rw [show gen_Count.f k 1 0 0 ([] : List (S63)) = some (1, none) from LeO.le (f := fun k => gen_Count.f k 1 0 0 ([] : List (S63))) (fun k => gen_Count.mono _ _ _ _ k) hk (by rfl)]
  simp
theorem GenWraps_true (x : S63) (l : List Int) : ∃ k, assayerlaw6_GenWraps.f k x.f0 x.f1 x.f2 x.f3 l = some true := by
  rcases wraps_law x l with ⟨c, hM⟩ | ⟨m, v, hM, hv, hm, hR, hw⟩
  · refine ⟨6, ?_⟩
    unfold assayerlaw6_GenWraps.f
    rw [just_ok (by omega)]
    simp only [Option.bind_some]
    rw [hM]
    simp [assayerlaw6_GenWraps.j0]
  · have hC : Cn 6 = 25137931 := by decide
    obtain ⟨kt, t, ht, hts⟩ := text_ok 6 (by decide) (val27 v) hv
    have hT6 : Tn 6 ≤ 1000000000000 := by decide
    have ht' : val_Text.f kt v.1 v.2.1 v.2.2 = some t := ht
    have hT : ∀ k, kt ≤ k → val_Text.f k v.1 v.2.1 v.2.2 = some t := fun k hk => val_Text.fle hk ht'
    have hW := text_wrap ht' (by omega)
    have h1 : ((⟨#[40]⟩ : ByteArray) ++ t).size = 1 + t.size := by rw [ByteArray.size_append]; rfl
    have hx : (⟨x.f0, x.f1, x.f2, x.f3⟩ : S63) = x := by cases x; rfl
    refine ⟨kt + 3 + 5, ?_⟩
    unfold assayerlaw6_GenWraps.f
    rw [just_ok (by omega)]
    simp only [Option.bind_some]
    rw [hM]
    simp only [Option.bind_some, if_true, Option.isNone_none]
    unfold assayerlaw6_GenWraps.j0
    simp only [Bool.false_eq_true, if_false, hx]
    rw [hR]
    simp only [Option.bind_some]
    rw [if_pos (by simp; omega)]
    simp only [List.singleton_append]
    rcases hw with ⟨h5, h3⟩ | ⟨h5, h3⟩
    · rw [h5]
      simp only [Option.bind_some]
      rw [h3]
      simp only [Option.bind_some, Option.isNone_none, if_true]
      rw [hT _ (by omega)]
      simp only [Option.bind_some]
      unfold assayerlaw6_GenWraps.j1
      simp only [show (t.toList != t.toList) = false by simp, Bool.false_eq_true, if_false, Option.isNone_none, if_true]
      rw [val_Text.fle (by omega : kt + 3 ≤ kt + 3 + 3) hW]
      simp only [Option.bind_some]
      rw [hT _ (by omega)]
      simp only [Option.bind_some]
      rw [if_pos (by omega), if_pos (by rw [h1]; omega)]
      simp [assayerlaw6_GenWraps.j2, assayersame_Error.f, assayersame_Told.f, plain_Told.f]
    · rw [h5]
      simp only [Option.bind_some]
      rw [h3]
      simp [assayerlaw6_GenWraps.j1, assayerlaw6_GenWraps.j2, assayersame_Error.f, assayersame_Told.f, plain_Told.f]
end Go.Proofs.YtgdomnlkafcddaaDoor.Q
