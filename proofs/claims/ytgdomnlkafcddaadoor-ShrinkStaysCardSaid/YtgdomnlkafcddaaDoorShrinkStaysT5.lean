/- ShrinkStays: from the least tape nothing is less; where nothing fails there is none; where all fail the walk ends at the least. -/
import Derived.Test.YtgdomnlkafcddaaDoorRows
import Derived.Test.YtgdomnlkafcddaaDoorCards
import Derived.Test.YtgdomnlkafcddaaDoorTie
import Derived.Test.YtgdomnlkafcddaaDoorShrinkStaysT1
import Derived.Test.YtgdomnlkafcddaaDoorShrinkStaysT4
import Derived.WalkKit
import Derived.ProofKit
import Derived.OpenShut
import Derived.ChangeOld
import Derived.Below
import Derived.SizedLaws
import Derived.Test.YtgdomnlkafcddaaDoorWSized
import Derived.Deep.DeepHandedRow
import Derived.Lib.LaidTab
import Derived.SevenTiedAt
import Derived.Lay
namespace Go.Proofs.YtgdomnlkafcddaaDoor.shrinkStays
open Go.ChangeShapes Go.WideShapes Go.ChangeAt Go.RowKit
open Go.Proofs.YtgdomnlkafcddaaDoor.Q Go.Proofs.YtgdomnlkafcddaaDoorW.PrintWords Go.Proofs.YtgdomnlkafcddaaDoor.La
set_option linter.unusedVariables false
theorem err {W : World} (h : laidMetH Tryd.prog Rows.shrinkStaysRow.laid W) : GErr W := by
 have h0 : laidMet Tryd.prog [("assayer/expr.takes", Rows.laid_assayer_expr_takes)] W ∧ handlesMet Tryd.prog [("errors.errorType", Rows.laid_errors_errorType)] W := h
 exact errOf h0.2
theorem tak {W : World} (h : laidMetH Tryd.prog Rows.shrinkStaysRow.laid W) : GTak W := by
 have h0 : laidMet Tryd.prog [("assayer/expr.takes", Rows.laid_assayer_expr_takes)] W ∧ handlesMet Tryd.prog [("errors.errorType", Rows.laid_errors_errorType)] W := h
 have h1 := h0.1
 obtain ⟨ps, hv, _⟩ := h1
 exact takOf hv
set_option maxRecDepth 100000 in
theorem contract (H : Type) (enc : TypeId × Value → H) (W : World) (base : Nat) (args : Array Value) (ds gs : List (DataW H)) (before : List MemPlace)
  (hval0 : ∀ (j : Nat) t v, Tryd.f13.params[j]? = some t → args[j]? = some v → Value.okWide Tryd.prog W .any base t v)
  (hW : DataW.Whole enc Tryd.prog Tryd.f13.params.toList Rows.shrinkStaysSpec.vars false W args.toList ds gs before)
  (hsz0 : (DataW.weightsEach Tryd.prog (Tryd.f13.params.toList ++ Rows.shrinkStaysSpec.plain.varTypes Tryd.prog) (ds ++ gs)).all (· ≤ reachBytes) = true)
  (hL : laidMetH Tryd.prog Rows.shrinkStaysRow.laid W) :
  Calls Tryd.prog 13 args W fun e W' => ∃ v, e = .returned v ∧ Rows.shrinkStaysSpec.post enc Tryd.prog Tryd.f13 false true false false W args v W' := by
 have hsz : (DataW.weightsEach Tryd.prog (Tryd.f13.params.toList ++ Rows.shrinkStaysSpec.plain.varTypes Tryd.prog) (ds ++ gs)).all (· ≤ reachBytes) = true := hsz0
 have hval : ∀ (j : Nat) t v, Tryd.f13.params[j]? = some t → args[j]? = some v → Value.okWide Tryd.prog W .any base t v := hval0
 have hW' := hW
 obtain ⟨p, q, hA0, hV, rfl, hfz, hnd⟩ := hW
 have hA : DataW.TrodAll enc Tryd.prog W 0 (fun _ => true) true Tryd.f13.params.toList args.toList ds p := hA0
 rw [Tryd.params13] at hA hval hsz
 obtain ⟨v0, vs0, d0, ds0, p0, q0, hargs, rfl, rfl, h0, r0⟩ := trodAll_cons hA
 obtain ⟨v1, vs1, d1, ds1, p1, q1, rfl, rfl, rfl, h1, r1⟩ := trodAll_cons r0
 obtain ⟨rfl, rfl, rfl⟩ := trodAll_nil r1
 obtain rfl : args = #[v0, v1] := by cases args; simp_all
 obtain ⟨rfl, rfl⟩ := trodVars_none hV
 have k0 := h0
 have lt0 : ∀ x ∈ p0, x.block < W.heap.size := by obtain ⟨m, hm⟩ := k0; exact DataW.trod_lt m _ _ _ hm
 obtain ⟨g0, hg0⟩ : ∃ g : S63, k63.K W g v0.cells.toList := by
  obtain ⟨fuel, hf⟩ := h0
  exact trod63 fuel _ _ hf
 obtain ⟨A0, c0, hc0, hl0, hC0⟩ := k63_open hg0
 have hv0 : v0 = .agg #[.int .i64 g0.f0, .int .i64 g0.f1, .int .i64 g0.f2, .slice A0 g0.f3.length c0] := by
  obtain ⟨cs0, rfl, _⟩ := okWide_struct Tryd.underlying63 (hval 0 63 v0 rfl rfl)
  have hc0' : cs0.toList = [.int .i64 g0.f0, .int .i64 g0.f1, .int .i64 g0.f2, .slice A0 g0.f3.length c0] := hc0
  rw [← Array.toArray_toList (xs := cs0), hc0']
 obtain ⟨a1, len1, cap1, rfl⟩ := okWide_slice Tryd.underlying36 (hval 1 36 v1 rfl rfl)
 have k1 := h1
 have lt1 : ∀ x ∈ p1, x.block < W.heap.size := by obtain ⟨m, hm⟩ := k1; exact DataW.trod_lt m _ _ _ hm
 have y1 : len1 * 8 ≤ 140737488351232 := sized_ints hsz (j := 1) (t := 36) rfl rfl Tryd.underlying36 Tryd.underlying3 (by kernel_rfl) (by kernel_rfl) h1
 obtain ⟨l1, hl1, hlc1, hC1⟩ : ∃ l : List Int, l.length = len1 ∧ len1 ≤ cap1 ∧ Kd.C (Kd.int .i64) W a1 len1 l := by
  obtain ⟨fuel, hf⟩ := h1
  rcases open_ints Tryd.underlying36 Tryd.underlying3 (by kernel_rfl) hf with ⟨hcs, _⟩ | ⟨x, l, c, zs, hcs, _, hl, hm, hz, _, hcell, hwz⟩
  ·simp [Value.cells] at hcs
   obtain ⟨rfl, rfl, rfl⟩ := hcs
   exact ⟨[], rfl, Nat.le_refl _, Kd.C_of_reads (d := (0 : Int)) ⟨rfl, by omega, fun h => by omega⟩⟩
  ·simp [Value.cells] at hcs
   obtain ⟨rfl, rfl, rfl⟩ := hcs
   have hz' : zs.length = cap1 := by simpa using hz
   refine ⟨zs.take len1, by rw [List.length_take]; omega, hl, Kd.C_of_reads (d := (0 : Int)) ⟨by rw [List.length_take]; omega, by omega, fun _ => ⟨x, rfl, fun j hj => ?_⟩⟩⟩
   have := hcell j (by omega)
   rw [this]
   simp [List.getD_eq_getElem?_getD, hj]
 subst hv0
 subst hl1
 obtain ⟨k, hk⟩ := ShrinkStays_pure g0 l1 
 clear hA0 hval0 hsz0 hsz
 refine (assayerlaw6_ShrinkStays2.calls k g0.f0 g0.f1 g0.f2 A0 c0 g0.f3 a1 cap1 l1 true W hC0 hl0 hC1 hlc1 hk (err hL) (tak hL)).mono fun e W' ⟨he, bel⟩ => ?_
 subst he
 exact ⟨_, rfl, _, _, _, [], _, [], hW', trodAll_mk1 (shut_bool Tryd.underlying4 _), (trodAll_cons_mk (Below.trod laidOut (by kernel_rfl) (of_decide_eq_true (by kernel_rfl)) k0 bel lt0) (trodAll_cons_mk (Below.trod laidOut (by kernel_rfl) (of_decide_eq_true (by kernel_rfl)) k1 bel lt1) trodAll_mk0)), rfl, bel.frame _, fun h => by cases h⟩
/-- A world for the witness: the settled one, the listed variables laid. -/
noncomputable def laidWorld (os : Os) : World :=
 let w0 := World.laidAll Tryd.prog os [("assayer/expr.takes", Rows.laid_assayer_expr_takes)]
 { w0 with heap := w0.heap.modify 3 fun
   | .cells _ t frozen => .cells #[.iface 212 (.agg #[.pointer (some ⟨10, 30, none⟩)])] t frozen
   | o => o }
noncomputable abbrev arg0 : Array Value := #[.agg #[.int .i64 0, .int .i64 0, .int .i64 0, .slice none 0 0], .slice none 0 0]
theorem laid_met (os : Os) : laidMetH Tryd.prog Rows.shrinkStaysRow.laid ((laidWorld os).forCall (fun _ _ => 0) ⟨#[], arg0, []⟩).memory :=
 laidMetH_of_parts (laidMet_of_run' 8 (by kernel_rfl) (by kernel_rfl)) (by kernel_rfl)
theorem reads (os : Os) {H : Type} (enc : TypeId × Value → H) : ∃ places, DataW.whole enc Tryd.prog ((laidWorld os).forCall (fun _ _ => 0) ⟨#[], arg0, []⟩).memory Tryd.f13.params.toList Rows.shrinkStaysSpec.vars false arg0.toList 8 = some ([.agg [.lit (.int .i64 0), .lit (.int .i64 0), .lit (.int .i64 0), .nil], .nil], [], places) :=
 ⟨[], by kernel_rfl⟩
set_option maxRecDepth 100000 in
theorem lifted (os : Os) (started : os.Started) (H : Type) (enc : TypeId × Value → H) (F : Stop.Interp) :
  ReturnsInHanded {} Tryd.checked os 13 .any ((OpenSpec.ofChange Rows.shrinkStaysSpec).preRow enc Tryd.prog Tryd.f13 Rows.shrinkStaysRow.domain false Rows.shrinkStaysRow.laid) (((OpenSpec.ofChange Rows.shrinkStaysSpec).at F).post enc Tryd.prog Tryd.f13 false true false false) := by
 obtain ⟨places, hx⟩ := reads os enc
 refine returnsInHanded_of_row (C := Tryd.checked) (s := OpenSpec.ofChange Rows.shrinkStaysSpec) own started (by kernel_rfl) Tryd.func13
  (witness_row_at (enc := enc) (C := Tryd.checked) false (laidWorld os) arg0 rfl (by kernel_rfl) (by kernel_rfl) (by kernel_rfl)
   (OpenSpec.preRow_of_cond 8 hx (by kernel_rfl) (fun k hk => by cases hk) (by kernel_rfl) (laid_met os))) ?_
 intro W base args ds gs before hval hW _ _ hsz hL _ _
 exact contract H enc W base args ds gs before hval hW hsz hL
theorem said : Rows.ShrinkStaysSaid :=
 OpenClaim.holds_of_cond 13 Tryd.f13 rfl rfl rfl rfl rfl rfl rfl ⟨rfl, rfl, rfl, rfl, rfl⟩ rfl rfl rfl rfl rfl (by kernel_rfl) Tryd.func13 (by kernel_rfl)
  (of_decide_eq_true (by kernel_rfl)) (by unfold Func.isWrapper; first | (rw [if_pos (by decide +kernel)]; kernel_rfl) | (rw [if_neg (by decide +kernel)]; exact ⟨rfl, rfl⟩))
  (fun os started H enc _ F => by rw [OpenClaim.pre_eq_preRow]; exact lifted os started H enc F)
theorem plain (f : FuncId) (fn : Func) (hf : Tryd.pinned.checked.prog.funcNamed "assayer/assayerlaw6.ShrinkStays" = some f) (hfn : Tryd.pinned.checked.prog.funcs[f]? = some fn) :
  true = Tryd.pinned.checked.prog.looks [] ∧ ∀ (j : Nat) t, fn.params[j]? = some t → Tryd.pinned.checked.prog.wantsStandIn t = false := by
 obtain rfl : f = 13 := Option.some.inj ((show Tryd.prog.funcNamed "assayer/assayerlaw6.ShrinkStays" = some 13 by kernel_rfl).symm.trans hf) |>.symm
 obtain rfl : fn = Tryd.f13 := (Option.some.inj (Tryd.func13.symm.trans hfn)).symm
 refine ⟨by kernel_rfl, fun j t ht => ?_⟩
 rw [Tryd.params13] at ht
 have hall : ∀ x ∈ (#[63, 36] : Array TypeId).toList, Tryd.prog.wantsStandIn x = false := by
  intro x hx
  simp at hx
  rcases hx with rfl | rfl
  ·exact (show Tryd.prog.wantsStandIn 63 = false by kernel_rfl)
  ·exact (show Tryd.prog.wantsStandIn 36 = false by kernel_rfl)
 exact hall t (Array.mem_toList_iff.2 (Array.mem_of_getElem? ht))
theorem card : Rows.ShrinkStaysCardSaid :=
 Claim7.holds_tied_plain_at .later [] _ _ _ _ said (fun _ h => by cases h) (by kernel_rfl) (fun _ h => by cases h) shrinkStays_row_tie rfl ⟨rfl, rfl⟩ (by kernel_rfl) rfl plain (by kernel_rfl)
#print axioms card
end Go.Proofs.YtgdomnlkafcddaaDoor.shrinkStays
namespace Go.Proofs.YtgdomnlkafcddaaDoor
/-- The card, under a short name, for the claim. -/
theorem shrinkStays_holds : Rows.ShrinkStaysCardSaid := shrinkStays.card
end Go.Proofs.YtgdomnlkafcddaaDoor
