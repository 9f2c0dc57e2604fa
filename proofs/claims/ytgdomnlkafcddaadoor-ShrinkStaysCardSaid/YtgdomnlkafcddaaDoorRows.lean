/-
  NARROWER THAN 'FOR EVERY INPUT', by the rows' own cells (each row's printed sentence says how): MutateKills: loops, laid · MutateAlive: loops, laid · TopCovers: laid · GramOwn: laid · RoseOwn: loops, laid · MutateTells: loops, laid · RankOwn: loops, laid · GenOwn: loops, laid · ShrinkOwn: loops, laid · GenWraps: loops, laid · ShrinkStays: loops, laid · SuiteOwn: laid · ValBrackets: loops, laid · ValOwn: laid.
  DERIVED. THE GIVEN ROWS OF THIS SEAT. 14 by the template 'for every input the law returns true; each argument reads behind the call as it read before'; 0 by the template 'total and deterministic' (their statements: YtgdomnlkafcddaaDoorTotals.lean).
  GIVEN WITH THE SEED: the statements are not yours to turn. If you find one false, say at which input.
  Laid BY PROGRAM, IN A SANDBOX (cutbox-rows.mjs): the forced cells as the released guide's own fill.sh prints them over the translation d2a178d0676d22b4… (all of the seat's roots in one cut). By AI agents, Wed Nov 11 2026. No macro, syntax, notation, axiom, sorry.
-/
import Derived.Test.YtgdomnlkafcddaaDoorChecked
import GoSem.Claim
import GoSem.ClaimJoined
import GoSem.ClaimMapViews
import Derived.JoinedTies
import Derived.KernelRfl
namespace Go.Proofs.YtgdomnlkafcddaaDoor
/- THE CELL 'sum', in the pinned program and in every row, IS THE sha256 OF THE DUMP (.gsa) THAT YtgdomnlkafcddaaDoorProg.lean LOADS. Nothing in Lean hashes anything: it is a label: what it is worth is what the hold of that sum in a sandbox is worth. -/
noncomputable def Tryd.pinned : Pinned := { name := "ytgdomnlkafcddaadoor", sum := "d2a178d0676d22b4ae63a61fb9861c17557a902c459bef6594d7d6004204e9b2", checked := Tryd.checked }
namespace Rows
def none {H : Type} : Left H := { results := [], args := [] }

/- WHAT THE LISTED PACKAGE-LEVEL VARIABLES READ AS WHEN THE CALL BEGINS. Each datum BY PROGRAM (the guide's laid-datum.mjs) off the statement by which the dump's own 'gosem.cut.vars' lays the variable. In a bare row this is a premise. The card (YtgdomnlkafcddaaDoorCards.lean) ties it to the program's text. -/
def laid_assayer_expr_takes {H : Type} : DataW H := .agg [.lit (.int .i64 (-1)), .lit (.int .i64 0), .lit (.int .i64 0), .lit (.int .i64 0), .lit (.int .i64 0), .lit (.int .i64 2), .lit (.int .i64 2), .lit (.int .i64 2), .lit (.int .i64 2), .lit (.int .i64 1), .lit (.int .i64 2), .lit (.int .i64 2)]
def laid_assayer_mutate_asks {H : Type} : DataW H := .slice [.lit (.int .i64 2), .lit (.int .i64 3), .lit (.int .i64 4)] []
def laid_assayer_mutate_ops {H : Type} : DataW H := .slice [.lit (.int .i64 5), .lit (.int .i64 6), .lit (.int .i64 7), .lit (.int .i64 8), .lit (.int .i64 10), .lit (.int .i64 11)] []
def laid_math_bits_deBruijn32tab {H : Type} : DataW H := .agg [.lit (.int .u8 0), .lit (.int .u8 1), .lit (.int .u8 28), .lit (.int .u8 2), .lit (.int .u8 29), .lit (.int .u8 14), .lit (.int .u8 24), .lit (.int .u8 3), .lit (.int .u8 30), .lit (.int .u8 22), .lit (.int .u8 20), .lit (.int .u8 15), .lit (.int .u8 25), .lit (.int .u8 17), .lit (.int .u8 4), .lit (.int .u8 8), .lit (.int .u8 31), .lit (.int .u8 27), .lit (.int .u8 13), .lit (.int .u8 23), .lit (.int .u8 21), .lit (.int .u8 19), .lit (.int .u8 16), .lit (.int .u8 7), .lit (.int .u8 26), .lit (.int .u8 12), .lit (.int .u8 18), .lit (.int .u8 6), .lit (.int .u8 11), .lit (.int .u8 5), .lit (.int .u8 10), .lit (.int .u8 9)]
def laid_math_bits_deBruijn64tab {H : Type} : DataW H := .agg [.lit (.int .u8 0), .lit (.int .u8 1), .lit (.int .u8 56), .lit (.int .u8 2), .lit (.int .u8 57), .lit (.int .u8 49), .lit (.int .u8 28), .lit (.int .u8 3), .lit (.int .u8 61), .lit (.int .u8 58), .lit (.int .u8 42), .lit (.int .u8 50), .lit (.int .u8 38), .lit (.int .u8 29), .lit (.int .u8 17), .lit (.int .u8 4), .lit (.int .u8 62), .lit (.int .u8 47), .lit (.int .u8 59), .lit (.int .u8 36), .lit (.int .u8 45), .lit (.int .u8 43), .lit (.int .u8 51), .lit (.int .u8 22), .lit (.int .u8 53), .lit (.int .u8 39), .lit (.int .u8 33), .lit (.int .u8 30), .lit (.int .u8 24), .lit (.int .u8 18), .lit (.int .u8 12), .lit (.int .u8 5), .lit (.int .u8 63), .lit (.int .u8 55), .lit (.int .u8 48), .lit (.int .u8 27), .lit (.int .u8 60), .lit (.int .u8 41), .lit (.int .u8 37), .lit (.int .u8 16), .lit (.int .u8 46), .lit (.int .u8 35), .lit (.int .u8 44), .lit (.int .u8 21), .lit (.int .u8 52), .lit (.int .u8 32), .lit (.int .u8 23), .lit (.int .u8 11), .lit (.int .u8 54), .lit (.int .u8 26), .lit (.int .u8 40), .lit (.int .u8 15), .lit (.int .u8 34), .lit (.int .u8 20), .lit (.int .u8 31), .lit (.int .u8 10), .lit (.int .u8 25), .lit (.int .u8 14), .lit (.int .u8 19), .lit (.int .u8 9), .lit (.int .u8 13), .lit (.int .u8 8), .lit (.int .u8 7), .lit (.int .u8 6)]
def laid_errors_errorType {H : Type} : DataW H := .iface "internal/reflectlite.rtype" (.agg [.ptr (.lit (.string [101, 114, 114, 111, 114]))])
def laid_internal_strconv_uint64pow10 {H : Type} : DataW H := .agg [.lit (.int .u64 1), .lit (.int .u64 10), .lit (.int .u64 100), .lit (.int .u64 1000), .lit (.int .u64 10000), .lit (.int .u64 100000), .lit (.int .u64 1000000), .lit (.int .u64 10000000), .lit (.int .u64 100000000), .lit (.int .u64 1000000000), .lit (.int .u64 10000000000), .lit (.int .u64 100000000000), .lit (.int .u64 1000000000000), .lit (.int .u64 10000000000000), .lit (.int .u64 100000000000000), .lit (.int .u64 1000000000000000), .lit (.int .u64 10000000000000000), .lit (.int .u64 100000000000000000), .lit (.int .u64 1000000000000000000), .lit (.int .u64 10000000000000000000)]
def laid_strconv_ErrRange {H : Type} : DataW H := .iface "*errors.errorString" (.ptr (.agg [.lit (.string [118, 97, 108, 117, 101, 32, 111, 117, 116, 32, 111, 102, 32, 114, 97, 110, 103, 101])]))
def laid_strconv_ErrSyntax {H : Type} : DataW H := .iface "*errors.errorString" (.ptr (.agg [.lit (.string [105, 110, 118, 97, 108, 105, 100, 32, 115, 121, 110, 116, 97, 120])]))

/-- 'assayerlaw3.MutateKills': WHATEVER THE INPUT: true; the input reads as it did. -/
def mutateKillsSpec : ChangeSpec := { name := "mutateKills", fn := fun _ => fun
  | [d1, d2, d3, d4] => { results := [.lit (.bool true)], args := [d1, d2, d3, d4] }
  | _ => none }
def mutateKillsRow : OpenClaim := { program := "ytgdomnlkafcddaadoor", sum := "d2a178d0676d22b4ae63a61fb9861c17557a902c459bef6594d7d6004204e9b2", func := "assayer/assayerlaw3.MutateKills", spec := "mutateKills", unfollowed := true, recurses := true, named := ["assayer/expr.takes", "assayer/mutate.ops", "assayer/mutate.asks"], loops := true, apart := false, laid := [("assayer/expr.takes", laid_assayer_expr_takes), ("assayer/mutate.asks", laid_assayer_mutate_asks), ("assayer/mutate.ops", laid_assayer_mutate_ops)] }
def MutateKillsSaid : Prop := mutateKillsRow.holds Tryd.pinned (OpenSpec.ofChange mutateKillsSpec)

/-- ITS FALSE NEIGHBOUR: 'it returns false'. Refute it at one input. -/
def mutateKillsWrong : ChangeSpec := { name := "mutateKills", fn := fun _ => fun
  | [d1, d2, d3, d4] => { results := [.lit (.bool false)], args := [d1, d2, d3, d4] }
  | _ => none }
def MutateKillsWrongFalsely : Prop := mutateKillsRow.holds Tryd.pinned (OpenSpec.ofChange mutateKillsWrong)

/-- 'assayerlaw3.MutateAlive': WHATEVER THE INPUT: true; the input reads as it did. -/
def mutateAliveSpec : ChangeSpec := { name := "mutateAlive", fn := fun _ => fun
  | [d1, d2, d3] => { results := [.lit (.bool true)], args := [d1, d2, d3] }
  | _ => none }
def mutateAliveRow : OpenClaim := { program := "ytgdomnlkafcddaadoor", sum := "d2a178d0676d22b4ae63a61fb9861c17557a902c459bef6594d7d6004204e9b2", func := "assayer/assayerlaw3.MutateAlive", spec := "mutateAlive", unfollowed := true, recurses := true, named := ["assayer/expr.takes", "assayer/mutate.ops", "assayer/mutate.asks"], loops := true, apart := false, laid := [("assayer/expr.takes", laid_assayer_expr_takes), ("assayer/mutate.asks", laid_assayer_mutate_asks), ("assayer/mutate.ops", laid_assayer_mutate_ops)] }
def MutateAliveSaid : Prop := mutateAliveRow.holds Tryd.pinned (OpenSpec.ofChange mutateAliveSpec)

/-- ITS FALSE NEIGHBOUR: 'it returns false'. Refute it at one input. -/
def mutateAliveWrong : ChangeSpec := { name := "mutateAlive", fn := fun _ => fun
  | [d1, d2, d3] => { results := [.lit (.bool false)], args := [d1, d2, d3] }
  | _ => none }
def MutateAliveWrongFalsely : Prop := mutateAliveRow.holds Tryd.pinned (OpenSpec.ofChange mutateAliveWrong)

/-- 'assayertop.TopCovers': WHATEVER THE INPUT: true; the input reads as it did. -/
def topCoversSpec : ChangeSpec := { name := "topCovers", fn := fun _ => fun
  | [d1, d2] => { results := [.lit (.bool true)], args := [d1, d2] }
  | _ => none }
def topCoversRow : OpenClaim := { program := "ytgdomnlkafcddaadoor", sum := "d2a178d0676d22b4ae63a61fb9861c17557a902c459bef6594d7d6004204e9b2", func := "assayer/assayertop.TopCovers", spec := "topCovers", unfollowed := true, recurses := true, named := ["math/bits.deBruijn32tab", "math/bits.deBruijn64tab"], apart := false, laid := [("math/bits.deBruijn32tab", laid_math_bits_deBruijn32tab), ("math/bits.deBruijn64tab", laid_math_bits_deBruijn64tab)] }
def TopCoversSaid : Prop := topCoversRow.holds Tryd.pinned (OpenSpec.ofChange topCoversSpec)

/-- ITS FALSE NEIGHBOUR: 'it returns false'. Refute it at one input. -/
def topCoversWrong : ChangeSpec := { name := "topCovers", fn := fun _ => fun
  | [d1, d2] => { results := [.lit (.bool false)], args := [d1, d2] }
  | _ => none }
def TopCoversWrongFalsely : Prop := topCoversRow.holds Tryd.pinned (OpenSpec.ofChange topCoversWrong)

/-- 'assayerlaw5.GramOwn': WHATEVER THE INPUT: true; the input reads as it did. -/
def gramOwnSpec : ChangeSpec := { name := "gramOwn", fn := fun _ => fun
  | [d1, d2, d3] => { results := [.lit (.bool true)], args := [d1, d2, d3] }
  | _ => none }
def gramOwnRow : OpenClaim := { program := "ytgdomnlkafcddaadoor", sum := "d2a178d0676d22b4ae63a61fb9861c17557a902c459bef6594d7d6004204e9b2", func := "assayer/assayerlaw5.GramOwn", spec := "gramOwn", inPlace := ["internal/reflectlite.ValueOf", "(internal/reflectlite.Value).Type", "(internal/reflectlite.Value).IsNil", "internal/reflectlite.TypeOf", "(internal/reflectlite.Value).Elem", "(internal/reflectlite.Value).Set"], unfollowed := true, recurses := true, named := ["errors.errorType"], apart := false, laid := [("errors.errorType", laid_errors_errorType)] }
def GramOwnSaid : Prop := gramOwnRow.holds Tryd.pinned (OpenSpec.ofChange gramOwnSpec)

/-- ITS FALSE NEIGHBOUR: 'it returns false'. Refute it at one input. -/
def gramOwnWrong : ChangeSpec := { name := "gramOwn", fn := fun _ => fun
  | [d1, d2, d3] => { results := [.lit (.bool false)], args := [d1, d2, d3] }
  | _ => none }
def GramOwnWrongFalsely : Prop := gramOwnRow.holds Tryd.pinned (OpenSpec.ofChange gramOwnWrong)

/-- 'assayerlaw5.RoseOwn': WHATEVER THE INPUT: true; the input reads as it did. -/
def roseOwnSpec : ChangeSpec := { name := "roseOwn", fn := fun _ => fun
  | [d1, d2, d3] => { results := [.lit (.bool true)], args := [d1, d2, d3] }
  | _ => none }
def roseOwnRow : OpenClaim := { program := "ytgdomnlkafcddaadoor", sum := "d2a178d0676d22b4ae63a61fb9861c17557a902c459bef6594d7d6004204e9b2", func := "assayer/assayerlaw5.RoseOwn", spec := "roseOwn", inPlace := ["internal/reflectlite.ValueOf", "(internal/reflectlite.Value).Type", "(internal/reflectlite.Value).IsNil", "internal/reflectlite.TypeOf", "(internal/reflectlite.Value).Elem", "(internal/reflectlite.Value).Set"], unfollowed := true, recurses := true, named := ["errors.errorType"], loops := true, apart := false, laid := [("errors.errorType", laid_errors_errorType)] }
def RoseOwnSaid : Prop := roseOwnRow.holds Tryd.pinned (OpenSpec.ofChange roseOwnSpec)

/-- ITS FALSE NEIGHBOUR: 'it returns false'. Refute it at one input. -/
def roseOwnWrong : ChangeSpec := { name := "roseOwn", fn := fun _ => fun
  | [d1, d2, d3] => { results := [.lit (.bool false)], args := [d1, d2, d3] }
  | _ => none }
def RoseOwnWrongFalsely : Prop := roseOwnRow.holds Tryd.pinned (OpenSpec.ofChange roseOwnWrong)

/-- 'assayerlaw3.MutateTells': WHATEVER THE INPUT: true; the input reads as it did. -/
def mutateTellsSpec : ChangeSpec := { name := "mutateTells", fn := fun _ => fun
  | [d1, d2, d3, d4] => { results := [.lit (.bool true)], args := [d1, d2, d3, d4] }
  | _ => none }
def mutateTellsRow : OpenClaim := { program := "ytgdomnlkafcddaadoor", sum := "d2a178d0676d22b4ae63a61fb9861c17557a902c459bef6594d7d6004204e9b2", func := "assayer/assayerlaw3.MutateTells", spec := "mutateTells", inPlace := ["internal/reflectlite.ValueOf", "(internal/reflectlite.Value).Type", "(internal/reflectlite.Value).IsNil", "internal/reflectlite.TypeOf", "(internal/reflectlite.Value).Elem", "(internal/reflectlite.Value).Set"], unfollowed := true, recurses := true, named := ["assayer/expr.takes", "assayer/mutate.ops", "assayer/mutate.asks", "errors.errorType"], loops := true, apart := false, laid := [("errors.errorType", laid_errors_errorType), ("assayer/expr.takes", laid_assayer_expr_takes), ("assayer/mutate.asks", laid_assayer_mutate_asks), ("assayer/mutate.ops", laid_assayer_mutate_ops)] }
def MutateTellsSaid : Prop := mutateTellsRow.holds Tryd.pinned (OpenSpec.ofChange mutateTellsSpec)

/-- ITS FALSE NEIGHBOUR: 'it returns false'. Refute it at one input. -/
def mutateTellsWrong : ChangeSpec := { name := "mutateTells", fn := fun _ => fun
  | [d1, d2, d3, d4] => { results := [.lit (.bool false)], args := [d1, d2, d3, d4] }
  | _ => none }
def MutateTellsWrongFalsely : Prop := mutateTellsRow.holds Tryd.pinned (OpenSpec.ofChange mutateTellsWrong)

/-- 'assayerlaw5.RankOwn': WHATEVER THE INPUT: true; the input reads as it did. -/
def rankOwnSpec : ChangeSpec := { name := "rankOwn", fn := fun _ => fun
  | [d1, d2, d3, d4] => { results := [.lit (.bool true)], args := [d1, d2, d3, d4] }
  | _ => none }
def rankOwnRow : OpenClaim := { program := "ytgdomnlkafcddaadoor", sum := "d2a178d0676d22b4ae63a61fb9861c17557a902c459bef6594d7d6004204e9b2", func := "assayer/assayerlaw5.RankOwn", spec := "rankOwn", inPlace := ["internal/reflectlite.ValueOf", "(internal/reflectlite.Value).Type", "(internal/reflectlite.Value).IsNil", "internal/reflectlite.TypeOf", "(internal/reflectlite.Value).Elem", "(internal/reflectlite.Value).Set"], unfollowed := true, recurses := true, named := ["errors.errorType"], loops := true, apart := false, laid := [("errors.errorType", laid_errors_errorType)] }
def RankOwnSaid : Prop := rankOwnRow.holds Tryd.pinned (OpenSpec.ofChange rankOwnSpec)

/-- ITS FALSE NEIGHBOUR: 'it returns false'. Refute it at one input. -/
def rankOwnWrong : ChangeSpec := { name := "rankOwn", fn := fun _ => fun
  | [d1, d2, d3, d4] => { results := [.lit (.bool false)], args := [d1, d2, d3, d4] }
  | _ => none }
def RankOwnWrongFalsely : Prop := rankOwnRow.holds Tryd.pinned (OpenSpec.ofChange rankOwnWrong)

/-- 'assayerlaw5.GenOwn': WHATEVER THE INPUT: true; the input reads as it did. -/
def genOwnSpec : ChangeSpec := { name := "genOwn", fn := fun _ => fun
  | [d1, d2, d3] => { results := [.lit (.bool true)], args := [d1, d2, d3] }
  | _ => none }
def genOwnRow : OpenClaim := { program := "ytgdomnlkafcddaadoor", sum := "d2a178d0676d22b4ae63a61fb9861c17557a902c459bef6594d7d6004204e9b2", func := "assayer/assayerlaw5.GenOwn", spec := "genOwn", inPlace := ["internal/abi.NoEscape", "internal/bytealg.MakeNoZero"], unfollowed := true, recurses := true, named := ["internal/strconv.uint64pow10", "math/bits.deBruijn32tab", "math/bits.deBruijn64tab"], loops := true, apart := false, laid := [("math/bits.deBruijn32tab", laid_math_bits_deBruijn32tab), ("math/bits.deBruijn64tab", laid_math_bits_deBruijn64tab), ("internal/strconv.uint64pow10", laid_internal_strconv_uint64pow10)] }
def GenOwnSaid : Prop := genOwnRow.holds Tryd.pinned (OpenSpec.ofChange genOwnSpec)

/-- ITS FALSE NEIGHBOUR: 'it returns false'. Refute it at one input. -/
def genOwnWrong : ChangeSpec := { name := "genOwn", fn := fun _ => fun
  | [d1, d2, d3] => { results := [.lit (.bool false)], args := [d1, d2, d3] }
  | _ => none }
def GenOwnWrongFalsely : Prop := genOwnRow.holds Tryd.pinned (OpenSpec.ofChange genOwnWrong)

/-- 'assayerlaw5.ShrinkOwn': WHATEVER THE INPUT: true; the input reads as it did. -/
def shrinkOwnSpec : ChangeSpec := { name := "shrinkOwn", fn := fun _ => fun
  | [d1, d2, d3, d4] => { results := [.lit (.bool true)], args := [d1, d2, d3, d4] }
  | _ => none }
def shrinkOwnRow : OpenClaim := { program := "ytgdomnlkafcddaadoor", sum := "d2a178d0676d22b4ae63a61fb9861c17557a902c459bef6594d7d6004204e9b2", func := "assayer/assayerlaw5.ShrinkOwn", spec := "shrinkOwn", inPlace := ["internal/reflectlite.ValueOf", "(internal/reflectlite.Value).Type", "(internal/reflectlite.Value).IsNil", "internal/reflectlite.TypeOf", "(internal/reflectlite.Value).Elem", "(internal/reflectlite.Value).Set"], unfollowed := true, recurses := true, named := ["assayer/expr.takes", "errors.errorType"], loops := true, apart := false, laid := [("errors.errorType", laid_errors_errorType), ("assayer/expr.takes", laid_assayer_expr_takes)] }
def ShrinkOwnSaid : Prop := shrinkOwnRow.holds Tryd.pinned (OpenSpec.ofChange shrinkOwnSpec)

/-- ITS FALSE NEIGHBOUR: 'it returns false'. Refute it at one input. -/
def shrinkOwnWrong : ChangeSpec := { name := "shrinkOwn", fn := fun _ => fun
  | [d1, d2, d3, d4] => { results := [.lit (.bool false)], args := [d1, d2, d3, d4] }
  | _ => none }
def ShrinkOwnWrongFalsely : Prop := shrinkOwnRow.holds Tryd.pinned (OpenSpec.ofChange shrinkOwnWrong)

/-- 'assayerlaw6.GenWraps': WHATEVER THE INPUT: true; the input reads as it did. -/
def genWrapsSpec : ChangeSpec := { name := "genWraps", fn := fun _ => fun
  | [d1, d2] => { results := [.lit (.bool true)], args := [d1, d2] }
  | _ => none }
def genWrapsRow : OpenClaim := { program := "ytgdomnlkafcddaadoor", sum := "d2a178d0676d22b4ae63a61fb9861c17557a902c459bef6594d7d6004204e9b2", func := "assayer/assayerlaw6.GenWraps", spec := "genWraps", inPlace := ["internal/abi.NoEscape", "internal/bytealg.MakeNoZero", "internal/reflectlite.ValueOf", "(internal/reflectlite.Value).Type", "(internal/reflectlite.Value).IsNil", "internal/reflectlite.TypeOf", "(internal/reflectlite.Value).Elem", "(internal/reflectlite.Value).Set"], unfollowed := true, recurses := true, named := ["internal/strconv.uint64pow10", "math/bits.deBruijn32tab", "math/bits.deBruijn64tab", "errors.errorType"], loops := true, apart := false, laid := [("math/bits.deBruijn32tab", laid_math_bits_deBruijn32tab), ("math/bits.deBruijn64tab", laid_math_bits_deBruijn64tab), ("internal/strconv.uint64pow10", laid_internal_strconv_uint64pow10), ("errors.errorType", laid_errors_errorType)] }
def GenWrapsSaid : Prop := genWrapsRow.holds Tryd.pinned (OpenSpec.ofChange genWrapsSpec)

/-- ITS FALSE NEIGHBOUR: 'it returns false'. Refute it at one input. -/
def genWrapsWrong : ChangeSpec := { name := "genWraps", fn := fun _ => fun
  | [d1, d2] => { results := [.lit (.bool false)], args := [d1, d2] }
  | _ => none }
def GenWrapsWrongFalsely : Prop := genWrapsRow.holds Tryd.pinned (OpenSpec.ofChange genWrapsWrong)

/-- 'assayerlaw6.ShrinkStays': WHATEVER THE INPUT: true; the input reads as it did. -/
def shrinkStaysSpec : ChangeSpec := { name := "shrinkStays", fn := fun _ => fun
  | [d1, d2] => { results := [.lit (.bool true)], args := [d1, d2] }
  | _ => none }
def shrinkStaysRow : OpenClaim := { program := "ytgdomnlkafcddaadoor", sum := "d2a178d0676d22b4ae63a61fb9861c17557a902c459bef6594d7d6004204e9b2", func := "assayer/assayerlaw6.ShrinkStays", spec := "shrinkStays", inPlace := ["internal/reflectlite.ValueOf", "(internal/reflectlite.Value).Type", "(internal/reflectlite.Value).IsNil", "internal/reflectlite.TypeOf", "(internal/reflectlite.Value).Elem", "(internal/reflectlite.Value).Set"], unfollowed := true, recurses := true, named := ["assayer/expr.takes", "errors.errorType"], loops := true, apart := false, laid := [("errors.errorType", laid_errors_errorType), ("assayer/expr.takes", laid_assayer_expr_takes)] }
def ShrinkStaysSaid : Prop := shrinkStaysRow.holds Tryd.pinned (OpenSpec.ofChange shrinkStaysSpec)

/-- ITS FALSE NEIGHBOUR: 'it returns false'. Refute it at one input. -/
def shrinkStaysWrong : ChangeSpec := { name := "shrinkStays", fn := fun _ => fun
  | [d1, d2] => { results := [.lit (.bool false)], args := [d1, d2] }
  | _ => none }
def ShrinkStaysWrongFalsely : Prop := shrinkStaysRow.holds Tryd.pinned (OpenSpec.ofChange shrinkStaysWrong)

/-- 'assayerlaw5.SuiteOwn': WHATEVER THE INPUT: true; the input reads as it did. -/
def suiteOwnSpec : ChangeSpec := { name := "suiteOwn", fn := fun _ => fun
  | [d1, d2, d3, d4] => { results := [.lit (.bool true)], args := [d1, d2, d3, d4] }
  | _ => none }
def suiteOwnRow : OpenClaim := { program := "ytgdomnlkafcddaadoor", sum := "d2a178d0676d22b4ae63a61fb9861c17557a902c459bef6594d7d6004204e9b2", func := "assayer/assayerlaw5.SuiteOwn", spec := "suiteOwn", inPlace := ["internal/reflectlite.ValueOf", "(internal/reflectlite.Value).Type", "(internal/reflectlite.Value).IsNil", "internal/reflectlite.TypeOf", "(internal/reflectlite.Value).Elem", "(internal/reflectlite.Value).Set"], unfollowed := true, recurses := true, named := ["math/bits.deBruijn32tab", "math/bits.deBruijn64tab", "errors.errorType"], apart := false, laid := [("math/bits.deBruijn32tab", laid_math_bits_deBruijn32tab), ("math/bits.deBruijn64tab", laid_math_bits_deBruijn64tab), ("errors.errorType", laid_errors_errorType)] }
def SuiteOwnSaid : Prop := suiteOwnRow.holds Tryd.pinned (OpenSpec.ofChange suiteOwnSpec)

/-- ITS FALSE NEIGHBOUR: 'it returns false'. Refute it at one input. -/
def suiteOwnWrong : ChangeSpec := { name := "suiteOwn", fn := fun _ => fun
  | [d1, d2, d3, d4] => { results := [.lit (.bool false)], args := [d1, d2, d3, d4] }
  | _ => none }
def SuiteOwnWrongFalsely : Prop := suiteOwnRow.holds Tryd.pinned (OpenSpec.ofChange suiteOwnWrong)

/-- 'assayerlaw6.ValBrackets': WHATEVER THE INPUT: true; the input reads as it did. -/
def valBracketsSpec : ChangeSpec := { name := "valBrackets", fn := fun _ => fun
  | [d] => { results := [.lit (.bool true)], args := [d] }
  | _ => none }
def valBracketsRow : OpenClaim := { program := "ytgdomnlkafcddaadoor", sum := "d2a178d0676d22b4ae63a61fb9861c17557a902c459bef6594d7d6004204e9b2", func := "assayer/assayerlaw6.ValBrackets", spec := "valBrackets", inPlace := ["internal/bytealg.IndexByteString", "internal/bytealg.IndexString", "internal/abi.NoEscape", "internal/bytealg.MakeNoZero"], unfollowed := true, recurses := true, named := ["strconv.ErrSyntax", "strconv.ErrRange", "internal/strconv.uint64pow10", "math/bits.deBruijn32tab", "math/bits.deBruijn64tab", "internal/bytealg.MaxLen"], loops := true, apart := false, laid := [("math/bits.deBruijn32tab", laid_math_bits_deBruijn32tab), ("math/bits.deBruijn64tab", laid_math_bits_deBruijn64tab), ("internal/strconv.uint64pow10", laid_internal_strconv_uint64pow10), ("strconv.ErrRange", laid_strconv_ErrRange), ("strconv.ErrSyntax", laid_strconv_ErrSyntax)] }
def ValBracketsSaid : Prop := valBracketsRow.holds Tryd.pinned (OpenSpec.ofChange valBracketsSpec)

/-- ITS FALSE NEIGHBOUR: 'it returns false'. Refute it at one input. -/
def valBracketsWrong : ChangeSpec := { name := "valBrackets", fn := fun _ => fun
  | [d] => { results := [.lit (.bool false)], args := [d] }
  | _ => none }
def ValBracketsWrongFalsely : Prop := valBracketsRow.holds Tryd.pinned (OpenSpec.ofChange valBracketsWrong)

/-- 'assayerlaw5.ValOwn': WHATEVER THE INPUT: true; the input reads as it did. -/
def valOwnSpec : ChangeSpec := { name := "valOwn", fn := fun _ => fun
  | [d1, d2] => { results := [.lit (.bool true)], args := [d1, d2] }
  | _ => none }
def valOwnRow : OpenClaim := { program := "ytgdomnlkafcddaadoor", sum := "d2a178d0676d22b4ae63a61fb9861c17557a902c459bef6594d7d6004204e9b2", func := "assayer/assayerlaw5.ValOwn", spec := "valOwn", inPlace := ["internal/bytealg.IndexByteString", "internal/bytealg.IndexString", "internal/abi.NoEscape", "internal/bytealg.MakeNoZero", "internal/reflectlite.ValueOf", "(internal/reflectlite.Value).Type", "(internal/reflectlite.Value).IsNil", "internal/reflectlite.TypeOf", "(internal/reflectlite.Value).Elem", "(internal/reflectlite.Value).Set"], unfollowed := true, recurses := true, named := ["strconv.ErrSyntax", "strconv.ErrRange", "internal/strconv.uint64pow10", "math/bits.deBruijn32tab", "math/bits.deBruijn64tab", "errors.errorType", "internal/bytealg.MaxLen"], apart := false, laid := [("math/bits.deBruijn32tab", laid_math_bits_deBruijn32tab), ("math/bits.deBruijn64tab", laid_math_bits_deBruijn64tab), ("internal/strconv.uint64pow10", laid_internal_strconv_uint64pow10), ("errors.errorType", laid_errors_errorType), ("strconv.ErrRange", laid_strconv_ErrRange), ("strconv.ErrSyntax", laid_strconv_ErrSyntax)] }
def ValOwnSaid : Prop := valOwnRow.holds Tryd.pinned (OpenSpec.ofChange valOwnSpec)

/-- ITS FALSE NEIGHBOUR: 'it returns false'. Refute it at one input. -/
def valOwnWrong : ChangeSpec := { name := "valOwn", fn := fun _ => fun
  | [d1, d2] => { results := [.lit (.bool false)], args := [d1, d2] }
  | _ => none }
def ValOwnWrongFalsely : Prop := valOwnRow.holds Tryd.pinned (OpenSpec.ofChange valOwnWrong)

/- THE SECOND FORM. 'bulk': how many values and letters a reading holds, each counted each time it is reached (what is shared counts as often as it is met; a slice's spare places count too). A statement '..UptoSaid' is the law's where the arguments, and the package variables that the reading takes, are together of bulk at most 1048576: NARROWER than '..Said'. Prove '..Said' where nothing that the law and all that it calls make is longer than what came in: it says more and counts as full. Else prove '..UptoSaid'. A law counts once. -/
mutual
def uptoBulk {H : Type} : DataW H → Nat
  | .lit (.string bytes) => bytes.length + 1
  | .lit _ => 1
  | .nil => 1
  | .ptr d => uptoBulk d + 1
  | .slice elems spare => uptoBulkAll elems + uptoBulkAll spare + 1
  | .agg parts => uptoBulkAll parts + 1
  | .iface _ d => uptoBulk d + 1
  | .map entries => uptoBulkEntries entries + 1
  | .held _ => 1
def uptoBulkAll {H : Type} : List (DataW H) → Nat
  | [] => 0
  | d :: r => uptoBulk d + uptoBulkAll r
def uptoBulkEntries {H : Type} : List (Lit × DataW H) → Nat
  | [] => 0
  | x :: r => uptoBulkEntry x + uptoBulkEntries r
def uptoBulkEntry {H : Type} : Lit × DataW H → Nat
  | (.string bytes, d) => bytes.length + uptoBulk d + 1
  | (_, d) => uptoBulk d + 1
 end
def uptoSmall : (H : Type) → List (DataW H) → Bool := fun _ ds => decide (uptoBulkAll ds ≤ 1048576)
def OpenSpec.upto (s : _root_.Go.ChangeSpec) : _root_.Go.OpenSpec := { _root_.Go.OpenSpec.ofChange s with cond := some uptoSmall }

/-- 'assayerlaw3.MutateKills', WHERE WHAT IT READS IS OF BULK AT MOST 1048576: true; the input reads as it did. -/
def mutateKillsUptoRow : OpenClaim := { program := "ytgdomnlkafcddaadoor", sum := "d2a178d0676d22b4ae63a61fb9861c17557a902c459bef6594d7d6004204e9b2", func := "assayer/assayerlaw3.MutateKills", spec := "mutateKills", unfollowed := true, recurses := true, named := ["assayer/expr.takes", "assayer/mutate.ops", "assayer/mutate.asks"], loops := true, apart := false, laid := [("assayer/expr.takes", laid_assayer_expr_takes), ("assayer/mutate.asks", laid_assayer_mutate_asks), ("assayer/mutate.ops", laid_assayer_mutate_ops)], narrowed := true }
def MutateKillsUptoSaid : Prop := mutateKillsUptoRow.holds Tryd.pinned (OpenSpec.upto mutateKillsSpec)

/-- 'assayerlaw3.MutateAlive', WHERE WHAT IT READS IS OF BULK AT MOST 1048576: true; the input reads as it did. -/
def mutateAliveUptoRow : OpenClaim := { program := "ytgdomnlkafcddaadoor", sum := "d2a178d0676d22b4ae63a61fb9861c17557a902c459bef6594d7d6004204e9b2", func := "assayer/assayerlaw3.MutateAlive", spec := "mutateAlive", unfollowed := true, recurses := true, named := ["assayer/expr.takes", "assayer/mutate.ops", "assayer/mutate.asks"], loops := true, apart := false, laid := [("assayer/expr.takes", laid_assayer_expr_takes), ("assayer/mutate.asks", laid_assayer_mutate_asks), ("assayer/mutate.ops", laid_assayer_mutate_ops)], narrowed := true }
def MutateAliveUptoSaid : Prop := mutateAliveUptoRow.holds Tryd.pinned (OpenSpec.upto mutateAliveSpec)

/-- 'assayertop.TopCovers', WHERE WHAT IT READS IS OF BULK AT MOST 1048576: true; the input reads as it did. -/
def topCoversUptoRow : OpenClaim := { program := "ytgdomnlkafcddaadoor", sum := "d2a178d0676d22b4ae63a61fb9861c17557a902c459bef6594d7d6004204e9b2", func := "assayer/assayertop.TopCovers", spec := "topCovers", unfollowed := true, recurses := true, named := ["math/bits.deBruijn32tab", "math/bits.deBruijn64tab"], apart := false, laid := [("math/bits.deBruijn32tab", laid_math_bits_deBruijn32tab), ("math/bits.deBruijn64tab", laid_math_bits_deBruijn64tab)], narrowed := true }
def TopCoversUptoSaid : Prop := topCoversUptoRow.holds Tryd.pinned (OpenSpec.upto topCoversSpec)

/-- 'assayerlaw5.GramOwn', WHERE WHAT IT READS IS OF BULK AT MOST 1048576: true; the input reads as it did. -/
def gramOwnUptoRow : OpenClaim := { program := "ytgdomnlkafcddaadoor", sum := "d2a178d0676d22b4ae63a61fb9861c17557a902c459bef6594d7d6004204e9b2", func := "assayer/assayerlaw5.GramOwn", spec := "gramOwn", inPlace := ["internal/reflectlite.ValueOf", "(internal/reflectlite.Value).Type", "(internal/reflectlite.Value).IsNil", "internal/reflectlite.TypeOf", "(internal/reflectlite.Value).Elem", "(internal/reflectlite.Value).Set"], unfollowed := true, recurses := true, named := ["errors.errorType"], apart := false, laid := [("errors.errorType", laid_errors_errorType)], narrowed := true }
def GramOwnUptoSaid : Prop := gramOwnUptoRow.holds Tryd.pinned (OpenSpec.upto gramOwnSpec)

/-- 'assayerlaw5.RoseOwn', WHERE WHAT IT READS IS OF BULK AT MOST 1048576: true; the input reads as it did. -/
def roseOwnUptoRow : OpenClaim := { program := "ytgdomnlkafcddaadoor", sum := "d2a178d0676d22b4ae63a61fb9861c17557a902c459bef6594d7d6004204e9b2", func := "assayer/assayerlaw5.RoseOwn", spec := "roseOwn", inPlace := ["internal/reflectlite.ValueOf", "(internal/reflectlite.Value).Type", "(internal/reflectlite.Value).IsNil", "internal/reflectlite.TypeOf", "(internal/reflectlite.Value).Elem", "(internal/reflectlite.Value).Set"], unfollowed := true, recurses := true, named := ["errors.errorType"], loops := true, apart := false, laid := [("errors.errorType", laid_errors_errorType)], narrowed := true }
def RoseOwnUptoSaid : Prop := roseOwnUptoRow.holds Tryd.pinned (OpenSpec.upto roseOwnSpec)

/-- 'assayerlaw3.MutateTells', WHERE WHAT IT READS IS OF BULK AT MOST 1048576: true; the input reads as it did. -/
def mutateTellsUptoRow : OpenClaim := { program := "ytgdomnlkafcddaadoor", sum := "d2a178d0676d22b4ae63a61fb9861c17557a902c459bef6594d7d6004204e9b2", func := "assayer/assayerlaw3.MutateTells", spec := "mutateTells", inPlace := ["internal/reflectlite.ValueOf", "(internal/reflectlite.Value).Type", "(internal/reflectlite.Value).IsNil", "internal/reflectlite.TypeOf", "(internal/reflectlite.Value).Elem", "(internal/reflectlite.Value).Set"], unfollowed := true, recurses := true, named := ["assayer/expr.takes", "assayer/mutate.ops", "assayer/mutate.asks", "errors.errorType"], loops := true, apart := false, laid := [("errors.errorType", laid_errors_errorType), ("assayer/expr.takes", laid_assayer_expr_takes), ("assayer/mutate.asks", laid_assayer_mutate_asks), ("assayer/mutate.ops", laid_assayer_mutate_ops)], narrowed := true }
def MutateTellsUptoSaid : Prop := mutateTellsUptoRow.holds Tryd.pinned (OpenSpec.upto mutateTellsSpec)

/-- 'assayerlaw5.RankOwn', WHERE WHAT IT READS IS OF BULK AT MOST 1048576: true; the input reads as it did. -/
def rankOwnUptoRow : OpenClaim := { program := "ytgdomnlkafcddaadoor", sum := "d2a178d0676d22b4ae63a61fb9861c17557a902c459bef6594d7d6004204e9b2", func := "assayer/assayerlaw5.RankOwn", spec := "rankOwn", inPlace := ["internal/reflectlite.ValueOf", "(internal/reflectlite.Value).Type", "(internal/reflectlite.Value).IsNil", "internal/reflectlite.TypeOf", "(internal/reflectlite.Value).Elem", "(internal/reflectlite.Value).Set"], unfollowed := true, recurses := true, named := ["errors.errorType"], loops := true, apart := false, laid := [("errors.errorType", laid_errors_errorType)], narrowed := true }
def RankOwnUptoSaid : Prop := rankOwnUptoRow.holds Tryd.pinned (OpenSpec.upto rankOwnSpec)

/-- 'assayerlaw5.GenOwn', WHERE WHAT IT READS IS OF BULK AT MOST 1048576: true; the input reads as it did. -/
def genOwnUptoRow : OpenClaim := { program := "ytgdomnlkafcddaadoor", sum := "d2a178d0676d22b4ae63a61fb9861c17557a902c459bef6594d7d6004204e9b2", func := "assayer/assayerlaw5.GenOwn", spec := "genOwn", inPlace := ["internal/abi.NoEscape", "internal/bytealg.MakeNoZero"], unfollowed := true, recurses := true, named := ["internal/strconv.uint64pow10", "math/bits.deBruijn32tab", "math/bits.deBruijn64tab"], loops := true, apart := false, laid := [("math/bits.deBruijn32tab", laid_math_bits_deBruijn32tab), ("math/bits.deBruijn64tab", laid_math_bits_deBruijn64tab), ("internal/strconv.uint64pow10", laid_internal_strconv_uint64pow10)], narrowed := true }
def GenOwnUptoSaid : Prop := genOwnUptoRow.holds Tryd.pinned (OpenSpec.upto genOwnSpec)

/-- 'assayerlaw5.ShrinkOwn', WHERE WHAT IT READS IS OF BULK AT MOST 1048576: true; the input reads as it did. -/
def shrinkOwnUptoRow : OpenClaim := { program := "ytgdomnlkafcddaadoor", sum := "d2a178d0676d22b4ae63a61fb9861c17557a902c459bef6594d7d6004204e9b2", func := "assayer/assayerlaw5.ShrinkOwn", spec := "shrinkOwn", inPlace := ["internal/reflectlite.ValueOf", "(internal/reflectlite.Value).Type", "(internal/reflectlite.Value).IsNil", "internal/reflectlite.TypeOf", "(internal/reflectlite.Value).Elem", "(internal/reflectlite.Value).Set"], unfollowed := true, recurses := true, named := ["assayer/expr.takes", "errors.errorType"], loops := true, apart := false, laid := [("errors.errorType", laid_errors_errorType), ("assayer/expr.takes", laid_assayer_expr_takes)], narrowed := true }
def ShrinkOwnUptoSaid : Prop := shrinkOwnUptoRow.holds Tryd.pinned (OpenSpec.upto shrinkOwnSpec)

/-- 'assayerlaw6.GenWraps', WHERE WHAT IT READS IS OF BULK AT MOST 1048576: true; the input reads as it did. -/
def genWrapsUptoRow : OpenClaim := { program := "ytgdomnlkafcddaadoor", sum := "d2a178d0676d22b4ae63a61fb9861c17557a902c459bef6594d7d6004204e9b2", func := "assayer/assayerlaw6.GenWraps", spec := "genWraps", inPlace := ["internal/abi.NoEscape", "internal/bytealg.MakeNoZero", "internal/reflectlite.ValueOf", "(internal/reflectlite.Value).Type", "(internal/reflectlite.Value).IsNil", "internal/reflectlite.TypeOf", "(internal/reflectlite.Value).Elem", "(internal/reflectlite.Value).Set"], unfollowed := true, recurses := true, named := ["internal/strconv.uint64pow10", "math/bits.deBruijn32tab", "math/bits.deBruijn64tab", "errors.errorType"], loops := true, apart := false, laid := [("math/bits.deBruijn32tab", laid_math_bits_deBruijn32tab), ("math/bits.deBruijn64tab", laid_math_bits_deBruijn64tab), ("internal/strconv.uint64pow10", laid_internal_strconv_uint64pow10), ("errors.errorType", laid_errors_errorType)], narrowed := true }
def GenWrapsUptoSaid : Prop := genWrapsUptoRow.holds Tryd.pinned (OpenSpec.upto genWrapsSpec)

/-- 'assayerlaw6.ShrinkStays', WHERE WHAT IT READS IS OF BULK AT MOST 1048576: true; the input reads as it did. -/
def shrinkStaysUptoRow : OpenClaim := { program := "ytgdomnlkafcddaadoor", sum := "d2a178d0676d22b4ae63a61fb9861c17557a902c459bef6594d7d6004204e9b2", func := "assayer/assayerlaw6.ShrinkStays", spec := "shrinkStays", inPlace := ["internal/reflectlite.ValueOf", "(internal/reflectlite.Value).Type", "(internal/reflectlite.Value).IsNil", "internal/reflectlite.TypeOf", "(internal/reflectlite.Value).Elem", "(internal/reflectlite.Value).Set"], unfollowed := true, recurses := true, named := ["assayer/expr.takes", "errors.errorType"], loops := true, apart := false, laid := [("errors.errorType", laid_errors_errorType), ("assayer/expr.takes", laid_assayer_expr_takes)], narrowed := true }
def ShrinkStaysUptoSaid : Prop := shrinkStaysUptoRow.holds Tryd.pinned (OpenSpec.upto shrinkStaysSpec)

/-- 'assayerlaw5.SuiteOwn', WHERE WHAT IT READS IS OF BULK AT MOST 1048576: true; the input reads as it did. -/
def suiteOwnUptoRow : OpenClaim := { program := "ytgdomnlkafcddaadoor", sum := "d2a178d0676d22b4ae63a61fb9861c17557a902c459bef6594d7d6004204e9b2", func := "assayer/assayerlaw5.SuiteOwn", spec := "suiteOwn", inPlace := ["internal/reflectlite.ValueOf", "(internal/reflectlite.Value).Type", "(internal/reflectlite.Value).IsNil", "internal/reflectlite.TypeOf", "(internal/reflectlite.Value).Elem", "(internal/reflectlite.Value).Set"], unfollowed := true, recurses := true, named := ["math/bits.deBruijn32tab", "math/bits.deBruijn64tab", "errors.errorType"], apart := false, laid := [("math/bits.deBruijn32tab", laid_math_bits_deBruijn32tab), ("math/bits.deBruijn64tab", laid_math_bits_deBruijn64tab), ("errors.errorType", laid_errors_errorType)], narrowed := true }
def SuiteOwnUptoSaid : Prop := suiteOwnUptoRow.holds Tryd.pinned (OpenSpec.upto suiteOwnSpec)

/-- 'assayerlaw6.ValBrackets', WHERE WHAT IT READS IS OF BULK AT MOST 1048576: true; the input reads as it did. -/
def valBracketsUptoRow : OpenClaim := { program := "ytgdomnlkafcddaadoor", sum := "d2a178d0676d22b4ae63a61fb9861c17557a902c459bef6594d7d6004204e9b2", func := "assayer/assayerlaw6.ValBrackets", spec := "valBrackets", inPlace := ["internal/bytealg.IndexByteString", "internal/bytealg.IndexString", "internal/abi.NoEscape", "internal/bytealg.MakeNoZero"], unfollowed := true, recurses := true, named := ["strconv.ErrSyntax", "strconv.ErrRange", "internal/strconv.uint64pow10", "math/bits.deBruijn32tab", "math/bits.deBruijn64tab", "internal/bytealg.MaxLen"], loops := true, apart := false, laid := [("math/bits.deBruijn32tab", laid_math_bits_deBruijn32tab), ("math/bits.deBruijn64tab", laid_math_bits_deBruijn64tab), ("internal/strconv.uint64pow10", laid_internal_strconv_uint64pow10), ("strconv.ErrRange", laid_strconv_ErrRange), ("strconv.ErrSyntax", laid_strconv_ErrSyntax)], narrowed := true }
def ValBracketsUptoSaid : Prop := valBracketsUptoRow.holds Tryd.pinned (OpenSpec.upto valBracketsSpec)

/-- 'assayerlaw5.ValOwn', WHERE WHAT IT READS IS OF BULK AT MOST 1048576: true; the input reads as it did. -/
def valOwnUptoRow : OpenClaim := { program := "ytgdomnlkafcddaadoor", sum := "d2a178d0676d22b4ae63a61fb9861c17557a902c459bef6594d7d6004204e9b2", func := "assayer/assayerlaw5.ValOwn", spec := "valOwn", inPlace := ["internal/bytealg.IndexByteString", "internal/bytealg.IndexString", "internal/abi.NoEscape", "internal/bytealg.MakeNoZero", "internal/reflectlite.ValueOf", "(internal/reflectlite.Value).Type", "(internal/reflectlite.Value).IsNil", "internal/reflectlite.TypeOf", "(internal/reflectlite.Value).Elem", "(internal/reflectlite.Value).Set"], unfollowed := true, recurses := true, named := ["strconv.ErrSyntax", "strconv.ErrRange", "internal/strconv.uint64pow10", "math/bits.deBruijn32tab", "math/bits.deBruijn64tab", "errors.errorType", "internal/bytealg.MaxLen"], apart := false, laid := [("math/bits.deBruijn32tab", laid_math_bits_deBruijn32tab), ("math/bits.deBruijn64tab", laid_math_bits_deBruijn64tab), ("internal/strconv.uint64pow10", laid_internal_strconv_uint64pow10), ("errors.errorType", laid_errors_errorType), ("strconv.ErrRange", laid_strconv_ErrRange), ("strconv.ErrSyntax", laid_strconv_ErrSyntax)], narrowed := true }
def ValOwnUptoSaid : Prop := valOwnUptoRow.holds Tryd.pinned (OpenSpec.upto valOwnSpec)

end Rows
end Go.Proofs.YtgdomnlkafcddaaDoor
