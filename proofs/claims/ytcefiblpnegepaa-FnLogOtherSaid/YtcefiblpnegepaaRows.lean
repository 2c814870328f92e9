/-
  No cell of these rows narrows 'for every input' (looked for: loops, veiled, ifaces, maps, wideKeys, modest, calm, conditions, laid).
  DERIVED. THE GIVEN ROWS OF THIS SEAT. 21 by the template 'for every input the law returns true; each argument reads behind the call as it read before'; 0 by the template 'total and deterministic' (their statements: YtcefiblpnegepaaTotals.lean).
  GIVEN WITH THE SEED: the statements are not yours to turn. If you find one false, say at which input.
  Laid BY PROGRAM, IN A SANDBOX (cutbox-rows.mjs): the forced cells as the released guide's own fill.sh prints them over the translation 3a4184884724ce69… (all of the seat's roots in one cut). By AI agents, Wed Nov 11 2026. No macro, syntax, notation, axiom, sorry.
-/
import Derived.Test.YtcefiblpnegepaaChecked
import GoSem.Claim
import GoSem.ClaimJoined
import GoSem.ClaimMapViews
import Derived.JoinedTies
import Derived.KernelRfl
namespace Go.Proofs.Ytcefiblpnegepaa
/- THE CELL 'sum', in the pinned program and in every row, IS THE sha256 OF THE DUMP (.gsa) THAT YtcefiblpnegepaaProg.lean LOADS. Nothing in Lean hashes anything: it is a label: what it is worth is what the hold of that sum in a sandbox is worth. -/
noncomputable def Try.pinned : Pinned := { name := "ytcefiblpnegepaa", sum := "3a4184884724ce69da408b51126e5956635f5c0d4384eb98aaaf5475b4cc53c3", checked := Try.checked }
namespace Rows
def none {H : Type} : Left H := { results := [], args := [] }

/-- 'laws.FnPageForm': WHATEVER THE INPUT: true; the input reads as it did. -/
def fnPageFormSpec : ChangeSpec := { name := "fnPageForm", fn := fun _ => fun
  | [d1, d2] => { results := [.lit (.bool true)], args := [d1, d2] }
  | _ => none }
def fnPageFormRow : OpenClaim := { program := "ytcefiblpnegepaa", sum := "3a4184884724ce69da408b51126e5956635f5c0d4384eb98aaaf5475b4cc53c3", func := "loop.example/tabularium/laws.FnPageForm", spec := "fnPageForm", unfollowed := true, recurses := true, apart := false }
def FnPageFormSaid : Prop := fnPageFormRow.holds Try.pinned (OpenSpec.ofChange fnPageFormSpec)

/-- ITS FALSE NEIGHBOUR: 'it returns false'. Refute it at one input. -/
def fnPageFormWrong : ChangeSpec := { name := "fnPageForm", fn := fun _ => fun
  | [d1, d2] => { results := [.lit (.bool false)], args := [d1, d2] }
  | _ => none }
def FnPageFormWrongFalsely : Prop := fnPageFormRow.holds Try.pinned (OpenSpec.ofChange fnPageFormWrong)

/-- 'laws.FnPageEmpty': WHATEVER THE INPUT: true; the input reads as it did. -/
def fnPageEmptySpec : ChangeSpec := { name := "fnPageEmpty", fn := fun _ => fun
  | [d] => { results := [.lit (.bool true)], args := [d] }
  | _ => none }
def fnPageEmptyRow : OpenClaim := { program := "ytcefiblpnegepaa", sum := "3a4184884724ce69da408b51126e5956635f5c0d4384eb98aaaf5475b4cc53c3", func := "loop.example/tabularium/laws.FnPageEmpty", spec := "fnPageEmpty", unfollowed := true, recurses := true, apart := false }
def FnPageEmptySaid : Prop := fnPageEmptyRow.holds Try.pinned (OpenSpec.ofChange fnPageEmptySpec)

/-- ITS FALSE NEIGHBOUR: 'it returns false'. Refute it at one input. -/
def fnPageEmptyWrong : ChangeSpec := { name := "fnPageEmpty", fn := fun _ => fun
  | [d] => { results := [.lit (.bool false)], args := [d] }
  | _ => none }
def FnPageEmptyWrongFalsely : Prop := fnPageEmptyRow.holds Try.pinned (OpenSpec.ofChange fnPageEmptyWrong)

/-- 'laws.FnExactLogOk': WHATEVER THE INPUT: true; the input reads as it did. -/
def fnExactLogOkSpec : ChangeSpec := { name := "fnExactLogOk", fn := fun _ => fun
  | [d] => { results := [.lit (.bool true)], args := [d] }
  | _ => none }
def fnExactLogOkRow : OpenClaim := { program := "ytcefiblpnegepaa", sum := "3a4184884724ce69da408b51126e5956635f5c0d4384eb98aaaf5475b4cc53c3", func := "loop.example/tabularium/laws.FnExactLogOk", spec := "fnExactLogOk", apart := false }
def FnExactLogOkSaid : Prop := fnExactLogOkRow.holds Try.pinned (OpenSpec.ofChange fnExactLogOkSpec)

/-- ITS FALSE NEIGHBOUR: 'it returns false'. Refute it at one input. -/
def fnExactLogOkWrong : ChangeSpec := { name := "fnExactLogOk", fn := fun _ => fun
  | [d] => { results := [.lit (.bool false)], args := [d] }
  | _ => none }
def FnExactLogOkWrongFalsely : Prop := fnExactLogOkRow.holds Try.pinned (OpenSpec.ofChange fnExactLogOkWrong)

/-- 'laws.FnExactLogLast': WHATEVER THE INPUT: true; the input reads as it did. -/
def fnExactLogLastSpec : ChangeSpec := { name := "fnExactLogLast", fn := fun _ => fun
  | [d1, d2] => { results := [.lit (.bool true)], args := [d1, d2] }
  | _ => none }
def fnExactLogLastRow : OpenClaim := { program := "ytcefiblpnegepaa", sum := "3a4184884724ce69da408b51126e5956635f5c0d4384eb98aaaf5475b4cc53c3", func := "loop.example/tabularium/laws.FnExactLogLast", spec := "fnExactLogLast", unfollowed := true, recurses := true, apart := false }
def FnExactLogLastSaid : Prop := fnExactLogLastRow.holds Try.pinned (OpenSpec.ofChange fnExactLogLastSpec)

/-- ITS FALSE NEIGHBOUR: 'it returns false'. Refute it at one input. -/
def fnExactLogLastWrong : ChangeSpec := { name := "fnExactLogLast", fn := fun _ => fun
  | [d1, d2] => { results := [.lit (.bool false)], args := [d1, d2] }
  | _ => none }
def FnExactLogLastWrongFalsely : Prop := fnExactLogLastRow.holds Try.pinned (OpenSpec.ofChange fnExactLogLastWrong)

/-- 'laws.FnRecUndo': WHATEVER THE INPUT: true; the input reads as it did. -/
def fnRecUndoSpec : ChangeSpec := { name := "fnRecUndo", fn := fun _ => fun
  | [d] => { results := [.lit (.bool true)], args := [d] }
  | _ => none }
def fnRecUndoRow : OpenClaim := { program := "ytcefiblpnegepaa", sum := "3a4184884724ce69da408b51126e5956635f5c0d4384eb98aaaf5475b4cc53c3", func := "loop.example/tabularium/laws.FnRecUndo", spec := "fnRecUndo", unfollowed := true, recurses := true, apart := false }
def FnRecUndoSaid : Prop := fnRecUndoRow.holds Try.pinned (OpenSpec.ofChange fnRecUndoSpec)

/-- ITS FALSE NEIGHBOUR: 'it returns false'. Refute it at one input. -/
def fnRecUndoWrong : ChangeSpec := { name := "fnRecUndo", fn := fun _ => fun
  | [d] => { results := [.lit (.bool false)], args := [d] }
  | _ => none }
def FnRecUndoWrongFalsely : Prop := fnRecUndoRow.holds Try.pinned (OpenSpec.ofChange fnRecUndoWrong)

/-- 'laws.FnExactEngineNew': WHATEVER THE INPUT: true; the input reads as it did. -/
def fnExactEngineNewSpec : ChangeSpec := { name := "fnExactEngineNew", fn := fun _ => fun
  | [] => { results := [.lit (.bool true)], args := [] }
  | _ => none }
def fnExactEngineNewRow : OpenClaim := { program := "ytcefiblpnegepaa", sum := "3a4184884724ce69da408b51126e5956635f5c0d4384eb98aaaf5475b4cc53c3", func := "loop.example/tabularium/laws.FnExactEngineNew", spec := "fnExactEngineNew", apart := false }
def FnExactEngineNewSaid : Prop := fnExactEngineNewRow.holds Try.pinned (OpenSpec.ofChange fnExactEngineNewSpec)

/-- ITS FALSE NEIGHBOUR: 'it returns false'. Refute it at one input. -/
def fnExactEngineNewWrong : ChangeSpec := { name := "fnExactEngineNew", fn := fun _ => fun
  | [] => { results := [.lit (.bool false)], args := [] }
  | _ => none }
def FnExactEngineNewWrongFalsely : Prop := fnExactEngineNewRow.holds Try.pinned (OpenSpec.ofChange fnExactEngineNewWrong)

/-- 'laws.FnExactRecDo': WHATEVER THE INPUT: true; the input reads as it did. -/
def fnExactRecDoSpec : ChangeSpec := { name := "fnExactRecDo", fn := fun _ => fun
  | [d1, d2, d3] => { results := [.lit (.bool true)], args := [d1, d2, d3] }
  | _ => none }
def fnExactRecDoRow : OpenClaim := { program := "ytcefiblpnegepaa", sum := "3a4184884724ce69da408b51126e5956635f5c0d4384eb98aaaf5475b4cc53c3", func := "loop.example/tabularium/laws.FnExactRecDo", spec := "fnExactRecDo", unfollowed := true, recurses := true, apart := false }
def FnExactRecDoSaid : Prop := fnExactRecDoRow.holds Try.pinned (OpenSpec.ofChange fnExactRecDoSpec)

/-- ITS FALSE NEIGHBOUR: 'it returns false'. Refute it at one input. -/
def fnExactRecDoWrong : ChangeSpec := { name := "fnExactRecDo", fn := fun _ => fun
  | [d1, d2, d3] => { results := [.lit (.bool false)], args := [d1, d2, d3] }
  | _ => none }
def FnExactRecDoWrongFalsely : Prop := fnExactRecDoRow.holds Try.pinned (OpenSpec.ofChange fnExactRecDoWrong)

/-- 'laws.FnRecKinds': WHATEVER THE INPUT: true; the input reads as it did. -/
def fnRecKindsSpec : ChangeSpec := { name := "fnRecKinds", fn := fun _ => fun
  | [d1, d2] => { results := [.lit (.bool true)], args := [d1, d2] }
  | _ => none }
def fnRecKindsRow : OpenClaim := { program := "ytcefiblpnegepaa", sum := "3a4184884724ce69da408b51126e5956635f5c0d4384eb98aaaf5475b4cc53c3", func := "loop.example/tabularium/laws.FnRecKinds", spec := "fnRecKinds", unfollowed := true, recurses := true, apart := false }
def FnRecKindsSaid : Prop := fnRecKindsRow.holds Try.pinned (OpenSpec.ofChange fnRecKindsSpec)

/-- ITS FALSE NEIGHBOUR: 'it returns false'. Refute it at one input. -/
def fnRecKindsWrong : ChangeSpec := { name := "fnRecKinds", fn := fun _ => fun
  | [d1, d2] => { results := [.lit (.bool false)], args := [d1, d2] }
  | _ => none }
def FnRecKindsWrongFalsely : Prop := fnRecKindsRow.holds Try.pinned (OpenSpec.ofChange fnRecKindsWrong)

/-- 'laws.FnRecOnce': WHATEVER THE INPUT: true; the input reads as it did. -/
def fnRecOnceSpec : ChangeSpec := { name := "fnRecOnce", fn := fun _ => fun
  | [d1, d2] => { results := [.lit (.bool true)], args := [d1, d2] }
  | _ => none }
def fnRecOnceRow : OpenClaim := { program := "ytcefiblpnegepaa", sum := "3a4184884724ce69da408b51126e5956635f5c0d4384eb98aaaf5475b4cc53c3", func := "loop.example/tabularium/laws.FnRecOnce", spec := "fnRecOnce", unfollowed := true, recurses := true, apart := false }
def FnRecOnceSaid : Prop := fnRecOnceRow.holds Try.pinned (OpenSpec.ofChange fnRecOnceSpec)

/-- ITS FALSE NEIGHBOUR: 'it returns false'. Refute it at one input. -/
def fnRecOnceWrong : ChangeSpec := { name := "fnRecOnce", fn := fun _ => fun
  | [d1, d2] => { results := [.lit (.bool false)], args := [d1, d2] }
  | _ => none }
def FnRecOnceWrongFalsely : Prop := fnRecOnceRow.holds Try.pinned (OpenSpec.ofChange fnRecOnceWrong)

/-- 'laws.FnRecTwo': WHATEVER THE INPUT: true; the input reads as it did. -/
def fnRecTwoSpec : ChangeSpec := { name := "fnRecTwo", fn := fun _ => fun
  | [d1, d2] => { results := [.lit (.bool true)], args := [d1, d2] }
  | _ => none }
def fnRecTwoRow : OpenClaim := { program := "ytcefiblpnegepaa", sum := "3a4184884724ce69da408b51126e5956635f5c0d4384eb98aaaf5475b4cc53c3", func := "loop.example/tabularium/laws.FnRecTwo", spec := "fnRecTwo", unfollowed := true, recurses := true, apart := false }
def FnRecTwoSaid : Prop := fnRecTwoRow.holds Try.pinned (OpenSpec.ofChange fnRecTwoSpec)

/-- ITS FALSE NEIGHBOUR: 'it returns false'. Refute it at one input. -/
def fnRecTwoWrong : ChangeSpec := { name := "fnRecTwo", fn := fun _ => fun
  | [d1, d2] => { results := [.lit (.bool false)], args := [d1, d2] }
  | _ => none }
def FnRecTwoWrongFalsely : Prop := fnRecTwoRow.holds Try.pinned (OpenSpec.ofChange fnRecTwoWrong)

/-- 'laws.FnExactLogChain': WHATEVER THE INPUT: true; the input reads as it did. -/
def fnExactLogChainSpec : ChangeSpec := { name := "fnExactLogChain", fn := fun _ => fun
  | [d1, d2] => { results := [.lit (.bool true)], args := [d1, d2] }
  | _ => none }
def fnExactLogChainRow : OpenClaim := { program := "ytcefiblpnegepaa", sum := "3a4184884724ce69da408b51126e5956635f5c0d4384eb98aaaf5475b4cc53c3", func := "loop.example/tabularium/laws.FnExactLogChain", spec := "fnExactLogChain", unfollowed := true, recurses := true, apart := false }
def FnExactLogChainSaid : Prop := fnExactLogChainRow.holds Try.pinned (OpenSpec.ofChange fnExactLogChainSpec)

/-- ITS FALSE NEIGHBOUR: 'it returns false'. Refute it at one input. -/
def fnExactLogChainWrong : ChangeSpec := { name := "fnExactLogChain", fn := fun _ => fun
  | [d1, d2] => { results := [.lit (.bool false)], args := [d1, d2] }
  | _ => none }
def FnExactLogChainWrongFalsely : Prop := fnExactLogChainRow.holds Try.pinned (OpenSpec.ofChange fnExactLogChainWrong)

/-- 'laws.FnRecDo': WHATEVER THE INPUT: true; the input reads as it did. -/
def fnRecDoSpec : ChangeSpec := { name := "fnRecDo", fn := fun _ => fun
  | [d] => { results := [.lit (.bool true)], args := [d] }
  | _ => none }
def fnRecDoRow : OpenClaim := { program := "ytcefiblpnegepaa", sum := "3a4184884724ce69da408b51126e5956635f5c0d4384eb98aaaf5475b4cc53c3", func := "loop.example/tabularium/laws.FnRecDo", spec := "fnRecDo", unfollowed := true, recurses := true, apart := false }
def FnRecDoSaid : Prop := fnRecDoRow.holds Try.pinned (OpenSpec.ofChange fnRecDoSpec)

/-- ITS FALSE NEIGHBOUR: 'it returns false'. Refute it at one input. -/
def fnRecDoWrong : ChangeSpec := { name := "fnRecDo", fn := fun _ => fun
  | [d] => { results := [.lit (.bool false)], args := [d] }
  | _ => none }
def FnRecDoWrongFalsely : Prop := fnRecDoRow.holds Try.pinned (OpenSpec.ofChange fnRecDoWrong)

/-- 'laws.FnExactLogOpen': WHATEVER THE INPUT: true; the input reads as it did. -/
def fnExactLogOpenSpec : ChangeSpec := { name := "fnExactLogOpen", fn := fun _ => fun
  | [d] => { results := [.lit (.bool true)], args := [d] }
  | _ => none }
def fnExactLogOpenRow : OpenClaim := { program := "ytcefiblpnegepaa", sum := "3a4184884724ce69da408b51126e5956635f5c0d4384eb98aaaf5475b4cc53c3", func := "loop.example/tabularium/laws.FnExactLogOpen", spec := "fnExactLogOpen", unfollowed := true, recurses := true, apart := false }
def FnExactLogOpenSaid : Prop := fnExactLogOpenRow.holds Try.pinned (OpenSpec.ofChange fnExactLogOpenSpec)

/-- ITS FALSE NEIGHBOUR: 'it returns false'. Refute it at one input. -/
def fnExactLogOpenWrong : ChangeSpec := { name := "fnExactLogOpen", fn := fun _ => fun
  | [d] => { results := [.lit (.bool false)], args := [d] }
  | _ => none }
def FnExactLogOpenWrongFalsely : Prop := fnExactLogOpenRow.holds Try.pinned (OpenSpec.ofChange fnExactLogOpenWrong)

/-- 'laws.FnLogCut': WHATEVER THE INPUT: true; the input reads as it did. -/
def fnLogCutSpec : ChangeSpec := { name := "fnLogCut", fn := fun _ => fun
  | [d1, d2] => { results := [.lit (.bool true)], args := [d1, d2] }
  | _ => none }
def fnLogCutRow : OpenClaim := { program := "ytcefiblpnegepaa", sum := "3a4184884724ce69da408b51126e5956635f5c0d4384eb98aaaf5475b4cc53c3", func := "loop.example/tabularium/laws.FnLogCut", spec := "fnLogCut", apart := false }
def FnLogCutSaid : Prop := fnLogCutRow.holds Try.pinned (OpenSpec.ofChange fnLogCutSpec)

/-- ITS FALSE NEIGHBOUR: 'it returns false'. Refute it at one input. -/
def fnLogCutWrong : ChangeSpec := { name := "fnLogCut", fn := fun _ => fun
  | [d1, d2] => { results := [.lit (.bool false)], args := [d1, d2] }
  | _ => none }
def FnLogCutWrongFalsely : Prop := fnLogCutRow.holds Try.pinned (OpenSpec.ofChange fnLogCutWrong)

/-- 'laws.FnLogLast': WHATEVER THE INPUT: true; the input reads as it did. -/
def fnLogLastSpec : ChangeSpec := { name := "fnLogLast", fn := fun _ => fun
  | [d] => { results := [.lit (.bool true)], args := [d] }
  | _ => none }
def fnLogLastRow : OpenClaim := { program := "ytcefiblpnegepaa", sum := "3a4184884724ce69da408b51126e5956635f5c0d4384eb98aaaf5475b4cc53c3", func := "loop.example/tabularium/laws.FnLogLast", spec := "fnLogLast", unfollowed := true, recurses := true, apart := false }
def FnLogLastSaid : Prop := fnLogLastRow.holds Try.pinned (OpenSpec.ofChange fnLogLastSpec)

/-- ITS FALSE NEIGHBOUR: 'it returns false'. Refute it at one input. -/
def fnLogLastWrong : ChangeSpec := { name := "fnLogLast", fn := fun _ => fun
  | [d] => { results := [.lit (.bool false)], args := [d] }
  | _ => none }
def FnLogLastWrongFalsely : Prop := fnLogLastRow.holds Try.pinned (OpenSpec.ofChange fnLogLastWrong)

/-- 'laws.FnLogChain': WHATEVER THE INPUT: true; the input reads as it did. -/
def fnLogChainSpec : ChangeSpec := { name := "fnLogChain", fn := fun _ => fun
  | [d] => { results := [.lit (.bool true)], args := [d] }
  | _ => none }
def fnLogChainRow : OpenClaim := { program := "ytcefiblpnegepaa", sum := "3a4184884724ce69da408b51126e5956635f5c0d4384eb98aaaf5475b4cc53c3", func := "loop.example/tabularium/laws.FnLogChain", spec := "fnLogChain", unfollowed := true, recurses := true, apart := false }
def FnLogChainSaid : Prop := fnLogChainRow.holds Try.pinned (OpenSpec.ofChange fnLogChainSpec)

/-- ITS FALSE NEIGHBOUR: 'it returns false'. Refute it at one input. -/
def fnLogChainWrong : ChangeSpec := { name := "fnLogChain", fn := fun _ => fun
  | [d] => { results := [.lit (.bool false)], args := [d] }
  | _ => none }
def FnLogChainWrongFalsely : Prop := fnLogChainRow.holds Try.pinned (OpenSpec.ofChange fnLogChainWrong)

/-- 'laws.FnLogOpen': WHATEVER THE INPUT: true; the input reads as it did. -/
def fnLogOpenSpec : ChangeSpec := { name := "fnLogOpen", fn := fun _ => fun
  | [d1, d2] => { results := [.lit (.bool true)], args := [d1, d2] }
  | _ => none }
def fnLogOpenRow : OpenClaim := { program := "ytcefiblpnegepaa", sum := "3a4184884724ce69da408b51126e5956635f5c0d4384eb98aaaf5475b4cc53c3", func := "loop.example/tabularium/laws.FnLogOpen", spec := "fnLogOpen", unfollowed := true, recurses := true, apart := false }
def FnLogOpenSaid : Prop := fnLogOpenRow.holds Try.pinned (OpenSpec.ofChange fnLogOpenSpec)

/-- ITS FALSE NEIGHBOUR: 'it returns false'. Refute it at one input. -/
def fnLogOpenWrong : ChangeSpec := { name := "fnLogOpen", fn := fun _ => fun
  | [d1, d2] => { results := [.lit (.bool false)], args := [d1, d2] }
  | _ => none }
def FnLogOpenWrongFalsely : Prop := fnLogOpenRow.holds Try.pinned (OpenSpec.ofChange fnLogOpenWrong)

/-- 'laws.FnExactLogPages': WHATEVER THE INPUT: true; the input reads as it did. -/
def fnExactLogPagesSpec : ChangeSpec := { name := "fnExactLogPages", fn := fun _ => fun
  | [d1, d2] => { results := [.lit (.bool true)], args := [d1, d2] }
  | _ => none }
def fnExactLogPagesRow : OpenClaim := { program := "ytcefiblpnegepaa", sum := "3a4184884724ce69da408b51126e5956635f5c0d4384eb98aaaf5475b4cc53c3", func := "loop.example/tabularium/laws.FnExactLogPages", spec := "fnExactLogPages", unfollowed := true, recurses := true, apart := false }
def FnExactLogPagesSaid : Prop := fnExactLogPagesRow.holds Try.pinned (OpenSpec.ofChange fnExactLogPagesSpec)

/-- ITS FALSE NEIGHBOUR: 'it returns false'. Refute it at one input. -/
def fnExactLogPagesWrong : ChangeSpec := { name := "fnExactLogPages", fn := fun _ => fun
  | [d1, d2] => { results := [.lit (.bool false)], args := [d1, d2] }
  | _ => none }
def FnExactLogPagesWrongFalsely : Prop := fnExactLogPagesRow.holds Try.pinned (OpenSpec.ofChange fnExactLogPagesWrong)

/-- 'laws.FnLogPages': WHATEVER THE INPUT: true; the input reads as it did. -/
def fnLogPagesSpec : ChangeSpec := { name := "fnLogPages", fn := fun _ => fun
  | [d] => { results := [.lit (.bool true)], args := [d] }
  | _ => none }
def fnLogPagesRow : OpenClaim := { program := "ytcefiblpnegepaa", sum := "3a4184884724ce69da408b51126e5956635f5c0d4384eb98aaaf5475b4cc53c3", func := "loop.example/tabularium/laws.FnLogPages", spec := "fnLogPages", unfollowed := true, recurses := true, apart := false }
def FnLogPagesSaid : Prop := fnLogPagesRow.holds Try.pinned (OpenSpec.ofChange fnLogPagesSpec)

/-- ITS FALSE NEIGHBOUR: 'it returns false'. Refute it at one input. -/
def fnLogPagesWrong : ChangeSpec := { name := "fnLogPages", fn := fun _ => fun
  | [d] => { results := [.lit (.bool false)], args := [d] }
  | _ => none }
def FnLogPagesWrongFalsely : Prop := fnLogPagesRow.holds Try.pinned (OpenSpec.ofChange fnLogPagesWrong)

/-- 'laws.FnLogOther': WHATEVER THE INPUT: true; the input reads as it did. -/
def fnLogOtherSpec : ChangeSpec := { name := "fnLogOther", fn := fun _ => fun
  | [d1, d2] => { results := [.lit (.bool true)], args := [d1, d2] }
  | _ => none }
def fnLogOtherRow : OpenClaim := { program := "ytcefiblpnegepaa", sum := "3a4184884724ce69da408b51126e5956635f5c0d4384eb98aaaf5475b4cc53c3", func := "loop.example/tabularium/laws.FnLogOther", spec := "fnLogOther", unfollowed := true, recurses := true, apart := false }
def FnLogOtherSaid : Prop := fnLogOtherRow.holds Try.pinned (OpenSpec.ofChange fnLogOtherSpec)

/-- ITS FALSE NEIGHBOUR: 'it returns false'. Refute it at one input. -/
def fnLogOtherWrong : ChangeSpec := { name := "fnLogOther", fn := fun _ => fun
  | [d1, d2] => { results := [.lit (.bool false)], args := [d1, d2] }
  | _ => none }
def FnLogOtherWrongFalsely : Prop := fnLogOtherRow.holds Try.pinned (OpenSpec.ofChange fnLogOtherWrong)

/-- 'laws.FnLogMore': WHATEVER THE INPUT: true; the input reads as it did. -/
def fnLogMoreSpec : ChangeSpec := { name := "fnLogMore", fn := fun _ => fun
  | [d1, d2] => { results := [.lit (.bool true)], args := [d1, d2] }
  | _ => none }
def fnLogMoreRow : OpenClaim := { program := "ytcefiblpnegepaa", sum := "3a4184884724ce69da408b51126e5956635f5c0d4384eb98aaaf5475b4cc53c3", func := "loop.example/tabularium/laws.FnLogMore", spec := "fnLogMore", unfollowed := true, recurses := true, apart := false }
def FnLogMoreSaid : Prop := fnLogMoreRow.holds Try.pinned (OpenSpec.ofChange fnLogMoreSpec)

/-- ITS FALSE NEIGHBOUR: 'it returns false'. Refute it at one input. -/
def fnLogMoreWrong : ChangeSpec := { name := "fnLogMore", fn := fun _ => fun
  | [d1, d2] => { results := [.lit (.bool false)], args := [d1, d2] }
  | _ => none }
def FnLogMoreWrongFalsely : Prop := fnLogMoreRow.holds Try.pinned (OpenSpec.ofChange fnLogMoreWrong)

/- THE SECOND FORM. 'bulk': how many values and letters a reading holds, each counted each time it is reached (what is shared counts as often as it is met; a slice's spare places count too). A statement '..UptoSaid' is the law's where the arguments, and the package variables that the reading takes, are together of bulk at most 1048576: NARROWER than '..Said'. Prove '..Said' where nothing that the law and all that it calls make is longer than what came in: it says more and counts as full. Else prove '..UptoSaid'. A law counts once. -/
mutual
def uptoBulk {H : Type} : DataW H → Nat
  | .lit (.string bytes) => bytes.length + 1
  | .lit _ => 1
  | .nil => 1
  | .ptr d => uptoBulk d + 1
  | .slice elems spare => uptoBulkAll elems + uptoBulkAll spare + 1
  | .agg parts => uptoBulkAll parts + 1
  | .iface _ d => uptoBulk d + 1
  | .map entries => uptoBulkEntries entries + 1
  | .held _ => 1
def uptoBulkAll {H : Type} : List (DataW H) → Nat
  | [] => 0
  | d :: r => uptoBulk d + uptoBulkAll r
def uptoBulkEntries {H : Type} : List (Lit × DataW H) → Nat
  | [] => 0
  | x :: r => uptoBulkEntry x + uptoBulkEntries r
def uptoBulkEntry {H : Type} : Lit × DataW H → Nat
  | (.string bytes, d) => bytes.length + uptoBulk d + 1
  | (_, d) => uptoBulk d + 1
 end
def uptoSmall : (H : Type) → List (DataW H) → Bool := fun _ ds => decide (uptoBulkAll ds ≤ 1048576)
def OpenSpec.upto (s : _root_.Go.ChangeSpec) : _root_.Go.OpenSpec := { _root_.Go.OpenSpec.ofChange s with cond := some uptoSmall }

/-- 'laws.FnPageForm', WHERE WHAT IT READS IS OF BULK AT MOST 1048576: true; the input reads as it did. -/
def fnPageFormUptoRow : OpenClaim := { program := "ytcefiblpnegepaa", sum := "3a4184884724ce69da408b51126e5956635f5c0d4384eb98aaaf5475b4cc53c3", func := "loop.example/tabularium/laws.FnPageForm", spec := "fnPageForm", unfollowed := true, recurses := true, apart := false, narrowed := true }
def FnPageFormUptoSaid : Prop := fnPageFormUptoRow.holds Try.pinned (OpenSpec.upto fnPageFormSpec)

/-- 'laws.FnPageEmpty', WHERE WHAT IT READS IS OF BULK AT MOST 1048576: true; the input reads as it did. -/
def fnPageEmptyUptoRow : OpenClaim := { program := "ytcefiblpnegepaa", sum := "3a4184884724ce69da408b51126e5956635f5c0d4384eb98aaaf5475b4cc53c3", func := "loop.example/tabularium/laws.FnPageEmpty", spec := "fnPageEmpty", unfollowed := true, recurses := true, apart := false, narrowed := true }
def FnPageEmptyUptoSaid : Prop := fnPageEmptyUptoRow.holds Try.pinned (OpenSpec.upto fnPageEmptySpec)

/-- 'laws.FnExactLogOk', WHERE WHAT IT READS IS OF BULK AT MOST 1048576: true; the input reads as it did. -/
def fnExactLogOkUptoRow : OpenClaim := { program := "ytcefiblpnegepaa", sum := "3a4184884724ce69da408b51126e5956635f5c0d4384eb98aaaf5475b4cc53c3", func := "loop.example/tabularium/laws.FnExactLogOk", spec := "fnExactLogOk", apart := false, narrowed := true }
def FnExactLogOkUptoSaid : Prop := fnExactLogOkUptoRow.holds Try.pinned (OpenSpec.upto fnExactLogOkSpec)

/-- 'laws.FnExactLogLast', WHERE WHAT IT READS IS OF BULK AT MOST 1048576: true; the input reads as it did. -/
def fnExactLogLastUptoRow : OpenClaim := { program := "ytcefiblpnegepaa", sum := "3a4184884724ce69da408b51126e5956635f5c0d4384eb98aaaf5475b4cc53c3", func := "loop.example/tabularium/laws.FnExactLogLast", spec := "fnExactLogLast", unfollowed := true, recurses := true, apart := false, narrowed := true }
def FnExactLogLastUptoSaid : Prop := fnExactLogLastUptoRow.holds Try.pinned (OpenSpec.upto fnExactLogLastSpec)

/-- 'laws.FnRecUndo', WHERE WHAT IT READS IS OF BULK AT MOST 1048576: true; the input reads as it did. -/
def fnRecUndoUptoRow : OpenClaim := { program := "ytcefiblpnegepaa", sum := "3a4184884724ce69da408b51126e5956635f5c0d4384eb98aaaf5475b4cc53c3", func := "loop.example/tabularium/laws.FnRecUndo", spec := "fnRecUndo", unfollowed := true, recurses := true, apart := false, narrowed := true }
def FnRecUndoUptoSaid : Prop := fnRecUndoUptoRow.holds Try.pinned (OpenSpec.upto fnRecUndoSpec)

/-- 'laws.FnExactEngineNew', WHERE WHAT IT READS IS OF BULK AT MOST 1048576: true; the input reads as it did. -/
def fnExactEngineNewUptoRow : OpenClaim := { program := "ytcefiblpnegepaa", sum := "3a4184884724ce69da408b51126e5956635f5c0d4384eb98aaaf5475b4cc53c3", func := "loop.example/tabularium/laws.FnExactEngineNew", spec := "fnExactEngineNew", apart := false, narrowed := true }
def FnExactEngineNewUptoSaid : Prop := fnExactEngineNewUptoRow.holds Try.pinned (OpenSpec.upto fnExactEngineNewSpec)

/-- 'laws.FnExactRecDo', WHERE WHAT IT READS IS OF BULK AT MOST 1048576: true; the input reads as it did. -/
def fnExactRecDoUptoRow : OpenClaim := { program := "ytcefiblpnegepaa", sum := "3a4184884724ce69da408b51126e5956635f5c0d4384eb98aaaf5475b4cc53c3", func := "loop.example/tabularium/laws.FnExactRecDo", spec := "fnExactRecDo", unfollowed := true, recurses := true, apart := false, narrowed := true }
def FnExactRecDoUptoSaid : Prop := fnExactRecDoUptoRow.holds Try.pinned (OpenSpec.upto fnExactRecDoSpec)

/-- 'laws.FnRecKinds', WHERE WHAT IT READS IS OF BULK AT MOST 1048576: true; the input reads as it did. -/
def fnRecKindsUptoRow : OpenClaim := { program := "ytcefiblpnegepaa", sum := "3a4184884724ce69da408b51126e5956635f5c0d4384eb98aaaf5475b4cc53c3", func := "loop.example/tabularium/laws.FnRecKinds", spec := "fnRecKinds", unfollowed := true, recurses := true, apart := false, narrowed := true }
def FnRecKindsUptoSaid : Prop := fnRecKindsUptoRow.holds Try.pinned (OpenSpec.upto fnRecKindsSpec)

/-- 'laws.FnRecOnce', WHERE WHAT IT READS IS OF BULK AT MOST 1048576: true; the input reads as it did. -/
def fnRecOnceUptoRow : OpenClaim := { program := "ytcefiblpnegepaa", sum := "3a4184884724ce69da408b51126e5956635f5c0d4384eb98aaaf5475b4cc53c3", func := "loop.example/tabularium/laws.FnRecOnce", spec := "fnRecOnce", unfollowed := true, recurses := true, apart := false, narrowed := true }
def FnRecOnceUptoSaid : Prop := fnRecOnceUptoRow.holds Try.pinned (OpenSpec.upto fnRecOnceSpec)

/-- 'laws.FnRecTwo', WHERE WHAT IT READS IS OF BULK AT MOST 1048576: true; the input reads as it did. -/
def fnRecTwoUptoRow : OpenClaim := { program := "ytcefiblpnegepaa", sum := "3a4184884724ce69da408b51126e5956635f5c0d4384eb98aaaf5475b4cc53c3", func := "loop.example/tabularium/laws.FnRecTwo", spec := "fnRecTwo", unfollowed := true, recurses := true, apart := false, narrowed := true }
def FnRecTwoUptoSaid : Prop := fnRecTwoUptoRow.holds Try.pinned (OpenSpec.upto fnRecTwoSpec)

/-- 'laws.FnExactLogChain', WHERE WHAT IT READS IS OF BULK AT MOST 1048576: true; the input reads as it did. -/
def fnExactLogChainUptoRow : OpenClaim := { program := "ytcefiblpnegepaa", sum := "3a4184884724ce69da408b51126e5956635f5c0d4384eb98aaaf5475b4cc53c3", func := "loop.example/tabularium/laws.FnExactLogChain", spec := "fnExactLogChain", unfollowed := true, recurses := true, apart := false, narrowed := true }
def FnExactLogChainUptoSaid : Prop := fnExactLogChainUptoRow.holds Try.pinned (OpenSpec.upto fnExactLogChainSpec)

/-- 'laws.FnRecDo', WHERE WHAT IT READS IS OF BULK AT MOST 1048576: true; the input reads as it did. -/
def fnRecDoUptoRow : OpenClaim := { program := "ytcefiblpnegepaa", sum := "3a4184884724ce69da408b51126e5956635f5c0d4384eb98aaaf5475b4cc53c3", func := "loop.example/tabularium/laws.FnRecDo", spec := "fnRecDo", unfollowed := true, recurses := true, apart := false, narrowed := true }
def FnRecDoUptoSaid : Prop := fnRecDoUptoRow.holds Try.pinned (OpenSpec.upto fnRecDoSpec)

/-- 'laws.FnExactLogOpen', WHERE WHAT IT READS IS OF BULK AT MOST 1048576: true; the input reads as it did. -/
def fnExactLogOpenUptoRow : OpenClaim := { program := "ytcefiblpnegepaa", sum := "3a4184884724ce69da408b51126e5956635f5c0d4384eb98aaaf5475b4cc53c3", func := "loop.example/tabularium/laws.FnExactLogOpen", spec := "fnExactLogOpen", unfollowed := true, recurses := true, apart := false, narrowed := true }
def FnExactLogOpenUptoSaid : Prop := fnExactLogOpenUptoRow.holds Try.pinned (OpenSpec.upto fnExactLogOpenSpec)

/-- 'laws.FnLogCut', WHERE WHAT IT READS IS OF BULK AT MOST 1048576: true; the input reads as it did. -/
def fnLogCutUptoRow : OpenClaim := { program := "ytcefiblpnegepaa", sum := "3a4184884724ce69da408b51126e5956635f5c0d4384eb98aaaf5475b4cc53c3", func := "loop.example/tabularium/laws.FnLogCut", spec := "fnLogCut", apart := false, narrowed := true }
def FnLogCutUptoSaid : Prop := fnLogCutUptoRow.holds Try.pinned (OpenSpec.upto fnLogCutSpec)

/-- 'laws.FnLogLast', WHERE WHAT IT READS IS OF BULK AT MOST 1048576: true; the input reads as it did. -/
def fnLogLastUptoRow : OpenClaim := { program := "ytcefiblpnegepaa", sum := "3a4184884724ce69da408b51126e5956635f5c0d4384eb98aaaf5475b4cc53c3", func := "loop.example/tabularium/laws.FnLogLast", spec := "fnLogLast", unfollowed := true, recurses := true, apart := false, narrowed := true }
def FnLogLastUptoSaid : Prop := fnLogLastUptoRow.holds Try.pinned (OpenSpec.upto fnLogLastSpec)

/-- 'laws.FnLogChain', WHERE WHAT IT READS IS OF BULK AT MOST 1048576: true; the input reads as it did. -/
def fnLogChainUptoRow : OpenClaim := { program := "ytcefiblpnegepaa", sum := "3a4184884724ce69da408b51126e5956635f5c0d4384eb98aaaf5475b4cc53c3", func := "loop.example/tabularium/laws.FnLogChain", spec := "fnLogChain", unfollowed := true, recurses := true, apart := false, narrowed := true }
def FnLogChainUptoSaid : Prop := fnLogChainUptoRow.holds Try.pinned (OpenSpec.upto fnLogChainSpec)

/-- 'laws.FnLogOpen', WHERE WHAT IT READS IS OF BULK AT MOST 1048576: true; the input reads as it did. -/
def fnLogOpenUptoRow : OpenClaim := { program := "ytcefiblpnegepaa", sum := "3a4184884724ce69da408b51126e5956635f5c0d4384eb98aaaf5475b4cc53c3", func := "loop.example/tabularium/laws.FnLogOpen", spec := "fnLogOpen", unfollowed := true, recurses := true, apart := false, narrowed := true }
def FnLogOpenUptoSaid : Prop := fnLogOpenUptoRow.holds Try.pinned (OpenSpec.upto fnLogOpenSpec)

/-- 'laws.FnExactLogPages', WHERE WHAT IT READS IS OF BULK AT MOST 1048576: true; the input reads as it did. -/
def fnExactLogPagesUptoRow : OpenClaim := { program := "ytcefiblpnegepaa", sum := "3a4184884724ce69da408b51126e5956635f5c0d4384eb98aaaf5475b4cc53c3", func := "loop.example/tabularium/laws.FnExactLogPages", spec := "fnExactLogPages", unfollowed := true, recurses := true, apart := false, narrowed := true }
def FnExactLogPagesUptoSaid : Prop := fnExactLogPagesUptoRow.holds Try.pinned (OpenSpec.upto fnExactLogPagesSpec)

/-- 'laws.FnLogPages', WHERE WHAT IT READS IS OF BULK AT MOST 1048576: true; the input reads as it did. -/
def fnLogPagesUptoRow : OpenClaim := { program := "ytcefiblpnegepaa", sum := "3a4184884724ce69da408b51126e5956635f5c0d4384eb98aaaf5475b4cc53c3", func := "loop.example/tabularium/laws.FnLogPages", spec := "fnLogPages", unfollowed := true, recurses := true, apart := false, narrowed := true }
def FnLogPagesUptoSaid : Prop := fnLogPagesUptoRow.holds Try.pinned (OpenSpec.upto fnLogPagesSpec)

/-- 'laws.FnLogOther', WHERE WHAT IT READS IS OF BULK AT MOST 1048576: true; the input reads as it did. -/
def fnLogOtherUptoRow : OpenClaim := { program := "ytcefiblpnegepaa", sum := "3a4184884724ce69da408b51126e5956635f5c0d4384eb98aaaf5475b4cc53c3", func := "loop.example/tabularium/laws.FnLogOther", spec := "fnLogOther", unfollowed := true, recurses := true, apart := false, narrowed := true }
def FnLogOtherUptoSaid : Prop := fnLogOtherUptoRow.holds Try.pinned (OpenSpec.upto fnLogOtherSpec)

/-- 'laws.FnLogMore', WHERE WHAT IT READS IS OF BULK AT MOST 1048576: true; the input reads as it did. -/
def fnLogMoreUptoRow : OpenClaim := { program := "ytcefiblpnegepaa", sum := "3a4184884724ce69da408b51126e5956635f5c0d4384eb98aaaf5475b4cc53c3", func := "loop.example/tabularium/laws.FnLogMore", spec := "fnLogMore", unfollowed := true, recurses := true, apart := false, narrowed := true }
def FnLogMoreUptoSaid : Prop := fnLogMoreUptoRow.holds Try.pinned (OpenSpec.upto fnLogMoreSpec)

end Rows
end Go.Proofs.Ytcefiblpnegepaa
