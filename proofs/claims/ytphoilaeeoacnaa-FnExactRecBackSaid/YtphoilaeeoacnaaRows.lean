/-
  No cell of these rows narrows 'for every input' (looked for: loops, veiled, ifaces, maps, wideKeys, modest, calm, conditions, laid).
  DERIVED. THE GIVEN ROWS OF THIS SEAT. 12 by the template 'for every input the law returns true; each argument reads behind the call as it read before'; 0 by the template 'total and deterministic' (their statements: YtphoilaeeoacnaaTotals.lean).
  GIVEN WITH THE SEED: the statements are not yours to turn. If you find one false, say at which input.
  Laid BY PROGRAM, IN A SANDBOX (cutbox-rows.mjs): the forced cells as the released guide's own fill.sh prints them over the translation 9c9227c7e7442bf9… (all of the seat's roots in one cut). By AI agents, Wed Nov 11 2026. No macro, syntax, notation, axiom, sorry.
-/
import Derived.Test.YtphoilaeeoacnaaChecked
import GoSem.Claim
import GoSem.ClaimJoined
import GoSem.ClaimMapViews
import Derived.JoinedTies
import Derived.KernelRfl
namespace Go.Proofs.Ytphoilaeeoacnaa
/- THE CELL 'sum', in the pinned program and in every row, IS THE sha256 OF THE DUMP (.gsa) THAT YtphoilaeeoacnaaProg.lean LOADS. Nothing in Lean hashes anything: it is a label: what it is worth is what the hold of that sum in a sandbox is worth. -/
noncomputable def Try.pinned : Pinned := { name := "ytphoilaeeoacnaa", sum := "9c9227c7e7442bf9651f1b5c31c5bea83acfb9427953e029881ef4442fa8675d", checked := Try.checked }
namespace Rows
def none {H : Type} : Left H := { results := [], args := [] }

/-- 'laws.FnExactConstants': WHATEVER THE INPUT: true; the input reads as it did. -/
def fnExactConstantsSpec : ChangeSpec := { name := "fnExactConstants", fn := fun _ => fun
  | [] => { results := [.lit (.bool true)], args := [] }
  | _ => none }
def fnExactConstantsRow : OpenClaim := { program := "ytphoilaeeoacnaa", sum := "9c9227c7e7442bf9651f1b5c31c5bea83acfb9427953e029881ef4442fa8675d", func := "loop.example/tabularium/laws.FnExactConstants", spec := "fnExactConstants", apart := false }
def FnExactConstantsSaid : Prop := fnExactConstantsRow.holds Try.pinned (OpenSpec.ofChange fnExactConstantsSpec)

/-- ITS FALSE NEIGHBOUR: 'it returns false'. Refute it at one input. -/
def fnExactConstantsWrong : ChangeSpec := { name := "fnExactConstants", fn := fun _ => fun
  | [] => { results := [.lit (.bool false)], args := [] }
  | _ => none }
def FnExactConstantsWrongFalsely : Prop := fnExactConstantsRow.holds Try.pinned (OpenSpec.ofChange fnExactConstantsWrong)

/-- 'laws.FnExactPageNew': WHATEVER THE INPUT: true; the input reads as it did. -/
def fnExactPageNewSpec : ChangeSpec := { name := "fnExactPageNew", fn := fun _ => fun
  | [] => { results := [.lit (.bool true)], args := [] }
  | _ => none }
def fnExactPageNewRow : OpenClaim := { program := "ytphoilaeeoacnaa", sum := "9c9227c7e7442bf9651f1b5c31c5bea83acfb9427953e029881ef4442fa8675d", func := "loop.example/tabularium/laws.FnExactPageNew", spec := "fnExactPageNew", apart := false }
def FnExactPageNewSaid : Prop := fnExactPageNewRow.holds Try.pinned (OpenSpec.ofChange fnExactPageNewSpec)

/-- ITS FALSE NEIGHBOUR: 'it returns false'. Refute it at one input. -/
def fnExactPageNewWrong : ChangeSpec := { name := "fnExactPageNew", fn := fun _ => fun
  | [] => { results := [.lit (.bool false)], args := [] }
  | _ => none }
def FnExactPageNewWrongFalsely : Prop := fnExactPageNewRow.holds Try.pinned (OpenSpec.ofChange fnExactPageNewWrong)

/-- 'laws.FnExactRecOk': WHATEVER THE INPUT: true; the input reads as it did. -/
def fnExactRecOkSpec : ChangeSpec := { name := "fnExactRecOk", fn := fun _ => fun
  | [d] => { results := [.lit (.bool true)], args := [d] }
  | _ => none }
def fnExactRecOkRow : OpenClaim := { program := "ytphoilaeeoacnaa", sum := "9c9227c7e7442bf9651f1b5c31c5bea83acfb9427953e029881ef4442fa8675d", func := "loop.example/tabularium/laws.FnExactRecOk", spec := "fnExactRecOk", apart := false }
def FnExactRecOkSaid : Prop := fnExactRecOkRow.holds Try.pinned (OpenSpec.ofChange fnExactRecOkSpec)

/-- ITS FALSE NEIGHBOUR: 'it returns false'. Refute it at one input. -/
def fnExactRecOkWrong : ChangeSpec := { name := "fnExactRecOk", fn := fun _ => fun
  | [d] => { results := [.lit (.bool false)], args := [d] }
  | _ => none }
def FnExactRecOkWrongFalsely : Prop := fnExactRecOkRow.holds Try.pinned (OpenSpec.ofChange fnExactRecOkWrong)

/-- 'laws.FnExactPageOk': WHATEVER THE INPUT: true; the input reads as it did. -/
def fnExactPageOkSpec : ChangeSpec := { name := "fnExactPageOk", fn := fun _ => fun
  | [d] => { results := [.lit (.bool true)], args := [d] }
  | _ => none }
def fnExactPageOkRow : OpenClaim := { program := "ytphoilaeeoacnaa", sum := "9c9227c7e7442bf9651f1b5c31c5bea83acfb9427953e029881ef4442fa8675d", func := "loop.example/tabularium/laws.FnExactPageOk", spec := "fnExactPageOk", unfollowed := true, recurses := true, apart := false }
def FnExactPageOkSaid : Prop := fnExactPageOkRow.holds Try.pinned (OpenSpec.ofChange fnExactPageOkSpec)

/-- ITS FALSE NEIGHBOUR: 'it returns false'. Refute it at one input. -/
def fnExactPageOkWrong : ChangeSpec := { name := "fnExactPageOk", fn := fun _ => fun
  | [d] => { results := [.lit (.bool false)], args := [d] }
  | _ => none }
def FnExactPageOkWrongFalsely : Prop := fnExactPageOkRow.holds Try.pinned (OpenSpec.ofChange fnExactPageOkWrong)

/-- 'laws.FnPageForm': WHATEVER THE INPUT: true; the input reads as it did. -/
def fnPageFormSpec : ChangeSpec := { name := "fnPageForm", fn := fun _ => fun
  | [d1, d2] => { results := [.lit (.bool true)], args := [d1, d2] }
  | _ => none }
def fnPageFormRow : OpenClaim := { program := "ytphoilaeeoacnaa", sum := "9c9227c7e7442bf9651f1b5c31c5bea83acfb9427953e029881ef4442fa8675d", func := "loop.example/tabularium/laws.FnPageForm", spec := "fnPageForm", unfollowed := true, recurses := true, apart := false }
def FnPageFormSaid : Prop := fnPageFormRow.holds Try.pinned (OpenSpec.ofChange fnPageFormSpec)

/-- ITS FALSE NEIGHBOUR: 'it returns false'. Refute it at one input. -/
def fnPageFormWrong : ChangeSpec := { name := "fnPageForm", fn := fun _ => fun
  | [d1, d2] => { results := [.lit (.bool false)], args := [d1, d2] }
  | _ => none }
def FnPageFormWrongFalsely : Prop := fnPageFormRow.holds Try.pinned (OpenSpec.ofChange fnPageFormWrong)

/-- 'laws.FnExactPageEmpty': WHATEVER THE INPUT: true; the input reads as it did. -/
def fnExactPageEmptySpec : ChangeSpec := { name := "fnExactPageEmpty", fn := fun _ => fun
  | [d] => { results := [.lit (.bool true)], args := [d] }
  | _ => none }
def fnExactPageEmptyRow : OpenClaim := { program := "ytphoilaeeoacnaa", sum := "9c9227c7e7442bf9651f1b5c31c5bea83acfb9427953e029881ef4442fa8675d", func := "loop.example/tabularium/laws.FnExactPageEmpty", spec := "fnExactPageEmpty", unfollowed := true, recurses := true, apart := false }
def FnExactPageEmptySaid : Prop := fnExactPageEmptyRow.holds Try.pinned (OpenSpec.ofChange fnExactPageEmptySpec)

/-- ITS FALSE NEIGHBOUR: 'it returns false'. Refute it at one input. -/
def fnExactPageEmptyWrong : ChangeSpec := { name := "fnExactPageEmpty", fn := fun _ => fun
  | [d] => { results := [.lit (.bool false)], args := [d] }
  | _ => none }
def FnExactPageEmptyWrongFalsely : Prop := fnExactPageEmptyRow.holds Try.pinned (OpenSpec.ofChange fnExactPageEmptyWrong)

/-- 'laws.FnPageEmpty': WHATEVER THE INPUT: true; the input reads as it did. -/
def fnPageEmptySpec : ChangeSpec := { name := "fnPageEmpty", fn := fun _ => fun
  | [d] => { results := [.lit (.bool true)], args := [d] }
  | _ => none }
def fnPageEmptyRow : OpenClaim := { program := "ytphoilaeeoacnaa", sum := "9c9227c7e7442bf9651f1b5c31c5bea83acfb9427953e029881ef4442fa8675d", func := "loop.example/tabularium/laws.FnPageEmpty", spec := "fnPageEmpty", unfollowed := true, recurses := true, apart := false }
def FnPageEmptySaid : Prop := fnPageEmptyRow.holds Try.pinned (OpenSpec.ofChange fnPageEmptySpec)

/-- ITS FALSE NEIGHBOUR: 'it returns false'. Refute it at one input. -/
def fnPageEmptyWrong : ChangeSpec := { name := "fnPageEmpty", fn := fun _ => fun
  | [d] => { results := [.lit (.bool false)], args := [d] }
  | _ => none }
def FnPageEmptyWrongFalsely : Prop := fnPageEmptyRow.holds Try.pinned (OpenSpec.ofChange fnPageEmptyWrong)

/-- 'laws.FnExactRecBack': WHATEVER THE INPUT: true; the input reads as it did. -/
def fnExactRecBackSpec : ChangeSpec := { name := "fnExactRecBack", fn := fun _ => fun
  | [d1, d2] => { results := [.lit (.bool true)], args := [d1, d2] }
  | _ => none }
def fnExactRecBackRow : OpenClaim := { program := "ytphoilaeeoacnaa", sum := "9c9227c7e7442bf9651f1b5c31c5bea83acfb9427953e029881ef4442fa8675d", func := "loop.example/tabularium/laws.FnExactRecBack", spec := "fnExactRecBack", apart := false }
def FnExactRecBackSaid : Prop := fnExactRecBackRow.holds Try.pinned (OpenSpec.ofChange fnExactRecBackSpec)

/-- ITS FALSE NEIGHBOUR: 'it returns false'. Refute it at one input. -/
def fnExactRecBackWrong : ChangeSpec := { name := "fnExactRecBack", fn := fun _ => fun
  | [d1, d2] => { results := [.lit (.bool false)], args := [d1, d2] }
  | _ => none }
def FnExactRecBackWrongFalsely : Prop := fnExactRecBackRow.holds Try.pinned (OpenSpec.ofChange fnExactRecBackWrong)

/-- 'laws.FnRecForm': WHATEVER THE INPUT: true; the input reads as it did. -/
def fnRecFormSpec : ChangeSpec := { name := "fnRecForm", fn := fun _ => fun
  | [d] => { results := [.lit (.bool true)], args := [d] }
  | _ => none }
def fnRecFormRow : OpenClaim := { program := "ytphoilaeeoacnaa", sum := "9c9227c7e7442bf9651f1b5c31c5bea83acfb9427953e029881ef4442fa8675d", func := "loop.example/tabularium/laws.FnRecForm", spec := "fnRecForm", apart := false }
def FnRecFormSaid : Prop := fnRecFormRow.holds Try.pinned (OpenSpec.ofChange fnRecFormSpec)

/-- ITS FALSE NEIGHBOUR: 'it returns false'. Refute it at one input. -/
def fnRecFormWrong : ChangeSpec := { name := "fnRecForm", fn := fun _ => fun
  | [d] => { results := [.lit (.bool false)], args := [d] }
  | _ => none }
def FnRecFormWrongFalsely : Prop := fnRecFormRow.holds Try.pinned (OpenSpec.ofChange fnRecFormWrong)

/-- 'laws.FnRecNot': WHATEVER THE INPUT: true; the input reads as it did. -/
def fnRecNotSpec : ChangeSpec := { name := "fnRecNot", fn := fun _ => fun
  | [d] => { results := [.lit (.bool true)], args := [d] }
  | _ => none }
def fnRecNotRow : OpenClaim := { program := "ytphoilaeeoacnaa", sum := "9c9227c7e7442bf9651f1b5c31c5bea83acfb9427953e029881ef4442fa8675d", func := "loop.example/tabularium/laws.FnRecNot", spec := "fnRecNot", apart := false }
def FnRecNotSaid : Prop := fnRecNotRow.holds Try.pinned (OpenSpec.ofChange fnRecNotSpec)

/-- ITS FALSE NEIGHBOUR: 'it returns false'. Refute it at one input. -/
def fnRecNotWrong : ChangeSpec := { name := "fnRecNot", fn := fun _ => fun
  | [d] => { results := [.lit (.bool false)], args := [d] }
  | _ => none }
def FnRecNotWrongFalsely : Prop := fnRecNotRow.holds Try.pinned (OpenSpec.ofChange fnRecNotWrong)

/-- 'laws.FnRecUndo': WHATEVER THE INPUT: true; the input reads as it did. -/
def fnRecUndoSpec : ChangeSpec := { name := "fnRecUndo", fn := fun _ => fun
  | [d] => { results := [.lit (.bool true)], args := [d] }
  | _ => none }
def fnRecUndoRow : OpenClaim := { program := "ytphoilaeeoacnaa", sum := "9c9227c7e7442bf9651f1b5c31c5bea83acfb9427953e029881ef4442fa8675d", func := "loop.example/tabularium/laws.FnRecUndo", spec := "fnRecUndo", unfollowed := true, recurses := true, apart := false }
def FnRecUndoSaid : Prop := fnRecUndoRow.holds Try.pinned (OpenSpec.ofChange fnRecUndoSpec)

/-- ITS FALSE NEIGHBOUR: 'it returns false'. Refute it at one input. -/
def fnRecUndoWrong : ChangeSpec := { name := "fnRecUndo", fn := fun _ => fun
  | [d] => { results := [.lit (.bool false)], args := [d] }
  | _ => none }
def FnRecUndoWrongFalsely : Prop := fnRecUndoRow.holds Try.pinned (OpenSpec.ofChange fnRecUndoWrong)

/-- 'laws.FnExactRecDo': WHATEVER THE INPUT: true; the input reads as it did. -/
def fnExactRecDoSpec : ChangeSpec := { name := "fnExactRecDo", fn := fun _ => fun
  | [d1, d2, d3] => { results := [.lit (.bool true)], args := [d1, d2, d3] }
  | _ => none }
def fnExactRecDoRow : OpenClaim := { program := "ytphoilaeeoacnaa", sum := "9c9227c7e7442bf9651f1b5c31c5bea83acfb9427953e029881ef4442fa8675d", func := "loop.example/tabularium/laws.FnExactRecDo", spec := "fnExactRecDo", unfollowed := true, recurses := true, apart := false }
def FnExactRecDoSaid : Prop := fnExactRecDoRow.holds Try.pinned (OpenSpec.ofChange fnExactRecDoSpec)

/-- ITS FALSE NEIGHBOUR: 'it returns false'. Refute it at one input. -/
def fnExactRecDoWrong : ChangeSpec := { name := "fnExactRecDo", fn := fun _ => fun
  | [d1, d2, d3] => { results := [.lit (.bool false)], args := [d1, d2, d3] }
  | _ => none }
def FnExactRecDoWrongFalsely : Prop := fnExactRecDoRow.holds Try.pinned (OpenSpec.ofChange fnExactRecDoWrong)

/- THE SECOND FORM. 'bulk': how many values and letters a reading holds, each counted each time it is reached (what is shared counts as often as it is met; a slice's spare places count too). A statement '..UptoSaid' is the law's where the arguments, and the package variables that the reading takes, are together of bulk at most 1048576: NARROWER than '..Said'. Prove '..Said' where nothing that the law and all that it calls make is longer than what came in: it says more and counts as full. Else prove '..UptoSaid'. A law counts once. -/
mutual
def uptoBulk {H : Type} : DataW H → Nat
  | .lit (.string bytes) => bytes.length + 1
  | .lit _ => 1
  | .nil => 1
  | .ptr d => uptoBulk d + 1
  | .slice elems spare => uptoBulkAll elems + uptoBulkAll spare + 1
  | .agg parts => uptoBulkAll parts + 1
  | .iface _ d => uptoBulk d + 1
  | .map entries => uptoBulkEntries entries + 1
  | .held _ => 1
def uptoBulkAll {H : Type} : List (DataW H) → Nat
  | [] => 0
  | d :: r => uptoBulk d + uptoBulkAll r
def uptoBulkEntries {H : Type} : List (Lit × DataW H) → Nat
  | [] => 0
  | x :: r => uptoBulkEntry x + uptoBulkEntries r
def uptoBulkEntry {H : Type} : Lit × DataW H → Nat
  | (.string bytes, d) => bytes.length + uptoBulk d + 1
  | (_, d) => uptoBulk d + 1
 end
def uptoSmall : (H : Type) → List (DataW H) → Bool := fun _ ds => decide (uptoBulkAll ds ≤ 1048576)
def OpenSpec.upto (s : _root_.Go.ChangeSpec) : _root_.Go.OpenSpec := { _root_.Go.OpenSpec.ofChange s with cond := some uptoSmall }

/-- 'laws.FnExactConstants', WHERE WHAT IT READS IS OF BULK AT MOST 1048576: true; the input reads as it did. -/
def fnExactConstantsUptoRow : OpenClaim := { program := "ytphoilaeeoacnaa", sum := "9c9227c7e7442bf9651f1b5c31c5bea83acfb9427953e029881ef4442fa8675d", func := "loop.example/tabularium/laws.FnExactConstants", spec := "fnExactConstants", apart := false, narrowed := true }
def FnExactConstantsUptoSaid : Prop := fnExactConstantsUptoRow.holds Try.pinned (OpenSpec.upto fnExactConstantsSpec)

/-- 'laws.FnExactPageNew', WHERE WHAT IT READS IS OF BULK AT MOST 1048576: true; the input reads as it did. -/
def fnExactPageNewUptoRow : OpenClaim := { program := "ytphoilaeeoacnaa", sum := "9c9227c7e7442bf9651f1b5c31c5bea83acfb9427953e029881ef4442fa8675d", func := "loop.example/tabularium/laws.FnExactPageNew", spec := "fnExactPageNew", apart := false, narrowed := true }
def FnExactPageNewUptoSaid : Prop := fnExactPageNewUptoRow.holds Try.pinned (OpenSpec.upto fnExactPageNewSpec)

/-- 'laws.FnExactRecOk', WHERE WHAT IT READS IS OF BULK AT MOST 1048576: true; the input reads as it did. -/
def fnExactRecOkUptoRow : OpenClaim := { program := "ytphoilaeeoacnaa", sum := "9c9227c7e7442bf9651f1b5c31c5bea83acfb9427953e029881ef4442fa8675d", func := "loop.example/tabularium/laws.FnExactRecOk", spec := "fnExactRecOk", apart := false, narrowed := true }
def FnExactRecOkUptoSaid : Prop := fnExactRecOkUptoRow.holds Try.pinned (OpenSpec.upto fnExactRecOkSpec)

/-- 'laws.FnExactPageOk', WHERE WHAT IT READS IS OF BULK AT MOST 1048576: true; the input reads as it did. -/
def fnExactPageOkUptoRow : OpenClaim := { program := "ytphoilaeeoacnaa", sum := "9c9227c7e7442bf9651f1b5c31c5bea83acfb9427953e029881ef4442fa8675d", func := "loop.example/tabularium/laws.FnExactPageOk", spec := "fnExactPageOk", unfollowed := true, recurses := true, apart := false, narrowed := true }
def FnExactPageOkUptoSaid : Prop := fnExactPageOkUptoRow.holds Try.pinned (OpenSpec.upto fnExactPageOkSpec)

/-- 'laws.FnPageForm', WHERE WHAT IT READS IS OF BULK AT MOST 1048576: true; the input reads as it did. -/
def fnPageFormUptoRow : OpenClaim := { program := "ytphoilaeeoacnaa", sum := "9c9227c7e7442bf9651f1b5c31c5bea83acfb9427953e029881ef4442fa8675d", func := "loop.example/tabularium/laws.FnPageForm", spec := "fnPageForm", unfollowed := true, recurses := true, apart := false, narrowed := true }
def FnPageFormUptoSaid : Prop := fnPageFormUptoRow.holds Try.pinned (OpenSpec.upto fnPageFormSpec)

/-- 'laws.FnExactPageEmpty', WHERE WHAT IT READS IS OF BULK AT MOST 1048576: true; the input reads as it did. -/
def fnExactPageEmptyUptoRow : OpenClaim := { program := "ytphoilaeeoacnaa", sum := "9c9227c7e7442bf9651f1b5c31c5bea83acfb9427953e029881ef4442fa8675d", func := "loop.example/tabularium/laws.FnExactPageEmpty", spec := "fnExactPageEmpty", unfollowed := true, recurses := true, apart := false, narrowed := true }
def FnExactPageEmptyUptoSaid : Prop := fnExactPageEmptyUptoRow.holds Try.pinned (OpenSpec.upto fnExactPageEmptySpec)

/-- 'laws.FnPageEmpty', WHERE WHAT IT READS IS OF BULK AT MOST 1048576: true; the input reads as it did. -/
def fnPageEmptyUptoRow : OpenClaim := { program := "ytphoilaeeoacnaa", sum := "9c9227c7e7442bf9651f1b5c31c5bea83acfb9427953e029881ef4442fa8675d", func := "loop.example/tabularium/laws.FnPageEmpty", spec := "fnPageEmpty", unfollowed := true, recurses := true, apart := false, narrowed := true }
def FnPageEmptyUptoSaid : Prop := fnPageEmptyUptoRow.holds Try.pinned (OpenSpec.upto fnPageEmptySpec)

/-- 'laws.FnExactRecBack', WHERE WHAT IT READS IS OF BULK AT MOST 1048576: true; the input reads as it did. -/
def fnExactRecBackUptoRow : OpenClaim := { program := "ytphoilaeeoacnaa", sum := "9c9227c7e7442bf9651f1b5c31c5bea83acfb9427953e029881ef4442fa8675d", func := "loop.example/tabularium/laws.FnExactRecBack", spec := "fnExactRecBack", apart := false, narrowed := true }
def FnExactRecBackUptoSaid : Prop := fnExactRecBackUptoRow.holds Try.pinned (OpenSpec.upto fnExactRecBackSpec)

/-- 'laws.FnRecForm', WHERE WHAT IT READS IS OF BULK AT MOST 1048576: true; the input reads as it did. -/
def fnRecFormUptoRow : OpenClaim := { program := "ytphoilaeeoacnaa", sum := "9c9227c7e7442bf9651f1b5c31c5bea83acfb9427953e029881ef4442fa8675d", func := "loop.example/tabularium/laws.FnRecForm", spec := "fnRecForm", apart := false, narrowed := true }
def FnRecFormUptoSaid : Prop := fnRecFormUptoRow.holds Try.pinned (OpenSpec.upto fnRecFormSpec)

/-- 'laws.FnRecNot', WHERE WHAT IT READS IS OF BULK AT MOST 1048576: true; the input reads as it did. -/
def fnRecNotUptoRow : OpenClaim := { program := "ytphoilaeeoacnaa", sum := "9c9227c7e7442bf9651f1b5c31c5bea83acfb9427953e029881ef4442fa8675d", func := "loop.example/tabularium/laws.FnRecNot", spec := "fnRecNot", apart := false, narrowed := true }
def FnRecNotUptoSaid : Prop := fnRecNotUptoRow.holds Try.pinned (OpenSpec.upto fnRecNotSpec)

/-- 'laws.FnRecUndo', WHERE WHAT IT READS IS OF BULK AT MOST 1048576: true; the input reads as it did. -/
def fnRecUndoUptoRow : OpenClaim := { program := "ytphoilaeeoacnaa", sum := "9c9227c7e7442bf9651f1b5c31c5bea83acfb9427953e029881ef4442fa8675d", func := "loop.example/tabularium/laws.FnRecUndo", spec := "fnRecUndo", unfollowed := true, recurses := true, apart := false, narrowed := true }
def FnRecUndoUptoSaid : Prop := fnRecUndoUptoRow.holds Try.pinned (OpenSpec.upto fnRecUndoSpec)

/-- 'laws.FnExactRecDo', WHERE WHAT IT READS IS OF BULK AT MOST 1048576: true; the input reads as it did. -/
def fnExactRecDoUptoRow : OpenClaim := { program := "ytphoilaeeoacnaa", sum := "9c9227c7e7442bf9651f1b5c31c5bea83acfb9427953e029881ef4442fa8675d", func := "loop.example/tabularium/laws.FnExactRecDo", spec := "fnExactRecDo", unfollowed := true, recurses := true, apart := false, narrowed := true }
def FnExactRecDoUptoSaid : Prop := fnExactRecDoUptoRow.holds Try.pinned (OpenSpec.upto fnExactRecDoSpec)

end Rows
end Go.Proofs.Ytphoilaeeoacnaa
