/-
  No cell of these rows narrows 'for every input' (looked for: loops, veiled, ifaces, maps, wideKeys, modest, calm, conditions, laid).
  DERIVED. THE GIVEN ROWS OF THIS SEAT. 5 by the template 'for every input the law returns true; each argument reads behind the call as it read before'; 0 by the template 'total and deterministic' (their statements: YtphnphmbfogmlaaGreatTotals.lean).
  GIVEN WITH THE SEED: the statements are not yours to turn. If you find one false, say at which input.
  Laid BY PROGRAM, IN A SANDBOX (cutbox-rows.mjs): the forced cells as the released guide's own fill.sh prints them over the translation c5f7a692d0c3edd2… (all of the seat's roots in one cut). By AI agents, Wed Nov 11 2026. No macro, syntax, notation, axiom, sorry.
-/
import Derived.Test.YtphnphmbfogmlaaGreatChecked
import GoSem.Claim
import GoSem.ClaimJoined
import GoSem.ClaimMapViews
import Derived.JoinedTies
import Derived.KernelRfl
namespace Go.Proofs.YtphnphmbfogmlaaGreat
/- THE CELL 'sum', in the pinned program and in every row, IS THE sha256 OF THE DUMP (.gsa) THAT YtphnphmbfogmlaaGreatProg.lean LOADS. Nothing in Lean hashes anything: it is a label: what it is worth is what the hold of that sum in a sandbox is worth. -/
noncomputable def Tryz.pinned : Pinned := { name := "ytphnphmbfogmlaagreat", sum := "c5f7a692d0c3edd2b8aa50f2f9633e5745d0083f92dedac53145916aad21c789", checked := Tryz.checked }
namespace Rows
def none {H : Type} : Left H := { results := [], args := [] }

/-- 'laws.FnExactEngineLock': WHATEVER THE INPUT: true; the input reads as it did. -/
def fnExactEngineLockSpec : ChangeSpec := { name := "fnExactEngineLock", fn := fun _ => fun
  | [d1, d2] => { results := [.lit (.bool true)], args := [d1, d2] }
  | _ => none }
def fnExactEngineLockRow : OpenClaim := { program := "ytphnphmbfogmlaagreat", sum := "c5f7a692d0c3edd2b8aa50f2f9633e5745d0083f92dedac53145916aad21c789", func := "loop.example/tabularium/laws.FnExactEngineLock", spec := "fnExactEngineLock", unfollowed := true, recurses := true, apart := false }
def FnExactEngineLockSaid : Prop := fnExactEngineLockRow.holds Tryz.pinned (OpenSpec.ofChange fnExactEngineLockSpec)

/-- ITS FALSE NEIGHBOUR: 'it returns false'. Refute it at one input. -/
def fnExactEngineLockWrong : ChangeSpec := { name := "fnExactEngineLock", fn := fun _ => fun
  | [d1, d2] => { results := [.lit (.bool false)], args := [d1, d2] }
  | _ => none }
def FnExactEngineLockWrongFalsely : Prop := fnExactEngineLockRow.holds Tryz.pinned (OpenSpec.ofChange fnExactEngineLockWrong)

/-- 'laws.FnExactEngineSum': WHATEVER THE INPUT: true; the input reads as it did. -/
def fnExactEngineSumSpec : ChangeSpec := { name := "fnExactEngineSum", fn := fun _ => fun
  | [d1, d2] => { results := [.lit (.bool true)], args := [d1, d2] }
  | _ => none }
def fnExactEngineSumRow : OpenClaim := { program := "ytphnphmbfogmlaagreat", sum := "c5f7a692d0c3edd2b8aa50f2f9633e5745d0083f92dedac53145916aad21c789", func := "loop.example/tabularium/laws.FnExactEngineSum", spec := "fnExactEngineSum", unfollowed := true, recurses := true, apart := false }
def FnExactEngineSumSaid : Prop := fnExactEngineSumRow.holds Tryz.pinned (OpenSpec.ofChange fnExactEngineSumSpec)

/-- ITS FALSE NEIGHBOUR: 'it returns false'. Refute it at one input. -/
def fnExactEngineSumWrong : ChangeSpec := { name := "fnExactEngineSum", fn := fun _ => fun
  | [d1, d2] => { results := [.lit (.bool false)], args := [d1, d2] }
  | _ => none }
def FnExactEngineSumWrongFalsely : Prop := fnExactEngineSumRow.holds Tryz.pinned (OpenSpec.ofChange fnExactEngineSumWrong)

/-- 'laws.FnExactEngineDirty': WHATEVER THE INPUT: true; the input reads as it did. -/
def fnExactEngineDirtySpec : ChangeSpec := { name := "fnExactEngineDirty", fn := fun _ => fun
  | [d] => { results := [.lit (.bool true)], args := [d] }
  | _ => none }
def fnExactEngineDirtyRow : OpenClaim := { program := "ytphnphmbfogmlaagreat", sum := "c5f7a692d0c3edd2b8aa50f2f9633e5745d0083f92dedac53145916aad21c789", func := "loop.example/tabularium/laws.FnExactEngineDirty", spec := "fnExactEngineDirty", unfollowed := true, recurses := true, apart := false }
def FnExactEngineDirtySaid : Prop := fnExactEngineDirtyRow.holds Tryz.pinned (OpenSpec.ofChange fnExactEngineDirtySpec)

/-- ITS FALSE NEIGHBOUR: 'it returns false'. Refute it at one input. -/
def fnExactEngineDirtyWrong : ChangeSpec := { name := "fnExactEngineDirty", fn := fun _ => fun
  | [d] => { results := [.lit (.bool false)], args := [d] }
  | _ => none }
def FnExactEngineDirtyWrongFalsely : Prop := fnExactEngineDirtyRow.holds Tryz.pinned (OpenSpec.ofChange fnExactEngineDirtyWrong)

/-- 'laws.FnExactEngineRedo': WHATEVER THE INPUT: true; the input reads as it did. -/
def fnExactEngineRedoSpec : ChangeSpec := { name := "fnExactEngineRedo", fn := fun _ => fun
  | [d] => { results := [.lit (.bool true)], args := [d] }
  | _ => none }
def fnExactEngineRedoRow : OpenClaim := { program := "ytphnphmbfogmlaagreat", sum := "c5f7a692d0c3edd2b8aa50f2f9633e5745d0083f92dedac53145916aad21c789", func := "loop.example/tabularium/laws.FnExactEngineRedo", spec := "fnExactEngineRedo", unfollowed := true, recurses := true, apart := false }
def FnExactEngineRedoSaid : Prop := fnExactEngineRedoRow.holds Tryz.pinned (OpenSpec.ofChange fnExactEngineRedoSpec)

/-- ITS FALSE NEIGHBOUR: 'it returns false'. Refute it at one input. -/
def fnExactEngineRedoWrong : ChangeSpec := { name := "fnExactEngineRedo", fn := fun _ => fun
  | [d] => { results := [.lit (.bool false)], args := [d] }
  | _ => none }
def FnExactEngineRedoWrongFalsely : Prop := fnExactEngineRedoRow.holds Tryz.pinned (OpenSpec.ofChange fnExactEngineRedoWrong)

/-- 'laws.FnExactEngineOk': WHATEVER THE INPUT: true; the input reads as it did. -/
def fnExactEngineOkSpec : ChangeSpec := { name := "fnExactEngineOk", fn := fun _ => fun
  | [d] => { results := [.lit (.bool true)], args := [d] }
  | _ => none }
def fnExactEngineOkRow : OpenClaim := { program := "ytphnphmbfogmlaagreat", sum := "c5f7a692d0c3edd2b8aa50f2f9633e5745d0083f92dedac53145916aad21c789", func := "loop.example/tabularium/laws.FnExactEngineOk", spec := "fnExactEngineOk", unfollowed := true, recurses := true, apart := false }
def FnExactEngineOkSaid : Prop := fnExactEngineOkRow.holds Tryz.pinned (OpenSpec.ofChange fnExactEngineOkSpec)

/-- ITS FALSE NEIGHBOUR: 'it returns false'. Refute it at one input. -/
def fnExactEngineOkWrong : ChangeSpec := { name := "fnExactEngineOk", fn := fun _ => fun
  | [d] => { results := [.lit (.bool false)], args := [d] }
  | _ => none }
def FnExactEngineOkWrongFalsely : Prop := fnExactEngineOkRow.holds Tryz.pinned (OpenSpec.ofChange fnExactEngineOkWrong)

/- THE SECOND FORM. 'bulk': how many values and letters a reading holds, each counted each time it is reached (what is shared counts as often as it is met; a slice's spare places count too). A statement '..UptoSaid' is the law's where the arguments, and the package variables that the reading takes, are together of bulk at most 1048576: NARROWER than '..Said'. Prove '..Said' where nothing that the law and all that it calls make is longer than what came in: it says more and counts as full. Else prove '..UptoSaid'. A law counts once. -/
mutual
def uptoBulk {H : Type} : DataW H → Nat
  | .lit (.string bytes) => bytes.length + 1
  | .lit _ => 1
  | .nil => 1
  | .ptr d => uptoBulk d + 1
  | .slice elems spare => uptoBulkAll elems + uptoBulkAll spare + 1
  | .agg parts => uptoBulkAll parts + 1
  | .iface _ d => uptoBulk d + 1
  | .map entries => uptoBulkEntries entries + 1
  | .held _ => 1
def uptoBulkAll {H : Type} : List (DataW H) → Nat
  | [] => 0
  | d :: r => uptoBulk d + uptoBulkAll r
def uptoBulkEntries {H : Type} : List (Lit × DataW H) → Nat
  | [] => 0
  | x :: r => uptoBulkEntry x + uptoBulkEntries r
def uptoBulkEntry {H : Type} : Lit × DataW H → Nat
  | (.string bytes, d) => bytes.length + uptoBulk d + 1
  | (_, d) => uptoBulk d + 1
 end
def uptoSmall : (H : Type) → List (DataW H) → Bool := fun _ ds => decide (uptoBulkAll ds ≤ 1048576)
def OpenSpec.upto (s : _root_.Go.ChangeSpec) : _root_.Go.OpenSpec := { _root_.Go.OpenSpec.ofChange s with cond := some uptoSmall }

/-- 'laws.FnExactEngineLock', WHERE WHAT IT READS IS OF BULK AT MOST 1048576: true; the input reads as it did. -/
def fnExactEngineLockUptoRow : OpenClaim := { program := "ytphnphmbfogmlaagreat", sum := "c5f7a692d0c3edd2b8aa50f2f9633e5745d0083f92dedac53145916aad21c789", func := "loop.example/tabularium/laws.FnExactEngineLock", spec := "fnExactEngineLock", unfollowed := true, recurses := true, apart := false, narrowed := true }
def FnExactEngineLockUptoSaid : Prop := fnExactEngineLockUptoRow.holds Tryz.pinned (OpenSpec.upto fnExactEngineLockSpec)

/-- 'laws.FnExactEngineSum', WHERE WHAT IT READS IS OF BULK AT MOST 1048576: true; the input reads as it did. -/
def fnExactEngineSumUptoRow : OpenClaim := { program := "ytphnphmbfogmlaagreat", sum := "c5f7a692d0c3edd2b8aa50f2f9633e5745d0083f92dedac53145916aad21c789", func := "loop.example/tabularium/laws.FnExactEngineSum", spec := "fnExactEngineSum", unfollowed := true, recurses := true, apart := false, narrowed := true }
def FnExactEngineSumUptoSaid : Prop := fnExactEngineSumUptoRow.holds Tryz.pinned (OpenSpec.upto fnExactEngineSumSpec)

/-- 'laws.FnExactEngineDirty', WHERE WHAT IT READS IS OF BULK AT MOST 1048576: true; the input reads as it did. -/
def fnExactEngineDirtyUptoRow : OpenClaim := { program := "ytphnphmbfogmlaagreat", sum := "c5f7a692d0c3edd2b8aa50f2f9633e5745d0083f92dedac53145916aad21c789", func := "loop.example/tabularium/laws.FnExactEngineDirty", spec := "fnExactEngineDirty", unfollowed := true, recurses := true, apart := false, narrowed := true }
def FnExactEngineDirtyUptoSaid : Prop := fnExactEngineDirtyUptoRow.holds Tryz.pinned (OpenSpec.upto fnExactEngineDirtySpec)

/-- 'laws.FnExactEngineRedo', WHERE WHAT IT READS IS OF BULK AT MOST 1048576: true; the input reads as it did. -/
def fnExactEngineRedoUptoRow : OpenClaim := { program := "ytphnphmbfogmlaagreat", sum := "c5f7a692d0c3edd2b8aa50f2f9633e5745d0083f92dedac53145916aad21c789", func := "loop.example/tabularium/laws.FnExactEngineRedo", spec := "fnExactEngineRedo", unfollowed := true, recurses := true, apart := false, narrowed := true }
def FnExactEngineRedoUptoSaid : Prop := fnExactEngineRedoUptoRow.holds Tryz.pinned (OpenSpec.upto fnExactEngineRedoSpec)

/-- 'laws.FnExactEngineOk', WHERE WHAT IT READS IS OF BULK AT MOST 1048576: true; the input reads as it did. -/
def fnExactEngineOkUptoRow : OpenClaim := { program := "ytphnphmbfogmlaagreat", sum := "c5f7a692d0c3edd2b8aa50f2f9633e5745d0083f92dedac53145916aad21c789", func := "loop.example/tabularium/laws.FnExactEngineOk", spec := "fnExactEngineOk", unfollowed := true, recurses := true, apart := false, narrowed := true }
def FnExactEngineOkUptoSaid : Prop := fnExactEngineOkUptoRow.holds Tryz.pinned (OpenSpec.upto fnExactEngineOkSpec)

end Rows
end Go.Proofs.YtphnphmbfogmlaaGreat
