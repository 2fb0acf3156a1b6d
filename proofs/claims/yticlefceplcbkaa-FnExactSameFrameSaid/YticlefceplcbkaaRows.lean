/-
  No cell of these rows narrows 'for every input' (looked for: loops, veiled, ifaces, maps, wideKeys, modest, calm, conditions, laid).
  DERIVED. THE GIVEN ROWS OF THIS SEAT. 12 by the template 'for every input the law returns true; each argument reads behind the call as it read before'; 0 by the template 'total and deterministic' (their statements: YticlefceplcbkaaTotals.lean).
  GIVEN WITH THE SEED: the statements are not yours to turn. If you find one false, say at which input.
  Laid BY PROGRAM, IN A SANDBOX (cutbox-rows.mjs): the forced cells as the released guide's own fill.sh prints them over the translation 9ccaca11a50dd619… (all of the seat's roots in one cut). By AI agents, Wed Nov 11 2026. No macro, syntax, notation, axiom, sorry.
-/
import Derived.Test.YticlefceplcbkaaChecked
import GoSem.Claim
import GoSem.ClaimJoined
import GoSem.ClaimMapViews
import Derived.JoinedTies
import Derived.KernelRfl
namespace Go.Proofs.Yticlefceplcbkaa
/- THE CELL 'sum', in the pinned program and in every row, IS THE sha256 OF THE DUMP (.gsa) THAT YticlefceplcbkaaProg.lean LOADS. Nothing in Lean hashes anything: it is a label: what it is worth is what the hold of that sum in a sandbox is worth. -/
noncomputable def Try.pinned : Pinned := { name := "yticlefceplcbkaa", sum := "9ccaca11a50dd619d7bf465f6950f4c6aca55165b49a4c822663d34defabd7c7", checked := Try.checked }
namespace Rows
def none {H : Type} : Left H := { results := [], args := [] }

/-- 'laws.FnExactConstants': WHATEVER THE INPUT: true; the input reads as it did. -/
def fnExactConstantsSpec : ChangeSpec := { name := "fnExactConstants", fn := fun _ => fun
  | [] => { results := [.lit (.bool true)], args := [] }
  | _ => none }
def fnExactConstantsRow : OpenClaim := { program := "yticlefceplcbkaa", sum := "9ccaca11a50dd619d7bf465f6950f4c6aca55165b49a4c822663d34defabd7c7", func := "loop.example/g00326/laws.FnExactConstants", spec := "fnExactConstants", apart := false }
def FnExactConstantsSaid : Prop := fnExactConstantsRow.holds Try.pinned (OpenSpec.ofChange fnExactConstantsSpec)

/-- ITS FALSE NEIGHBOUR: 'it returns false'. Refute it at one input. -/
def fnExactConstantsWrong : ChangeSpec := { name := "fnExactConstants", fn := fun _ => fun
  | [] => { results := [.lit (.bool false)], args := [] }
  | _ => none }
def FnExactConstantsWrongFalsely : Prop := fnExactConstantsRow.holds Try.pinned (OpenSpec.ofChange fnExactConstantsWrong)

/-- 'laws.FnExactVecOk': WHATEVER THE INPUT: true; the input reads as it did. -/
def fnExactVecOkSpec : ChangeSpec := { name := "fnExactVecOk", fn := fun _ => fun
  | [d] => { results := [.lit (.bool true)], args := [d] }
  | _ => none }
def fnExactVecOkRow : OpenClaim := { program := "yticlefceplcbkaa", sum := "9ccaca11a50dd619d7bf465f6950f4c6aca55165b49a4c822663d34defabd7c7", func := "loop.example/g00326/laws.FnExactVecOk", spec := "fnExactVecOk", apart := false }
def FnExactVecOkSaid : Prop := fnExactVecOkRow.holds Try.pinned (OpenSpec.ofChange fnExactVecOkSpec)

/-- ITS FALSE NEIGHBOUR: 'it returns false'. Refute it at one input. -/
def fnExactVecOkWrong : ChangeSpec := { name := "fnExactVecOk", fn := fun _ => fun
  | [d] => { results := [.lit (.bool false)], args := [d] }
  | _ => none }
def FnExactVecOkWrongFalsely : Prop := fnExactVecOkRow.holds Try.pinned (OpenSpec.ofChange fnExactVecOkWrong)

/-- 'laws.FnExactLessVec': WHATEVER THE INPUT: true; the input reads as it did. -/
def fnExactLessVecSpec : ChangeSpec := { name := "fnExactLessVec", fn := fun _ => fun
  | [d1, d2] => { results := [.lit (.bool true)], args := [d1, d2] }
  | _ => none }
def fnExactLessVecRow : OpenClaim := { program := "yticlefceplcbkaa", sum := "9ccaca11a50dd619d7bf465f6950f4c6aca55165b49a4c822663d34defabd7c7", func := "loop.example/g00326/laws.FnExactLessVec", spec := "fnExactLessVec", apart := false }
def FnExactLessVecSaid : Prop := fnExactLessVecRow.holds Try.pinned (OpenSpec.ofChange fnExactLessVecSpec)

/-- ITS FALSE NEIGHBOUR: 'it returns false'. Refute it at one input. -/
def fnExactLessVecWrong : ChangeSpec := { name := "fnExactLessVec", fn := fun _ => fun
  | [d1, d2] => { results := [.lit (.bool false)], args := [d1, d2] }
  | _ => none }
def FnExactLessVecWrongFalsely : Prop := fnExactLessVecRow.holds Try.pinned (OpenSpec.ofChange fnExactLessVecWrong)

/-- 'laws.FnExactLessOid': WHATEVER THE INPUT: true; the input reads as it did. -/
def fnExactLessOidSpec : ChangeSpec := { name := "fnExactLessOid", fn := fun _ => fun
  | [d1, d2] => { results := [.lit (.bool true)], args := [d1, d2] }
  | _ => none }
def fnExactLessOidRow : OpenClaim := { program := "yticlefceplcbkaa", sum := "9ccaca11a50dd619d7bf465f6950f4c6aca55165b49a4c822663d34defabd7c7", func := "loop.example/g00326/laws.FnExactLessOid", spec := "fnExactLessOid", apart := false }
def FnExactLessOidSaid : Prop := fnExactLessOidRow.holds Try.pinned (OpenSpec.ofChange fnExactLessOidSpec)

/-- ITS FALSE NEIGHBOUR: 'it returns false'. Refute it at one input. -/
def fnExactLessOidWrong : ChangeSpec := { name := "fnExactLessOid", fn := fun _ => fun
  | [d1, d2] => { results := [.lit (.bool false)], args := [d1, d2] }
  | _ => none }
def FnExactLessOidWrongFalsely : Prop := fnExactLessOidRow.holds Try.pinned (OpenSpec.ofChange fnExactLessOidWrong)

/-- 'laws.FnExactOidOk': WHATEVER THE INPUT: true; the input reads as it did. -/
def fnExactOidOkSpec : ChangeSpec := { name := "fnExactOidOk", fn := fun _ => fun
  | [d] => { results := [.lit (.bool true)], args := [d] }
  | _ => none }
def fnExactOidOkRow : OpenClaim := { program := "yticlefceplcbkaa", sum := "9ccaca11a50dd619d7bf465f6950f4c6aca55165b49a4c822663d34defabd7c7", func := "loop.example/g00326/laws.FnExactOidOk", spec := "fnExactOidOk", apart := false }
def FnExactOidOkSaid : Prop := fnExactOidOkRow.holds Try.pinned (OpenSpec.ofChange fnExactOidOkSpec)

/-- ITS FALSE NEIGHBOUR: 'it returns false'. Refute it at one input. -/
def fnExactOidOkWrong : ChangeSpec := { name := "fnExactOidOk", fn := fun _ => fun
  | [d] => { results := [.lit (.bool false)], args := [d] }
  | _ => none }
def FnExactOidOkWrongFalsely : Prop := fnExactOidOkRow.holds Try.pinned (OpenSpec.ofChange fnExactOidOkWrong)

/-- 'laws.FnExactSameOid': WHATEVER THE INPUT: true; the input reads as it did. -/
def fnExactSameOidSpec : ChangeSpec := { name := "fnExactSameOid", fn := fun _ => fun
  | [d1, d2] => { results := [.lit (.bool true)], args := [d1, d2] }
  | _ => none }
def fnExactSameOidRow : OpenClaim := { program := "yticlefceplcbkaa", sum := "9ccaca11a50dd619d7bf465f6950f4c6aca55165b49a4c822663d34defabd7c7", func := "loop.example/g00326/laws.FnExactSameOid", spec := "fnExactSameOid", apart := false }
def FnExactSameOidSaid : Prop := fnExactSameOidRow.holds Try.pinned (OpenSpec.ofChange fnExactSameOidSpec)

/-- ITS FALSE NEIGHBOUR: 'it returns false'. Refute it at one input. -/
def fnExactSameOidWrong : ChangeSpec := { name := "fnExactSameOid", fn := fun _ => fun
  | [d1, d2] => { results := [.lit (.bool false)], args := [d1, d2] }
  | _ => none }
def FnExactSameOidWrongFalsely : Prop := fnExactSameOidRow.holds Try.pinned (OpenSpec.ofChange fnExactSameOidWrong)

/-- 'laws.FnExactBelow': WHATEVER THE INPUT: true; the input reads as it did. -/
def fnExactBelowSpec : ChangeSpec := { name := "fnExactBelow", fn := fun _ => fun
  | [d1, d2] => { results := [.lit (.bool true)], args := [d1, d2] }
  | _ => none }
def fnExactBelowRow : OpenClaim := { program := "yticlefceplcbkaa", sum := "9ccaca11a50dd619d7bf465f6950f4c6aca55165b49a4c822663d34defabd7c7", func := "loop.example/g00326/laws.FnExactBelow", spec := "fnExactBelow", apart := false }
def FnExactBelowSaid : Prop := fnExactBelowRow.holds Try.pinned (OpenSpec.ofChange fnExactBelowSpec)

/-- ITS FALSE NEIGHBOUR: 'it returns false'. Refute it at one input. -/
def fnExactBelowWrong : ChangeSpec := { name := "fnExactBelow", fn := fun _ => fun
  | [d1, d2] => { results := [.lit (.bool false)], args := [d1, d2] }
  | _ => none }
def FnExactBelowWrongFalsely : Prop := fnExactBelowRow.holds Try.pinned (OpenSpec.ofChange fnExactBelowWrong)

/-- 'laws.FnExactPutInt': WHATEVER THE INPUT: true; the input reads as it did. -/
def fnExactPutIntSpec : ChangeSpec := { name := "fnExactPutInt", fn := fun _ => fun
  | [d] => { results := [.lit (.bool true)], args := [d] }
  | _ => none }
def fnExactPutIntRow : OpenClaim := { program := "yticlefceplcbkaa", sum := "9ccaca11a50dd619d7bf465f6950f4c6aca55165b49a4c822663d34defabd7c7", func := "loop.example/g00326/laws.FnExactPutInt", spec := "fnExactPutInt", apart := false }
def FnExactPutIntSaid : Prop := fnExactPutIntRow.holds Try.pinned (OpenSpec.ofChange fnExactPutIntSpec)

/-- ITS FALSE NEIGHBOUR: 'it returns false'. Refute it at one input. -/
def fnExactPutIntWrong : ChangeSpec := { name := "fnExactPutInt", fn := fun _ => fun
  | [d] => { results := [.lit (.bool false)], args := [d] }
  | _ => none }
def FnExactPutIntWrongFalsely : Prop := fnExactPutIntRow.holds Try.pinned (OpenSpec.ofChange fnExactPutIntWrong)

/-- 'laws.FnExactStepVec': WHATEVER THE INPUT: true; the input reads as it did. -/
def fnExactStepVecSpec : ChangeSpec := { name := "fnExactStepVec", fn := fun _ => fun
  | [d1, d2] => { results := [.lit (.bool true)], args := [d1, d2] }
  | _ => none }
def fnExactStepVecRow : OpenClaim := { program := "yticlefceplcbkaa", sum := "9ccaca11a50dd619d7bf465f6950f4c6aca55165b49a4c822663d34defabd7c7", func := "loop.example/g00326/laws.FnExactStepVec", spec := "fnExactStepVec", apart := false }
def FnExactStepVecSaid : Prop := fnExactStepVecRow.holds Try.pinned (OpenSpec.ofChange fnExactStepVecSpec)

/-- ITS FALSE NEIGHBOUR: 'it returns false'. Refute it at one input. -/
def fnExactStepVecWrong : ChangeSpec := { name := "fnExactStepVec", fn := fun _ => fun
  | [d1, d2] => { results := [.lit (.bool false)], args := [d1, d2] }
  | _ => none }
def FnExactStepVecWrongFalsely : Prop := fnExactStepVecRow.holds Try.pinned (OpenSpec.ofChange fnExactStepVecWrong)

/-- 'laws.FnExactSameFrame': WHATEVER THE INPUT: true; the input reads as it did. -/
def fnExactSameFrameSpec : ChangeSpec := { name := "fnExactSameFrame", fn := fun _ => fun
  | [d1, d2] => { results := [.lit (.bool true)], args := [d1, d2] }
  | _ => none }
def fnExactSameFrameRow : OpenClaim := { program := "yticlefceplcbkaa", sum := "9ccaca11a50dd619d7bf465f6950f4c6aca55165b49a4c822663d34defabd7c7", func := "loop.example/g00326/laws.FnExactSameFrame", spec := "fnExactSameFrame", apart := false }
def FnExactSameFrameSaid : Prop := fnExactSameFrameRow.holds Try.pinned (OpenSpec.ofChange fnExactSameFrameSpec)

/-- ITS FALSE NEIGHBOUR: 'it returns false'. Refute it at one input. -/
def fnExactSameFrameWrong : ChangeSpec := { name := "fnExactSameFrame", fn := fun _ => fun
  | [d1, d2] => { results := [.lit (.bool false)], args := [d1, d2] }
  | _ => none }
def FnExactSameFrameWrongFalsely : Prop := fnExactSameFrameRow.holds Try.pinned (OpenSpec.ofChange fnExactSameFrameWrong)

/-- 'laws.FnExactPutTlv': WHATEVER THE INPUT: true; the input reads as it did. -/
def fnExactPutTlvSpec : ChangeSpec := { name := "fnExactPutTlv", fn := fun _ => fun
  | [d1, d2, d3] => { results := [.lit (.bool true)], args := [d1, d2, d3] }
  | _ => none }
def fnExactPutTlvRow : OpenClaim := { program := "yticlefceplcbkaa", sum := "9ccaca11a50dd619d7bf465f6950f4c6aca55165b49a4c822663d34defabd7c7", func := "loop.example/g00326/laws.FnExactPutTlv", spec := "fnExactPutTlv", apart := false }
def FnExactPutTlvSaid : Prop := fnExactPutTlvRow.holds Try.pinned (OpenSpec.ofChange fnExactPutTlvSpec)

/-- ITS FALSE NEIGHBOUR: 'it returns false'. Refute it at one input. -/
def fnExactPutTlvWrong : ChangeSpec := { name := "fnExactPutTlv", fn := fun _ => fun
  | [d1, d2, d3] => { results := [.lit (.bool false)], args := [d1, d2, d3] }
  | _ => none }
def FnExactPutTlvWrongFalsely : Prop := fnExactPutTlvRow.holds Try.pinned (OpenSpec.ofChange fnExactPutTlvWrong)

/-- 'laws.FnExactFrameOk': WHATEVER THE INPUT: true; the input reads as it did. -/
def fnExactFrameOkSpec : ChangeSpec := { name := "fnExactFrameOk", fn := fun _ => fun
  | [d] => { results := [.lit (.bool true)], args := [d] }
  | _ => none }
def fnExactFrameOkRow : OpenClaim := { program := "yticlefceplcbkaa", sum := "9ccaca11a50dd619d7bf465f6950f4c6aca55165b49a4c822663d34defabd7c7", func := "loop.example/g00326/laws.FnExactFrameOk", spec := "fnExactFrameOk", apart := false }
def FnExactFrameOkSaid : Prop := fnExactFrameOkRow.holds Try.pinned (OpenSpec.ofChange fnExactFrameOkSpec)

/-- ITS FALSE NEIGHBOUR: 'it returns false'. Refute it at one input. -/
def fnExactFrameOkWrong : ChangeSpec := { name := "fnExactFrameOk", fn := fun _ => fun
  | [d] => { results := [.lit (.bool false)], args := [d] }
  | _ => none }
def FnExactFrameOkWrongFalsely : Prop := fnExactFrameOkRow.holds Try.pinned (OpenSpec.ofChange fnExactFrameOkWrong)

/- THE SECOND FORM. 'bulk': how many values and letters a reading holds, each counted each time it is reached (what is shared counts as often as it is met; a slice's spare places count too). A statement '..UptoSaid' is the law's where the arguments, and the package variables that the reading takes, are together of bulk at most 1048576: NARROWER than '..Said'. Prove '..Said' where nothing that the law and all that it calls make is longer than what came in: it says more and counts as full. Else prove '..UptoSaid'. A law counts once. -/
mutual
def uptoBulk {H : Type} : DataW H → Nat
  | .lit (.string bytes) => bytes.length + 1
  | .lit _ => 1
  | .nil => 1
  | .ptr d => uptoBulk d + 1
  | .slice elems spare => uptoBulkAll elems + uptoBulkAll spare + 1
  | .agg parts => uptoBulkAll parts + 1
  | .iface _ d => uptoBulk d + 1
  | .map entries => uptoBulkEntries entries + 1
  | .held _ => 1
def uptoBulkAll {H : Type} : List (DataW H) → Nat
  | [] => 0
  | d :: r => uptoBulk d + uptoBulkAll r
def uptoBulkEntries {H : Type} : List (Lit × DataW H) → Nat
  | [] => 0
  | x :: r => uptoBulkEntry x + uptoBulkEntries r
def uptoBulkEntry {H : Type} : Lit × DataW H → Nat
  | (.string bytes, d) => bytes.length + uptoBulk d + 1
  | (_, d) => uptoBulk d + 1
 end
def uptoSmall : (H : Type) → List (DataW H) → Bool := fun _ ds => decide (uptoBulkAll ds ≤ 1048576)
def OpenSpec.upto (s : _root_.Go.ChangeSpec) : _root_.Go.OpenSpec := { _root_.Go.OpenSpec.ofChange s with cond := some uptoSmall }

/-- 'laws.FnExactConstants', WHERE WHAT IT READS IS OF BULK AT MOST 1048576: true; the input reads as it did. -/
def fnExactConstantsUptoRow : OpenClaim := { program := "yticlefceplcbkaa", sum := "9ccaca11a50dd619d7bf465f6950f4c6aca55165b49a4c822663d34defabd7c7", func := "loop.example/g00326/laws.FnExactConstants", spec := "fnExactConstants", apart := false, narrowed := true }
def FnExactConstantsUptoSaid : Prop := fnExactConstantsUptoRow.holds Try.pinned (OpenSpec.upto fnExactConstantsSpec)

/-- 'laws.FnExactVecOk', WHERE WHAT IT READS IS OF BULK AT MOST 1048576: true; the input reads as it did. -/
def fnExactVecOkUptoRow : OpenClaim := { program := "yticlefceplcbkaa", sum := "9ccaca11a50dd619d7bf465f6950f4c6aca55165b49a4c822663d34defabd7c7", func := "loop.example/g00326/laws.FnExactVecOk", spec := "fnExactVecOk", apart := false, narrowed := true }
def FnExactVecOkUptoSaid : Prop := fnExactVecOkUptoRow.holds Try.pinned (OpenSpec.upto fnExactVecOkSpec)

/-- 'laws.FnExactLessVec', WHERE WHAT IT READS IS OF BULK AT MOST 1048576: true; the input reads as it did. -/
def fnExactLessVecUptoRow : OpenClaim := { program := "yticlefceplcbkaa", sum := "9ccaca11a50dd619d7bf465f6950f4c6aca55165b49a4c822663d34defabd7c7", func := "loop.example/g00326/laws.FnExactLessVec", spec := "fnExactLessVec", apart := false, narrowed := true }
def FnExactLessVecUptoSaid : Prop := fnExactLessVecUptoRow.holds Try.pinned (OpenSpec.upto fnExactLessVecSpec)

/-- 'laws.FnExactLessOid', WHERE WHAT IT READS IS OF BULK AT MOST 1048576: true; the input reads as it did. -/
def fnExactLessOidUptoRow : OpenClaim := { program := "yticlefceplcbkaa", sum := "9ccaca11a50dd619d7bf465f6950f4c6aca55165b49a4c822663d34defabd7c7", func := "loop.example/g00326/laws.FnExactLessOid", spec := "fnExactLessOid", apart := false, narrowed := true }
def FnExactLessOidUptoSaid : Prop := fnExactLessOidUptoRow.holds Try.pinned (OpenSpec.upto fnExactLessOidSpec)

/-- 'laws.FnExactOidOk', WHERE WHAT IT READS IS OF BULK AT MOST 1048576: true; the input reads as it did. -/
def fnExactOidOkUptoRow : OpenClaim := { program := "yticlefceplcbkaa", sum := "9ccaca11a50dd619d7bf465f6950f4c6aca55165b49a4c822663d34defabd7c7", func := "loop.example/g00326/laws.FnExactOidOk", spec := "fnExactOidOk", apart := false, narrowed := true }
def FnExactOidOkUptoSaid : Prop := fnExactOidOkUptoRow.holds Try.pinned (OpenSpec.upto fnExactOidOkSpec)

/-- 'laws.FnExactSameOid', WHERE WHAT IT READS IS OF BULK AT MOST 1048576: true; the input reads as it did. -/
def fnExactSameOidUptoRow : OpenClaim := { program := "yticlefceplcbkaa", sum := "9ccaca11a50dd619d7bf465f6950f4c6aca55165b49a4c822663d34defabd7c7", func := "loop.example/g00326/laws.FnExactSameOid", spec := "fnExactSameOid", apart := false, narrowed := true }
def FnExactSameOidUptoSaid : Prop := fnExactSameOidUptoRow.holds Try.pinned (OpenSpec.upto fnExactSameOidSpec)

/-- 'laws.FnExactBelow', WHERE WHAT IT READS IS OF BULK AT MOST 1048576: true; the input reads as it did. -/
def fnExactBelowUptoRow : OpenClaim := { program := "yticlefceplcbkaa", sum := "9ccaca11a50dd619d7bf465f6950f4c6aca55165b49a4c822663d34defabd7c7", func := "loop.example/g00326/laws.FnExactBelow", spec := "fnExactBelow", apart := false, narrowed := true }
def FnExactBelowUptoSaid : Prop := fnExactBelowUptoRow.holds Try.pinned (OpenSpec.upto fnExactBelowSpec)

/-- 'laws.FnExactPutInt', WHERE WHAT IT READS IS OF BULK AT MOST 1048576: true; the input reads as it did. -/
def fnExactPutIntUptoRow : OpenClaim := { program := "yticlefceplcbkaa", sum := "9ccaca11a50dd619d7bf465f6950f4c6aca55165b49a4c822663d34defabd7c7", func := "loop.example/g00326/laws.FnExactPutInt", spec := "fnExactPutInt", apart := false, narrowed := true }
def FnExactPutIntUptoSaid : Prop := fnExactPutIntUptoRow.holds Try.pinned (OpenSpec.upto fnExactPutIntSpec)

/-- 'laws.FnExactStepVec', WHERE WHAT IT READS IS OF BULK AT MOST 1048576: true; the input reads as it did. -/
def fnExactStepVecUptoRow : OpenClaim := { program := "yticlefceplcbkaa", sum := "9ccaca11a50dd619d7bf465f6950f4c6aca55165b49a4c822663d34defabd7c7", func := "loop.example/g00326/laws.FnExactStepVec", spec := "fnExactStepVec", apart := false, narrowed := true }
def FnExactStepVecUptoSaid : Prop := fnExactStepVecUptoRow.holds Try.pinned (OpenSpec.upto fnExactStepVecSpec)

/-- 'laws.FnExactSameFrame', WHERE WHAT IT READS IS OF BULK AT MOST 1048576: true; the input reads as it did. -/
def fnExactSameFrameUptoRow : OpenClaim := { program := "yticlefceplcbkaa", sum := "9ccaca11a50dd619d7bf465f6950f4c6aca55165b49a4c822663d34defabd7c7", func := "loop.example/g00326/laws.FnExactSameFrame", spec := "fnExactSameFrame", apart := false, narrowed := true }
def FnExactSameFrameUptoSaid : Prop := fnExactSameFrameUptoRow.holds Try.pinned (OpenSpec.upto fnExactSameFrameSpec)

/-- 'laws.FnExactPutTlv', WHERE WHAT IT READS IS OF BULK AT MOST 1048576: true; the input reads as it did. -/
def fnExactPutTlvUptoRow : OpenClaim := { program := "yticlefceplcbkaa", sum := "9ccaca11a50dd619d7bf465f6950f4c6aca55165b49a4c822663d34defabd7c7", func := "loop.example/g00326/laws.FnExactPutTlv", spec := "fnExactPutTlv", apart := false, narrowed := true }
def FnExactPutTlvUptoSaid : Prop := fnExactPutTlvUptoRow.holds Try.pinned (OpenSpec.upto fnExactPutTlvSpec)

/-- 'laws.FnExactFrameOk', WHERE WHAT IT READS IS OF BULK AT MOST 1048576: true; the input reads as it did. -/
def fnExactFrameOkUptoRow : OpenClaim := { program := "yticlefceplcbkaa", sum := "9ccaca11a50dd619d7bf465f6950f4c6aca55165b49a4c822663d34defabd7c7", func := "loop.example/g00326/laws.FnExactFrameOk", spec := "fnExactFrameOk", apart := false, narrowed := true }
def FnExactFrameOkUptoSaid : Prop := fnExactFrameOkUptoRow.holds Try.pinned (OpenSpec.upto fnExactFrameOkSpec)

end Rows
end Go.Proofs.Yticlefceplcbkaa
