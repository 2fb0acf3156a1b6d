/-
  No cell of these rows narrows 'for every input' (looked for: loops, veiled, ifaces, maps, wideKeys, modest, calm, conditions, laid).
  DERIVED. THE GIVEN ROWS OF THIS SEAT. 10 by the template 'for every input the law returns true; each argument reads behind the call as it read before'; 0 by the template 'total and deterministic' (their statements: YtgjhmbneikpiaaaTotals.lean).
  GIVEN WITH THE SEED: the statements are not yours to turn. If you find one false, say at which input.
  Laid BY PROGRAM, IN A SANDBOX (cutbox-rows.mjs): the forced cells as the released guide's own fill.sh prints them over the translation dc4b01025a193093… (all of the seat's roots in one cut). By AI agents, Wed Nov 11 2026. No macro, syntax, notation, axiom, sorry.
-/
import Derived.Test.YtgjhmbneikpiaaaChecked
import GoSem.Claim
import GoSem.ClaimJoined
import GoSem.ClaimMapViews
import Derived.JoinedTies
import Derived.KernelRfl
namespace Go.Proofs.Ytgjhmbneikpiaaa
/- THE CELL 'sum', in the pinned program and in every row, IS THE sha256 OF THE DUMP (.gsa) THAT YtgjhmbneikpiaaaProg.lean LOADS. Nothing in Lean hashes anything: it is a label: what it is worth is what the hold of that sum in a sandbox is worth. -/
noncomputable def Try.pinned : Pinned := { name := "ytgjhmbneikpiaaa", sum := "dc4b01025a193093a2e697d0d1bd0805541e56cf9882b88a8eb6d3b449f748fd", checked := Try.checked }
namespace Rows
def none {H : Type} : Left H := { results := [], args := [] }

/-- 'laws.FnPdus': WHATEVER THE INPUT: true; the input reads as it did. -/
def fnPdusSpec : ChangeSpec := { name := "fnPdus", fn := fun _ => fun
  | [d] => { results := [.lit (.bool true)], args := [d] }
  | _ => none }
def fnPdusRow : OpenClaim := { program := "ytgjhmbneikpiaaa", sum := "dc4b01025a193093a2e697d0d1bd0805541e56cf9882b88a8eb6d3b449f748fd", func := "loop.example/g00326/laws.FnPdus", spec := "fnPdus", apart := false }
def FnPdusSaid : Prop := fnPdusRow.holds Try.pinned (OpenSpec.ofChange fnPdusSpec)

/-- ITS FALSE NEIGHBOUR: 'it returns false'. Refute it at one input. -/
def fnPdusWrong : ChangeSpec := { name := "fnPdus", fn := fun _ => fun
  | [d] => { results := [.lit (.bool false)], args := [d] }
  | _ => none }
def FnPdusWrongFalsely : Prop := fnPdusRow.holds Try.pinned (OpenSpec.ofChange fnPdusWrong)

/-- 'laws.FnExactGetTlv': WHATEVER THE INPUT: true; the input reads as it did. -/
def fnExactGetTlvSpec : ChangeSpec := { name := "fnExactGetTlv", fn := fun _ => fun
  | [d1, d2] => { results := [.lit (.bool true)], args := [d1, d2] }
  | _ => none }
def fnExactGetTlvRow : OpenClaim := { program := "ytgjhmbneikpiaaa", sum := "dc4b01025a193093a2e697d0d1bd0805541e56cf9882b88a8eb6d3b449f748fd", func := "loop.example/g00326/laws.FnExactGetTlv", spec := "fnExactGetTlv", apart := false }
def FnExactGetTlvSaid : Prop := fnExactGetTlvRow.holds Try.pinned (OpenSpec.ofChange fnExactGetTlvSpec)

/-- ITS FALSE NEIGHBOUR: 'it returns false'. Refute it at one input. -/
def fnExactGetTlvWrong : ChangeSpec := { name := "fnExactGetTlv", fn := fun _ => fun
  | [d1, d2] => { results := [.lit (.bool false)], args := [d1, d2] }
  | _ => none }
def FnExactGetTlvWrongFalsely : Prop := fnExactGetTlvRow.holds Try.pinned (OpenSpec.ofChange fnExactGetTlvWrong)

/-- 'laws.FnExactNextEnt': WHATEVER THE INPUT: true; the input reads as it did. -/
def fnExactNextEntSpec : ChangeSpec := { name := "fnExactNextEnt", fn := fun _ => fun
  | [d1, d2, d3] => { results := [.lit (.bool true)], args := [d1, d2, d3] }
  | _ => none }
def fnExactNextEntRow : OpenClaim := { program := "ytgjhmbneikpiaaa", sum := "dc4b01025a193093a2e697d0d1bd0805541e56cf9882b88a8eb6d3b449f748fd", func := "loop.example/g00326/laws.FnExactNextEnt", spec := "fnExactNextEnt", apart := false }
def FnExactNextEntSaid : Prop := fnExactNextEntRow.holds Try.pinned (OpenSpec.ofChange fnExactNextEntSpec)

/-- ITS FALSE NEIGHBOUR: 'it returns false'. Refute it at one input. -/
def fnExactNextEntWrong : ChangeSpec := { name := "fnExactNextEnt", fn := fun _ => fun
  | [d1, d2, d3] => { results := [.lit (.bool false)], args := [d1, d2, d3] }
  | _ => none }
def FnExactNextEntWrongFalsely : Prop := fnExactNextEntRow.holds Try.pinned (OpenSpec.ofChange fnExactNextEntWrong)

/-- 'laws.FnExactGetInt': WHATEVER THE INPUT: true; the input reads as it did. -/
def fnExactGetIntSpec : ChangeSpec := { name := "fnExactGetInt", fn := fun _ => fun
  | [d] => { results := [.lit (.bool true)], args := [d] }
  | _ => none }
def fnExactGetIntRow : OpenClaim := { program := "ytgjhmbneikpiaaa", sum := "dc4b01025a193093a2e697d0d1bd0805541e56cf9882b88a8eb6d3b449f748fd", func := "loop.example/g00326/laws.FnExactGetInt", spec := "fnExactGetInt", apart := false }
def FnExactGetIntSaid : Prop := fnExactGetIntRow.holds Try.pinned (OpenSpec.ofChange fnExactGetIntSpec)

/-- ITS FALSE NEIGHBOUR: 'it returns false'. Refute it at one input. -/
def fnExactGetIntWrong : ChangeSpec := { name := "fnExactGetInt", fn := fun _ => fun
  | [d] => { results := [.lit (.bool false)], args := [d] }
  | _ => none }
def FnExactGetIntWrongFalsely : Prop := fnExactGetIntRow.holds Try.pinned (OpenSpec.ofChange fnExactGetIntWrong)

/-- 'laws.FnExactLookUp': WHATEVER THE INPUT: true; the input reads as it did. -/
def fnExactLookUpSpec : ChangeSpec := { name := "fnExactLookUp", fn := fun _ => fun
  | [d1, d2, d3] => { results := [.lit (.bool true)], args := [d1, d2, d3] }
  | _ => none }
def fnExactLookUpRow : OpenClaim := { program := "ytgjhmbneikpiaaa", sum := "dc4b01025a193093a2e697d0d1bd0805541e56cf9882b88a8eb6d3b449f748fd", func := "loop.example/g00326/laws.FnExactLookUp", spec := "fnExactLookUp", apart := false }
def FnExactLookUpSaid : Prop := fnExactLookUpRow.holds Try.pinned (OpenSpec.ofChange fnExactLookUpSpec)

/-- ITS FALSE NEIGHBOUR: 'it returns false'. Refute it at one input. -/
def fnExactLookUpWrong : ChangeSpec := { name := "fnExactLookUp", fn := fun _ => fun
  | [d1, d2, d3] => { results := [.lit (.bool false)], args := [d1, d2, d3] }
  | _ => none }
def FnExactLookUpWrongFalsely : Prop := fnExactLookUpRow.holds Try.pinned (OpenSpec.ofChange fnExactLookUpWrong)

/-- 'laws.FnExactFdbOk': WHATEVER THE INPUT: true; the input reads as it did. -/
def fnExactFdbOkSpec : ChangeSpec := { name := "fnExactFdbOk", fn := fun _ => fun
  | [d] => { results := [.lit (.bool true)], args := [d] }
  | _ => none }
def fnExactFdbOkRow : OpenClaim := { program := "ytgjhmbneikpiaaa", sum := "dc4b01025a193093a2e697d0d1bd0805541e56cf9882b88a8eb6d3b449f748fd", func := "loop.example/g00326/laws.FnExactFdbOk", spec := "fnExactFdbOk", apart := false }
def FnExactFdbOkSaid : Prop := fnExactFdbOkRow.holds Try.pinned (OpenSpec.ofChange fnExactFdbOkSpec)

/-- ITS FALSE NEIGHBOUR: 'it returns false'. Refute it at one input. -/
def fnExactFdbOkWrong : ChangeSpec := { name := "fnExactFdbOk", fn := fun _ => fun
  | [d] => { results := [.lit (.bool false)], args := [d] }
  | _ => none }
def FnExactFdbOkWrongFalsely : Prop := fnExactFdbOkRow.holds Try.pinned (OpenSpec.ofChange fnExactFdbOkWrong)

/-- 'laws.FnExactSameVal': WHATEVER THE INPUT: true; the input reads as it did. -/
def fnExactSameValSpec : ChangeSpec := { name := "fnExactSameVal", fn := fun _ => fun
  | [d1, d2] => { results := [.lit (.bool true)], args := [d1, d2] }
  | _ => none }
def fnExactSameValRow : OpenClaim := { program := "ytgjhmbneikpiaaa", sum := "dc4b01025a193093a2e697d0d1bd0805541e56cf9882b88a8eb6d3b449f748fd", func := "loop.example/g00326/laws.FnExactSameVal", spec := "fnExactSameVal", apart := false }
def FnExactSameValSaid : Prop := fnExactSameValRow.holds Try.pinned (OpenSpec.ofChange fnExactSameValSpec)

/-- ITS FALSE NEIGHBOUR: 'it returns false'. Refute it at one input. -/
def fnExactSameValWrong : ChangeSpec := { name := "fnExactSameVal", fn := fun _ => fun
  | [d1, d2] => { results := [.lit (.bool false)], args := [d1, d2] }
  | _ => none }
def FnExactSameValWrongFalsely : Prop := fnExactSameValRow.holds Try.pinned (OpenSpec.ofChange fnExactSameValWrong)

/-- 'laws.FnTlvs': WHATEVER THE INPUT: true; the input reads as it did. -/
def fnTlvsSpec : ChangeSpec := { name := "fnTlvs", fn := fun _ => fun
  | [d] => { results := [.lit (.bool true)], args := [d] }
  | _ => none }
def fnTlvsRow : OpenClaim := { program := "ytgjhmbneikpiaaa", sum := "dc4b01025a193093a2e697d0d1bd0805541e56cf9882b88a8eb6d3b449f748fd", func := "loop.example/g00326/laws.FnTlvs", spec := "fnTlvs", apart := false }
def FnTlvsSaid : Prop := fnTlvsRow.holds Try.pinned (OpenSpec.ofChange fnTlvsSpec)

/-- ITS FALSE NEIGHBOUR: 'it returns false'. Refute it at one input. -/
def fnTlvsWrong : ChangeSpec := { name := "fnTlvs", fn := fun _ => fun
  | [d] => { results := [.lit (.bool false)], args := [d] }
  | _ => none }
def FnTlvsWrongFalsely : Prop := fnTlvsRow.holds Try.pinned (OpenSpec.ofChange fnTlvsWrong)

/-- 'laws.FnExactTagged': WHATEVER THE INPUT: true; the input reads as it did. -/
def fnExactTaggedSpec : ChangeSpec := { name := "fnExactTagged", fn := fun _ => fun
  | [d1, d2] => { results := [.lit (.bool true)], args := [d1, d2] }
  | _ => none }
def fnExactTaggedRow : OpenClaim := { program := "ytgjhmbneikpiaaa", sum := "dc4b01025a193093a2e697d0d1bd0805541e56cf9882b88a8eb6d3b449f748fd", func := "loop.example/g00326/laws.FnExactTagged", spec := "fnExactTagged", apart := false }
def FnExactTaggedSaid : Prop := fnExactTaggedRow.holds Try.pinned (OpenSpec.ofChange fnExactTaggedSpec)

/-- ITS FALSE NEIGHBOUR: 'it returns false'. Refute it at one input. -/
def fnExactTaggedWrong : ChangeSpec := { name := "fnExactTagged", fn := fun _ => fun
  | [d1, d2] => { results := [.lit (.bool false)], args := [d1, d2] }
  | _ => none }
def FnExactTaggedWrongFalsely : Prop := fnExactTaggedRow.holds Try.pinned (OpenSpec.ofChange fnExactTaggedWrong)

/-- 'laws.FnExactPutOid': WHATEVER THE INPUT: true; the input reads as it did. -/
def fnExactPutOidSpec : ChangeSpec := { name := "fnExactPutOid", fn := fun _ => fun
  | [d] => { results := [.lit (.bool true)], args := [d] }
  | _ => none }
def fnExactPutOidRow : OpenClaim := { program := "ytgjhmbneikpiaaa", sum := "dc4b01025a193093a2e697d0d1bd0805541e56cf9882b88a8eb6d3b449f748fd", func := "loop.example/g00326/laws.FnExactPutOid", spec := "fnExactPutOid", apart := false }
def FnExactPutOidSaid : Prop := fnExactPutOidRow.holds Try.pinned (OpenSpec.ofChange fnExactPutOidSpec)

/-- ITS FALSE NEIGHBOUR: 'it returns false'. Refute it at one input. -/
def fnExactPutOidWrong : ChangeSpec := { name := "fnExactPutOid", fn := fun _ => fun
  | [d] => { results := [.lit (.bool false)], args := [d] }
  | _ => none }
def FnExactPutOidWrongFalsely : Prop := fnExactPutOidRow.holds Try.pinned (OpenSpec.ofChange fnExactPutOidWrong)

/- THE SECOND FORM. 'bulk': how many values and letters a reading holds, each counted each time it is reached (what is shared counts as often as it is met; a slice's spare places count too). A statement '..UptoSaid' is the law's where the arguments, and the package variables that the reading takes, are together of bulk at most 1048576: NARROWER than '..Said'. Prove '..Said' where nothing that the law and all that it calls make is longer than what came in: it says more and counts as full. Else prove '..UptoSaid'. A law counts once. -/
mutual
def uptoBulk {H : Type} : DataW H → Nat
  | .lit (.string bytes) => bytes.length + 1
  | .lit _ => 1
  | .nil => 1
  | .ptr d => uptoBulk d + 1
  | .slice elems spare => uptoBulkAll elems + uptoBulkAll spare + 1
  | .agg parts => uptoBulkAll parts + 1
  | .iface _ d => uptoBulk d + 1
  | .map entries => uptoBulkEntries entries + 1
  | .held _ => 1
def uptoBulkAll {H : Type} : List (DataW H) → Nat
  | [] => 0
  | d :: r => uptoBulk d + uptoBulkAll r
def uptoBulkEntries {H : Type} : List (Lit × DataW H) → Nat
  | [] => 0
  | x :: r => uptoBulkEntry x + uptoBulkEntries r
def uptoBulkEntry {H : Type} : Lit × DataW H → Nat
  | (.string bytes, d) => bytes.length + uptoBulk d + 1
  | (_, d) => uptoBulk d + 1
 end
def uptoSmall : (H : Type) → List (DataW H) → Bool := fun _ ds => decide (uptoBulkAll ds ≤ 1048576)
def OpenSpec.upto (s : _root_.Go.ChangeSpec) : _root_.Go.OpenSpec := { _root_.Go.OpenSpec.ofChange s with cond := some uptoSmall }

/-- 'laws.FnPdus', WHERE WHAT IT READS IS OF BULK AT MOST 1048576: true; the input reads as it did. -/
def fnPdusUptoRow : OpenClaim := { program := "ytgjhmbneikpiaaa", sum := "dc4b01025a193093a2e697d0d1bd0805541e56cf9882b88a8eb6d3b449f748fd", func := "loop.example/g00326/laws.FnPdus", spec := "fnPdus", apart := false, narrowed := true }
def FnPdusUptoSaid : Prop := fnPdusUptoRow.holds Try.pinned (OpenSpec.upto fnPdusSpec)

/-- 'laws.FnExactGetTlv', WHERE WHAT IT READS IS OF BULK AT MOST 1048576: true; the input reads as it did. -/
def fnExactGetTlvUptoRow : OpenClaim := { program := "ytgjhmbneikpiaaa", sum := "dc4b01025a193093a2e697d0d1bd0805541e56cf9882b88a8eb6d3b449f748fd", func := "loop.example/g00326/laws.FnExactGetTlv", spec := "fnExactGetTlv", apart := false, narrowed := true }
def FnExactGetTlvUptoSaid : Prop := fnExactGetTlvUptoRow.holds Try.pinned (OpenSpec.upto fnExactGetTlvSpec)

/-- 'laws.FnExactNextEnt', WHERE WHAT IT READS IS OF BULK AT MOST 1048576: true; the input reads as it did. -/
def fnExactNextEntUptoRow : OpenClaim := { program := "ytgjhmbneikpiaaa", sum := "dc4b01025a193093a2e697d0d1bd0805541e56cf9882b88a8eb6d3b449f748fd", func := "loop.example/g00326/laws.FnExactNextEnt", spec := "fnExactNextEnt", apart := false, narrowed := true }
def FnExactNextEntUptoSaid : Prop := fnExactNextEntUptoRow.holds Try.pinned (OpenSpec.upto fnExactNextEntSpec)

/-- 'laws.FnExactGetInt', WHERE WHAT IT READS IS OF BULK AT MOST 1048576: true; the input reads as it did. -/
def fnExactGetIntUptoRow : OpenClaim := { program := "ytgjhmbneikpiaaa", sum := "dc4b01025a193093a2e697d0d1bd0805541e56cf9882b88a8eb6d3b449f748fd", func := "loop.example/g00326/laws.FnExactGetInt", spec := "fnExactGetInt", apart := false, narrowed := true }
def FnExactGetIntUptoSaid : Prop := fnExactGetIntUptoRow.holds Try.pinned (OpenSpec.upto fnExactGetIntSpec)

/-- 'laws.FnExactLookUp', WHERE WHAT IT READS IS OF BULK AT MOST 1048576: true; the input reads as it did. -/
def fnExactLookUpUptoRow : OpenClaim := { program := "ytgjhmbneikpiaaa", sum := "dc4b01025a193093a2e697d0d1bd0805541e56cf9882b88a8eb6d3b449f748fd", func := "loop.example/g00326/laws.FnExactLookUp", spec := "fnExactLookUp", apart := false, narrowed := true }
def FnExactLookUpUptoSaid : Prop := fnExactLookUpUptoRow.holds Try.pinned (OpenSpec.upto fnExactLookUpSpec)

/-- 'laws.FnExactFdbOk', WHERE WHAT IT READS IS OF BULK AT MOST 1048576: true; the input reads as it did. -/
def fnExactFdbOkUptoRow : OpenClaim := { program := "ytgjhmbneikpiaaa", sum := "dc4b01025a193093a2e697d0d1bd0805541e56cf9882b88a8eb6d3b449f748fd", func := "loop.example/g00326/laws.FnExactFdbOk", spec := "fnExactFdbOk", apart := false, narrowed := true }
def FnExactFdbOkUptoSaid : Prop := fnExactFdbOkUptoRow.holds Try.pinned (OpenSpec.upto fnExactFdbOkSpec)

/-- 'laws.FnExactSameVal', WHERE WHAT IT READS IS OF BULK AT MOST 1048576: true; the input reads as it did. -/
def fnExactSameValUptoRow : OpenClaim := { program := "ytgjhmbneikpiaaa", sum := "dc4b01025a193093a2e697d0d1bd0805541e56cf9882b88a8eb6d3b449f748fd", func := "loop.example/g00326/laws.FnExactSameVal", spec := "fnExactSameVal", apart := false, narrowed := true }
def FnExactSameValUptoSaid : Prop := fnExactSameValUptoRow.holds Try.pinned (OpenSpec.upto fnExactSameValSpec)

/-- 'laws.FnTlvs', WHERE WHAT IT READS IS OF BULK AT MOST 1048576: true; the input reads as it did. -/
def fnTlvsUptoRow : OpenClaim := { program := "ytgjhmbneikpiaaa", sum := "dc4b01025a193093a2e697d0d1bd0805541e56cf9882b88a8eb6d3b449f748fd", func := "loop.example/g00326/laws.FnTlvs", spec := "fnTlvs", apart := false, narrowed := true }
def FnTlvsUptoSaid : Prop := fnTlvsUptoRow.holds Try.pinned (OpenSpec.upto fnTlvsSpec)

/-- 'laws.FnExactTagged', WHERE WHAT IT READS IS OF BULK AT MOST 1048576: true; the input reads as it did. -/
def fnExactTaggedUptoRow : OpenClaim := { program := "ytgjhmbneikpiaaa", sum := "dc4b01025a193093a2e697d0d1bd0805541e56cf9882b88a8eb6d3b449f748fd", func := "loop.example/g00326/laws.FnExactTagged", spec := "fnExactTagged", apart := false, narrowed := true }
def FnExactTaggedUptoSaid : Prop := fnExactTaggedUptoRow.holds Try.pinned (OpenSpec.upto fnExactTaggedSpec)

/-- 'laws.FnExactPutOid', WHERE WHAT IT READS IS OF BULK AT MOST 1048576: true; the input reads as it did. -/
def fnExactPutOidUptoRow : OpenClaim := { program := "ytgjhmbneikpiaaa", sum := "dc4b01025a193093a2e697d0d1bd0805541e56cf9882b88a8eb6d3b449f748fd", func := "loop.example/g00326/laws.FnExactPutOid", spec := "fnExactPutOid", apart := false, narrowed := true }
def FnExactPutOidUptoSaid : Prop := fnExactPutOidUptoRow.holds Try.pinned (OpenSpec.upto fnExactPutOidSpec)

end Rows
end Go.Proofs.Ytgjhmbneikpiaaa
