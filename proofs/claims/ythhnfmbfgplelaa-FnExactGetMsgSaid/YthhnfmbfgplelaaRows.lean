/-
  No cell of these rows narrows 'for every input' (looked for: loops, veiled, ifaces, maps, wideKeys, modest, calm, conditions, laid).
  DERIVED. THE GIVEN ROWS OF THIS SEAT. 10 by the template 'for every input the law returns true; each argument reads behind the call as it read before'; 0 by the template 'total and deterministic' (their statements: YthhnfmbfgplelaaTotals.lean).
  GIVEN WITH THE SEED: the statements are not yours to turn. If you find one false, say at which input.
  Laid BY PROGRAM, IN A SANDBOX (cutbox-rows.mjs): the forced cells as the released guide's own fill.sh prints them over the translation 31c5778f8b05e5b5… (all of the seat's roots in one cut). By AI agents, Wed Nov 11 2026. No macro, syntax, notation, axiom, sorry.
-/
import Derived.Test.YthhnfmbfgplelaaChecked
import GoSem.Claim
import GoSem.ClaimJoined
import GoSem.ClaimMapViews
import Derived.JoinedTies
import Derived.KernelRfl
namespace Go.Proofs.Ythhnfmbfgplelaa
/- THE CELL 'sum', in the pinned program and in every row, IS THE sha256 OF THE DUMP (.gsa) THAT YthhnfmbfgplelaaProg.lean LOADS. Nothing in Lean hashes anything: it is a label: what it is worth is what the hold of that sum in a sandbox is worth. -/
noncomputable def Try.pinned : Pinned := { name := "ythhnfmbfgplelaa", sum := "31c5778f8b05e5b5e771f573cf63412c5e001e171786e0ea2935691ce0fbd00c", checked := Try.checked }
namespace Rows
def none {H : Type} : Left H := { results := [], args := [] }

/-- 'laws.FnExactPutVal': WHATEVER THE INPUT: true; the input reads as it did. -/
def fnExactPutValSpec : ChangeSpec := { name := "fnExactPutVal", fn := fun _ => fun
  | [d1, d2] => { results := [.lit (.bool true)], args := [d1, d2] }
  | _ => none }
def fnExactPutValRow : OpenClaim := { program := "ythhnfmbfgplelaa", sum := "31c5778f8b05e5b5e771f573cf63412c5e001e171786e0ea2935691ce0fbd00c", func := "loop.example/g00326/laws.FnExactPutVal", spec := "fnExactPutVal", apart := false }
def FnExactPutValSaid : Prop := fnExactPutValRow.holds Try.pinned (OpenSpec.ofChange fnExactPutValSpec)

/-- ITS FALSE NEIGHBOUR: 'it returns false'. Refute it at one input. -/
def fnExactPutValWrong : ChangeSpec := { name := "fnExactPutVal", fn := fun _ => fun
  | [d1, d2] => { results := [.lit (.bool false)], args := [d1, d2] }
  | _ => none }
def FnExactPutValWrongFalsely : Prop := fnExactPutValRow.holds Try.pinned (OpenSpec.ofChange fnExactPutValWrong)

/-- 'laws.FnFrames': WHATEVER THE INPUT: true; the input reads as it did. -/
def fnFramesSpec : ChangeSpec := { name := "fnFrames", fn := fun _ => fun
  | [d] => { results := [.lit (.bool true)], args := [d] }
  | _ => none }
def fnFramesRow : OpenClaim := { program := "ythhnfmbfgplelaa", sum := "31c5778f8b05e5b5e771f573cf63412c5e001e171786e0ea2935691ce0fbd00c", func := "loop.example/g00326/laws.FnFrames", spec := "fnFrames", apart := false }
def FnFramesSaid : Prop := fnFramesRow.holds Try.pinned (OpenSpec.ofChange fnFramesSpec)

/-- ITS FALSE NEIGHBOUR: 'it returns false'. Refute it at one input. -/
def fnFramesWrong : ChangeSpec := { name := "fnFrames", fn := fun _ => fun
  | [d] => { results := [.lit (.bool false)], args := [d] }
  | _ => none }
def FnFramesWrongFalsely : Prop := fnFramesRow.holds Try.pinned (OpenSpec.ofChange fnFramesWrong)

/-- 'laws.FnExactGetVal': WHATEVER THE INPUT: true; the input reads as it did. -/
def fnExactGetValSpec : ChangeSpec := { name := "fnExactGetVal", fn := fun _ => fun
  | [d1, d2] => { results := [.lit (.bool true)], args := [d1, d2] }
  | _ => none }
def fnExactGetValRow : OpenClaim := { program := "ythhnfmbfgplelaa", sum := "31c5778f8b05e5b5e771f573cf63412c5e001e171786e0ea2935691ce0fbd00c", func := "loop.example/g00326/laws.FnExactGetVal", spec := "fnExactGetVal", apart := false }
def FnExactGetValSaid : Prop := fnExactGetValRow.holds Try.pinned (OpenSpec.ofChange fnExactGetValSpec)

/-- ITS FALSE NEIGHBOUR: 'it returns false'. Refute it at one input. -/
def fnExactGetValWrong : ChangeSpec := { name := "fnExactGetVal", fn := fun _ => fun
  | [d1, d2] => { results := [.lit (.bool false)], args := [d1, d2] }
  | _ => none }
def FnExactGetValWrongFalsely : Prop := fnExactGetValRow.holds Try.pinned (OpenSpec.ofChange fnExactGetValWrong)

/-- 'laws.FnExactPutPdu': WHATEVER THE INPUT: true; the input reads as it did. -/
def fnExactPutPduSpec : ChangeSpec := { name := "fnExactPutPdu", fn := fun _ => fun
  | [d] => { results := [.lit (.bool true)], args := [d] }
  | _ => none }
def fnExactPutPduRow : OpenClaim := { program := "ythhnfmbfgplelaa", sum := "31c5778f8b05e5b5e771f573cf63412c5e001e171786e0ea2935691ce0fbd00c", func := "loop.example/g00326/laws.FnExactPutPdu", spec := "fnExactPutPdu", apart := false }
def FnExactPutPduSaid : Prop := fnExactPutPduRow.holds Try.pinned (OpenSpec.ofChange fnExactPutPduSpec)

/-- ITS FALSE NEIGHBOUR: 'it returns false'. Refute it at one input. -/
def fnExactPutPduWrong : ChangeSpec := { name := "fnExactPutPdu", fn := fun _ => fun
  | [d] => { results := [.lit (.bool false)], args := [d] }
  | _ => none }
def FnExactPutPduWrongFalsely : Prop := fnExactPutPduRow.holds Try.pinned (OpenSpec.ofChange fnExactPutPduWrong)

/-- 'laws.FnVals': WHATEVER THE INPUT: true; the input reads as it did. -/
def fnValsSpec : ChangeSpec := { name := "fnVals", fn := fun _ => fun
  | [d] => { results := [.lit (.bool true)], args := [d] }
  | _ => none }
def fnValsRow : OpenClaim := { program := "ythhnfmbfgplelaa", sum := "31c5778f8b05e5b5e771f573cf63412c5e001e171786e0ea2935691ce0fbd00c", func := "loop.example/g00326/laws.FnVals", spec := "fnVals", apart := false }
def FnValsSaid : Prop := fnValsRow.holds Try.pinned (OpenSpec.ofChange fnValsSpec)

/-- ITS FALSE NEIGHBOUR: 'it returns false'. Refute it at one input. -/
def fnValsWrong : ChangeSpec := { name := "fnVals", fn := fun _ => fun
  | [d] => { results := [.lit (.bool false)], args := [d] }
  | _ => none }
def FnValsWrongFalsely : Prop := fnValsRow.holds Try.pinned (OpenSpec.ofChange fnValsWrong)

/-- 'laws.FnExactPutMsg': WHATEVER THE INPUT: true; the input reads as it did. -/
def fnExactPutMsgSpec : ChangeSpec := { name := "fnExactPutMsg", fn := fun _ => fun
  | [d1, d2] => { results := [.lit (.bool true)], args := [d1, d2] }
  | _ => none }
def fnExactPutMsgRow : OpenClaim := { program := "ythhnfmbfgplelaa", sum := "31c5778f8b05e5b5e771f573cf63412c5e001e171786e0ea2935691ce0fbd00c", func := "loop.example/g00326/laws.FnExactPutMsg", spec := "fnExactPutMsg", apart := false }
def FnExactPutMsgSaid : Prop := fnExactPutMsgRow.holds Try.pinned (OpenSpec.ofChange fnExactPutMsgSpec)

/-- ITS FALSE NEIGHBOUR: 'it returns false'. Refute it at one input. -/
def fnExactPutMsgWrong : ChangeSpec := { name := "fnExactPutMsg", fn := fun _ => fun
  | [d1, d2] => { results := [.lit (.bool false)], args := [d1, d2] }
  | _ => none }
def FnExactPutMsgWrongFalsely : Prop := fnExactPutMsgRow.holds Try.pinned (OpenSpec.ofChange fnExactPutMsgWrong)

/-- 'laws.FnMsgs': WHATEVER THE INPUT: true; the input reads as it did. -/
def fnMsgsSpec : ChangeSpec := { name := "fnMsgs", fn := fun _ => fun
  | [d] => { results := [.lit (.bool true)], args := [d] }
  | _ => none }
def fnMsgsRow : OpenClaim := { program := "ythhnfmbfgplelaa", sum := "31c5778f8b05e5b5e771f573cf63412c5e001e171786e0ea2935691ce0fbd00c", func := "loop.example/g00326/laws.FnMsgs", spec := "fnMsgs", apart := false }
def FnMsgsSaid : Prop := fnMsgsRow.holds Try.pinned (OpenSpec.ofChange fnMsgsSpec)

/-- ITS FALSE NEIGHBOUR: 'it returns false'. Refute it at one input. -/
def fnMsgsWrong : ChangeSpec := { name := "fnMsgs", fn := fun _ => fun
  | [d] => { results := [.lit (.bool false)], args := [d] }
  | _ => none }
def FnMsgsWrongFalsely : Prop := fnMsgsRow.holds Try.pinned (OpenSpec.ofChange fnMsgsWrong)

/-- 'laws.FnExactGetPdu': WHATEVER THE INPUT: true; the input reads as it did. -/
def fnExactGetPduSpec : ChangeSpec := { name := "fnExactGetPdu", fn := fun _ => fun
  | [d] => { results := [.lit (.bool true)], args := [d] }
  | _ => none }
def fnExactGetPduRow : OpenClaim := { program := "ythhnfmbfgplelaa", sum := "31c5778f8b05e5b5e771f573cf63412c5e001e171786e0ea2935691ce0fbd00c", func := "loop.example/g00326/laws.FnExactGetPdu", spec := "fnExactGetPdu", apart := false }
def FnExactGetPduSaid : Prop := fnExactGetPduRow.holds Try.pinned (OpenSpec.ofChange fnExactGetPduSpec)

/-- ITS FALSE NEIGHBOUR: 'it returns false'. Refute it at one input. -/
def fnExactGetPduWrong : ChangeSpec := { name := "fnExactGetPdu", fn := fun _ => fun
  | [d] => { results := [.lit (.bool false)], args := [d] }
  | _ => none }
def FnExactGetPduWrongFalsely : Prop := fnExactGetPduRow.holds Try.pinned (OpenSpec.ofChange fnExactGetPduWrong)

/-- 'laws.FnExactGetMsg': WHATEVER THE INPUT: true; the input reads as it did. -/
def fnExactGetMsgSpec : ChangeSpec := { name := "fnExactGetMsg", fn := fun _ => fun
  | [d1, d2] => { results := [.lit (.bool true)], args := [d1, d2] }
  | _ => none }
def fnExactGetMsgRow : OpenClaim := { program := "ythhnfmbfgplelaa", sum := "31c5778f8b05e5b5e771f573cf63412c5e001e171786e0ea2935691ce0fbd00c", func := "loop.example/g00326/laws.FnExactGetMsg", spec := "fnExactGetMsg", apart := false }
def FnExactGetMsgSaid : Prop := fnExactGetMsgRow.holds Try.pinned (OpenSpec.ofChange fnExactGetMsgSpec)

/-- ITS FALSE NEIGHBOUR: 'it returns false'. Refute it at one input. -/
def fnExactGetMsgWrong : ChangeSpec := { name := "fnExactGetMsg", fn := fun _ => fun
  | [d1, d2] => { results := [.lit (.bool false)], args := [d1, d2] }
  | _ => none }
def FnExactGetMsgWrongFalsely : Prop := fnExactGetMsgRow.holds Try.pinned (OpenSpec.ofChange fnExactGetMsgWrong)

/-- 'laws.FnMsgsRead': WHATEVER THE INPUT: true; the input reads as it did. -/
def fnMsgsReadSpec : ChangeSpec := { name := "fnMsgsRead", fn := fun _ => fun
  | [d] => { results := [.lit (.bool true)], args := [d] }
  | _ => none }
def fnMsgsReadRow : OpenClaim := { program := "ythhnfmbfgplelaa", sum := "31c5778f8b05e5b5e771f573cf63412c5e001e171786e0ea2935691ce0fbd00c", func := "loop.example/g00326/laws.FnMsgsRead", spec := "fnMsgsRead", apart := false }
def FnMsgsReadSaid : Prop := fnMsgsReadRow.holds Try.pinned (OpenSpec.ofChange fnMsgsReadSpec)

/-- ITS FALSE NEIGHBOUR: 'it returns false'. Refute it at one input. -/
def fnMsgsReadWrong : ChangeSpec := { name := "fnMsgsRead", fn := fun _ => fun
  | [d] => { results := [.lit (.bool false)], args := [d] }
  | _ => none }
def FnMsgsReadWrongFalsely : Prop := fnMsgsReadRow.holds Try.pinned (OpenSpec.ofChange fnMsgsReadWrong)

/- THE SECOND FORM. 'bulk': how many values and letters a reading holds, each counted each time it is reached (what is shared counts as often as it is met; a slice's spare places count too). A statement '..UptoSaid' is the law's where the arguments, and the package variables that the reading takes, are together of bulk at most 1048576: NARROWER than '..Said'. Prove '..Said' where nothing that the law and all that it calls make is longer than what came in: it says more and counts as full. Else prove '..UptoSaid'. A law counts once. -/
mutual
def uptoBulk {H : Type} : DataW H → Nat
  | .lit (.string bytes) => bytes.length + 1
  | .lit _ => 1
  | .nil => 1
  | .ptr d => uptoBulk d + 1
  | .slice elems spare => uptoBulkAll elems + uptoBulkAll spare + 1
  | .agg parts => uptoBulkAll parts + 1
  | .iface _ d => uptoBulk d + 1
  | .map entries => uptoBulkEntries entries + 1
  | .held _ => 1
def uptoBulkAll {H : Type} : List (DataW H) → Nat
  | [] => 0
  | d :: r => uptoBulk d + uptoBulkAll r
def uptoBulkEntries {H : Type} : List (Lit × DataW H) → Nat
  | [] => 0
  | x :: r => uptoBulkEntry x + uptoBulkEntries r
def uptoBulkEntry {H : Type} : Lit × DataW H → Nat
  | (.string bytes, d) => bytes.length + uptoBulk d + 1
  | (_, d) => uptoBulk d + 1
 end
def uptoSmall : (H : Type) → List (DataW H) → Bool := fun _ ds => decide (uptoBulkAll ds ≤ 1048576)
def OpenSpec.upto (s : _root_.Go.ChangeSpec) : _root_.Go.OpenSpec := { _root_.Go.OpenSpec.ofChange s with cond := some uptoSmall }

/-- 'laws.FnExactPutVal', WHERE WHAT IT READS IS OF BULK AT MOST 1048576: true; the input reads as it did. -/
def fnExactPutValUptoRow : OpenClaim := { program := "ythhnfmbfgplelaa", sum := "31c5778f8b05e5b5e771f573cf63412c5e001e171786e0ea2935691ce0fbd00c", func := "loop.example/g00326/laws.FnExactPutVal", spec := "fnExactPutVal", apart := false, narrowed := true }
def FnExactPutValUptoSaid : Prop := fnExactPutValUptoRow.holds Try.pinned (OpenSpec.upto fnExactPutValSpec)

/-- 'laws.FnFrames', WHERE WHAT IT READS IS OF BULK AT MOST 1048576: true; the input reads as it did. -/
def fnFramesUptoRow : OpenClaim := { program := "ythhnfmbfgplelaa", sum := "31c5778f8b05e5b5e771f573cf63412c5e001e171786e0ea2935691ce0fbd00c", func := "loop.example/g00326/laws.FnFrames", spec := "fnFrames", apart := false, narrowed := true }
def FnFramesUptoSaid : Prop := fnFramesUptoRow.holds Try.pinned (OpenSpec.upto fnFramesSpec)

/-- 'laws.FnExactGetVal', WHERE WHAT IT READS IS OF BULK AT MOST 1048576: true; the input reads as it did. -/
def fnExactGetValUptoRow : OpenClaim := { program := "ythhnfmbfgplelaa", sum := "31c5778f8b05e5b5e771f573cf63412c5e001e171786e0ea2935691ce0fbd00c", func := "loop.example/g00326/laws.FnExactGetVal", spec := "fnExactGetVal", apart := false, narrowed := true }
def FnExactGetValUptoSaid : Prop := fnExactGetValUptoRow.holds Try.pinned (OpenSpec.upto fnExactGetValSpec)

/-- 'laws.FnExactPutPdu', WHERE WHAT IT READS IS OF BULK AT MOST 1048576: true; the input reads as it did. -/
def fnExactPutPduUptoRow : OpenClaim := { program := "ythhnfmbfgplelaa", sum := "31c5778f8b05e5b5e771f573cf63412c5e001e171786e0ea2935691ce0fbd00c", func := "loop.example/g00326/laws.FnExactPutPdu", spec := "fnExactPutPdu", apart := false, narrowed := true }
def FnExactPutPduUptoSaid : Prop := fnExactPutPduUptoRow.holds Try.pinned (OpenSpec.upto fnExactPutPduSpec)

/-- 'laws.FnVals', WHERE WHAT IT READS IS OF BULK AT MOST 1048576: true; the input reads as it did. -/
def fnValsUptoRow : OpenClaim := { program := "ythhnfmbfgplelaa", sum := "31c5778f8b05e5b5e771f573cf63412c5e001e171786e0ea2935691ce0fbd00c", func := "loop.example/g00326/laws.FnVals", spec := "fnVals", apart := false, narrowed := true }
def FnValsUptoSaid : Prop := fnValsUptoRow.holds Try.pinned (OpenSpec.upto fnValsSpec)

/-- 'laws.FnExactPutMsg', WHERE WHAT IT READS IS OF BULK AT MOST 1048576: true; the input reads as it did. -/
def fnExactPutMsgUptoRow : OpenClaim := { program := "ythhnfmbfgplelaa", sum := "31c5778f8b05e5b5e771f573cf63412c5e001e171786e0ea2935691ce0fbd00c", func := "loop.example/g00326/laws.FnExactPutMsg", spec := "fnExactPutMsg", apart := false, narrowed := true }
def FnExactPutMsgUptoSaid : Prop := fnExactPutMsgUptoRow.holds Try.pinned (OpenSpec.upto fnExactPutMsgSpec)

/-- 'laws.FnMsgs', WHERE WHAT IT READS IS OF BULK AT MOST 1048576: true; the input reads as it did. -/
def fnMsgsUptoRow : OpenClaim := { program := "ythhnfmbfgplelaa", sum := "31c5778f8b05e5b5e771f573cf63412c5e001e171786e0ea2935691ce0fbd00c", func := "loop.example/g00326/laws.FnMsgs", spec := "fnMsgs", apart := false, narrowed := true }
def FnMsgsUptoSaid : Prop := fnMsgsUptoRow.holds Try.pinned (OpenSpec.upto fnMsgsSpec)

/-- 'laws.FnExactGetPdu', WHERE WHAT IT READS IS OF BULK AT MOST 1048576: true; the input reads as it did. -/
def fnExactGetPduUptoRow : OpenClaim := { program := "ythhnfmbfgplelaa", sum := "31c5778f8b05e5b5e771f573cf63412c5e001e171786e0ea2935691ce0fbd00c", func := "loop.example/g00326/laws.FnExactGetPdu", spec := "fnExactGetPdu", apart := false, narrowed := true }
def FnExactGetPduUptoSaid : Prop := fnExactGetPduUptoRow.holds Try.pinned (OpenSpec.upto fnExactGetPduSpec)

/-- 'laws.FnExactGetMsg', WHERE WHAT IT READS IS OF BULK AT MOST 1048576: true; the input reads as it did. -/
def fnExactGetMsgUptoRow : OpenClaim := { program := "ythhnfmbfgplelaa", sum := "31c5778f8b05e5b5e771f573cf63412c5e001e171786e0ea2935691ce0fbd00c", func := "loop.example/g00326/laws.FnExactGetMsg", spec := "fnExactGetMsg", apart := false, narrowed := true }
def FnExactGetMsgUptoSaid : Prop := fnExactGetMsgUptoRow.holds Try.pinned (OpenSpec.upto fnExactGetMsgSpec)

/-- 'laws.FnMsgsRead', WHERE WHAT IT READS IS OF BULK AT MOST 1048576: true; the input reads as it did. -/
def fnMsgsReadUptoRow : OpenClaim := { program := "ythhnfmbfgplelaa", sum := "31c5778f8b05e5b5e771f573cf63412c5e001e171786e0ea2935691ce0fbd00c", func := "loop.example/g00326/laws.FnMsgsRead", spec := "fnMsgsRead", apart := false, narrowed := true }
def FnMsgsReadUptoSaid : Prop := fnMsgsReadUptoRow.holds Try.pinned (OpenSpec.upto fnMsgsReadSpec)

end Rows
end Go.Proofs.Ythhnfmbfgplelaa
