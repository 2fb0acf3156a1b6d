/-
  No cell of these rows narrows 'for every input' (looked for: loops, veiled, ifaces, maps, wideKeys, modest, calm, conditions, laid).
  DERIVED. THE GIVEN ROWS OF THIS SEAT. 12 by the template 'for every input the law returns true; each argument reads behind the call as it read before'; 0 by the template 'total and deterministic' (their statements: YtndfokcnogpeiaaTotals.lean).
  GIVEN WITH THE SEED: the statements are not yours to turn. If you find one false, say at which input.
  Laid BY PROGRAM, IN A SANDBOX (cutbox-rows.mjs): the forced cells as the released guide's own fill.sh prints them over the translation 4581294d8472646b… (all of the seat's roots in one cut). By AI agents, Wed Nov 11 2026. No macro, syntax, notation, axiom, sorry.
-/
import Derived.Test.YtndfokcnogpeiaaChecked
import GoSem.Claim
import GoSem.ClaimJoined
import GoSem.ClaimMapViews
import Derived.JoinedTies
import Derived.KernelRfl
namespace Go.Proofs.Ytndfokcnogpeiaa
/- THE CELL 'sum', in the pinned program and in every row, IS THE sha256 OF THE DUMP (.gsa) THAT YtndfokcnogpeiaaProg.lean LOADS. Nothing in Lean hashes anything: it is a label: what it is worth is what the hold of that sum in a sandbox is worth. -/
noncomputable def Try.pinned : Pinned := { name := "ytndfokcnogpeiaa", sum := "4581294d8472646b10c1cec46a98531e8d67369c0b22f04a23e46138092a0ee8", checked := Try.checked }
namespace Rows
def none {H : Type} : Left H := { results := [], args := [] }

/-- 'laws.FnExactFlushPort': WHATEVER THE INPUT: true; the input reads as it did. -/
def fnExactFlushPortSpec : ChangeSpec := { name := "fnExactFlushPort", fn := fun _ => fun
  | [d1, d2] => { results := [.lit (.bool true)], args := [d1, d2] }
  | _ => none }
def fnExactFlushPortRow : OpenClaim := { program := "ytndfokcnogpeiaa", sum := "4581294d8472646b10c1cec46a98531e8d67369c0b22f04a23e46138092a0ee8", func := "loop.example/g00326/laws.FnExactFlushPort", spec := "fnExactFlushPort", apart := false }
def FnExactFlushPortSaid : Prop := fnExactFlushPortRow.holds Try.pinned (OpenSpec.ofChange fnExactFlushPortSpec)

/-- ITS FALSE NEIGHBOUR: 'it returns false'. Refute it at one input. -/
def fnExactFlushPortWrong : ChangeSpec := { name := "fnExactFlushPort", fn := fun _ => fun
  | [d1, d2] => { results := [.lit (.bool false)], args := [d1, d2] }
  | _ => none }
def FnExactFlushPortWrongFalsely : Prop := fnExactFlushPortRow.holds Try.pinned (OpenSpec.ofChange fnExactFlushPortWrong)

/-- 'laws.FnExactRowAt': WHATEVER THE INPUT: true; the input reads as it did. -/
def fnExactRowAtSpec : ChangeSpec := { name := "fnExactRowAt", fn := fun _ => fun
  | [d1, d2] => { results := [.lit (.bool true)], args := [d1, d2] }
  | _ => none }
def fnExactRowAtRow : OpenClaim := { program := "ytndfokcnogpeiaa", sum := "4581294d8472646b10c1cec46a98531e8d67369c0b22f04a23e46138092a0ee8", func := "loop.example/g00326/laws.FnExactRowAt", spec := "fnExactRowAt", apart := false }
def FnExactRowAtSaid : Prop := fnExactRowAtRow.holds Try.pinned (OpenSpec.ofChange fnExactRowAtSpec)

/-- ITS FALSE NEIGHBOUR: 'it returns false'. Refute it at one input. -/
def fnExactRowAtWrong : ChangeSpec := { name := "fnExactRowAt", fn := fun _ => fun
  | [d1, d2] => { results := [.lit (.bool false)], args := [d1, d2] }
  | _ => none }
def FnExactRowAtWrongFalsely : Prop := fnExactRowAtRow.holds Try.pinned (OpenSpec.ofChange fnExactRowAtWrong)

/-- 'laws.FnExactDropStatic': WHATEVER THE INPUT: true; the input reads as it did. -/
def fnExactDropStaticSpec : ChangeSpec := { name := "fnExactDropStatic", fn := fun _ => fun
  | [d1, d2, d3] => { results := [.lit (.bool true)], args := [d1, d2, d3] }
  | _ => none }
def fnExactDropStaticRow : OpenClaim := { program := "ytndfokcnogpeiaa", sum := "4581294d8472646b10c1cec46a98531e8d67369c0b22f04a23e46138092a0ee8", func := "loop.example/g00326/laws.FnExactDropStatic", spec := "fnExactDropStatic", apart := false }
def FnExactDropStaticSaid : Prop := fnExactDropStaticRow.holds Try.pinned (OpenSpec.ofChange fnExactDropStaticSpec)

/-- ITS FALSE NEIGHBOUR: 'it returns false'. Refute it at one input. -/
def fnExactDropStaticWrong : ChangeSpec := { name := "fnExactDropStatic", fn := fun _ => fun
  | [d1, d2, d3] => { results := [.lit (.bool false)], args := [d1, d2, d3] }
  | _ => none }
def FnExactDropStaticWrongFalsely : Prop := fnExactDropStaticRow.holds Try.pinned (OpenSpec.ofChange fnExactDropStaticWrong)

/-- 'laws.FnVecOrder': WHATEVER THE INPUT: true; the input reads as it did. -/
def fnVecOrderSpec : ChangeSpec := { name := "fnVecOrder", fn := fun _ => fun
  | [d] => { results := [.lit (.bool true)], args := [d] }
  | _ => none }
def fnVecOrderRow : OpenClaim := { program := "ytndfokcnogpeiaa", sum := "4581294d8472646b10c1cec46a98531e8d67369c0b22f04a23e46138092a0ee8", func := "loop.example/g00326/laws.FnVecOrder", spec := "fnVecOrder", apart := false }
def FnVecOrderSaid : Prop := fnVecOrderRow.holds Try.pinned (OpenSpec.ofChange fnVecOrderSpec)

/-- ITS FALSE NEIGHBOUR: 'it returns false'. Refute it at one input. -/
def fnVecOrderWrong : ChangeSpec := { name := "fnVecOrder", fn := fun _ => fun
  | [d] => { results := [.lit (.bool false)], args := [d] }
  | _ => none }
def FnVecOrderWrongFalsely : Prop := fnVecOrderRow.holds Try.pinned (OpenSpec.ofChange fnVecOrderWrong)

/-- 'laws.FnOidOrder': WHATEVER THE INPUT: true; the input reads as it did. -/
def fnOidOrderSpec : ChangeSpec := { name := "fnOidOrder", fn := fun _ => fun
  | [d] => { results := [.lit (.bool true)], args := [d] }
  | _ => none }
def fnOidOrderRow : OpenClaim := { program := "ytndfokcnogpeiaa", sum := "4581294d8472646b10c1cec46a98531e8d67369c0b22f04a23e46138092a0ee8", func := "loop.example/g00326/laws.FnOidOrder", spec := "fnOidOrder", apart := false }
def FnOidOrderSaid : Prop := fnOidOrderRow.holds Try.pinned (OpenSpec.ofChange fnOidOrderSpec)

/-- ITS FALSE NEIGHBOUR: 'it returns false'. Refute it at one input. -/
def fnOidOrderWrong : ChangeSpec := { name := "fnOidOrder", fn := fun _ => fun
  | [d] => { results := [.lit (.bool false)], args := [d] }
  | _ => none }
def FnOidOrderWrongFalsely : Prop := fnOidOrderRow.holds Try.pinned (OpenSpec.ofChange fnOidOrderWrong)

/-- 'laws.FnExactPutVec': WHATEVER THE INPUT: true; the input reads as it did. -/
def fnExactPutVecSpec : ChangeSpec := { name := "fnExactPutVec", fn := fun _ => fun
  | [d] => { results := [.lit (.bool true)], args := [d] }
  | _ => none }
def fnExactPutVecRow : OpenClaim := { program := "ytndfokcnogpeiaa", sum := "4581294d8472646b10c1cec46a98531e8d67369c0b22f04a23e46138092a0ee8", func := "loop.example/g00326/laws.FnExactPutVec", spec := "fnExactPutVec", apart := false }
def FnExactPutVecSaid : Prop := fnExactPutVecRow.holds Try.pinned (OpenSpec.ofChange fnExactPutVecSpec)

/-- ITS FALSE NEIGHBOUR: 'it returns false'. Refute it at one input. -/
def fnExactPutVecWrong : ChangeSpec := { name := "fnExactPutVec", fn := fun _ => fun
  | [d] => { results := [.lit (.bool false)], args := [d] }
  | _ => none }
def FnExactPutVecWrongFalsely : Prop := fnExactPutVecRow.holds Try.pinned (OpenSpec.ofChange fnExactPutVecWrong)

/-- 'laws.FnExactAgeAll': WHATEVER THE INPUT: true; the input reads as it did. -/
def fnExactAgeAllSpec : ChangeSpec := { name := "fnExactAgeAll", fn := fun _ => fun
  | [d] => { results := [.lit (.bool true)], args := [d] }
  | _ => none }
def fnExactAgeAllRow : OpenClaim := { program := "ytndfokcnogpeiaa", sum := "4581294d8472646b10c1cec46a98531e8d67369c0b22f04a23e46138092a0ee8", func := "loop.example/g00326/laws.FnExactAgeAll", spec := "fnExactAgeAll", apart := false }
def FnExactAgeAllSaid : Prop := fnExactAgeAllRow.holds Try.pinned (OpenSpec.ofChange fnExactAgeAllSpec)

/-- ITS FALSE NEIGHBOUR: 'it returns false'. Refute it at one input. -/
def fnExactAgeAllWrong : ChangeSpec := { name := "fnExactAgeAll", fn := fun _ => fun
  | [d] => { results := [.lit (.bool false)], args := [d] }
  | _ => none }
def FnExactAgeAllWrongFalsely : Prop := fnExactAgeAllRow.holds Try.pinned (OpenSpec.ofChange fnExactAgeAllWrong)

/-- 'laws.FnInts': WHATEVER THE INPUT: true; the input reads as it did. -/
def fnIntsSpec : ChangeSpec := { name := "fnInts", fn := fun _ => fun
  | [d] => { results := [.lit (.bool true)], args := [d] }
  | _ => none }
def fnIntsRow : OpenClaim := { program := "ytndfokcnogpeiaa", sum := "4581294d8472646b10c1cec46a98531e8d67369c0b22f04a23e46138092a0ee8", func := "loop.example/g00326/laws.FnInts", spec := "fnInts", apart := false }
def FnIntsSaid : Prop := fnIntsRow.holds Try.pinned (OpenSpec.ofChange fnIntsSpec)

/-- ITS FALSE NEIGHBOUR: 'it returns false'. Refute it at one input. -/
def fnIntsWrong : ChangeSpec := { name := "fnInts", fn := fun _ => fun
  | [d] => { results := [.lit (.bool false)], args := [d] }
  | _ => none }
def FnIntsWrongFalsely : Prop := fnIntsRow.holds Try.pinned (OpenSpec.ofChange fnIntsWrong)

/-- 'laws.FnExactValOk': WHATEVER THE INPUT: true; the input reads as it did. -/
def fnExactValOkSpec : ChangeSpec := { name := "fnExactValOk", fn := fun _ => fun
  | [d] => { results := [.lit (.bool true)], args := [d] }
  | _ => none }
def fnExactValOkRow : OpenClaim := { program := "ytndfokcnogpeiaa", sum := "4581294d8472646b10c1cec46a98531e8d67369c0b22f04a23e46138092a0ee8", func := "loop.example/g00326/laws.FnExactValOk", spec := "fnExactValOk", apart := false }
def FnExactValOkSaid : Prop := fnExactValOkRow.holds Try.pinned (OpenSpec.ofChange fnExactValOkSpec)

/-- ITS FALSE NEIGHBOUR: 'it returns false'. Refute it at one input. -/
def fnExactValOkWrong : ChangeSpec := { name := "fnExactValOk", fn := fun _ => fun
  | [d] => { results := [.lit (.bool false)], args := [d] }
  | _ => none }
def FnExactValOkWrongFalsely : Prop := fnExactValOkRow.holds Try.pinned (OpenSpec.ofChange fnExactValOkWrong)

/-- 'laws.FnExactGetOid': WHATEVER THE INPUT: true; the input reads as it did. -/
def fnExactGetOidSpec : ChangeSpec := { name := "fnExactGetOid", fn := fun _ => fun
  | [d] => { results := [.lit (.bool true)], args := [d] }
  | _ => none }
def fnExactGetOidRow : OpenClaim := { program := "ytndfokcnogpeiaa", sum := "4581294d8472646b10c1cec46a98531e8d67369c0b22f04a23e46138092a0ee8", func := "loop.example/g00326/laws.FnExactGetOid", spec := "fnExactGetOid", apart := false }
def FnExactGetOidSaid : Prop := fnExactGetOidRow.holds Try.pinned (OpenSpec.ofChange fnExactGetOidSpec)

/-- ITS FALSE NEIGHBOUR: 'it returns false'. Refute it at one input. -/
def fnExactGetOidWrong : ChangeSpec := { name := "fnExactGetOid", fn := fun _ => fun
  | [d] => { results := [.lit (.bool false)], args := [d] }
  | _ => none }
def FnExactGetOidWrongFalsely : Prop := fnExactGetOidRow.holds Try.pinned (OpenSpec.ofChange fnExactGetOidWrong)

/-- 'laws.FnTlvsRead': WHATEVER THE INPUT: true; the input reads as it did. -/
def fnTlvsReadSpec : ChangeSpec := { name := "fnTlvsRead", fn := fun _ => fun
  | [d] => { results := [.lit (.bool true)], args := [d] }
  | _ => none }
def fnTlvsReadRow : OpenClaim := { program := "ytndfokcnogpeiaa", sum := "4581294d8472646b10c1cec46a98531e8d67369c0b22f04a23e46138092a0ee8", func := "loop.example/g00326/laws.FnTlvsRead", spec := "fnTlvsRead", apart := false }
def FnTlvsReadSaid : Prop := fnTlvsReadRow.holds Try.pinned (OpenSpec.ofChange fnTlvsReadSpec)

/-- ITS FALSE NEIGHBOUR: 'it returns false'. Refute it at one input. -/
def fnTlvsReadWrong : ChangeSpec := { name := "fnTlvsRead", fn := fun _ => fun
  | [d] => { results := [.lit (.bool false)], args := [d] }
  | _ => none }
def FnTlvsReadWrongFalsely : Prop := fnTlvsReadRow.holds Try.pinned (OpenSpec.ofChange fnTlvsReadWrong)

/-- 'laws.FnExactPutFrame': WHATEVER THE INPUT: true; the input reads as it did. -/
def fnExactPutFrameSpec : ChangeSpec := { name := "fnExactPutFrame", fn := fun _ => fun
  | [d] => { results := [.lit (.bool true)], args := [d] }
  | _ => none }
def fnExactPutFrameRow : OpenClaim := { program := "ytndfokcnogpeiaa", sum := "4581294d8472646b10c1cec46a98531e8d67369c0b22f04a23e46138092a0ee8", func := "loop.example/g00326/laws.FnExactPutFrame", spec := "fnExactPutFrame", apart := false }
def FnExactPutFrameSaid : Prop := fnExactPutFrameRow.holds Try.pinned (OpenSpec.ofChange fnExactPutFrameSpec)

/-- ITS FALSE NEIGHBOUR: 'it returns false'. Refute it at one input. -/
def fnExactPutFrameWrong : ChangeSpec := { name := "fnExactPutFrame", fn := fun _ => fun
  | [d] => { results := [.lit (.bool false)], args := [d] }
  | _ => none }
def FnExactPutFrameWrongFalsely : Prop := fnExactPutFrameRow.holds Try.pinned (OpenSpec.ofChange fnExactPutFrameWrong)

/- THE SECOND FORM. 'bulk': how many values and letters a reading holds, each counted each time it is reached (what is shared counts as often as it is met; a slice's spare places count too). A statement '..UptoSaid' is the law's where the arguments, and the package variables that the reading takes, are together of bulk at most 1048576: NARROWER than '..Said'. Prove '..Said' where nothing that the law and all that it calls make is longer than what came in: it says more and counts as full. Else prove '..UptoSaid'. A law counts once. -/
mutual
def uptoBulk {H : Type} : DataW H → Nat
  | .lit (.string bytes) => bytes.length + 1
  | .lit _ => 1
  | .nil => 1
  | .ptr d => uptoBulk d + 1
  | .slice elems spare => uptoBulkAll elems + uptoBulkAll spare + 1
  | .agg parts => uptoBulkAll parts + 1
  | .iface _ d => uptoBulk d + 1
  | .map entries => uptoBulkEntries entries + 1
  | .held _ => 1
def uptoBulkAll {H : Type} : List (DataW H) → Nat
  | [] => 0
  | d :: r => uptoBulk d + uptoBulkAll r
def uptoBulkEntries {H : Type} : List (Lit × DataW H) → Nat
  | [] => 0
  | x :: r => uptoBulkEntry x + uptoBulkEntries r
def uptoBulkEntry {H : Type} : Lit × DataW H → Nat
  | (.string bytes, d) => bytes.length + uptoBulk d + 1
  | (_, d) => uptoBulk d + 1
 end
def uptoSmall : (H : Type) → List (DataW H) → Bool := fun _ ds => decide (uptoBulkAll ds ≤ 1048576)
def OpenSpec.upto (s : _root_.Go.ChangeSpec) : _root_.Go.OpenSpec := { _root_.Go.OpenSpec.ofChange s with cond := some uptoSmall }

/-- 'laws.FnExactFlushPort', WHERE WHAT IT READS IS OF BULK AT MOST 1048576: true; the input reads as it did. -/
def fnExactFlushPortUptoRow : OpenClaim := { program := "ytndfokcnogpeiaa", sum := "4581294d8472646b10c1cec46a98531e8d67369c0b22f04a23e46138092a0ee8", func := "loop.example/g00326/laws.FnExactFlushPort", spec := "fnExactFlushPort", apart := false, narrowed := true }
def FnExactFlushPortUptoSaid : Prop := fnExactFlushPortUptoRow.holds Try.pinned (OpenSpec.upto fnExactFlushPortSpec)

/-- 'laws.FnExactRowAt', WHERE WHAT IT READS IS OF BULK AT MOST 1048576: true; the input reads as it did. -/
def fnExactRowAtUptoRow : OpenClaim := { program := "ytndfokcnogpeiaa", sum := "4581294d8472646b10c1cec46a98531e8d67369c0b22f04a23e46138092a0ee8", func := "loop.example/g00326/laws.FnExactRowAt", spec := "fnExactRowAt", apart := false, narrowed := true }
def FnExactRowAtUptoSaid : Prop := fnExactRowAtUptoRow.holds Try.pinned (OpenSpec.upto fnExactRowAtSpec)

/-- 'laws.FnExactDropStatic', WHERE WHAT IT READS IS OF BULK AT MOST 1048576: true; the input reads as it did. -/
def fnExactDropStaticUptoRow : OpenClaim := { program := "ytndfokcnogpeiaa", sum := "4581294d8472646b10c1cec46a98531e8d67369c0b22f04a23e46138092a0ee8", func := "loop.example/g00326/laws.FnExactDropStatic", spec := "fnExactDropStatic", apart := false, narrowed := true }
def FnExactDropStaticUptoSaid : Prop := fnExactDropStaticUptoRow.holds Try.pinned (OpenSpec.upto fnExactDropStaticSpec)

/-- 'laws.FnVecOrder', WHERE WHAT IT READS IS OF BULK AT MOST 1048576: true; the input reads as it did. -/
def fnVecOrderUptoRow : OpenClaim := { program := "ytndfokcnogpeiaa", sum := "4581294d8472646b10c1cec46a98531e8d67369c0b22f04a23e46138092a0ee8", func := "loop.example/g00326/laws.FnVecOrder", spec := "fnVecOrder", apart := false, narrowed := true }
def FnVecOrderUptoSaid : Prop := fnVecOrderUptoRow.holds Try.pinned (OpenSpec.upto fnVecOrderSpec)

/-- 'laws.FnOidOrder', WHERE WHAT IT READS IS OF BULK AT MOST 1048576: true; the input reads as it did. -/
def fnOidOrderUptoRow : OpenClaim := { program := "ytndfokcnogpeiaa", sum := "4581294d8472646b10c1cec46a98531e8d67369c0b22f04a23e46138092a0ee8", func := "loop.example/g00326/laws.FnOidOrder", spec := "fnOidOrder", apart := false, narrowed := true }
def FnOidOrderUptoSaid : Prop := fnOidOrderUptoRow.holds Try.pinned (OpenSpec.upto fnOidOrderSpec)

/-- 'laws.FnExactPutVec', WHERE WHAT IT READS IS OF BULK AT MOST 1048576: true; the input reads as it did. -/
def fnExactPutVecUptoRow : OpenClaim := { program := "ytndfokcnogpeiaa", sum := "4581294d8472646b10c1cec46a98531e8d67369c0b22f04a23e46138092a0ee8", func := "loop.example/g00326/laws.FnExactPutVec", spec := "fnExactPutVec", apart := false, narrowed := true }
def FnExactPutVecUptoSaid : Prop := fnExactPutVecUptoRow.holds Try.pinned (OpenSpec.upto fnExactPutVecSpec)

/-- 'laws.FnExactAgeAll', WHERE WHAT IT READS IS OF BULK AT MOST 1048576: true; the input reads as it did. -/
def fnExactAgeAllUptoRow : OpenClaim := { program := "ytndfokcnogpeiaa", sum := "4581294d8472646b10c1cec46a98531e8d67369c0b22f04a23e46138092a0ee8", func := "loop.example/g00326/laws.FnExactAgeAll", spec := "fnExactAgeAll", apart := false, narrowed := true }
def FnExactAgeAllUptoSaid : Prop := fnExactAgeAllUptoRow.holds Try.pinned (OpenSpec.upto fnExactAgeAllSpec)

/-- 'laws.FnInts', WHERE WHAT IT READS IS OF BULK AT MOST 1048576: true; the input reads as it did. -/
def fnIntsUptoRow : OpenClaim := { program := "ytndfokcnogpeiaa", sum := "4581294d8472646b10c1cec46a98531e8d67369c0b22f04a23e46138092a0ee8", func := "loop.example/g00326/laws.FnInts", spec := "fnInts", apart := false, narrowed := true }
def FnIntsUptoSaid : Prop := fnIntsUptoRow.holds Try.pinned (OpenSpec.upto fnIntsSpec)

/-- 'laws.FnExactValOk', WHERE WHAT IT READS IS OF BULK AT MOST 1048576: true; the input reads as it did. -/
def fnExactValOkUptoRow : OpenClaim := { program := "ytndfokcnogpeiaa", sum := "4581294d8472646b10c1cec46a98531e8d67369c0b22f04a23e46138092a0ee8", func := "loop.example/g00326/laws.FnExactValOk", spec := "fnExactValOk", apart := false, narrowed := true }
def FnExactValOkUptoSaid : Prop := fnExactValOkUptoRow.holds Try.pinned (OpenSpec.upto fnExactValOkSpec)

/-- 'laws.FnExactGetOid', WHERE WHAT IT READS IS OF BULK AT MOST 1048576: true; the input reads as it did. -/
def fnExactGetOidUptoRow : OpenClaim := { program := "ytndfokcnogpeiaa", sum := "4581294d8472646b10c1cec46a98531e8d67369c0b22f04a23e46138092a0ee8", func := "loop.example/g00326/laws.FnExactGetOid", spec := "fnExactGetOid", apart := false, narrowed := true }
def FnExactGetOidUptoSaid : Prop := fnExactGetOidUptoRow.holds Try.pinned (OpenSpec.upto fnExactGetOidSpec)

/-- 'laws.FnTlvsRead', WHERE WHAT IT READS IS OF BULK AT MOST 1048576: true; the input reads as it did. -/
def fnTlvsReadUptoRow : OpenClaim := { program := "ytndfokcnogpeiaa", sum := "4581294d8472646b10c1cec46a98531e8d67369c0b22f04a23e46138092a0ee8", func := "loop.example/g00326/laws.FnTlvsRead", spec := "fnTlvsRead", apart := false, narrowed := true }
def FnTlvsReadUptoSaid : Prop := fnTlvsReadUptoRow.holds Try.pinned (OpenSpec.upto fnTlvsReadSpec)

/-- 'laws.FnExactPutFrame', WHERE WHAT IT READS IS OF BULK AT MOST 1048576: true; the input reads as it did. -/
def fnExactPutFrameUptoRow : OpenClaim := { program := "ytndfokcnogpeiaa", sum := "4581294d8472646b10c1cec46a98531e8d67369c0b22f04a23e46138092a0ee8", func := "loop.example/g00326/laws.FnExactPutFrame", spec := "fnExactPutFrame", apart := false, narrowed := true }
def FnExactPutFrameUptoSaid : Prop := fnExactPutFrameUptoRow.holds Try.pinned (OpenSpec.upto fnExactPutFrameSpec)

end Rows
end Go.Proofs.Ytndfokcnogpeiaa
