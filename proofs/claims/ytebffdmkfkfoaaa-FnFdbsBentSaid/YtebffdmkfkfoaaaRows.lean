/-
  No cell of these rows narrows 'for every input' (looked for: loops, veiled, ifaces, maps, wideKeys, modest, calm, conditions, laid).
  DERIVED. THE GIVEN ROWS OF THIS SEAT. 11 by the template 'for every input the law returns true; each argument reads behind the call as it read before'; 0 by the template 'total and deterministic' (their statements: YtebffdmkfkfoaaaTotals.lean).
  GIVEN WITH THE SEED: the statements are not yours to turn. If you find one false, say at which input.
  Laid BY PROGRAM, IN A SANDBOX (cutbox-rows.mjs): the forced cells as the released guide's own fill.sh prints them over the translation 4c523b01ec5adeb8… (all of the seat's roots in one cut). By AI agents, Wed Nov 11 2026. No macro, syntax, notation, axiom, sorry.
-/
import Derived.Test.YtebffdmkfkfoaaaChecked
import GoSem.Claim
import GoSem.ClaimJoined
import GoSem.ClaimMapViews
import Derived.JoinedTies
import Derived.KernelRfl
namespace Go.Proofs.Ytebffdmkfkfoaaa
/- THE CELL 'sum', in the pinned program and in every row, IS THE sha256 OF THE DUMP (.gsa) THAT YtebffdmkfkfoaaaProg.lean LOADS. Nothing in Lean hashes anything: it is a label: what it is worth is what the hold of that sum in a sandbox is worth. -/
noncomputable def Try.pinned : Pinned := { name := "ytebffdmkfkfoaaa", sum := "4c523b01ec5adeb88e2190730de127d7fdc0a32524a49f7ace09b20469d23dd9", checked := Try.checked }
namespace Rows
def none {H : Type} : Left H := { results := [], args := [] }

/-- 'laws.FnExactSameBinds': WHATEVER THE INPUT: true; the input reads as it did. -/
def fnExactSameBindsSpec : ChangeSpec := { name := "fnExactSameBinds", fn := fun _ => fun
  | [d1, d2] => { results := [.lit (.bool true)], args := [d1, d2] }
  | _ => none }
def fnExactSameBindsRow : OpenClaim := { program := "ytebffdmkfkfoaaa", sum := "4c523b01ec5adeb88e2190730de127d7fdc0a32524a49f7ace09b20469d23dd9", func := "loop.example/g00326/laws.FnExactSameBinds", spec := "fnExactSameBinds", apart := false }
def FnExactSameBindsSaid : Prop := fnExactSameBindsRow.holds Try.pinned (OpenSpec.ofChange fnExactSameBindsSpec)

/-- ITS FALSE NEIGHBOUR: 'it returns false'. Refute it at one input. -/
def fnExactSameBindsWrong : ChangeSpec := { name := "fnExactSameBinds", fn := fun _ => fun
  | [d1, d2] => { results := [.lit (.bool false)], args := [d1, d2] }
  | _ => none }
def FnExactSameBindsWrongFalsely : Prop := fnExactSameBindsRow.holds Try.pinned (OpenSpec.ofChange fnExactSameBindsWrong)

/-- 'laws.FnExactSetStatic': WHATEVER THE INPUT: true; the input reads as it did. -/
def fnExactSetStaticSpec : ChangeSpec := { name := "fnExactSetStatic", fn := fun _ => fun
  | [d1, d2, d3, d4] => { results := [.lit (.bool true)], args := [d1, d2, d3, d4] }
  | _ => none }
def fnExactSetStaticRow : OpenClaim := { program := "ytebffdmkfkfoaaa", sum := "4c523b01ec5adeb88e2190730de127d7fdc0a32524a49f7ace09b20469d23dd9", func := "loop.example/g00326/laws.FnExactSetStatic", spec := "fnExactSetStatic", apart := false }
def FnExactSetStaticSaid : Prop := fnExactSetStaticRow.holds Try.pinned (OpenSpec.ofChange fnExactSetStaticSpec)

/-- ITS FALSE NEIGHBOUR: 'it returns false'. Refute it at one input. -/
def fnExactSetStaticWrong : ChangeSpec := { name := "fnExactSetStatic", fn := fun _ => fun
  | [d1, d2, d3, d4] => { results := [.lit (.bool false)], args := [d1, d2, d3, d4] }
  | _ => none }
def FnExactSetStaticWrongFalsely : Prop := fnExactSetStaticRow.holds Try.pinned (OpenSpec.ofChange fnExactSetStaticWrong)

/-- 'laws.FnLearns': WHATEVER THE INPUT: true; the input reads as it did. -/
def fnLearnsSpec : ChangeSpec := { name := "fnLearns", fn := fun _ => fun
  | [d] => { results := [.lit (.bool true)], args := [d] }
  | _ => none }
def fnLearnsRow : OpenClaim := { program := "ytebffdmkfkfoaaa", sum := "4c523b01ec5adeb88e2190730de127d7fdc0a32524a49f7ace09b20469d23dd9", func := "loop.example/g00326/laws.FnLearns", spec := "fnLearns", apart := false }
def FnLearnsSaid : Prop := fnLearnsRow.holds Try.pinned (OpenSpec.ofChange fnLearnsSpec)

/-- ITS FALSE NEIGHBOUR: 'it returns false'. Refute it at one input. -/
def fnLearnsWrong : ChangeSpec := { name := "fnLearns", fn := fun _ => fun
  | [d] => { results := [.lit (.bool false)], args := [d] }
  | _ => none }
def FnLearnsWrongFalsely : Prop := fnLearnsRow.holds Try.pinned (OpenSpec.ofChange fnLearnsWrong)

/-- 'laws.FnExactLearn': WHATEVER THE INPUT: true; the input reads as it did. -/
def fnExactLearnSpec : ChangeSpec := { name := "fnExactLearn", fn := fun _ => fun
  | [d1, d2, d3, d4] => { results := [.lit (.bool true)], args := [d1, d2, d3, d4] }
  | _ => none }
def fnExactLearnRow : OpenClaim := { program := "ytebffdmkfkfoaaa", sum := "4c523b01ec5adeb88e2190730de127d7fdc0a32524a49f7ace09b20469d23dd9", func := "loop.example/g00326/laws.FnExactLearn", spec := "fnExactLearn", apart := false }
def FnExactLearnSaid : Prop := fnExactLearnRow.holds Try.pinned (OpenSpec.ofChange fnExactLearnSpec)

/-- ITS FALSE NEIGHBOUR: 'it returns false'. Refute it at one input. -/
def fnExactLearnWrong : ChangeSpec := { name := "fnExactLearn", fn := fun _ => fun
  | [d1, d2, d3, d4] => { results := [.lit (.bool false)], args := [d1, d2, d3, d4] }
  | _ => none }
def FnExactLearnWrongFalsely : Prop := fnExactLearnRow.holds Try.pinned (OpenSpec.ofChange fnExactLearnWrong)

/-- 'laws.FnExactGetVec': WHATEVER THE INPUT: true; the input reads as it did. -/
def fnExactGetVecSpec : ChangeSpec := { name := "fnExactGetVec", fn := fun _ => fun
  | [d] => { results := [.lit (.bool true)], args := [d] }
  | _ => none }
def fnExactGetVecRow : OpenClaim := { program := "ytebffdmkfkfoaaa", sum := "4c523b01ec5adeb88e2190730de127d7fdc0a32524a49f7ace09b20469d23dd9", func := "loop.example/g00326/laws.FnExactGetVec", spec := "fnExactGetVec", apart := false }
def FnExactGetVecSaid : Prop := fnExactGetVecRow.holds Try.pinned (OpenSpec.ofChange fnExactGetVecSpec)

/-- ITS FALSE NEIGHBOUR: 'it returns false'. Refute it at one input. -/
def fnExactGetVecWrong : ChangeSpec := { name := "fnExactGetVec", fn := fun _ => fun
  | [d] => { results := [.lit (.bool false)], args := [d] }
  | _ => none }
def FnExactGetVecWrongFalsely : Prop := fnExactGetVecRow.holds Try.pinned (OpenSpec.ofChange fnExactGetVecWrong)

/-- 'laws.FnForgets': WHATEVER THE INPUT: true; the input reads as it did. -/
def fnForgetsSpec : ChangeSpec := { name := "fnForgets", fn := fun _ => fun
  | [d] => { results := [.lit (.bool true)], args := [d] }
  | _ => none }
def fnForgetsRow : OpenClaim := { program := "ytebffdmkfkfoaaa", sum := "4c523b01ec5adeb88e2190730de127d7fdc0a32524a49f7ace09b20469d23dd9", func := "loop.example/g00326/laws.FnForgets", spec := "fnForgets", apart := false }
def FnForgetsSaid : Prop := fnForgetsRow.holds Try.pinned (OpenSpec.ofChange fnForgetsSpec)

/-- ITS FALSE NEIGHBOUR: 'it returns false'. Refute it at one input. -/
def fnForgetsWrong : ChangeSpec := { name := "fnForgets", fn := fun _ => fun
  | [d] => { results := [.lit (.bool false)], args := [d] }
  | _ => none }
def FnForgetsWrongFalsely : Prop := fnForgetsRow.holds Try.pinned (OpenSpec.ofChange fnForgetsWrong)

/-- 'laws.FnStatics': WHATEVER THE INPUT: true; the input reads as it did. -/
def fnStaticsSpec : ChangeSpec := { name := "fnStatics", fn := fun _ => fun
  | [d] => { results := [.lit (.bool true)], args := [d] }
  | _ => none }
def fnStaticsRow : OpenClaim := { program := "ytebffdmkfkfoaaa", sum := "4c523b01ec5adeb88e2190730de127d7fdc0a32524a49f7ace09b20469d23dd9", func := "loop.example/g00326/laws.FnStatics", spec := "fnStatics", apart := false }
def FnStaticsSaid : Prop := fnStaticsRow.holds Try.pinned (OpenSpec.ofChange fnStaticsSpec)

/-- ITS FALSE NEIGHBOUR: 'it returns false'. Refute it at one input. -/
def fnStaticsWrong : ChangeSpec := { name := "fnStatics", fn := fun _ => fun
  | [d] => { results := [.lit (.bool false)], args := [d] }
  | _ => none }
def FnStaticsWrongFalsely : Prop := fnStaticsRow.holds Try.pinned (OpenSpec.ofChange fnStaticsWrong)

/-- 'laws.FnExactGetFrame': WHATEVER THE INPUT: true; the input reads as it did. -/
def fnExactGetFrameSpec : ChangeSpec := { name := "fnExactGetFrame", fn := fun _ => fun
  | [d] => { results := [.lit (.bool true)], args := [d] }
  | _ => none }
def fnExactGetFrameRow : OpenClaim := { program := "ytebffdmkfkfoaaa", sum := "4c523b01ec5adeb88e2190730de127d7fdc0a32524a49f7ace09b20469d23dd9", func := "loop.example/g00326/laws.FnExactGetFrame", spec := "fnExactGetFrame", apart := false }
def FnExactGetFrameSaid : Prop := fnExactGetFrameRow.holds Try.pinned (OpenSpec.ofChange fnExactGetFrameSpec)

/-- ITS FALSE NEIGHBOUR: 'it returns false'. Refute it at one input. -/
def fnExactGetFrameWrong : ChangeSpec := { name := "fnExactGetFrame", fn := fun _ => fun
  | [d] => { results := [.lit (.bool false)], args := [d] }
  | _ => none }
def FnExactGetFrameWrongFalsely : Prop := fnExactGetFrameRow.holds Try.pinned (OpenSpec.ofChange fnExactGetFrameWrong)

/-- 'laws.FnExactPduOk': WHATEVER THE INPUT: true; the input reads as it did. -/
def fnExactPduOkSpec : ChangeSpec := { name := "fnExactPduOk", fn := fun _ => fun
  | [d] => { results := [.lit (.bool true)], args := [d] }
  | _ => none }
def fnExactPduOkRow : OpenClaim := { program := "ytebffdmkfkfoaaa", sum := "4c523b01ec5adeb88e2190730de127d7fdc0a32524a49f7ace09b20469d23dd9", func := "loop.example/g00326/laws.FnExactPduOk", spec := "fnExactPduOk", apart := false }
def FnExactPduOkSaid : Prop := fnExactPduOkRow.holds Try.pinned (OpenSpec.ofChange fnExactPduOkSpec)

/-- ITS FALSE NEIGHBOUR: 'it returns false'. Refute it at one input. -/
def fnExactPduOkWrong : ChangeSpec := { name := "fnExactPduOk", fn := fun _ => fun
  | [d] => { results := [.lit (.bool false)], args := [d] }
  | _ => none }
def FnExactPduOkWrongFalsely : Prop := fnExactPduOkRow.holds Try.pinned (OpenSpec.ofChange fnExactPduOkWrong)

/-- 'laws.FnFdbsBent': WHATEVER THE INPUT: true; the input reads as it did. -/
def fnFdbsBentSpec : ChangeSpec := { name := "fnFdbsBent", fn := fun _ => fun
  | [d] => { results := [.lit (.bool true)], args := [d] }
  | _ => none }
def fnFdbsBentRow : OpenClaim := { program := "ytebffdmkfkfoaaa", sum := "4c523b01ec5adeb88e2190730de127d7fdc0a32524a49f7ace09b20469d23dd9", func := "loop.example/g00326/laws.FnFdbsBent", spec := "fnFdbsBent", apart := false }
def FnFdbsBentSaid : Prop := fnFdbsBentRow.holds Try.pinned (OpenSpec.ofChange fnFdbsBentSpec)

/-- ITS FALSE NEIGHBOUR: 'it returns false'. Refute it at one input. -/
def fnFdbsBentWrong : ChangeSpec := { name := "fnFdbsBent", fn := fun _ => fun
  | [d] => { results := [.lit (.bool false)], args := [d] }
  | _ => none }
def FnFdbsBentWrongFalsely : Prop := fnFdbsBentRow.holds Try.pinned (OpenSpec.ofChange fnFdbsBentWrong)

/-- 'laws.FnVecs': WHATEVER THE INPUT: true; the input reads as it did. -/
def fnVecsSpec : ChangeSpec := { name := "fnVecs", fn := fun _ => fun
  | [d] => { results := [.lit (.bool true)], args := [d] }
  | _ => none }
def fnVecsRow : OpenClaim := { program := "ytebffdmkfkfoaaa", sum := "4c523b01ec5adeb88e2190730de127d7fdc0a32524a49f7ace09b20469d23dd9", func := "loop.example/g00326/laws.FnVecs", spec := "fnVecs", apart := false }
def FnVecsSaid : Prop := fnVecsRow.holds Try.pinned (OpenSpec.ofChange fnVecsSpec)

/-- ITS FALSE NEIGHBOUR: 'it returns false'. Refute it at one input. -/
def fnVecsWrong : ChangeSpec := { name := "fnVecs", fn := fun _ => fun
  | [d] => { results := [.lit (.bool false)], args := [d] }
  | _ => none }
def FnVecsWrongFalsely : Prop := fnVecsRow.holds Try.pinned (OpenSpec.ofChange fnVecsWrong)

/- THE SECOND FORM. 'bulk': how many values and letters a reading holds, each counted each time it is reached (what is shared counts as often as it is met; a slice's spare places count too). A statement '..UptoSaid' is the law's where the arguments, and the package variables that the reading takes, are together of bulk at most 1048576: NARROWER than '..Said'. Prove '..Said' where nothing that the law and all that it calls make is longer than what came in: it says more and counts as full. Else prove '..UptoSaid'. A law counts once. -/
mutual
def uptoBulk {H : Type} : DataW H → Nat
  | .lit (.string bytes) => bytes.length + 1
  | .lit _ => 1
  | .nil => 1
  | .ptr d => uptoBulk d + 1
  | .slice elems spare => uptoBulkAll elems + uptoBulkAll spare + 1
  | .agg parts => uptoBulkAll parts + 1
  | .iface _ d => uptoBulk d + 1
  | .map entries => uptoBulkEntries entries + 1
  | .held _ => 1
def uptoBulkAll {H : Type} : List (DataW H) → Nat
  | [] => 0
  | d :: r => uptoBulk d + uptoBulkAll r
def uptoBulkEntries {H : Type} : List (Lit × DataW H) → Nat
  | [] => 0
  | x :: r => uptoBulkEntry x + uptoBulkEntries r
def uptoBulkEntry {H : Type} : Lit × DataW H → Nat
  | (.string bytes, d) => bytes.length + uptoBulk d + 1
  | (_, d) => uptoBulk d + 1
 end
def uptoSmall : (H : Type) → List (DataW H) → Bool := fun _ ds => decide (uptoBulkAll ds ≤ 1048576)
def OpenSpec.upto (s : _root_.Go.ChangeSpec) : _root_.Go.OpenSpec := { _root_.Go.OpenSpec.ofChange s with cond := some uptoSmall }

/-- 'laws.FnExactSameBinds', WHERE WHAT IT READS IS OF BULK AT MOST 1048576: true; the input reads as it did. -/
def fnExactSameBindsUptoRow : OpenClaim := { program := "ytebffdmkfkfoaaa", sum := "4c523b01ec5adeb88e2190730de127d7fdc0a32524a49f7ace09b20469d23dd9", func := "loop.example/g00326/laws.FnExactSameBinds", spec := "fnExactSameBinds", apart := false, narrowed := true }
def FnExactSameBindsUptoSaid : Prop := fnExactSameBindsUptoRow.holds Try.pinned (OpenSpec.upto fnExactSameBindsSpec)

/-- 'laws.FnExactSetStatic', WHERE WHAT IT READS IS OF BULK AT MOST 1048576: true; the input reads as it did. -/
def fnExactSetStaticUptoRow : OpenClaim := { program := "ytebffdmkfkfoaaa", sum := "4c523b01ec5adeb88e2190730de127d7fdc0a32524a49f7ace09b20469d23dd9", func := "loop.example/g00326/laws.FnExactSetStatic", spec := "fnExactSetStatic", apart := false, narrowed := true }
def FnExactSetStaticUptoSaid : Prop := fnExactSetStaticUptoRow.holds Try.pinned (OpenSpec.upto fnExactSetStaticSpec)

/-- 'laws.FnLearns', WHERE WHAT IT READS IS OF BULK AT MOST 1048576: true; the input reads as it did. -/
def fnLearnsUptoRow : OpenClaim := { program := "ytebffdmkfkfoaaa", sum := "4c523b01ec5adeb88e2190730de127d7fdc0a32524a49f7ace09b20469d23dd9", func := "loop.example/g00326/laws.FnLearns", spec := "fnLearns", apart := false, narrowed := true }
def FnLearnsUptoSaid : Prop := fnLearnsUptoRow.holds Try.pinned (OpenSpec.upto fnLearnsSpec)

/-- 'laws.FnExactLearn', WHERE WHAT IT READS IS OF BULK AT MOST 1048576: true; the input reads as it did. -/
def fnExactLearnUptoRow : OpenClaim := { program := "ytebffdmkfkfoaaa", sum := "4c523b01ec5adeb88e2190730de127d7fdc0a32524a49f7ace09b20469d23dd9", func := "loop.example/g00326/laws.FnExactLearn", spec := "fnExactLearn", apart := false, narrowed := true }
def FnExactLearnUptoSaid : Prop := fnExactLearnUptoRow.holds Try.pinned (OpenSpec.upto fnExactLearnSpec)

/-- 'laws.FnExactGetVec', WHERE WHAT IT READS IS OF BULK AT MOST 1048576: true; the input reads as it did. -/
def fnExactGetVecUptoRow : OpenClaim := { program := "ytebffdmkfkfoaaa", sum := "4c523b01ec5adeb88e2190730de127d7fdc0a32524a49f7ace09b20469d23dd9", func := "loop.example/g00326/laws.FnExactGetVec", spec := "fnExactGetVec", apart := false, narrowed := true }
def FnExactGetVecUptoSaid : Prop := fnExactGetVecUptoRow.holds Try.pinned (OpenSpec.upto fnExactGetVecSpec)

/-- 'laws.FnForgets', WHERE WHAT IT READS IS OF BULK AT MOST 1048576: true; the input reads as it did. -/
def fnForgetsUptoRow : OpenClaim := { program := "ytebffdmkfkfoaaa", sum := "4c523b01ec5adeb88e2190730de127d7fdc0a32524a49f7ace09b20469d23dd9", func := "loop.example/g00326/laws.FnForgets", spec := "fnForgets", apart := false, narrowed := true }
def FnForgetsUptoSaid : Prop := fnForgetsUptoRow.holds Try.pinned (OpenSpec.upto fnForgetsSpec)

/-- 'laws.FnStatics', WHERE WHAT IT READS IS OF BULK AT MOST 1048576: true; the input reads as it did. -/
def fnStaticsUptoRow : OpenClaim := { program := "ytebffdmkfkfoaaa", sum := "4c523b01ec5adeb88e2190730de127d7fdc0a32524a49f7ace09b20469d23dd9", func := "loop.example/g00326/laws.FnStatics", spec := "fnStatics", apart := false, narrowed := true }
def FnStaticsUptoSaid : Prop := fnStaticsUptoRow.holds Try.pinned (OpenSpec.upto fnStaticsSpec)

/-- 'laws.FnExactGetFrame', WHERE WHAT IT READS IS OF BULK AT MOST 1048576: true; the input reads as it did. -/
def fnExactGetFrameUptoRow : OpenClaim := { program := "ytebffdmkfkfoaaa", sum := "4c523b01ec5adeb88e2190730de127d7fdc0a32524a49f7ace09b20469d23dd9", func := "loop.example/g00326/laws.FnExactGetFrame", spec := "fnExactGetFrame", apart := false, narrowed := true }
def FnExactGetFrameUptoSaid : Prop := fnExactGetFrameUptoRow.holds Try.pinned (OpenSpec.upto fnExactGetFrameSpec)

/-- 'laws.FnExactPduOk', WHERE WHAT IT READS IS OF BULK AT MOST 1048576: true; the input reads as it did. -/
def fnExactPduOkUptoRow : OpenClaim := { program := "ytebffdmkfkfoaaa", sum := "4c523b01ec5adeb88e2190730de127d7fdc0a32524a49f7ace09b20469d23dd9", func := "loop.example/g00326/laws.FnExactPduOk", spec := "fnExactPduOk", apart := false, narrowed := true }
def FnExactPduOkUptoSaid : Prop := fnExactPduOkUptoRow.holds Try.pinned (OpenSpec.upto fnExactPduOkSpec)

/-- 'laws.FnFdbsBent', WHERE WHAT IT READS IS OF BULK AT MOST 1048576: true; the input reads as it did. -/
def fnFdbsBentUptoRow : OpenClaim := { program := "ytebffdmkfkfoaaa", sum := "4c523b01ec5adeb88e2190730de127d7fdc0a32524a49f7ace09b20469d23dd9", func := "loop.example/g00326/laws.FnFdbsBent", spec := "fnFdbsBent", apart := false, narrowed := true }
def FnFdbsBentUptoSaid : Prop := fnFdbsBentUptoRow.holds Try.pinned (OpenSpec.upto fnFdbsBentSpec)

/-- 'laws.FnVecs', WHERE WHAT IT READS IS OF BULK AT MOST 1048576: true; the input reads as it did. -/
def fnVecsUptoRow : OpenClaim := { program := "ytebffdmkfkfoaaa", sum := "4c523b01ec5adeb88e2190730de127d7fdc0a32524a49f7ace09b20469d23dd9", func := "loop.example/g00326/laws.FnVecs", spec := "fnVecs", apart := false, narrowed := true }
def FnVecsUptoSaid : Prop := fnVecsUptoRow.holds Try.pinned (OpenSpec.upto fnVecsSpec)

end Rows
end Go.Proofs.Ytebffdmkfkfoaaa
