/- The functions that one law reaches, as Lean functions, with their walks: printed by a program of this seat (wip/tools) out of the translation. -/
import Derived.Test.YtebffdmkfkfoaaaProg
import Derived.Below
import Derived.Deep.Draws
import Derived.Deep.AppendLies
import Derived.Maps.AppendAt
import Derived.OwnWalk
import Derived.Laws.BytesArg
import Derived.Laws.MakeOwn
import Derived.Laws.OwnMore
import Derived.Deep.OwnRows
import Derived.Tactics
import Derived.Lib.ConvBytes
import Derived.Laws.Slices
import Derived.WalkKit
import Derived.KernelRfl
import Derived.RowKit3
import Derived.Deep.LoopGhost
import Derived.Deep.QuietTactic
import Derived.BigQuiet
import Derived.WideLaws
import Derived.Deep.DeepCutAuto
import Derived.Deep.CutBlock
import Derived.Deep.RegionHeld3
import Derived.Laws.Rows
import Derived.Lib.AppendStr
import Derived.ArgAppend
import Derived.Laws.IdiomCopy
import Derived.OrdersHeld
import Derived.Laws.BitsLemmas
import Derived.RowKit
import Derived.Test.YtebffdmkfkfoaaaWWords
import Derived.Test.YtebffdmkfkfoaaaWLast
import Derived.Test.YtebffdmkfkfoaaaWTab
import Derived.Test.YtebffdmkfkfoaaaWFour
import Derived.Test.YtebffdmkfkfoaaaWQPut
import Derived.Test.YtebffdmkfkfoaaaWApart
import Derived.Test.YtebffdmkfkfoaaaWArr
import Derived.Test.YtebffdmkfkfoaaaWZeros
import Derived.Test.YtebffdmkfkfoaaaWFoot
import Derived.Test.YtebffdmkfkfoaaaWKept
import Derived.Test.YtebffdmkfkfoaaaWShare
import Derived.Test.YtebffdmkfkfoaaaWN
import Derived.Test.YtebffdmkfkfoaaaWFootNe
import Derived.Test.YtebffdmkfkfoaaaWAt
import Derived.Test.YtebffdmkfkfoaaaWEqStruct
import Derived.Test.YtebffdmkfkfoaaaWRepsOne
import Derived.Test.YtebffdmkfkfoaaaWInv
import Derived.Test.YtebffdmkfkfoaaaWInvWords
import Derived.Test.YtebffdmkfkfoaaaWGuard
import Derived.Test.YtebffdmkfkfoaaaWNEv
import Derived.Test.YtebffdmkfkfoaaaWMore
namespace Go.Proofs.Ytebffdmkfkfoaaa.XFnExactGetVec
open Go.RowKit Go.Proofs.YtebffdmkfkfoaaaW.PrintWords Go.Proofs.YtebffdmkfkfoaaaW.PrintLast Go.Proofs.YtebffdmkfkfoaaaW.PrintMore
attribute [local go_sem] max2_int min2_int max_two min_two max_three min_three max_four min_four   -- for this text's walks alone
set_option linter.unusedVariables false
set_option linter.unusedSimpArgs false



def errW : Option Int → Value
  | none => .nilIface
  | some c => .iface 0 (.int .i64 c)
theorem errW_none : errW none = .nilIface := rfl
theorem errW_some (c : Int) : errW (some c) = .iface 0 (.int .i64 c) := rfl

theorem info5 : (Try.prog.info? 5).map (fun i => (i.zero, i.size, i.bytes)) = some (some (.int .u8 0), 1, 1) := by kernel_rfl
theorem am {p : Prop} (h : p) : Aside0 p := Aside0.mk h
theorem oda {p : Prop} [Decidable p] (h : decide p = true := by first | (with_reducible assumption) | assumption) : p := of_decide_eq_true h
theorem bq {a b : Prop} (h : a) (g : a → b := by intro h_; repeat (first | (with_reducible first | exact h_ | apply below_alloc | apply pw_below_drewN | apply below_drew1) | exact h_)) : b := g h
theorem kqR {a b : Prop} (h : a) (g : a → b := by intro h_; (with_reducible repeat (first | apply Kd.R_alloc | apply Kd.R_drewN | apply Kd.R_drew)); exact h_) : b := g h
theorem kqS {a b : Prop} (h : a) (g : a → b := by intro h_; (with_reducible repeat (first | apply Kd.S_alloc | apply Kd.S_drewN | apply Kd.S_drew)); exact h_) : b := g h
theorem cq {a b : Prop} (h : a) (g : a → b := by intro h_; repeat (first | exact h_ | (with_reducible refine Kd.C_alloc ?_ _) | (with_reducible refine Kd.C_drewN ?_ _) | (with_reducible refine Kd.C_drew ?_))) : b := g h
theorem zq {a b : Prop} (h : a) (g : a → b := by intro h_; (with_reducible repeat (first | refine blk_drewN ?_ _ | refine blk_drew ?_ | refine blk_alloc ?_ _)); exact h_) : b := g h

-- the values' own types
def rd_L1 (xs : List (List Int)) (i : Int) : (List Int) := xs.getD i.toNat ([] : List Int)
theorem at_L1 {w : World} {A : Option Addr} {n : Nat} {xs : List (List Int)} (h : Kd.C (Kd.slice 5 (Kd.int .u8)) w A n xs) (i : Int) (h0 : 0 ≤ i) (h1 : i < n) : ∃ ad A0 c0, A = some ad ∧ w.cell? (ad.add i.toNat) = some (.slice A0 (rd_L1 xs i).length c0) ∧ (rd_L1 xs i).length ≤ c0 ∧ (Kd.int .u8).C w A0 (rd_L1 xs i).length (rd_L1 xs i) := by
  obtain ⟨ad, c, e, _, hK, hc0⟩ := Kd.C_get h ([] : List Int) i h0 h1
  have hc : ∀ j u, c[j]? = some u → w.cell? (ad.add (i.toNat * 1 + j)) = some u := hc0
  obtain ⟨A0, c0, rfl, l0, g0⟩ := hK
  exact ⟨ad, A0, c0, e, by have hq := hc 0 _ rfl; rwa [Nat.mul_one, Nat.add_zero] at hq, l0, g0⟩

end Go.Proofs.Ytebffdmkfkfoaaa.XFnExactGetVec
