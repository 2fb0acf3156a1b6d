/- The pure side of FnExactStepVec: the program's StepVec and the reference's agree at all arguments. No conditions but those of the given statement. -/
import Derived.Test.YticlefceplcbkaaXFnExactStepVecx2
namespace Go.Proofs.Yticlefceplcbkaa.Pure
open Go.RowKit Go.Proofs.Yticlefceplcbkaa.XFnExactStepVec Go.Proofs.YticlefceplcbkaaW.PrintWords Go.Proofs.YticlefceplcbkaaW.PrintLast Go.Proofs.YticlefceplcbkaaW.PrintMore
set_option linter.unusedVariables false
set_option linter.unusedSimpArgs false

theorem w64 {x : Int} (h0 : -9223372036854775808 ≤ x) (h1 : x ≤ 9223372036854775807) : wrap64 x = x := by
  unfold wrap64
  omega
theorem wf64 {x : Int} (h : (Lit.int .i64 x).wf = true) : -9223372036854775808 ≤ x ∧ x ≤ 9223372036854775807 := by
  simp only [Lit.wf, Bool.and_eq_true, decide_eq_true_eq] at h
  exact h
theorem wf8 {x : Int} (h : (Lit.int .u8 x).wf = true) : 0 ≤ x ∧ x ≤ 255 := by
  simp only [Lit.wf, Bool.and_eq_true, decide_eq_true_eq] at h
  exact h
theorem rd_mid (pre rest : List Int) (r : Int) : rd (pre ++ r :: rest) (pre.length : Int) = r := by
  unfold rd
  simp [List.getD_eq_getElem?_getD]
theorem set_mid {α : Type} (pre rest : List α) (r v : α) : (pre ++ r :: rest).set (pre.length : Int).toNat v = pre ++ v :: rest := by
  rw [Int.toNat_natCast, List.set_append_right _ _ (Nat.le_refl _)]
  simp
theorem succ_of {d k : Nat} (h : d < k) : ∃ m, k = m + 1 := ⟨k - 1, by omega⟩
theorem Ev.at_ {α : Type} {g : Nat → Option α} {r : α} (n : Nat) (h : ∀ k, n < k → g k = some r) : Ev g r := ⟨n + 1, fun k hk => h k (by omega)⟩
theorem Ev.some_ {α : Type} {v : Option α} {r : α} (h : v = some r) : Ev (fun _ => v) r := ⟨0, fun _ _ => h⟩
theorem Ev.succ {α : Type} {g : Nat → Option α} {r : α} (h : Ev (fun k => g (k + 1)) r) : Ev g r := by
  obtain ⟨K, h⟩ := h
  refine ⟨K + 1, fun n hn => ?_⟩
  obtain ⟨m, rfl⟩ : ∃ m, n = m + 1 := ⟨n - 1, by omega⟩
  exact h m (by omega)
theorem Ev.some_const {α : Type} {g : Nat → Option α} {r : α} (h : ∀ k, g k = some r) : Ev g r := ⟨0, fun k _ => h k⟩

theorem l1In_eq (a b c : Int) : spec_l1In.f a b c = some (decide (b ≤ a ∧ a ≤ c)) := by
  unfold spec_l1In.f
  by_cases h : b ≤ a
  · rw [if_pos h]; simp [h]
  · rw [if_neg h]; simp [h]

theorem in_eq (a b c : Int) : impl_in.f a b c = some (decide (b ≤ a ∧ a ≤ c)) := by
  unfold impl_in.f
  by_cases h : b ≤ a
  · rw [if_pos h]; simp [h]
  · rw [if_neg h]; simp [h]

def vecOk (a b c d e : Int) : Bool := decide (1 ≤ a ∧ a ≤ 99) && (decide (0 ≤ b ∧ b ≤ 100000) && (decide (0 ≤ c ∧ c ≤ 10) && (decide (1 ≤ d ∧ d ≤ 99) && decide (0 ≤ e ∧ e ≤ 7))))

theorem sVecOk_eq (a b c d e : Int) : spec_VecOk.f a b c d e = some (vecOk a b c d e) := by
  unfold spec_VecOk.f vecOk
  simp only [l1In_eq, Option.bind_some]
  generalize decide (1 ≤ a ∧ a ≤ 99) = p1
  generalize decide (0 ≤ b ∧ b ≤ 100000) = p2
  generalize decide (0 ≤ c ∧ c ≤ 10) = p3
  generalize decide (1 ≤ d ∧ d ≤ 99) = p4
  generalize decide (0 ≤ e ∧ e ≤ 7) = p5
  cases p1 <;> cases p2 <;> cases p3 <;> cases p4 <;> cases p5 <;> rfl

theorem iVecOk_eq (a b c d e : Int) : impl_VecOk.f a b c d e = some (vecOk a b c d e) := by
  unfold impl_VecOk.f vecOk
  simp only [in_eq, Option.bind_some]
  generalize decide (1 ≤ a ∧ a ≤ 99) = p1
  generalize decide (0 ≤ b ∧ b ≤ 100000) = p2
  generalize decide (0 ≤ c ∧ c ≤ 10) = p3
  generalize decide (1 ≤ d ∧ d ≤ 99) = p4
  generalize decide (0 ≤ e ∧ e ≤ 7) = p5
  cases p1 <;> cases p2 <;> cases p3 <;> cases p4 <;> cases p5 <;> rfl

def stepVec (a b c d e n : Int) : Int × Int × Int × Int × Int × Bool :=
  if (vecOk a b c d e && decide (1 ≤ n ∧ n ≤ 1000)) = true then (if vecOk a (wrap64 (b + n)) (wrap64 (c + 1)) d e = true then (a, wrap64 (b + n), wrap64 (c + 1), d, e, true) else (a, b, c, d, e, false)) else (a, b, c, d, e, false)

theorem sStepVec_ev (a b c d e n : Int) : Ev (fun k => spec_StepVec.f k a b c d e n) (stepVec a b c d e n) := by
  refine Ev.succ ?_
  refine Ev.some_const (fun k => ?_)
  simp only [spec_StepVec.f, spec_StepVec.j0, sVecOk_eq, l1In_eq, Option.bind_some]
  unfold stepVec
  generalize vecOk a (wrap64 (b + n)) (wrap64 (c + 1)) d e = p
  generalize vecOk a b c d e = q
  generalize decide (1 ≤ n ∧ n ≤ 1000) = r
  cases p <;> cases q <;> cases r <;> rfl

theorem iStepVec_ev (a b c d e n : Int) : Ev (fun k => impl_StepVec.f k a b c d e n) (stepVec a b c d e n) := by
  refine Ev.succ ?_
  refine Ev.some_const (fun k => ?_)
  simp only [impl_StepVec.f, impl_StepVec.j0, iVecOk_eq, in_eq, Option.bind_some]
  unfold stepVec
  generalize vecOk a (wrap64 (b + n)) (wrap64 (c + 1)) d e = p
  generalize vecOk a b c d e = q
  generalize decide (1 ≤ n ∧ n ≤ 1000) = r
  cases p <;> cases q <;> cases r <;> rfl

theorem eqVec_eq (a b c d e : Int) : laws_eqVec.f a b c d e a b c d e = some true := by
  unfold laws_eqVec.f
  simp only [if_true]

theorem FnExactStepVec : laws_FnExactStepVec.Pure := by
  intro a b c d e n _ _ _ _ _ _
  refine Ev.rounds ?_
  unfold laws_FnExactStepVec.f
  simp only [laws_toVec.f, Option.bind_some]
  refine Ev.bind (sStepVec_ev a b c d e n) ?_
  refine Ev.bind (iStepVec_ev a b c d e n) ?_
  simp only [eqVec_eq, Option.bind_some, if_true, bne_self_eq_false, Bool.false_eq_true, if_false]
  exact Ev.now _

end Go.Proofs.Yticlefceplcbkaa.Pure
