/- The pure side of FnExactVecOk: the program's VecOk and the reference's agree at all arguments. No conditions but those of the given statement. -/
import Derived.Test.YticlefceplcbkaaXFnExactVecOkx1
namespace Go.Proofs.Yticlefceplcbkaa.Pure
open Go.RowKit Go.Proofs.Yticlefceplcbkaa.XFnExactVecOk Go.Proofs.YticlefceplcbkaaW.PrintWords Go.Proofs.YticlefceplcbkaaW.PrintLast Go.Proofs.YticlefceplcbkaaW.PrintMore
set_option linter.unusedVariables false
set_option linter.unusedSimpArgs false

theorem w64 {x : Int} (h0 : -9223372036854775808 ≤ x) (h1 : x ≤ 9223372036854775807) : wrap64 x = x := by
  unfold wrap64
  omega
theorem wf64 {x : Int} (h : (Lit.int .i64 x).wf = true) : -9223372036854775808 ≤ x ∧ x ≤ 9223372036854775807 := by
  simp only [Lit.wf, Bool.and_eq_true, decide_eq_true_eq] at h
  exact h
theorem wf8 {x : Int} (h : (Lit.int .u8 x).wf = true) : 0 ≤ x ∧ x ≤ 255 := by
  simp only [Lit.wf, Bool.and_eq_true, decide_eq_true_eq] at h
  exact h
theorem rd_mid (pre rest : List Int) (r : Int) : rd (pre ++ r :: rest) (pre.length : Int) = r := by
  unfold rd
  simp [List.getD_eq_getElem?_getD]
theorem set_mid {α : Type} (pre rest : List α) (r v : α) : (pre ++ r :: rest).set (pre.length : Int).toNat v = pre ++ v :: rest := by
  rw [Int.toNat_natCast, List.set_append_right _ _ (Nat.le_refl _)]
  simp
theorem succ_of {d k : Nat} (h : d < k) : ∃ m, k = m + 1 := ⟨k - 1, by omega⟩
theorem Ev.at_ {α : Type} {g : Nat → Option α} {r : α} (n : Nat) (h : ∀ k, n < k → g k = some r) : Ev g r := ⟨n + 1, fun k hk => h k (by omega)⟩
theorem Ev.some_ {α : Type} {v : Option α} {r : α} (h : v = some r) : Ev (fun _ => v) r := ⟨0, fun _ _ => h⟩
theorem Ev.succ {α : Type} {g : Nat → Option α} {r : α} (h : Ev (fun k => g (k + 1)) r) : Ev g r := by
  obtain ⟨K, h⟩ := h
  refine ⟨K + 1, fun n hn => ?_⟩
  obtain ⟨m, rfl⟩ : ∃ m, n = m + 1 := ⟨n - 1, by omega⟩
  exact h m (by omega)
theorem Ev.some_const {α : Type} {g : Nat → Option α} {r : α} (h : ∀ k, g k = some r) : Ev g r := ⟨0, fun k _ => h k⟩

theorem l1In_eq (a b c : Int) : spec_l1In.f a b c = some (decide (b ≤ a ∧ a ≤ c)) := by
  unfold spec_l1In.f
  by_cases h : b ≤ a
  · rw [if_pos h]; simp [h]
  · rw [if_neg h]; simp [h]

theorem in_eq (a b c : Int) : impl_in.f a b c = some (decide (b ≤ a ∧ a ≤ c)) := by
  unfold impl_in.f
  by_cases h : b ≤ a
  · rw [if_pos h]; simp [h]
  · rw [if_neg h]; simp [h]

def vecOk (a b c d e : Int) : Bool := decide (1 ≤ a ∧ a ≤ 99) && (decide (0 ≤ b ∧ b ≤ 100000) && (decide (0 ≤ c ∧ c ≤ 10) && (decide (1 ≤ d ∧ d ≤ 99) && decide (0 ≤ e ∧ e ≤ 7))))

theorem sVecOk_eq (a b c d e : Int) : spec_VecOk.f a b c d e = some (vecOk a b c d e) := by
  unfold spec_VecOk.f vecOk
  simp only [l1In_eq, Option.bind_some]
  generalize decide (1 ≤ a ∧ a ≤ 99) = p1
  generalize decide (0 ≤ b ∧ b ≤ 100000) = p2
  generalize decide (0 ≤ c ∧ c ≤ 10) = p3
  generalize decide (1 ≤ d ∧ d ≤ 99) = p4
  generalize decide (0 ≤ e ∧ e ≤ 7) = p5
  cases p1 <;> cases p2 <;> cases p3 <;> cases p4 <;> cases p5 <;> rfl

theorem iVecOk_eq (a b c d e : Int) : impl_VecOk.f a b c d e = some (vecOk a b c d e) := by
  unfold impl_VecOk.f vecOk
  simp only [in_eq, Option.bind_some]
  generalize decide (1 ≤ a ∧ a ≤ 99) = p1
  generalize decide (0 ≤ b ∧ b ≤ 100000) = p2
  generalize decide (0 ≤ c ∧ c ≤ 10) = p3
  generalize decide (1 ≤ d ∧ d ≤ 99) = p4
  generalize decide (0 ≤ e ∧ e ≤ 7) = p5
  cases p1 <;> cases p2 <;> cases p3 <;> cases p4 <;> cases p5 <;> rfl

theorem FnExactVecOk : laws_FnExactVecOk.Pure := by
  intro a b c d e _ _ _ _ _
  unfold laws_FnExactVecOk.f laws_toVec.f
  simp only [Option.bind_some, sVecOk_eq, iVecOk_eq, bne_self_eq_false, Bool.false_eq_true, if_false]

end Go.Proofs.Yticlefceplcbkaa.Pure
