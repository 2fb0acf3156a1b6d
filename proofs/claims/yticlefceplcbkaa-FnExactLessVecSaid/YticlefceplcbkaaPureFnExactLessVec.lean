/- The pure side of FnExactLessVec: the program's LessVec and the reference's agree at all arguments. No conditions but those of the given statement. -/
import Derived.Test.YticlefceplcbkaaXFnExactLessVecx1
namespace Go.Proofs.Yticlefceplcbkaa.Pure
open Go.RowKit Go.Proofs.Yticlefceplcbkaa.XFnExactLessVec Go.Proofs.YticlefceplcbkaaW.PrintWords Go.Proofs.YticlefceplcbkaaW.PrintLast Go.Proofs.YticlefceplcbkaaW.PrintMore
set_option linter.unusedVariables false
set_option linter.unusedSimpArgs false

theorem w64 {x : Int} (h0 : -9223372036854775808 ≤ x) (h1 : x ≤ 9223372036854775807) : wrap64 x = x := by
  unfold wrap64
  omega
theorem wf64 {x : Int} (h : (Lit.int .i64 x).wf = true) : -9223372036854775808 ≤ x ∧ x ≤ 9223372036854775807 := by
  simp only [Lit.wf, Bool.and_eq_true, decide_eq_true_eq] at h
  exact h
theorem wf8 {x : Int} (h : (Lit.int .u8 x).wf = true) : 0 ≤ x ∧ x ≤ 255 := by
  simp only [Lit.wf, Bool.and_eq_true, decide_eq_true_eq] at h
  exact h
theorem rd_mid (pre rest : List Int) (r : Int) : rd (pre ++ r :: rest) (pre.length : Int) = r := by
  unfold rd
  simp [List.getD_eq_getElem?_getD]
theorem set_mid {α : Type} (pre rest : List α) (r v : α) : (pre ++ r :: rest).set (pre.length : Int).toNat v = pre ++ v :: rest := by
  rw [Int.toNat_natCast, List.set_append_right _ _ (Nat.le_refl _)]
  simp
theorem succ_of {d k : Nat} (h : d < k) : ∃ m, k = m + 1 := ⟨k - 1, by omega⟩
theorem Ev.at_ {α : Type} {g : Nat → Option α} {r : α} (n : Nat) (h : ∀ k, n < k → g k = some r) : Ev g r := ⟨n + 1, fun k hk => h k (by omega)⟩
theorem Ev.some_ {α : Type} {v : Option α} {r : α} (h : v = some r) : Ev (fun _ => v) r := ⟨0, fun _ _ => h⟩
theorem Ev.succ {α : Type} {g : Nat → Option α} {r : α} (h : Ev (fun k => g (k + 1)) r) : Ev g r := by
  obtain ⟨K, h⟩ := h
  refine ⟨K + 1, fun n hn => ?_⟩
  obtain ⟨m, rfl⟩ : ∃ m, n = m + 1 := ⟨n - 1, by omega⟩
  exact h m (by omega)
theorem Ev.some_const {α : Type} {g : Nat → Option α} {r : α} (h : ∀ k, g k = some r) : Ev g r := ⟨0, fun k _ => h k⟩

def lessVec (a0 a1 a2 a3 a4 b0 b1 b2 b3 b4 : Int) : Bool := if a0 = b0 then (if a1 = b1 then (if a3 = b3 then decide (a4 < b4) else decide (a3 < b3)) else decide (a1 < b1)) else decide (a0 < b0)
theorem sLessVec_eq (a0 a1 a2 a3 a4 b0 b1 b2 b3 b4 : Int) : spec_LessVec.f a0 a1 a2 a3 a4 b0 b1 b2 b3 b4 = some (lessVec a0 a1 a2 a3 a4 b0 b1 b2 b3 b4) := by
  unfold spec_LessVec.f lessVec
  repeat' split
  all_goals rfl
theorem iLessVec_eq (a0 a1 a2 a3 a4 b0 b1 b2 b3 b4 : Int) : impl_LessVec.f a0 a1 a2 a3 a4 b0 b1 b2 b3 b4 = some (lessVec a0 a1 a2 a3 a4 b0 b1 b2 b3 b4) := by
  unfold impl_LessVec.f lessVec
  repeat' split
  all_goals rfl

theorem FnExactLessVec : laws_FnExactLessVec.Pure := by
  intro a0 a1 a2 a3 a4 b0 b1 b2 b3 b4 _ _ _ _ _ _ _ _ _ _
  unfold laws_FnExactLessVec.f laws_toVec.f
  simp only [Option.bind_some, sLessVec_eq, iLessVec_eq, bne_self_eq_false, Bool.false_eq_true, if_false]

end Go.Proofs.Yticlefceplcbkaa.Pure
