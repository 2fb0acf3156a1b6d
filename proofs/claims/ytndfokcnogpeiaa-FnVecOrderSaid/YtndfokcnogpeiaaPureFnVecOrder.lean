/- The pure side of FnVecOrder: the order of the vectors is a strict one, and a step leads on. No conditions but those of the given statement. -/
import Derived.Test.YtndfokcnogpeiaaXFnVecOrderx5
namespace Go.Proofs.Ytndfokcnogpeiaa.Pure
open Go.RowKit Go.Proofs.Ytndfokcnogpeiaa.XFnVecOrder Go.Proofs.YtndfokcnogpeiaaW.PrintWords Go.Proofs.YtndfokcnogpeiaaW.PrintLast Go.Proofs.YtndfokcnogpeiaaW.PrintMore
set_option linter.unusedVariables false
set_option linter.unusedSimpArgs false

theorem w64 {x : Int} (h0 : -9223372036854775808 ≤ x) (h1 : x ≤ 9223372036854775807) : wrap64 x = x := by
  unfold wrap64
  omega
theorem wf64 {x : Int} (h : (Lit.int .i64 x).wf = true) : -9223372036854775808 ≤ x ∧ x ≤ 9223372036854775807 := by
  simp only [Lit.wf, Bool.and_eq_true, decide_eq_true_eq] at h
  exact h
theorem wf8 {x : Int} (h : (Lit.int .u8 x).wf = true) : 0 ≤ x ∧ x ≤ 255 := by
  simp only [Lit.wf, Bool.and_eq_true, decide_eq_true_eq] at h
  exact h
theorem rd_mid (pre rest : List Int) (r : Int) : rd (pre ++ r :: rest) (pre.length : Int) = r := by
  unfold rd
  simp [List.getD_eq_getElem?_getD]
theorem set_mid {α : Type} (pre rest : List α) (r v : α) : (pre ++ r :: rest).set (pre.length : Int).toNat v = pre ++ v :: rest := by
  rw [Int.toNat_natCast, List.set_append_right _ _ (Nat.le_refl _)]
  simp
theorem succ_of {d k : Nat} (h : d < k) : ∃ m, k = m + 1 := ⟨k - 1, by omega⟩
theorem Ev.at_ {α : Type} {g : Nat → Option α} {r : α} (n : Nat) (h : ∀ k, n < k → g k = some r) : Ev g r := ⟨n + 1, fun k hk => h k (by omega)⟩
theorem Ev.some_ {α : Type} {v : Option α} {r : α} (h : v = some r) : Ev (fun _ => v) r := ⟨0, fun _ _ => h⟩
theorem Ev.succ {α : Type} {g : Nat → Option α} {r : α} (h : Ev (fun k => g (k + 1)) r) : Ev g r := by
  obtain ⟨K, h⟩ := h
  refine ⟨K + 1, fun n hn => ?_⟩
  obtain ⟨m, rfl⟩ : ∃ m, n = m + 1 := ⟨n - 1, by omega⟩
  exact h m (by omega)
theorem Ev.some_const {α : Type} {g : Nat → Option α} {r : α} (h : ∀ k, g k = some r) : Ev g r := ⟨0, fun k _ => h k⟩

theorem l1In_eq (a b c : Int) : spec_l1In.f a b c = some (decide (b ≤ a ∧ a ≤ c)) := by
  unfold spec_l1In.f
  by_cases h : b ≤ a
  · rw [if_pos h]; simp [h]
  · rw [if_neg h]; simp [h]

theorem in_eq (a b c : Int) : impl_in.f a b c = some (decide (b ≤ a ∧ a ≤ c)) := by
  unfold impl_in.f
  by_cases h : b ≤ a
  · rw [if_pos h]; simp [h]
  · rw [if_neg h]; simp [h]

def vecOk (a b c d e : Int) : Bool := decide (1 ≤ a ∧ a ≤ 99) && (decide (0 ≤ b ∧ b ≤ 100000) && (decide (0 ≤ c ∧ c ≤ 10) && (decide (1 ≤ d ∧ d ≤ 99) && decide (0 ≤ e ∧ e ≤ 7))))

theorem sVecOk_eq (a b c d e : Int) : spec_VecOk.f a b c d e = some (vecOk a b c d e) := by
  unfold spec_VecOk.f vecOk
  simp only [l1In_eq, Option.bind_some]
  generalize decide (1 ≤ a ∧ a ≤ 99) = p1
  generalize decide (0 ≤ b ∧ b ≤ 100000) = p2
  generalize decide (0 ≤ c ∧ c ≤ 10) = p3
  generalize decide (1 ≤ d ∧ d ≤ 99) = p4
  generalize decide (0 ≤ e ∧ e ≤ 7) = p5
  cases p1 <;> cases p2 <;> cases p3 <;> cases p4 <;> cases p5 <;> rfl

theorem iVecOk_eq (a b c d e : Int) : impl_VecOk.f a b c d e = some (vecOk a b c d e) := by
  unfold impl_VecOk.f vecOk
  simp only [in_eq, Option.bind_some]
  generalize decide (1 ≤ a ∧ a ≤ 99) = p1
  generalize decide (0 ≤ b ∧ b ≤ 100000) = p2
  generalize decide (0 ≤ c ∧ c ≤ 10) = p3
  generalize decide (1 ≤ d ∧ d ≤ 99) = p4
  generalize decide (0 ≤ e ∧ e ≤ 7) = p5
  cases p1 <;> cases p2 <;> cases p3 <;> cases p4 <;> cases p5 <;> rfl

def lessVec (a0 a1 a2 a3 a4 b0 b1 b2 b3 b4 : Int) : Bool := if a0 = b0 then (if a1 = b1 then (if a3 = b3 then decide (a4 < b4) else decide (a3 < b3)) else decide (a1 < b1)) else decide (a0 < b0)
theorem sLessVec_eq (a0 a1 a2 a3 a4 b0 b1 b2 b3 b4 : Int) : spec_LessVec.f a0 a1 a2 a3 a4 b0 b1 b2 b3 b4 = some (lessVec a0 a1 a2 a3 a4 b0 b1 b2 b3 b4) := by
  unfold spec_LessVec.f lessVec
  repeat' split
  all_goals rfl
theorem iLessVec_eq (a0 a1 a2 a3 a4 b0 b1 b2 b3 b4 : Int) : impl_LessVec.f a0 a1 a2 a3 a4 b0 b1 b2 b3 b4 = some (lessVec a0 a1 a2 a3 a4 b0 b1 b2 b3 b4) := by
  unfold impl_LessVec.f lessVec
  repeat' split
  all_goals rfl

def stepVec (a b c d e n : Int) : Int × Int × Int × Int × Int × Bool :=
  if (vecOk a b c d e && decide (1 ≤ n ∧ n ≤ 1000)) = true then (if vecOk a (wrap64 (b + n)) (wrap64 (c + 1)) d e = true then (a, wrap64 (b + n), wrap64 (c + 1), d, e, true) else (a, b, c, d, e, false)) else (a, b, c, d, e, false)

theorem sStepVec_ev (a b c d e n : Int) : Ev (fun k => spec_StepVec.f k a b c d e n) (stepVec a b c d e n) := by
  refine Ev.succ ?_
  refine Ev.some_const (fun k => ?_)
  simp only [spec_StepVec.f, spec_StepVec.j0, sVecOk_eq, l1In_eq, Option.bind_some]
  unfold stepVec
  generalize vecOk a (wrap64 (b + n)) (wrap64 (c + 1)) d e = p
  generalize vecOk a b c d e = q
  generalize decide (1 ≤ n ∧ n ≤ 1000) = r
  cases p <;> cases q <;> cases r <;> rfl

theorem iStepVec_ev (a b c d e n : Int) : Ev (fun k => impl_StepVec.f k a b c d e n) (stepVec a b c d e n) := by
  refine Ev.succ ?_
  refine Ev.some_const (fun k => ?_)
  simp only [impl_StepVec.f, impl_StepVec.j0, iVecOk_eq, in_eq, Option.bind_some]
  unfold stepVec
  generalize vecOk a (wrap64 (b + n)) (wrap64 (c + 1)) d e = p
  generalize vecOk a b c d e = q
  generalize decide (1 ≤ n ∧ n ≤ 1000) = r
  cases p <;> cases q <;> cases r <;> rfl

/- a draw's state: the bytes, a place in them, a seed -/
def atOk (l : List Int) (p : Int) : Prop := 0 ≤ p ∧ p ≤ (l.length : Int)
theorem and_low (x : Int) (m : Nat) (hm : m < 9223372036854775808) : 0 ≤ Go.bits .and .i64 x (m : Int) ∧ Go.bits .and .i64 x (m : Int) ≤ m := by
  have e : m % 2 ^ IntKind.i64.bits = m := Nat.mod_eq_of_lt (show m < 2 ^ 64 by omega)
  simp only [Go.bits, BitVec.ofInt_natCast, BitVec.toNat_and, BitVec.toNat_ofNat, e]
  have h := Nat.and_le_right (n := (BitVec.ofInt IntKind.i64.bits x).toNat) (m := m)
  generalize (BitVec.ofInt IntKind.i64.bits x).toNat &&& m = q at h ⊢
  rw [IntKind.wrap_i64]
  omega
theorem and255 (x : Int) : 0 ≤ Go.bits .and .i64 x 255 ∧ Go.bits .and .i64 x 255 ≤ 255 := and_low x 255 (by decide)
theorem l1Byte_ok (l : List Int) (p s : Int) (hl : l.length ≤ 1048576) (h : atOk l p) : ∃ v p' s', spec_l1Byte.f l p s = some (v, p', s') ∧ (0 ≤ v ∧ v ≤ 255) ∧ atOk l p' := by
  unfold atOk at h
  unfold spec_l1Byte.f atOk
  by_cases c : p < (l.length : Int)
  · refine ⟨_, _, _, if_pos c |>.trans (if_pos h.1), and255 _, ?_⟩
    rw [w64 (by omega) (by omega)]
    omega
  · exact ⟨_, _, _, if_neg c, and255 _, h⟩
theorem l1Below_ok (l : List Int) (p s n : Int) (hl : l.length ≤ 1048576) (h : atOk l p) (hn : 0 < n) : ∃ v p' s', spec_l1Below.f l p s n = some (v, p', s') ∧ (0 ≤ v ∧ v < n) ∧ atOk l p' := by
  unfold spec_l1Below.f
  rw [if_neg (by omega)]
  obtain ⟨v1, p1, s1, e1, b1, h1⟩ := l1Byte_ok l p s hl h
  rw [e1]
  simp only [Option.bind_some, if_neg (show ¬ n = 0 by omega)]
  by_cases c : n ≤ 256
  · simp only [if_pos c]
    exact ⟨_, _, _, rfl, ⟨Int.tmod_nonneg _ b1.1, Int.tmod_lt_of_pos _ hn⟩, h1⟩
  · simp only [if_neg c]
    obtain ⟨v2, p2, s2, e2, b2, h2⟩ := l1Byte_ok l p1 s1 hl h1
    rw [e2]
    simp only [Option.bind_some]
    obtain ⟨v3, p3, s3, e3, b3, h3⟩ := l1Byte_ok l p2 s2 hl h2
    rw [e3]
    simp only [Option.bind_some]
    rw [w64 (x := v1 * 65536) (by omega) (by omega), w64 (x := v2 * 256) (by omega) (by omega), w64 (x := v1 * 65536 + v2 * 256) (by omega) (by omega), w64 (by omega) (by omega)]
    exact ⟨_, _, _, rfl, ⟨Int.tmod_nonneg _ (by omega), Int.tmod_lt_of_pos _ hn⟩, h3⟩
theorem rd_mem (xs : List Int) (i : Int) (h0 : 0 ≤ i) (h1 : i < (xs.length : Int)) : rd xs i ∈ xs := by
  unfold rd
  rw [List.getD_eq_getElem?_getD]
  have hi : i.toNat < xs.length := by omega
  rw [List.getElem?_eq_getElem hi]
  exact List.getElem_mem hi
theorem l1New_loop (l : List Int) (rest : List Int) : ∀ (pre : List Int) (s : Int), pre.length + rest.length ≤ 1048576 → ∃ s', Ev (fun k => spec_l1New.l0 k (pre ++ rest) s (pre.length : Int)) (pre ++ rest, 0, s') := by
  induction rest with
  | nil =>
    intro pre s _
    refine ⟨s, Ev.succ ?_⟩
    simp only [spec_l1New.l0]
    simp only [List.append_nil, if_neg (show ¬ (pre.length : Int) < (pre.length : Int) by omega)]
    exact Ev.now _
  | cons r rest ih =>
    intro pre s hn
    simp only [List.length_cons] at hn
    by_cases c : (pre.length : Int) < 4000
    · obtain ⟨s', h⟩ := ih (pre ++ [r]) (Go.bits .and .i64 (wrap64 ((wrap64 ((wrap64 (s * 137)) + (wrap64 r))) + 11)) 1073741823) (by simp only [List.length_append, List.length_cons, List.length_nil]; omega)
      simp only [List.append_assoc, List.cons_append, List.nil_append] at h
      rw [show ((pre ++ [r]).length : Int) = (pre.length : Int) + 1 by simp] at h
      refine ⟨s', Ev.succ ?_⟩
      simp only [spec_l1New.l0]
      simp only [if_pos (show (pre.length : Int) < ((pre ++ r :: rest).length : Int) by simp only [List.length_append, List.length_cons]; omega), if_pos c, if_pos (show (0 : Int) ≤ (pre.length : Int) by omega), rd_mid, w64 (x := (pre.length : Int) + 1) (by omega) (by omega)]
      exact h
    · refine ⟨s, Ev.succ ?_⟩
      simp only [spec_l1New.l0]
      simp only [if_pos (show (pre.length : Int) < ((pre ++ r :: rest).length : Int) by simp only [List.length_append, List.length_cons]; omega), if_neg c]
      exact Ev.now _
theorem l1New_ok (l : List Int) (hl : l.length ≤ 1048576) : ∃ s', Ev (fun k => spec_l1New.f k l) (l, 0, s') := by
  unfold spec_l1New.f
  have h := l1New_loop l l [] (wrap64 (762762 + (l.length : Int))) (by simp only [List.length_nil]; omega)
  simpa using h
theorem at0 (l : List Int) : atOk l 0 := ⟨by omega, by omega⟩

theorem l1Int_ok (l : List Int) (p s : Int) (xs : List Int) (hl : l.length ≤ 1048576) (h : atOk l p) (hx : 0 < xs.length) : ∃ v p' s', spec_l1Int.f l p s xs = some (v, p', s') ∧ v ∈ xs ∧ atOk l p' := by
  unfold spec_l1Int.f
  obtain ⟨v1, p1, s1, e1, b1, h1⟩ := l1Below_ok l p s (xs.length : Int) hl h (by omega)
  rw [e1]
  simp only [Option.bind_some, if_pos b1.1, if_pos b1.2]
  exact ⟨_, _, _, rfl, rd_mem xs v1 b1.1 b1.2, h1⟩

theorem l1Once_ok (l : List Int) (p s n : Int) (hl : l.length ≤ 1048576) (h : atOk l p) (hn : 0 < n) : ∃ (v : Bool) (p' s' : Int), spec_l1Once.f l p s n = some (v, p', s') ∧ atOk l p' := by
  unfold spec_l1Once.f
  obtain ⟨v1, p1, s1, e1, b1, h1⟩ := l1Below_ok l p s n hl h hn
  rw [e1]
  exact ⟨_, _, _, rfl, h1⟩

theorem l7Draw_ok (l : List Int) (p s : Int) (hl : l.length ≤ 1048576) (h : atOk l p) : ∃ a b c d e p' s', spec_l7Draw.f l p s = some (a, b, c, d, e, p', s') ∧ atOk l p' := by
  unfold spec_l7Draw.f
  obtain ⟨v1, p1, s1, e1, b1, h1⟩ := l1Below_ok l p s 5 hl h (by omega)
  obtain ⟨v2, p2, s2, e2, b2, h2⟩ := l1Int_ok l p1 s1 [0, 1, 2, 5, 10, 100] hl h1 (by decide)
  obtain ⟨v3, p3, s3, e3, b3, h3⟩ := l1Int_ok l p2 s2 [0, 1, 2, 9, 10] hl h2 (by decide)
  obtain ⟨v4, p4, s4, e4, b4, h4⟩ := l1Below_ok l p3 s3 5 hl h3 (by omega)
  obtain ⟨v5, p5, s5, e5, b5, h5⟩ := l1Below_ok l p4 s4 4 hl h4 (by omega)
  simp only [e1, e2, e3, e4, e5, Option.bind_some]
  exact ⟨_, _, _, _, _, _, _, rfl, h5⟩
theorem l7Any_ok (l : List Int) (p s : Int) (hl : l.length ≤ 1048576) (h : atOk l p) : ∃ a b c d e p' s', spec_l7Any.f l p s = some (a, b, c, d, e, p', s') ∧ atOk l p' := by
  unfold spec_l7Any.f
  obtain ⟨a, b, c, d, e, p1, s1, e1, h1⟩ := l7Draw_ok l p s hl h
  obtain ⟨v2, p2, s2, e2, b2, h2⟩ := l1Below_ok l p1 s1 12 hl h1 (by omega)
  simp only [e1, e2, Option.bind_some]
  by_cases c0 : v2 = 0
  · obtain ⟨v3, p3, s3, e3, b3, h3⟩ := l1Int_ok l p2 s2 [0, 99, 100] hl h2 (by decide)
    simp only [if_pos c0, e3, Option.bind_some]
    exact ⟨_, _, _, _, _, _, _, rfl, h3⟩
  by_cases c1 : v2 = 1
  · obtain ⟨v3, p3, s3, e3, b3, h3⟩ := l1Int_ok l p2 s2 [-1, 99999, 100000, 100001] hl h2 (by decide)
    simp only [if_neg c0, if_pos c1, e3, Option.bind_some]
    exact ⟨_, _, _, _, _, _, _, rfl, h3⟩
  by_cases c2 : v2 = 2
  · obtain ⟨v3, p3, s3, e3, b3, h3⟩ := l1Int_ok l p2 s2 [-1, 11] hl h2 (by decide)
    simp only [if_neg c0, if_neg c1, if_pos c2, e3, Option.bind_some]
    exact ⟨_, _, _, _, _, _, _, rfl, h3⟩
  by_cases c3 : v2 = 3
  · obtain ⟨v3, p3, s3, e3, b3, h3⟩ := l1Int_ok l p2 s2 [-1, 7, 8] hl h2 (by decide)
    simp only [if_neg c0, if_neg c1, if_neg c2, if_pos c3, e3, Option.bind_some]
    exact ⟨_, _, _, _, _, _, _, rfl, h3⟩
  · simp only [if_neg c0, if_neg c1, if_neg c2, if_neg c3]
    exact ⟨_, _, _, _, _, _, _, rfl, h2⟩
theorem drawLessVec_ok (l : List Int) (hl : l.length ≤ 1048576) : ∃ a b c d e a' b' c' d' e', Ev (fun k => spec_DrawLessVec.f k l) (a, b, c, d, e, a', b', c', d', e') := by
  unfold spec_DrawLessVec.f
  obtain ⟨s0, e0⟩ := l1New_ok l hl
  obtain ⟨a, b, c, d, e, p1, s1, e1, h1⟩ := l7Any_ok l 0 s0 hl (at0 l)
  obtain ⟨v2, p2, s2, e2, h2⟩ := l1Once_ok l p1 s1 4 hl h1 (by omega)
  by_cases c0 : v2 = true
  · refine ⟨a, b, c, d, e, a, b, c, d, e, Ev.bind e0 ?_⟩
    simp only [e1, e2, Option.bind_some, if_pos c0]
    exact Ev.now _
  · obtain ⟨a', b', c', d', e', p3, s3, e3, h3⟩ := l7Any_ok l p2 s2 hl h2
    refine ⟨a, b, c, d, e, a', b', c', d', e', Ev.bind e0 ?_⟩
    simp only [e1, e2, Option.bind_some, if_neg c0, e3]
    exact Ev.now _
theorem drawStepVec_ok (l : List Int) (hl : l.length ≤ 1048576) : ∃ a b c d e n, Ev (fun k => spec_DrawStepVec.f k l) (a, b, c, d, e, n) := by
  unfold spec_DrawStepVec.f
  obtain ⟨s0, e0⟩ := l1New_ok l hl
  obtain ⟨a, b, c, d, e, p1, s1, e1, h1⟩ := l7Any_ok l 0 s0 hl (at0 l)
  obtain ⟨v2, p2, s2, e2, b2, h2⟩ := l1Int_ok l p1 s1 [1, 2, 10, 1000, 0, 1001] hl h1 (by decide)
  refine ⟨a, b, c, d, e, v2, Ev.bind e0 ?_⟩
  simp only [e1, e2, Option.bind_some]
  exact Ev.now _
theorem lessVec_self (a b c d e : Int) : lessVec a b c d e a b c d e = false := by
  unfold lessVec
  simp
theorem lessVec_asym (a b c d e a' b' c' d' e' : Int) (h : lessVec a b c d e a' b' c' d' e' = true) : lessVec a' b' c' d' e' a b c d e = false := by
  unfold lessVec at h ⊢
  by_cases h0 : a = a'
  · rw [if_pos h0] at h
    rw [if_pos h0.symm]
    by_cases h1 : b = b'
    · rw [if_pos h1] at h
      rw [if_pos h1.symm]
      by_cases h3 : d = d'
      · rw [if_pos h3] at h
        rw [if_pos h3.symm]
        simp only [decide_eq_true_eq] at h
        exact decide_eq_false (by omega)
      · rw [if_neg h3] at h
        rw [if_neg (fun x => h3 x.symm)]
        simp only [decide_eq_true_eq] at h
        exact decide_eq_false (by omega)
    · rw [if_neg h1] at h
      rw [if_neg (fun x => h1 x.symm)]
      simp only [decide_eq_true_eq] at h
      exact decide_eq_false (by omega)
  · rw [if_neg h0] at h
    rw [if_neg (fun x => h0 x.symm)]
    simp only [decide_eq_true_eq] at h
    exact decide_eq_false (by omega)
theorem vecOrder_j0 (a b c d e a' b' c' d' e' : Int) : Ev (fun k => laws_FnVecOrder.j0 k false a b c d e a' b' c' d' e') true := by
  refine Ev.succ ?_
  simp only [laws_FnVecOrder.j0]
  simp only [Bool.false_eq_true, if_false, iLessVec_eq, sLessVec_eq, Option.bind_some, beq_self_eq_true, if_true, lessVec_self, Bool.not_false]
  by_cases h : lessVec a b c d e a' b' c' d' e' = true
  · simp only [if_pos h, lessVec_asym _ _ _ _ _ _ _ _ _ _ h, Bool.false_eq_true, if_false]
    exact Ev.now _
  · simp only [if_neg h]
    exact Ev.now _

theorem FnVecOrder : laws_FnVecOrder.Pure := by
  intro l0 _ _
  refine Ev.rounds ?_
  unfold laws_FnVecOrder.f
  unfold laws_big.f
  simp only [Option.bind_some]
  by_cases hbig : (l0.length : Int) > 1048576
  · simp only [decide_eq_true hbig, if_true]
    exact Ev.now _
  have hsm : l0.length ≤ 1048576 := by omega
  simp only [decide_eq_false hbig, Bool.false_eq_true, if_false]
  obtain ⟨a, b, c, d, e, a', b', c', d', e', hL⟩ := drawLessVec_ok l0 hsm
  obtain ⟨x1, x2, x3, x4, x5, n, hS⟩ := drawStepVec_ok l0 hsm
  refine Ev.bind hL ?_
  refine Ev.bind hS ?_
  have hs := sStepVec_ev x1 x2 x3 x4 x5 n
  have hi := iStepVec_ev x1 x2 x3 x4 x5 n
  by_cases hv : (vecOk x1 x2 x3 x4 x5 && decide (1 ≤ n ∧ n ≤ 1000)) = true
  · by_cases hw : vecOk x1 (wrap64 (x2 + n)) (wrap64 (x3 + 1)) x4 x5 = true
    · have hR : stepVec x1 x2 x3 x4 x5 n = (x1, wrap64 (x2 + n), wrap64 (x3 + 1), x4, x5, true) := by
        unfold stepVec
        rw [if_pos hv, if_pos hw]
      rw [hR] at hs hi
      refine Ev.bind hi ?_
      refine Ev.bind hs ?_
      have hlt : lessVec x1 x2 x3 x4 x5 x1 (wrap64 (x2 + n)) (wrap64 (x3 + 1)) x4 x5 = true := by
        simp only [vecOk, Bool.and_eq_true, decide_eq_true_eq] at hv
        unfold lessVec
        rw [w64 (x := x2 + n) (by omega) (by omega), if_pos rfl, if_neg (by omega)]
        exact decide_eq_true (by omega)
      simp only [bne_self_eq_false, beq_self_eq_true, Bool.not_true, Bool.or_self, Bool.false_eq_true, if_false, if_true, iLessVec_eq, iVecOk_eq, Option.bind_some, hlt, hw]
      exact vecOrder_j0 _ _ _ _ _ _ _ _ _ _
    · have hR : stepVec x1 x2 x3 x4 x5 n = (x1, x2, x3, x4, x5, false) := by
        unfold stepVec
        rw [if_pos hv, if_neg hw]
      rw [hR] at hs hi
      refine Ev.bind hi ?_
      refine Ev.bind hs ?_
      simp only [bne_self_eq_false, beq_self_eq_true, Bool.not_true, Bool.or_self, Bool.false_eq_true, if_false]
      exact vecOrder_j0 _ _ _ _ _ _ _ _ _ _
  · have hR : stepVec x1 x2 x3 x4 x5 n = (x1, x2, x3, x4, x5, false) := by
      unfold stepVec
      rw [if_neg hv]
    rw [hR] at hs hi
    refine Ev.bind hi ?_
    refine Ev.bind hs ?_
    simp only [bne_self_eq_false, beq_self_eq_true, Bool.not_true, Bool.or_self, Bool.false_eq_true, if_false]
    exact vecOrder_j0 _ _ _ _ _ _ _ _ _ _

end Go.Proofs.Ytndfokcnogpeiaa.Pure
