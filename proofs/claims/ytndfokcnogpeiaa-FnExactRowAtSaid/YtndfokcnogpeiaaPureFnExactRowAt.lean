/- The pure side of FnExactRowAt: the program's RowAt and the reference's agree at all arguments. No conditions but those of the given statement. -/
import Derived.Test.YtndfokcnogpeiaaXFnExactRowAtx3
namespace Go.Proofs.Ytndfokcnogpeiaa.Pure
open Go.RowKit Go.Proofs.Ytndfokcnogpeiaa.XFnExactRowAt Go.Proofs.YtndfokcnogpeiaaW.PrintWords Go.Proofs.YtndfokcnogpeiaaW.PrintLast Go.Proofs.YtndfokcnogpeiaaW.PrintMore
set_option linter.unusedVariables false
set_option linter.unusedSimpArgs false

theorem w64 {x : Int} (h0 : -9223372036854775808 ≤ x) (h1 : x ≤ 9223372036854775807) : wrap64 x = x := by
  unfold wrap64
  omega
theorem wf64 {x : Int} (h : (Lit.int .i64 x).wf = true) : -9223372036854775808 ≤ x ∧ x ≤ 9223372036854775807 := by
  simp only [Lit.wf, Bool.and_eq_true, decide_eq_true_eq] at h
  exact h
theorem wf8 {x : Int} (h : (Lit.int .u8 x).wf = true) : 0 ≤ x ∧ x ≤ 255 := by
  simp only [Lit.wf, Bool.and_eq_true, decide_eq_true_eq] at h
  exact h
theorem rd_mid (pre rest : List Int) (r : Int) : rd (pre ++ r :: rest) (pre.length : Int) = r := by
  unfold rd
  simp [List.getD_eq_getElem?_getD]
theorem set_mid {α : Type} (pre rest : List α) (r v : α) : (pre ++ r :: rest).set (pre.length : Int).toNat v = pre ++ v :: rest := by
  rw [Int.toNat_natCast, List.set_append_right _ _ (Nat.le_refl _)]
  simp
theorem succ_of {d k : Nat} (h : d < k) : ∃ m, k = m + 1 := ⟨k - 1, by omega⟩
theorem Ev.at_ {α : Type} {g : Nat → Option α} {r : α} (n : Nat) (h : ∀ k, n < k → g k = some r) : Ev g r := ⟨n + 1, fun k hk => h k (by omega)⟩
theorem Ev.some_ {α : Type} {v : Option α} {r : α} (h : v = some r) : Ev (fun _ => v) r := ⟨0, fun _ _ => h⟩
theorem Ev.succ {α : Type} {g : Nat → Option α} {r : α} (h : Ev (fun k => g (k + 1)) r) : Ev g r := by
  obtain ⟨K, h⟩ := h
  refine ⟨K + 1, fun n hn => ?_⟩
  obtain ⟨m, rfl⟩ : ∃ m, n = m + 1 := ⟨n - 1, by omega⟩
  exact h m (by omega)
theorem Ev.some_const {α : Type} {g : Nat → Option α} {r : α} (h : ∀ k, g k = some r) : Ev g r := ⟨0, fun k _ => h k⟩

theorem toIntS_loop (rest : List Int) : ∀ (pre : List Int) (k : Nat), pre.length + rest.length ≤ 1099511627776 → rest.length < k →
    laws_toIntS.l0 k (pre ++ rest) (pre ++ List.replicate rest.length 0) (pre.length : Int) = some (pre ++ rest) := by
  induction rest with
  | nil =>
    intro pre k _ hk
    obtain ⟨k, rfl⟩ := succ_of hk
    simp only [laws_toIntS.l0]
    rw [if_neg (by simp only [List.length_append, List.length_nil]; omega)]
    simp
  | cons r rest ih =>
    intro pre k hn hk
    obtain ⟨k, rfl⟩ := succ_of hk
    simp only [List.length_cons] at hn hk
    simp only [laws_toIntS.l0]
    rw [if_pos (by simp only [List.length_append, List.length_cons]; omega), if_pos (by omega), if_pos (by simp only [List.length_append, List.length_cons, List.length_replicate]; omega), rd_mid, List.length_cons, List.replicate_succ, set_mid, w64 (by omega) (by omega)]
    have h := ih (pre ++ [r]) k (by simp only [List.length_append, List.length_cons, List.length_nil]; omega) (by omega)
    simpa using h
theorem toIntS_ev (xs : List Int) (h : xs.length ≤ 1048576) : Ev (fun k => laws_toIntS.f k xs) xs := by
  refine Ev.at_ xs.length fun k hk => ?_
  simp only [laws_toIntS.f]
  rw [if_pos (by omega), if_pos (by omega)]
  have h := toIntS_loop xs [] k (by simp only [List.length_nil]; omega) hk
  simpa using h

theorem eqIntS_loop (a : List Int) : ∀ (b pre pre' : List Int) (k : Nat), pre.length = pre'.length → a.length = b.length → pre.length + a.length ≤ 1099511627776 → a.length < k →
    laws_eqIntS.l0 k (pre ++ a) (pre' ++ b) (pre.length : Int) = some (decide (a = b)) := by
  induction a with
  | nil =>
    intro b pre pre' k hp hab hn hk
    obtain ⟨k, rfl⟩ := succ_of hk
    obtain rfl : b = [] := List.eq_nil_of_length_eq_zero hab.symm
    simp only [laws_eqIntS.l0]
    rw [if_neg (by simp only [List.length_append, List.length_nil] at *; omega)]
    simp
  | cons r a ih =>
    intro b pre pre' k hp hab hn hk
    obtain ⟨k, rfl⟩ := succ_of hk
    cases b with
    | nil => simp at hab
    | cons s b =>
      simp only [List.length_cons] at hab hn hk
      simp only [laws_eqIntS.l0]
      have e : rd (pre' ++ s :: b) (pre.length : Int) = s := by rw [hp, rd_mid]
      rw [if_pos (by simp only [List.length_append, List.length_cons]; omega), if_pos (by omega), if_pos (by simp only [List.length_append, List.length_cons]; omega), rd_mid, e]
      by_cases hrs : r = s
      · subst hrs
        rw [if_pos rfl, w64 (by omega) (by omega)]
        have h := ih b (pre ++ [r]) (pre' ++ [r]) k (by simp [hp]) (by omega) (by simp only [List.length_append, List.length_cons, List.length_nil]; omega) (by omega)
        simpa using h
      · rw [if_neg hrs]
        simp [hrs]
theorem eqIntS_ev (a b : List Int) (h : a.length ≤ 1099511627776) : Ev (fun k => laws_eqIntS.f k a b) (decide (a = b)) := by
  refine Ev.at_ a.length fun k hk => ?_
  simp only [laws_eqIntS.f]
  by_cases e : a.length = b.length
  · rw [if_pos (by omega)]
    have h := eqIntS_loop a b [] [] k rfl e (by simp only [List.length_nil]; omega) hk
    simpa using h
  · rw [if_neg (by omega)]
    have hne : ¬ a = b := fun h => e (by rw [h])
    simp [hne]

def cvV (x : S130) : S105 := ⟨x.f0, x.f1, x.f2⟩
theorem rdLV_mid (pre rest : List S130) (r : S130) : rd_T130 (pre ++ r :: rest) (pre.length : Int) = r := by
  unfold rd_T130
  simp [List.getD_eq_getElem?_getD]
theorem rdIV_mid (pre rest : List S105) (r : S105) : rd_T105 (pre ++ r :: rest) (pre.length : Int) = r := by
  unfold rd_T105
  simp [List.getD_eq_getElem?_getD]
theorem set_at {α : Type} (pre rest : List α) (r v : α) (n : Nat) (h : pre.length = n) : (pre ++ r :: rest).set (n : Int).toNat v = pre ++ v :: rest := by
  subst h
  exact set_mid pre rest r v
theorem eta_V (r : S105) : (⟨r.f0, r.f1, r.f2⟩ : S105) = r := rfl
theorem szVrowS_eq (l : List S130) (a : Int) (h0 : 0 ≤ a) (h1 : a ≤ 1099511627776) (hl : l.length ≤ maxLen) : laws_szVrowS.f l a = some (if a - (l.length : Int) < 0 then -1 else a - (l.length : Int)) := by
  have hl' : l.length ≤ 9223372036854775807 := hl
  unfold laws_szVrowS.f
  rw [w64 (by omega) (by omega)]
  split <;> rfl
theorem toVrowS_loop (rest : List S130) : ∀ (pre : List S130) (k : Nat), pre.length + rest.length ≤ 1099511627776 → rest.length < k →
    laws_toVrowS.l0 k (pre ++ rest) (pre.map cvV ++ List.replicate rest.length z105) (pre.length : Int) = some ((pre ++ rest).map cvV) := by
  induction rest with
  | nil =>
    intro pre k _ hk
    obtain ⟨k, rfl⟩ := succ_of hk
    simp only [laws_toVrowS.l0]
    rw [if_neg (by simp only [List.length_append, List.length_nil]; omega)]
    simp
  | cons r rest ih =>
    intro pre k hn hk
    obtain ⟨k, rfl⟩ := succ_of hk
    simp only [List.length_cons] at hn hk
    simp only [laws_toVrowS.l0]
    rw [if_pos (by simp only [List.length_append, List.length_cons]; omega), if_pos (by omega)]
    simp only [rdLV_mid, laws_toVrow.f, Option.bind_some]
    rw [if_pos (by simp only [List.length_append, List.length_cons, List.length_replicate, List.length_map]; omega), List.length_cons, List.replicate_succ, set_at _ _ _ _ _ (List.length_map _), w64 (by omega) (by omega)]
    have h := ih (pre ++ [r]) k (by simp only [List.length_append, List.length_cons, List.length_nil]; omega) (by omega)
    simpa [cvV] using h
theorem toVrowS_ev (xs : List S130) (h : xs.length ≤ 1048576) : Ev (fun k => laws_toVrowS.f k xs) (xs.map cvV) := by
  refine Ev.at_ xs.length fun k hk => ?_
  simp only [laws_toVrowS.f]
  rw [if_pos (by omega), if_pos (by omega)]
  have h := toVrowS_loop xs [] k (by simp only [List.length_nil]; omega) hk
  simpa using h
theorem eqVrow_self (a b c : Int) : laws_eqVrow.f a b c a b c = some true := by
  unfold laws_eqVrow.f
  simp
theorem eqVrowS_loop (a : List S105) : ∀ (pre : List S105) (k : Nat), pre.length + a.length ≤ 1099511627776 → a.length < k →
    laws_eqVrowS.l0 k (pre ++ a) (pre ++ a) (pre.length : Int) = some true := by
  induction a with
  | nil =>
    intro pre k hn hk
    obtain ⟨k, rfl⟩ := succ_of hk
    simp only [laws_eqVrowS.l0]
    rw [if_neg (by simp only [List.length_append, List.length_nil]; omega)]
  | cons r a ih =>
    intro pre k hn hk
    obtain ⟨k, rfl⟩ := succ_of hk
    simp only [List.length_cons] at hn hk
    simp only [laws_eqVrowS.l0]
    rw [if_pos (by simp only [List.length_append, List.length_cons]; omega), if_pos (by omega), if_pos (by simp only [List.length_append, List.length_cons]; omega)]
    simp only [eqVrow_self, Option.bind_some, if_true]
    rw [w64 (by omega) (by omega)]
    have h := ih (pre ++ [r]) k (by simp only [List.length_append, List.length_cons, List.length_nil]; omega) (by omega)
    simpa using h
theorem eqVrowS_ev (a : List S105) (h : a.length ≤ 1099511627776) : Ev (fun k => laws_eqVrowS.f k a a) true := by
  refine Ev.at_ a.length fun k hk => ?_
  simp only [laws_eqVrowS.f, if_true]
  have h := eqVrowS_loop a [] k (by simp only [List.length_nil]; omega) hk
  simpa using h

theorem szIntS_eq (l : List Int) (a : Int) (h0 : 0 ≤ a) (h1 : a ≤ 1099511627776) (hl : l.length ≤ maxLen) : laws_szIntS.f l a = some (if a - (l.length : Int) < 0 then -1 else a - (l.length : Int)) := by
  have hl' : l.length ≤ 9223372036854775807 := hl
  unfold laws_szIntS.f
  rw [w64 (by omega) (by omega)]
  split <;> rfl
theorem szVtab_big (l : List S130) (p : List Int) (hl : l.length ≤ maxLen) (hp : p.length ≤ maxLen) : ∃ n : Int, laws_szVtab.f l p 1048576 = some n ∧ (n < 0 ∨ l.length ≤ 1048576 ∧ p.length ≤ 1048576) := by
  unfold laws_szVtab.f
  rw [szVrowS_eq l _ (by omega) (by omega) hl]
  simp only [Option.bind_some]
  by_cases h : 1048576 - (l.length : Int) < 0
  · simp only [if_pos h]
    exact ⟨_, rfl, .inl (by omega)⟩
  · have hn : ¬ 1048576 - (l.length : Int) < 0 := h
    simp only [if_neg h, if_neg hn]
    rw [szIntS_eq p _ (by omega) (by omega) hp]
    simp only [Option.bind_some]
    by_cases h2 : 1048576 - (l.length : Int) - (p.length : Int) < 0
    · simp only [if_pos h2]
      exact ⟨_, rfl, .inl (by omega)⟩
    · simp only [if_neg h2]
      exact ⟨_, rfl, .inr (by omega)⟩
theorem toVtab_ev (l : List S130) (p : List Int) (hl : l.length ≤ 1048576) (hp : p.length ≤ 1048576) : Ev (fun k => laws_toVtab.f k l p) (l.map cvV, p) := by
  unfold laws_toVtab.f
  refine Ev.bind (toVrowS_ev l hl) ?_
  refine Ev.bind (toIntS_ev p hp) ?_
  exact Ev.now _
theorem eqVtab_ev (l : List S105) (p : List Int) (hl : l.length ≤ 1048576) (hp : p.length ≤ 1048576) : Ev (fun k => laws_eqVtab.f k l p l p) true := by
  unfold laws_eqVtab.f
  refine Ev.bind (eqVrowS_ev l (by omega)) ?_
  simp only [if_true]
  refine Ev.bind (eqIntS_ev p p (by omega)) ?_
  simp only [decide_true, if_true]
  exact Ev.now _
def rowFrom (d : Int) : List S105 → Int → Int
  | [], _ => -1
  | e :: r, i => if e.f0 = d then i else rowFrom d r (i + 1)
theorem sRowAt_loop (d : Int) (p : List Int) (rest : List S105) : ∀ (pre : List S105) (k : Nat), pre.length + rest.length ≤ 1099511627776 → rest.length < k →
    spec_RowAt.l0 k d (pre.length : Int) (pre ++ rest) p = some (rowFrom d rest (pre.length : Int)) := by
  induction rest with
  | nil =>
    intro pre k _ hk
    obtain ⟨k, rfl⟩ := succ_of hk
    simp only [spec_RowAt.l0]
    rw [if_neg (by simp only [List.length_append, List.length_nil]; omega)]
    rfl
  | cons r rest ih =>
    intro pre k hn hk
    obtain ⟨k, rfl⟩ := succ_of hk
    simp only [List.length_cons] at hn hk
    have h := ih (pre ++ [r]) k (by simp only [List.length_append, List.length_cons, List.length_nil]; omega) (by omega)
    simp only [List.append_assoc, List.cons_append, List.nil_append] at h
    simp only [spec_RowAt.l0]
    rw [if_pos (by simp only [List.length_append, List.length_cons]; omega), if_pos (by omega)]
    simp only [rdIV_mid, rowFrom]
    rw [w64 (by omega) (by omega), show (pre.length : Int) + 1 = ((pre ++ [r]).length : Int) from by simp, h]
    split <;> rfl
theorem iRowAt_loop (d : Int) (rest : List S105) : ∀ (pre : List S105) (n : Int) (k : Nat), n = (pre.length : Int) + rest.length → pre.length + rest.length ≤ 1099511627776 → rest.length < k →
    impl_RowAt.l0 k d (pre ++ rest) n (pre.length : Int) = some (rowFrom d rest (pre.length : Int)) := by
  induction rest with
  | nil =>
    intro pre n k hm _ hk
    obtain ⟨k, rfl⟩ := succ_of hk
    simp only [List.length_nil] at hm
    simp only [impl_RowAt.l0]
    rw [if_neg (by omega)]
    rfl
  | cons r rest ih =>
    intro pre n k hm hn hk
    obtain ⟨k, rfl⟩ := succ_of hk
    simp only [List.length_cons] at hm hn hk
    have h := ih (pre ++ [r]) n k (by simp only [List.length_append, List.length_cons, List.length_nil]; omega) (by simp only [List.length_append, List.length_cons, List.length_nil]; omega) (by omega)
    simp only [List.append_assoc, List.cons_append, List.nil_append] at h
    simp only [impl_RowAt.l0]
    rw [if_pos (by omega), if_pos (by omega), if_pos (by simp only [List.length_append, List.length_cons]; omega)]
    simp only [rdIV_mid, rowFrom]
    rw [w64 (by omega) (by omega), show (pre.length : Int) + 1 = ((pre ++ [r]).length : Int) from by simp, h]
    split <;> rfl
theorem sRowAt_ev (l : List S105) (p : List Int) (d : Int) (h : l.length ≤ 1048576) : Ev (fun k => spec_RowAt.f k l p d) (rowFrom d l 0) := by
  refine Ev.at_ l.length fun k hk => ?_
  simp only [spec_RowAt.f]
  have h := sRowAt_loop d p l [] k (by simp only [List.length_nil]; omega) hk
  simpa using h
theorem iRowAt_ev (l : List S105) (p : List Int) (d : Int) (h : l.length ≤ 1048576) : Ev (fun k => impl_RowAt.f k l p d) (rowFrom d l 0) := by
  refine Ev.at_ l.length fun k hk => ?_
  simp only [impl_RowAt.f]
  have h := iRowAt_loop d l [] (l.length : Int) k (by simp) (by simp only [List.length_nil]; omega) hk
  simpa using h

theorem FnExactRowAt : laws_FnExactRowAt.Pure := by
  intro l p d hl _ hp _ _
  refine Ev.rounds ?_
  unfold laws_FnExactRowAt.f
  obtain ⟨n, e, h⟩ := szVtab_big l p hl hp
  rw [e]
  simp only [Option.bind_some]
  by_cases hn : n < 0
  · simp only [if_pos hn]
    exact Ev.now _
  have h : l.length ≤ 1048576 ∧ p.length ≤ 1048576 := h.resolve_left hn
  have hml : (l.map cvV).length = l.length := List.length_map _
  simp only [if_neg hn]
  repeat' first
    | exact Ev.now _
    | ((with_reducible refine Ev.bind (toVtab_ev _ _ ?s0 ?s1) ?_); (case s0 => omega); (case s1 => omega))
    | ((with_reducible refine Ev.bind (sRowAt_ev _ _ _ ?s0) ?_); (case s0 => omega))
    | ((with_reducible refine Ev.bind (iRowAt_ev _ _ _ ?s0) ?_); (case s0 => omega))
    | ((with_reducible refine Ev.bind (eqVtab_ev _ _ ?s0 ?s1) ?_); (case s0 => omega); (case s1 => omega))
    | simp only [bne_self_eq_false, Bool.false_eq_true, Bool.not_true, Bool.not_false, decide_true, Option.bind_some, ↓reduceIte]

end Go.Proofs.Ytndfokcnogpeiaa.Pure
