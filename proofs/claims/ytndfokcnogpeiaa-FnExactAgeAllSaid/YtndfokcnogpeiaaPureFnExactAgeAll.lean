/- The pure side of FnExactAgeAll: the program's AgeAll and the reference's agree at all arguments. No conditions but those of the given statement. -/
import Derived.Test.YtndfokcnogpeiaaXFnExactAgeAllx3
namespace Go.Proofs.Ytndfokcnogpeiaa.Pure
open Go.RowKit Go.Proofs.Ytndfokcnogpeiaa.XFnExactAgeAll Go.Proofs.YtndfokcnogpeiaaW.PrintWords Go.Proofs.YtndfokcnogpeiaaW.PrintLast Go.Proofs.YtndfokcnogpeiaaW.PrintMore
set_option linter.unusedVariables false
set_option linter.unusedSimpArgs false

theorem w64 {x : Int} (h0 : -9223372036854775808 ≤ x) (h1 : x ≤ 9223372036854775807) : wrap64 x = x := by
  unfold wrap64
  omega
theorem wf64 {x : Int} (h : (Lit.int .i64 x).wf = true) : -9223372036854775808 ≤ x ∧ x ≤ 9223372036854775807 := by
  simp only [Lit.wf, Bool.and_eq_true, decide_eq_true_eq] at h
  exact h
theorem wf8 {x : Int} (h : (Lit.int .u8 x).wf = true) : 0 ≤ x ∧ x ≤ 255 := by
  simp only [Lit.wf, Bool.and_eq_true, decide_eq_true_eq] at h
  exact h
theorem rd_mid (pre rest : List Int) (r : Int) : rd (pre ++ r :: rest) (pre.length : Int) = r := by
  unfold rd
  simp [List.getD_eq_getElem?_getD]
theorem set_mid {α : Type} (pre rest : List α) (r v : α) : (pre ++ r :: rest).set (pre.length : Int).toNat v = pre ++ v :: rest := by
  rw [Int.toNat_natCast, List.set_append_right _ _ (Nat.le_refl _)]
  simp
theorem succ_of {d k : Nat} (h : d < k) : ∃ m, k = m + 1 := ⟨k - 1, by omega⟩
theorem Ev.at_ {α : Type} {g : Nat → Option α} {r : α} (n : Nat) (h : ∀ k, n < k → g k = some r) : Ev g r := ⟨n + 1, fun k hk => h k (by omega)⟩
theorem Ev.some_ {α : Type} {v : Option α} {r : α} (h : v = some r) : Ev (fun _ => v) r := ⟨0, fun _ _ => h⟩
theorem Ev.succ {α : Type} {g : Nat → Option α} {r : α} (h : Ev (fun k => g (k + 1)) r) : Ev g r := by
  obtain ⟨K, h⟩ := h
  refine ⟨K + 1, fun n hn => ?_⟩
  obtain ⟨m, rfl⟩ : ∃ m, n = m + 1 := ⟨n - 1, by omega⟩
  exact h m (by omega)
theorem Ev.some_const {α : Type} {g : Nat → Option α} {r : α} (h : ∀ k, g k = some r) : Ev g r := ⟨0, fun k _ => h k⟩

def cvF (x : S101) : S99 := ⟨x.f0, x.f1, x.f2, x.f3, x.f4⟩
theorem rdLF_mid (pre rest : List S101) (r : S101) : rd_T101 (pre ++ r :: rest) (pre.length : Int) = r := by
  unfold rd_T101
  simp [List.getD_eq_getElem?_getD]
theorem rdIF_mid (pre rest : List S99) (r : S99) : rd_T99 (pre ++ r :: rest) (pre.length : Int) = r := by
  unfold rd_T99
  simp [List.getD_eq_getElem?_getD]
theorem set_at {α : Type} (pre rest : List α) (r v : α) (n : Nat) (h : pre.length = n) : (pre ++ r :: rest).set (n : Int).toNat v = pre ++ v :: rest := by
  subst h
  exact set_mid pre rest r v
theorem eta_F (r : S99) : (⟨r.f0, r.f1, r.f2, r.f3, r.f4⟩ : S99) = r := rfl
theorem szFentS_eq (l : List S101) (a : Int) (h0 : 0 ≤ a) (h1 : a ≤ 1099511627776) (hl : l.length ≤ maxLen) : laws_szFentS.f l a = some (if a - (l.length : Int) < 0 then -1 else a - (l.length : Int)) := by
  have hl' : l.length ≤ 9223372036854775807 := hl
  unfold laws_szFentS.f
  rw [w64 (by omega) (by omega)]
  split <;> rfl
theorem toFentS_loop (rest : List S101) : ∀ (pre : List S101) (k : Nat), pre.length + rest.length ≤ 1099511627776 → rest.length < k →
    laws_toFentS.l0 k (pre ++ rest) (pre.map cvF ++ List.replicate rest.length z99) (pre.length : Int) = some ((pre ++ rest).map cvF) := by
  induction rest with
  | nil =>
    intro pre k _ hk
    obtain ⟨k, rfl⟩ := succ_of hk
    simp only [laws_toFentS.l0]
    rw [if_neg (by simp only [List.length_append, List.length_nil]; omega)]
    simp
  | cons r rest ih =>
    intro pre k hn hk
    obtain ⟨k, rfl⟩ := succ_of hk
    simp only [List.length_cons] at hn hk
    simp only [laws_toFentS.l0]
    rw [if_pos (by simp only [List.length_append, List.length_cons]; omega), if_pos (by omega)]
    simp only [rdLF_mid, laws_toFent.f, Option.bind_some]
    rw [if_pos (by simp only [List.length_append, List.length_cons, List.length_replicate, List.length_map]; omega), List.length_cons, List.replicate_succ, set_at _ _ _ _ _ (List.length_map _), w64 (by omega) (by omega)]
    have h := ih (pre ++ [r]) k (by simp only [List.length_append, List.length_cons, List.length_nil]; omega) (by omega)
    simpa [cvF] using h
theorem toFentS_ev (xs : List S101) (h : xs.length ≤ 1048576) : Ev (fun k => laws_toFentS.f k xs) (xs.map cvF) := by
  refine Ev.at_ xs.length fun k hk => ?_
  simp only [laws_toFentS.f]
  rw [if_pos (by omega), if_pos (by omega)]
  have h := toFentS_loop xs [] k (by simp only [List.length_nil]; omega) hk
  simpa using h
theorem eqFent_self (a b c d : Int) (e : Bool) : laws_eqFent.f a b c d e a b c d e = some true := by
  unfold laws_eqFent.f
  simp
theorem eqFentS_loop (a : List S99) : ∀ (pre : List S99) (k : Nat), pre.length + a.length ≤ 1099511627776 → a.length < k →
    laws_eqFentS.l0 k (pre ++ a) (pre ++ a) (pre.length : Int) = some true := by
  induction a with
  | nil =>
    intro pre k hn hk
    obtain ⟨k, rfl⟩ := succ_of hk
    simp only [laws_eqFentS.l0]
    rw [if_neg (by simp only [List.length_append, List.length_nil]; omega)]
  | cons r a ih =>
    intro pre k hn hk
    obtain ⟨k, rfl⟩ := succ_of hk
    simp only [List.length_cons] at hn hk
    simp only [laws_eqFentS.l0]
    rw [if_pos (by simp only [List.length_append, List.length_cons]; omega), if_pos (by omega), if_pos (by simp only [List.length_append, List.length_cons]; omega)]
    simp only [eqFent_self, Option.bind_some, if_true]
    rw [w64 (by omega) (by omega)]
    have h := ih (pre ++ [r]) k (by simp only [List.length_append, List.length_cons, List.length_nil]; omega) (by omega)
    simpa using h
theorem eqFentS_ev (a : List S99) (h : a.length ≤ 1099511627776) : Ev (fun k => laws_eqFentS.f k a a) true := by
  refine Ev.at_ a.length fun k hk => ?_
  simp only [laws_eqFentS.f, if_true]
  have h := eqFentS_loop a [] k (by simp only [List.length_nil]; omega) hk
  simpa using h

def marksFent : Int → Nat → List S99
  | _, 0 => []
  | m, d + 1 => ⟨m, m + 1, m + 2, m + 3, (Int.tmod (m + 4) 3 == 0)⟩ :: marksFent (m + 5) d
theorem wfive {m : Int} (h0 : 0 ≤ m) (h1 : m ≤ 1152921504606846976) : wrap64 (m + 1) = m + 1 ∧ wrap64 (m + 1 + 1) = m + 2 ∧ wrap64 (m + 2 + 1) = m + 3 ∧ wrap64 (m + 3 + 1) = m + 4 ∧ wrap64 (m + 4 + 1) = m + 5 := by
  refine ⟨?_, ?_, ?_, ?_, ?_⟩ <;> (unfold wrap64; omega)
theorem markFentS_loop (rest : List S99) : ∀ (pre : List S99) (m : Int) (k : Nat), 0 ≤ m → m ≤ 1152921504606846976 - 5 * rest.length → pre.length + rest.length ≤ 1099511627776 → rest.length < k →
    laws_markFentS.l0 k (pre ++ rest) m (pre.length : Int) = some (m + 5 * rest.length, pre ++ marksFent m rest.length) := by
  induction rest with
  | nil =>
    intro pre m k _ _ _ hk
    obtain ⟨k, rfl⟩ := succ_of hk
    simp only [laws_markFentS.l0]
    rw [if_neg (by simp only [List.length_append, List.length_nil]; omega)]
    simp [marksFent]
  | cons r rest ih =>
    intro pre m k h0 h1 hn hk
    obtain ⟨k, rfl⟩ := succ_of hk
    simp only [List.length_cons] at h1 hn hk
    obtain ⟨e1, e2, e3, e4, e5⟩ := wfive h0 (show m ≤ 1152921504606846976 by omega)
    simp only [laws_markFentS.l0]
    rw [if_pos (by simp only [List.length_append, List.length_cons]; omega), if_pos (by omega)]
    simp only [Option.bind_some, set_mid, rdIF_mid, e1, e2, e3, e4, e5]
    rw [w64 (by omega) (by omega)]
    have h := ih (pre ++ [⟨m, m + 1, m + 2, m + 3, (Int.tmod (m + 4) 3 == 0)⟩]) (m + 5) k (by omega) (by omega) (by simp only [List.length_append, List.length_cons, List.length_nil]; omega) (by omega)
    simp only [List.length_append, List.length_cons, List.length_nil, List.append_assoc, List.cons_append, List.nil_append] at h
    simp only [marksFent, List.length_cons]
    rw [show (pre.length : Int) + 1 = ((pre.length + (0 + 1) : Nat) : Int) from by omega, h]
    congr 2
    omega
theorem markFentS_ev (xs : List S99) (m : Int) (h0 : 0 ≤ m) (h1 : m ≤ 1099511627776) (h : xs.length ≤ 1099511627776) : Ev (fun k => laws_markFentS.f k xs m) (m + 5 * xs.length, marksFent m xs.length) := by
  refine Ev.at_ xs.length fun k hk => ?_
  simp only [laws_markFentS.f]
  have h := markFentS_loop xs [] m k h0 (by omega) (by simp only [List.length_nil]; omega) hk
  simpa using h
theorem heldFentS_loop (d : Nat) : ∀ (pre : List S99) (m : Int) (k : Nat), 0 ≤ m → m ≤ 1152921504606846976 - 5 * d → pre.length + d ≤ 1099511627776 → d < k →
    laws_heldFentS.l0 k (pre ++ marksFent m d) m (pre.length : Int) = some (m + 5 * d) := by
  induction d with
  | zero =>
    intro pre m k _ _ _ hk
    obtain ⟨k, rfl⟩ := succ_of hk
    simp only [marksFent]
    simp only [laws_heldFentS.l0]
    rw [if_neg (by simp only [List.length_append, List.length_nil]; omega)]
    simp
  | succ d ih =>
    intro pre m k h0 h1 hn hk
    obtain ⟨k, rfl⟩ := succ_of hk
    obtain ⟨e1, e2, e3, e4, e5⟩ := wfive h0 (show m ≤ 1152921504606846976 by omega)
    simp only [marksFent]
    simp only [laws_heldFentS.l0]
    rw [if_pos (by simp only [List.length_append, List.length_cons]; omega), if_pos (by omega)]
    simp only [rdIF_mid, e1, e2, e3, e4, e5, if_true, bne_self_eq_false, Bool.false_eq_true, if_false]
    rw [w64 (by omega) (by omega)]
    have h := ih (pre ++ [⟨m, m + 1, m + 2, m + 3, (Int.tmod (m + 4) 3 == 0)⟩]) (m + 5) k (by omega) (by omega) (by simp only [List.length_append, List.length_cons, List.length_nil]; omega) (by omega)
    simp only [List.length_append, List.length_cons, List.length_nil, List.append_assoc, List.cons_append, List.nil_append] at h
    rw [show (pre.length : Int) + 1 = ((pre.length + (0 + 1) : Nat) : Int) from by omega, h]
    congr 1
    omega
theorem heldFentS_ev (m : Int) (d : Nat) (h0 : 0 ≤ m) (h1 : m ≤ 1099511627776) (h : d ≤ 1099511627776) : Ev (fun k => laws_heldFentS.f k (marksFent m d) m) (m + 5 * d) := by
  refine Ev.at_ d fun k hk => ?_
  simp only [laws_heldFentS.f]
  have h := heldFentS_loop d [] m k h0 (by omega) (by simp only [List.length_nil]; omega) hk
  simpa using h

def ageAll : List S99 → List S99
  | [] => []
  | e :: r => if e.f4 = true then e :: ageAll r else if e.f3 < 4 then ⟨e.f0, e.f1, e.f2, wrap64 (e.f3 + 1), e.f4⟩ :: ageAll r else ageAll r
theorem ageAll_len (l : List S99) : (ageAll l).length ≤ l.length := by
  induction l with
  | nil => exact Nat.le_refl _
  | cons e r ih =>
    simp only [ageAll]
    split
    · simp only [List.length_cons]; omega
    · split <;> simp only [List.length_cons] <;> omega
theorem sAgeAll_loop (rest : List S99) : ∀ (pre out : List S99) (k : Nat), pre.length + rest.length ≤ 1048576 → out.length ≤ pre.length → rest.length < k →
    spec_AgeAll.l0 k (pre ++ rest) out (pre.length : Int) = some (out ++ ageAll rest) := by
  induction rest with
  | nil =>
    intro pre out k _ _ hk
    obtain ⟨k, rfl⟩ := succ_of hk
    simp only [spec_AgeAll.l0]
    rw [if_neg (by simp only [List.length_append, List.length_nil]; omega)]
    simp [ageAll]
  | cons r rest ih =>
    intro pre out k hn ho hk
    obtain ⟨k, rfl⟩ := succ_of hk
    simp only [List.length_cons] at hn hk
    have h := fun out' ho' => ih (pre ++ [r]) out' k (by simp only [List.length_append, List.length_cons, List.length_nil]; omega) ho' (by omega)
    simp only [List.append_assoc, List.cons_append, List.nil_append] at h
    simp only [spec_AgeAll.l0]
    rw [if_pos (by simp only [List.length_append, List.length_cons]; omega), if_pos (by omega)]
    simp only [rdIF_mid, eta_F, ageAll]
    rw [w64 (x := (pre.length : Int) + 1) (by omega) (by omega), show (pre.length : Int) + 1 = ((pre ++ [r]).length : Int) from by simp]
    by_cases c : r.f4 = true
    · rw [if_pos c, if_pos (by omega), h _ (by simp only [List.length_append, List.length_cons, List.length_nil]; omega), if_pos c]
      simp
    · rw [if_neg c, if_neg c]
      by_cases e : r.f3 < 4
      · rw [if_pos e, if_pos (by omega), h _ (by simp only [List.length_append, List.length_cons, List.length_nil]; omega), if_pos e]
        simp
      · rw [if_neg e, h _ (by simp only [List.length_append, List.length_cons, List.length_nil]; omega), if_neg e]
theorem iAgeAll_loop (rest : List S99) : ∀ (pre out : List S99) (n : Int) (k : Nat), n = (pre.length : Int) + rest.length → pre.length + rest.length ≤ 1048576 → out.length ≤ pre.length → rest.length < k →
    impl_AgeAll.l0 k out (pre ++ rest) n (pre.length : Int) = some (out ++ ageAll rest) := by
  induction rest with
  | nil =>
    intro pre out n k hm _ _ hk
    obtain ⟨k, rfl⟩ := succ_of hk
    simp only [List.length_nil] at hm
    simp only [impl_AgeAll.l0]
    rw [if_neg (by omega)]
    simp [ageAll]
  | cons r rest ih =>
    intro pre out n k hm hn ho hk
    obtain ⟨k, rfl⟩ := succ_of hk
    simp only [List.length_cons] at hm hn hk
    have h := fun out' ho' => ih (pre ++ [r]) out' n k (by simp only [List.length_append, List.length_cons, List.length_nil]; omega) (by simp only [List.length_append, List.length_cons, List.length_nil]; omega) ho' (by omega)
    simp only [List.append_assoc, List.cons_append, List.nil_append] at h
    simp only [impl_AgeAll.l0]
    rw [if_pos (by omega), if_pos (by omega), if_pos (by simp only [List.length_append, List.length_cons]; omega)]
    simp only [rdIF_mid, eta_F, ageAll]
    rw [w64 (x := (pre.length : Int) + 1) (by omega) (by omega), show (pre.length : Int) + 1 = ((pre ++ [r]).length : Int) from by simp]
    by_cases c : r.f4 = true
    · rw [if_pos c, if_pos (by omega), h _ (by simp only [List.length_append, List.length_cons, List.length_nil]; omega), if_pos c]
      simp
    · rw [if_neg c, if_neg c]
      by_cases e : r.f3 < 4
      · rw [if_neg (show ¬ r.f3 ≥ 4 by omega), if_pos (by omega), h _ (by simp only [List.length_append, List.length_cons, List.length_nil]; omega), if_pos e]
        simp
      · rw [if_pos (show r.f3 ≥ 4 by omega), h _ (by simp only [List.length_append, List.length_cons, List.length_nil]; omega), if_neg e]
theorem sAgeAll_ev (l : List S99) (h : l.length ≤ 1048576) : Ev (fun k => spec_AgeAll.f k l) (ageAll l) := by
  refine Ev.at_ l.length fun k hk => ?_
  simp only [spec_AgeAll.f]
  have h := sAgeAll_loop l [] [] k (by simp only [List.length_nil]; omega) (Nat.le_refl _) hk
  simpa using h
theorem iAgeAll_ev (l : List S99) (h : l.length ≤ 1048576) : Ev (fun k => impl_AgeAll.f k l) (ageAll l) := by
  refine Ev.at_ l.length fun k hk => ?_
  simp only [impl_AgeAll.f]
  have h := iAgeAll_loop l [] [] (l.length : Int) k (by simp) (by simp only [List.length_nil]; omega) (Nat.le_refl _) hk
  simpa using h

theorem FnExactAgeAll : laws_FnExactAgeAll.Pure := by
  intro l0 hl _
  refine Ev.rounds ?_
  unfold laws_FnExactAgeAll.f
  rw [szFentS_eq l0 _ (by omega) (by omega) hl]
  simp only [Option.bind_some]
  by_cases h : 1048576 - (l0.length : Int) < 0
  · simp only [if_pos h]
    exact Ev.now _
  have hn : ¬ 1048576 - (l0.length : Int) < 0 := h
  simp only [if_neg h, if_neg hn]
  have hml : (l0.map cvF).length = l0.length := List.length_map _
  have hl2 := ageAll_len (l0.map cvF)
  have hneg : ¬ ((1 : Int) + 5 * ((ageAll (l0.map cvF)).length : Int) < 0) := by omega
  have hneg2 : ¬ ((1 : Int) + 5 * ((l0.map cvF).length : Int) < 0) := by omega
  repeat' first
    | exact Ev.now _
    | ((with_reducible refine Ev.bind (toFentS_ev _ ?s0) ?_); (case s0 => omega))
    | ((with_reducible refine Ev.bind (sAgeAll_ev _ ?s0) ?_); (case s0 => omega))
    | ((with_reducible refine Ev.bind (iAgeAll_ev _ ?s0) ?_); (case s0 => omega))
    | ((with_reducible refine Ev.bind (eqFentS_ev _ ?s0) ?_); (case s0 => omega))
    | ((with_reducible refine Ev.bind (markFentS_ev _ _ ?s0 ?s1 ?s2) ?_); (case s0 => omega); (case s1 => omega); (case s2 => omega))
    | ((with_reducible refine Ev.bind (heldFentS_ev _ _ ?s0 ?s1 ?s2) ?_); (case s0 => omega); (case s1 => omega); (case s2 => omega))
    | simp only [bne_self_eq_false, Bool.false_eq_true, Bool.not_true, Bool.not_false, decide_true, Option.bind_some, ↓reduceIte, if_neg hneg, if_neg hneg2]
    | (refine Ev.succ ?_; simp only [laws_FnExactAgeAll.j0])

end Go.Proofs.Ytndfokcnogpeiaa.Pure
