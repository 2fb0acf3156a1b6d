/- The pure side of FnExactGetVal: the program's GetVal and the reference's agree at all arguments. No conditions but those of the given statement. -/
import Derived.Test.YthhnfmbfgplelaaXFnExactGetValx10
namespace Go.Proofs.Ythhnfmbfgplelaa.Pure
open Go.RowKit Go.Proofs.Ythhnfmbfgplelaa.XFnExactGetVal Go.Proofs.YthhnfmbfgplelaaW.PrintWords Go.Proofs.YthhnfmbfgplelaaW.PrintLast Go.Proofs.YthhnfmbfgplelaaW.PrintMore
set_option linter.unusedVariables false
set_option linter.unusedSimpArgs false
theorem w64 {x : Int} (h0 : -9223372036854775808 ≤ x) (h1 : x ≤ 9223372036854775807) : wrap64 x = x := by
  unfold wrap64
  omega
theorem wf64 {x : Int} (h : (Lit.int .i64 x).wf = true) : -9223372036854775808 ≤ x ∧ x ≤ 9223372036854775807 := by
  simp only [Lit.wf, Bool.and_eq_true, decide_eq_true_eq] at h
  exact h
theorem wf8 {x : Int} (h : (Lit.int .u8 x).wf = true) : 0 ≤ x ∧ x ≤ 255 := by
  simp only [Lit.wf, Bool.and_eq_true, decide_eq_true_eq] at h
  exact h
theorem rd_mid (pre rest : List Int) (r : Int) : rd (pre ++ r :: rest) (pre.length : Int) = r := by
  unfold rd
  simp [List.getD_eq_getElem?_getD]
theorem set_mid {α : Type} (pre rest : List α) (r v : α) : (pre ++ r :: rest).set (pre.length : Int).toNat v = pre ++ v :: rest := by
  rw [Int.toNat_natCast, List.set_append_right _ _ (Nat.le_refl _)]
  simp
theorem succ_of {d k : Nat} (h : d < k) : ∃ m, k = m + 1 := ⟨k - 1, by omega⟩
theorem Ev.at_ {α : Type} {g : Nat → Option α} {r : α} (n : Nat) (h : ∀ k, n < k → g k = some r) : Ev g r := ⟨n + 1, fun k hk => h k (by omega)⟩
theorem Ev.succ {α : Type} {g : Nat → Option α} {r : α} (h : Ev (fun k => g (k + 1)) r) : Ev g r := by
  obtain ⟨K, h⟩ := h
  refine ⟨K + 1, fun n hn => ?_⟩
  obtain ⟨m, rfl⟩ : ∃ m, n = m + 1 := ⟨n - 1, by omega⟩
  exact h m (by omega)
theorem l1In_eq (a b c : Int) : spec_l1In.f a b c = some (decide (b ≤ a ∧ a ≤ c)) := by
  unfold spec_l1In.f
  by_cases h : b ≤ a
  · rw [if_pos h]; simp [h]
  · rw [if_neg h]; simp [h]
theorem in_eq (a b c : Int) : impl_in.f a b c = some (decide (b ≤ a ∧ a ≤ c)) := by
  unfold impl_in.f
  by_cases h : b ≤ a
  · rw [if_pos h]; simp [h]
  · rw [if_neg h]; simp [h]
theorem Ev.ite {α : Type} {c : Prop} [Decidable c] {g1 g2 : Nat → Option α} {r1 r2 : α} (h1 : c → Ev g1 r1) (h2 : ¬ c → Ev g2 r2) : Ev (fun k => if c then g1 k else g2 k) (if c then r1 else r2) := by
  by_cases h : c
  · simp only [if_pos h]; exact h1 h
  · simp only [if_neg h]; exact h2 h
theorem toByteS_loop (rest : List Int) : ∀ (pre : List Int) (k : Nat), pre.length + rest.length ≤ 1099511627776 → rest.length < k →
    laws_toByteS.l0 k (pre ++ rest) (pre ++ List.replicate rest.length 0) (pre.length : Int) = some (pre ++ rest) := by
  induction rest with
  | nil =>
    intro pre k _ hk
    obtain ⟨k, rfl⟩ := succ_of hk
    simp only [laws_toByteS.l0]
    rw [if_neg (by simp only [List.length_append, List.length_nil]; omega)]
    simp
  | cons r rest ih =>
    intro pre k hn hk
    obtain ⟨k, rfl⟩ := succ_of hk
    simp only [List.length_cons] at hn hk
    simp only [laws_toByteS.l0]
    rw [if_pos (by simp only [List.length_append, List.length_cons]; omega), if_pos (by omega), if_pos (by simp only [List.length_append, List.length_cons, List.length_replicate]; omega), rd_mid, List.length_cons, List.replicate_succ, set_mid, w64 (by omega) (by omega)]
    have h := ih (pre ++ [r]) k (by simp only [List.length_append, List.length_cons, List.length_nil]; omega) (by omega)
    simpa using h
theorem toByteS_ev (xs : List Int) (h : xs.length ≤ 1048576) : Ev (fun k => laws_toByteS.f k xs) xs := by
  refine Ev.at_ xs.length fun k hk => ?_
  simp only [laws_toByteS.f]
  rw [if_pos (by omega), if_pos (by omega)]
  have h := toByteS_loop xs [] k (by simp only [List.length_nil]; omega) hk
  simpa using h
theorem eqByteS_loop (a : List Int) : ∀ (b pre pre' : List Int) (k : Nat), pre.length = pre'.length → a.length = b.length → pre.length + a.length ≤ 1099511627776 → a.length < k →
    laws_eqByteS.l0 k (pre ++ a) (pre' ++ b) (pre.length : Int) = some (decide (a = b)) := by
  induction a with
  | nil =>
    intro b pre pre' k hp hab hn hk
    obtain ⟨k, rfl⟩ := succ_of hk
    obtain rfl : b = [] := List.eq_nil_of_length_eq_zero hab.symm
    simp only [laws_eqByteS.l0]
    rw [if_neg (by simp only [List.length_append, List.length_nil] at *; omega)]
    simp
  | cons r a ih =>
    intro b pre pre' k hp hab hn hk
    obtain ⟨k, rfl⟩ := succ_of hk
    cases b with
    | nil => simp at hab
    | cons s b =>
      simp only [List.length_cons] at hab hn hk
      simp only [laws_eqByteS.l0]
      have e : rd (pre' ++ s :: b) (pre.length : Int) = s := by rw [hp, rd_mid]
      rw [if_pos (by simp only [List.length_append, List.length_cons]; omega), if_pos (by omega), if_pos (by simp only [List.length_append, List.length_cons]; omega), rd_mid, e]
      by_cases hrs : r = s
      · subst hrs
        rw [if_pos rfl, w64 (by omega) (by omega)]
        have h := ih b (pre ++ [r]) (pre' ++ [r]) k (by simp [hp]) (by omega) (by simp only [List.length_append, List.length_cons, List.length_nil]; omega) (by omega)
        simpa using h
      · rw [if_neg hrs]
        simp [hrs]
theorem eqByteS_ev (a b : List Int) (h : a.length ≤ 1099511627776) : Ev (fun k => laws_eqByteS.f k a b) (decide (a = b)) := by
  refine Ev.at_ a.length fun k hk => ?_
  simp only [laws_eqByteS.f]
  by_cases e : a.length = b.length
  · rw [if_pos (by omega)]
    have h := eqByteS_loop a b [] [] k rfl e (by simp only [List.length_nil]; omega) hk
    simpa using h
  · rw [if_neg (by omega)]
    have hne : ¬ a = b := fun h => e (by rw [h])
    simp [hne]
theorem eqIntS_loop (a : List Int) : ∀ (b pre pre' : List Int) (k : Nat), pre.length = pre'.length → a.length = b.length → pre.length + a.length ≤ 1099511627776 → a.length < k →
    laws_eqIntS.l0 k (pre ++ a) (pre' ++ b) (pre.length : Int) = some (decide (a = b)) := by
  induction a with
  | nil =>
    intro b pre pre' k hp hab hn hk
    obtain ⟨k, rfl⟩ := succ_of hk
    obtain rfl : b = [] := List.eq_nil_of_length_eq_zero hab.symm
    simp only [laws_eqIntS.l0]
    rw [if_neg (by simp only [List.length_append, List.length_nil] at *; omega)]
    simp
  | cons r a ih =>
    intro b pre pre' k hp hab hn hk
    obtain ⟨k, rfl⟩ := succ_of hk
    cases b with
    | nil => simp at hab
    | cons s b =>
      simp only [List.length_cons] at hab hn hk
      simp only [laws_eqIntS.l0]
      have e : rd (pre' ++ s :: b) (pre.length : Int) = s := by rw [hp, rd_mid]
      rw [if_pos (by simp only [List.length_append, List.length_cons]; omega), if_pos (by omega), if_pos (by simp only [List.length_append, List.length_cons]; omega), rd_mid, e]
      by_cases hrs : r = s
      · subst hrs
        rw [if_pos rfl, w64 (by omega) (by omega)]
        have h := ih b (pre ++ [r]) (pre' ++ [r]) k (by simp [hp]) (by omega) (by simp only [List.length_append, List.length_cons, List.length_nil]; omega) (by omega)
        simpa using h
      · rw [if_neg hrs]
        simp [hrs]
theorem eqIntS_ev (a b : List Int) (h : a.length ≤ 1099511627776) : Ev (fun k => laws_eqIntS.f k a b) (decide (a = b)) := by
  refine Ev.at_ a.length fun k hk => ?_
  simp only [laws_eqIntS.f]
  by_cases e : a.length = b.length
  · rw [if_pos (by omega)]
    have h := eqIntS_loop a b [] [] k rfl e (by simp only [List.length_nil]; omega) hk
    simpa using h
  · rw [if_neg (by omega)]
    have hne : ¬ a = b := fun h => e (by rw [h])
    simp [hne]
def marksByte : Int → Nat → List Int
  | _, 0 => []
  | m, d + 1 => (m % 256) :: marksByte (m + 1) d
theorem markByteS_loop (rest : List Int) : ∀ (pre : List Int) (m : Int) (k : Nat), 0 ≤ m → m ≤ 1152921504606846976 - rest.length → pre.length + rest.length ≤ 1099511627776 → rest.length < k →
    laws_markByteS.l0 k (pre ++ rest) m (pre.length : Int) = some (m + rest.length, pre ++ marksByte m rest.length) := by
  induction rest with
  | nil =>
    intro pre m k _ _ _ hk
    obtain ⟨k, rfl⟩ := succ_of hk
    simp only [laws_markByteS.l0]
    rw [if_neg (by simp only [List.length_append, List.length_nil]; omega)]
    simp [marksByte]
  | cons r rest ih =>
    intro pre m k h0 h1 hn hk
    obtain ⟨k, rfl⟩ := succ_of hk
    simp only [List.length_cons] at h1 hn hk
    simp only [laws_markByteS.l0]
    rw [if_pos (by simp only [List.length_append, List.length_cons]; omega), if_pos (by omega), set_mid, w64 (x := m + 1) (by omega) (by omega), w64 (by omega) (by omega)]
    have h := ih (pre ++ [m % 256]) (m + 1) k (by omega) (by omega) (by simp only [List.length_append, List.length_cons, List.length_nil]; omega) (by omega)
    simp only [List.length_append, List.length_cons, List.length_nil, List.append_assoc, List.cons_append, List.nil_append] at h
    simp only [marksByte, List.length_cons]
    rw [show (pre.length : Int) + 1 = ((pre.length + (0 + 1) : Nat) : Int) from by omega, h]
    congr 2
    omega
theorem markByteS_ev (xs : List Int) (m : Int) (h0 : 0 ≤ m) (h1 : m ≤ 1099511627776) (h : xs.length ≤ 1099511627776) : Ev (fun k => laws_markByteS.f k xs m) (m + xs.length, marksByte m xs.length) := by
  refine Ev.at_ xs.length fun k hk => ?_
  simp only [laws_markByteS.f]
  have h := markByteS_loop xs [] m k h0 (by omega) (by simp only [List.length_nil]; omega) hk
  simpa using h
def marksInt : Int → Nat → List Int
  | _, 0 => []
  | m, d + 1 => (m) :: marksInt (m + 1) d
theorem markIntS_loop (rest : List Int) : ∀ (pre : List Int) (m : Int) (k : Nat), 0 ≤ m → m ≤ 1152921504606846976 - rest.length → pre.length + rest.length ≤ 1099511627776 → rest.length < k →
    laws_markIntS.l0 k (pre ++ rest) m (pre.length : Int) = some (m + rest.length, pre ++ marksInt m rest.length) := by
  induction rest with
  | nil =>
    intro pre m k _ _ _ hk
    obtain ⟨k, rfl⟩ := succ_of hk
    simp only [laws_markIntS.l0]
    rw [if_neg (by simp only [List.length_append, List.length_nil]; omega)]
    simp [marksInt]
  | cons r rest ih =>
    intro pre m k h0 h1 hn hk
    obtain ⟨k, rfl⟩ := succ_of hk
    simp only [List.length_cons] at h1 hn hk
    simp only [laws_markIntS.l0]
    rw [if_pos (by simp only [List.length_append, List.length_cons]; omega), if_pos (by omega), set_mid, w64 (x := m + 1) (by omega) (by omega), w64 (by omega) (by omega)]
    have h := ih (pre ++ [m]) (m + 1) k (by omega) (by omega) (by simp only [List.length_append, List.length_cons, List.length_nil]; omega) (by omega)
    simp only [List.length_append, List.length_cons, List.length_nil, List.append_assoc, List.cons_append, List.nil_append] at h
    simp only [marksInt, List.length_cons]
    rw [show (pre.length : Int) + 1 = ((pre.length + (0 + 1) : Nat) : Int) from by omega, h]
    congr 2
    omega
theorem markIntS_ev (xs : List Int) (m : Int) (h0 : 0 ≤ m) (h1 : m ≤ 1099511627776) (h : xs.length ≤ 1099511627776) : Ev (fun k => laws_markIntS.f k xs m) (m + xs.length, marksInt m xs.length) := by
  refine Ev.at_ xs.length fun k hk => ?_
  simp only [laws_markIntS.f]
  have h := markIntS_loop xs [] m k h0 (by omega) (by simp only [List.length_nil]; omega) hk
  simpa using h
theorem heldIntS_loop (d : Nat) : ∀ (pre : List Int) (m : Int) (k : Nat), 0 ≤ m → m ≤ 1152921504606846976 - d → pre.length + d ≤ 1099511627776 → d < k →
    laws_heldIntS.l0 k (pre ++ marksInt m d) m (pre.length : Int) = some (m + d) := by
  induction d with
  | zero =>
    intro pre m k _ _ _ hk
    obtain ⟨k, rfl⟩ := succ_of hk
    simp only [marksInt]
    simp only [laws_heldIntS.l0]
    rw [if_neg (by simp only [List.length_append, List.length_nil]; omega)]
    simp
  | succ d ih =>
    intro pre m k h0 h1 hn hk
    obtain ⟨k, rfl⟩ := succ_of hk
    simp only [marksInt]
    simp only [laws_heldIntS.l0]
    rw [if_pos (by simp only [List.length_append, List.length_cons]; omega), if_pos (by omega), rd_mid, if_pos rfl, w64 (x := m + 1) (by omega) (by omega), w64 (by omega) (by omega)]
    have h := ih (pre ++ [m]) (m + 1) k (by omega) (by omega) (by simp only [List.length_append, List.length_cons, List.length_nil]; omega) (by omega)
    simp only [List.length_append, List.length_cons, List.length_nil, List.append_assoc, List.cons_append, List.nil_append] at h
    rw [show (pre.length : Int) + 1 = ((pre.length + (0 + 1) : Nat) : Int) from by omega, h]
    congr 1
    omega
theorem heldIntS_ev (m : Int) (d : Nat) (h0 : 0 ≤ m) (h1 : m ≤ 1099511627776) (h : d ≤ 1099511627776) : Ev (fun k => laws_heldIntS.f k (marksInt m d) m) (m + d) := by
  refine Ev.at_ d fun k hk => ?_
  simp only [laws_heldIntS.f]
  have h := heldIntS_loop d [] m k h0 (by omega) (by simp only [List.length_nil]; omega) hk
  simpa using h
theorem iSameOid_loop (a : List Int) : ∀ (b pre pre' : List Int) (m : Int) (k : Nat), pre.length = pre'.length → a.length = b.length → pre.length + a.length ≤ 1099511627776 → m = (pre.length : Int) + (a.length : Int) → a.length < k →
    impl_SameOid.l0 k (pre ++ a) (pre' ++ b) m (pre.length : Int) = some (decide (a = b)) := by
  induction a with
  | nil =>
    intro b pre pre' m k hp hab hn hm hk
    obtain ⟨k, rfl⟩ := succ_of hk
    obtain rfl : b = [] := List.eq_nil_of_length_eq_zero hab.symm
    simp only [impl_SameOid.l0]
    rw [if_neg (by simp only [List.length_append, List.length_nil] at *; omega)]
    simp
  | cons r a ih =>
    intro b pre pre' m k hp hab hn hm hk
    obtain ⟨k, rfl⟩ := succ_of hk
    cases b with
    | nil => simp at hab
    | cons s b =>
      simp only [List.length_cons] at hab hn hk hm
      simp only [impl_SameOid.l0]
      have e : rd (pre' ++ s :: b) (pre.length : Int) = s := by rw [hp, rd_mid]
      rw [if_pos (by omega), if_pos (by omega), if_pos (by simp only [List.length_append, List.length_cons]; omega), if_pos (by simp only [List.length_append, List.length_cons]; omega), rd_mid, e]
      by_cases hrs : r = s
      · subst hrs
        rw [if_pos rfl, w64 (by omega) (by omega)]
        have h := ih b (pre ++ [r]) (pre' ++ [r]) m k (by simp [hp]) (by omega) (by simp only [List.length_append, List.length_cons, List.length_nil]; omega) (by simp only [List.length_append, List.length_cons, List.length_nil]; omega) (by omega)
        simpa using h
      · rw [if_neg hrs]
        simp [hrs]
theorem iSameOid_ev (a b : List Int) (h : a.length ≤ 1099511627776) : Ev (fun k => impl_SameOid.f k a b) (decide (a = b)) := by
  refine Ev.at_ a.length fun k hk => ?_
  simp only [impl_SameOid.f]
  by_cases e : a.length = b.length
  · rw [if_pos (by omega)]
    have h := iSameOid_loop a b [] [] (a.length : Int) k rfl e (by simp only [List.length_nil]; omega) (by simp) hk
    simpa using h
  · rw [if_neg (by omega)]
    have hne : ¬ a = b := fun h => e (by rw [h])
    simp [hne]
def oidNums (xs : List Int) : Bool := xs.all fun n => decide (0 ≤ n ∧ n ≤ 100000)
def oidOk (xs : List Int) : Bool := oidNums xs && decide (1 ≤ (xs.length : Int) ∧ (xs.length : Int) ≤ 10)
theorem sOidOk_loop (rest : List Int) : ∀ (pre : List Int) (k : Nat), pre.length + rest.length ≤ 1099511627776 → rest.length < k →
    spec_OidOk.l0 k (pre ++ rest) (pre.length : Int) = some (oidNums rest && decide (1 ≤ ((pre ++ rest).length : Int) ∧ ((pre ++ rest).length : Int) ≤ 10)) := by
  induction rest with
  | nil =>
    intro pre k _ hk
    obtain ⟨k, rfl⟩ := succ_of hk
    simp only [spec_OidOk.l0]
    rw [if_neg (by simp only [List.length_append, List.length_nil]; omega), l1In_eq]
    simp [oidNums]
  | cons r rest ih =>
    intro pre k hn hk
    obtain ⟨k, rfl⟩ := succ_of hk
    simp only [List.length_cons] at hn hk
    simp only [spec_OidOk.l0]
    rw [if_pos (by simp only [List.length_append, List.length_cons]; omega), if_pos (by omega), rd_mid, l1In_eq, w64 (by omega) (by omega)]
    simp only [Option.bind_some]
    by_cases h : 0 ≤ r ∧ r ≤ 100000
    · rw [if_pos (by simpa using h)]
      have e := ih (pre ++ [r]) k (by simp only [List.length_append, List.length_cons, List.length_nil]; omega) (by omega)
      simp only [List.append_assoc, List.cons_append, List.nil_append] at e
      rw [show (pre.length : Int) + 1 = ((pre ++ [r]).length : Int) from by simp, e]
      simp [oidNums, h]
    · rw [if_neg (by simpa using h)]
      simp only [oidNums, List.all_cons, decide_eq_false h, Bool.false_and]
theorem sOidOk_ev (xs : List Int) (h : xs.length ≤ 1099511627776) : Ev (fun k => spec_OidOk.f k xs) (oidOk xs) := by
  refine Ev.at_ xs.length fun k hk => ?_
  simp only [spec_OidOk.f]
  have e := sOidOk_loop xs [] k (by simp only [List.length_nil]; omega) hk
  simpa [oidOk] using e
theorem iOidOk_loop (rest : List Int) : ∀ (pre all : List Int) (m : Int) (k : Nat), m = (pre.length : Int) + rest.length → pre.length + rest.length ≤ 1099511627776 → rest.length < k →
    impl_OidOk.l0 k all (pre ++ rest) m (pre.length : Int) = some (oidNums rest && decide (1 ≤ (all.length : Int) ∧ (all.length : Int) ≤ 10)) := by
  induction rest with
  | nil =>
    intro pre all m k hm _ hk
    obtain ⟨k, rfl⟩ := succ_of hk
    simp only [List.length_nil] at hm
    simp only [impl_OidOk.l0]
    rw [if_neg (by omega), in_eq]
    simp [oidNums]
  | cons r rest ih =>
    intro pre all m k hm hn hk
    obtain ⟨k, rfl⟩ := succ_of hk
    simp only [List.length_cons] at hm hn hk
    simp only [impl_OidOk.l0]
    rw [if_pos (by omega), if_pos (by omega), if_pos (by simp only [List.length_append, List.length_cons]; omega), rd_mid, in_eq, w64 (by omega) (by omega)]
    simp only [Option.bind_some]
    by_cases h : 0 ≤ r ∧ r ≤ 100000
    · rw [if_pos (by simpa using h)]
      have e := ih (pre ++ [r]) all m k (by simp only [List.length_append, List.length_cons, List.length_nil]; omega) (by simp only [List.length_append, List.length_cons, List.length_nil]; omega) (by omega)
      simp only [List.append_assoc, List.cons_append, List.nil_append] at e
      rw [show (pre.length : Int) + 1 = ((pre ++ [r]).length : Int) from by simp, e]
      simp [oidNums, h]
    · rw [if_neg (by simpa using h)]
      simp only [oidNums, List.all_cons, decide_eq_false h, Bool.false_and]
theorem iOidOk_ev (xs : List Int) (h : xs.length ≤ 1099511627776) : Ev (fun k => impl_OidOk.f k xs) (oidOk xs) := by
  refine Ev.at_ xs.length fun k hk => ?_
  simp only [impl_OidOk.f]
  have e := iOidOk_loop xs [] xs (xs.length : Int) k (by simp) (by simp only [List.length_nil]; omega) hk
  simpa [oidOk] using e
def clip (n : Int) : Int := if n > 2147483647 then 2147483647 else if n < -2147483648 then -2147483648 else n
theorem clip_bd (n : Int) : -2147483648 ≤ clip n ∧ clip n ≤ 2147483647 := by
  unfold clip
  split
  · omega
  · split <;> omega
def putInt (n : Int) : List Int :=
  if -128 ≤ n ∧ n ≤ 127 then [n % 256]
  else if -32768 ≤ n ∧ n ≤ 32767 then [n / 256 % 256, n % 256]
  else if -8388608 ≤ n ∧ n ≤ 8388607 then [n / 65536 % 256, n / 256 % 256, n % 256]
  else [n / 16777216 % 256, n / 65536 % 256, n / 256 % 256, n % 256]
theorem sClip_eq (n : Int) : spec_l1Clip.f n = some (clip n) := by
  unfold spec_l1Clip.f clip
  split
  · rfl
  · split <;> rfl
theorem sPs (k : Nat) (n : Int) (out : List Int) (h0 : -128 ≤ n) (h1 : n ≤ 127) : spec_PutInt.l0 (k + 1) n out = some out := by
  simp only [spec_PutInt.l0]
  rw [if_neg (by omega), if_neg (by omega)]
theorem sPg (k : Nat) (n : Int) (out : List Int) (h : n < -128 ∨ n > 127) (ho : out.length < 1000) : spec_PutInt.l0 (k + 1) n out = spec_PutInt.l0 k (n / 256) ([n / 256 % 256] ++ out) := by
  simp only [spec_PutInt.l0]
  by_cases h0 : n < -128
  · rw [if_pos h0]
    simp only [Option.bind_some]
    rw [if_pos (by simp only [List.length_cons, List.length_nil]; omega)]
  · rw [if_neg h0, if_pos (by omega)]
    simp only [Option.bind_some]
    rw [if_pos (by simp only [List.length_cons, List.length_nil]; omega)]
theorem sPa (m : Nat) (n : Int) (h0 : -2147483648 ≤ n) (h1 : n ≤ 2147483647) : spec_PutInt.l0 (m + 4) n [n % 256] = some (putInt n) := by
  unfold putInt
  by_cases c1 : -128 ≤ n ∧ n ≤ 127
  · rw [if_pos c1, sPs _ _ _ c1.1 c1.2]
  · rw [if_neg c1, sPg _ _ _ (by omega) (by simp)]
    by_cases c2 : -32768 ≤ n ∧ n ≤ 32767
    · rw [if_pos c2, sPs _ _ _ (by omega) (by omega)]
      rfl
    · rw [if_neg c2, sPg _ _ _ (by omega) (by simp), show n / 256 / 256 = n / 65536 by omega]
      by_cases c3 : -8388608 ≤ n ∧ n ≤ 8388607
      · rw [if_pos c3, sPs _ _ _ (by omega) (by omega)]
        rfl
      · rw [if_neg c3, sPg _ _ _ (by omega) (by simp), show n / 65536 / 256 = n / 16777216 by omega, sPs _ _ _ (by omega) (by omega)]
        rfl
theorem sPutInt_ev (n : Int) : Ev (fun k => spec_PutInt.f k n) (putInt (clip n)) := by
  refine Ev.at_ 4 fun k hk => ?_
  obtain ⟨m, rfl⟩ : ∃ m, k = m + 4 := ⟨k - 4, by omega⟩
  simp only [spec_PutInt.f, sClip_eq, Option.bind_some]
  exact sPa m _ (clip_bd n).1 (clip_bd n).2
theorem iClip_eq (n : Int) : mx (-2147483648) (mn n 2147483647) = clip n := by
  unfold mx mn clip
  split <;> split <;> (try split) <;> omega
theorem iPutInt_l1 (k : Nat) (n i : Int) (out : List Int) (s q : Int) (h0 : 0 ≤ i) (hi : wrap64 (8 * i) = s) (hs : 0 ≤ s) (hq : shr .i64 n s = q) (ho : out.length < 1000) :
    impl_PutInt.l1 (k + 1) n out i = impl_PutInt.l1 k n (out ++ [q % 256]) (wrap64 (i - 1)) := by
  simp only [impl_PutInt.l1]
  rw [if_pos h0, hi, if_pos hs, if_pos (by omega), hq]
theorem iPutInt_l1_end (k : Nat) (n : Int) (out : List Int) : impl_PutInt.l1 (k + 1) n out (-1) = some out := by
  simp only [impl_PutInt.l1]
  rw [if_neg (by omega)]
theorem shr0 (n : Int) : shr .i64 n 0 = n := by
  show n / 1 = n
  omega
theorem shr8 (n : Int) : shr .i64 n 8 = n / 256 := rfl
theorem shr16 (n : Int) : shr .i64 n 16 = n / 65536 := rfl
theorem shr24 (n : Int) : shr .i64 n 24 = n / 16777216 := rfl
theorem iPutInt_j1 (m : Nat) (n : Int) : impl_PutInt.j1 (m + 3) n 1 = some [n % 256] ∧ impl_PutInt.j1 (m + 4) n 2 = some [n / 256 % 256, n % 256] ∧
    impl_PutInt.j1 (m + 5) n 3 = some [n / 65536 % 256, n / 256 % 256, n % 256] ∧ impl_PutInt.j1 (m + 6) n 4 = some [n / 16777216 % 256, n / 65536 % 256, n / 256 % 256, n % 256] := by
  have t1 : wrap64 (1 - 1) = 0 := by decide +kernel
  have t2 : wrap64 (2 - 1) = 1 := by decide +kernel
  have t3 : wrap64 (3 - 1) = 2 := by decide +kernel
  have t4 : wrap64 (4 - 1) = 3 := by decide +kernel
  have s0 : wrap64 (0 - 1) = -1 := by decide +kernel
  have e0 : ∀ k out, out.length < 1000 → impl_PutInt.l1 (k + 2) n out 0 = some (out ++ [n % 256]) := fun k out ho => by
    rw [iPutInt_l1 (k + 1) n 0 out 0 n (by decide +kernel) (by decide +kernel) (by decide +kernel) (shr0 n) ho, s0, iPutInt_l1_end]
  have e1 : ∀ k out, out.length < 900 → impl_PutInt.l1 (k + 3) n out 1 = some (out ++ [n / 256 % 256] ++ [n % 256]) := fun k out ho => by
    rw [iPutInt_l1 (k + 2) n 1 out 8 _ (by decide +kernel) (by decide +kernel) (by decide +kernel) (shr8 n) (by omega), t1, e0 _ _ (by simp only [List.length_append, List.length_cons, List.length_nil]; omega)]
  have e2 : ∀ k out, out.length < 800 → impl_PutInt.l1 (k + 4) n out 2 = some (out ++ [n / 65536 % 256] ++ [n / 256 % 256] ++ [n % 256]) := fun k out ho => by
    rw [iPutInt_l1 (k + 3) n 2 out 16 _ (by decide +kernel) (by decide +kernel) (by decide +kernel) (shr16 n) (by omega), t2, e1 _ _ (by simp only [List.length_append, List.length_cons, List.length_nil]; omega)]
  have e3 : ∀ k out, out.length < 700 → impl_PutInt.l1 (k + 5) n out 3 = some (out ++ [n / 16777216 % 256] ++ [n / 65536 % 256] ++ [n / 256 % 256] ++ [n % 256]) := fun k out ho => by
    rw [iPutInt_l1 (k + 4) n 3 out 24 _ (by decide +kernel) (by decide +kernel) (by decide +kernel) (shr24 n) (by omega), t3, e2 _ _ (by simp only [List.length_append, List.length_cons, List.length_nil]; omega)]
  refine ⟨?_, ?_, ?_, ?_⟩
  · simp only [impl_PutInt.j1]
    rw [t1, e0 _ _ (by simp)]
    rfl
  · simp only [impl_PutInt.j1]
    rw [t2, e1 _ _ (by simp)]
    rfl
  · simp only [impl_PutInt.j1]
    rw [t3, e2 _ _ (by simp)]
    rfl
  · simp only [impl_PutInt.j1]
    rw [t4, e3 _ _ (by simp)]
    rfl
theorem iPutInt_l0 (k : Nat) (n j s lo hi : Int) (h4 : j < 4) (hs : wrap64 (wrap64 (8 * j) - 1) = s) (h0 : 0 ≤ s) (hl : shl .i64 (-1) s = lo) (hh : wrap64 (shl .i64 1 s - 1) = hi) :
    impl_PutInt.l0 (k + 1) n j = if lo ≤ n ∧ n ≤ hi then impl_PutInt.j1 k n j else impl_PutInt.l0 k n (wrap64 (j + 1)) := by
  simp only [impl_PutInt.l0]
  rw [if_pos h4, hs, if_pos h0, hl, hh, in_eq]
  simp only [Option.bind_some, decide_eq_true_eq]
theorem iPutInt_ev (n : Int) : Ev (fun k => impl_PutInt.f k n) (putInt (clip n)) := by
  refine Ev.at_ 12 fun k hk => ?_
  obtain ⟨m, rfl⟩ : ∃ m, k = m + 12 := ⟨k - 12, by omega⟩
  simp only [impl_PutInt.f]
  rw [iClip_eq]
  generalize clip n = c
  unfold putInt
  rw [iPutInt_l0 (m + 11) c 1 7 (-128) 127 (by decide +kernel) (by decide +kernel) (by decide +kernel) (by decide +kernel) (by decide +kernel)]
  by_cases c1 : -128 ≤ c ∧ c ≤ 127
  · rw [if_pos c1, if_pos c1]
    exact (iPutInt_j1 (m + 8) c).1
  · rw [if_neg c1, if_neg c1, show wrap64 (1 + 1) = 2 by decide +kernel, iPutInt_l0 (m + 10) c 2 15 (-32768) 32767 (by decide +kernel) (by decide +kernel) (by decide +kernel) (by decide +kernel) (by decide +kernel)]
    by_cases c2 : -32768 ≤ c ∧ c ≤ 32767
    · rw [if_pos c2, if_pos c2]
      exact (iPutInt_j1 (m + 6) c).2.1
    · rw [if_neg c2, if_neg c2, show wrap64 (2 + 1) = 3 by decide +kernel, iPutInt_l0 (m + 9) c 3 23 (-8388608) 8388607 (by decide +kernel) (by decide +kernel) (by decide +kernel) (by decide +kernel) (by decide +kernel)]
      by_cases c3 : -8388608 ≤ c ∧ c ≤ 8388607
      · rw [if_pos c3, if_pos c3]
        exact (iPutInt_j1 (m + 4) c).2.2.1
      · rw [if_neg c3, if_neg c3, show wrap64 (3 + 1) = 4 by decide +kernel]
        simp only [impl_PutInt.l0]
        rw [if_neg (by omega)]
        exact (iPutInt_j1 (m + 2) c).2.2.2
def joinI (n x : Int) : Int := Go.bits .or .i64 (wrap64 (n * 256)) (wrap64 x)
def rawInt : List Int → Int
  | [] => 0
  | b :: rest => rest.foldl joinI (if b > 127 then b - 256 else b)
def getInt (l : List Int) : Int × Bool := if (1 ≤ (l.length : Int) ∧ (l.length : Int) ≤ 4) then (if ((putInt (clip (rawInt l))).length : Int) = (l.length : Int) then (rawInt l, true) else (0, false)) else (0, false)
theorem sIl (rest : List Int) : ∀ (pre : List Int) (n : Int), pre.length + rest.length ≤ 1099511627776 →
    Ev (fun k => spec_GetInt.l0 k (pre ++ rest) n (pre.length : Int)) (if ((putInt (clip (rest.foldl joinI n))).length : Int) = ((pre ++ rest).length : Int) then (rest.foldl joinI n, true) else (0, false)) := by
  induction rest with
  | nil =>
    intro pre n _
    refine Ev.succ ?_
    simp only [spec_GetInt.l0]
    simp only [List.append_nil, if_neg (show ¬ (pre.length : Int) < (pre.length : Int) by omega), List.foldl_nil]
    refine Ev.bind (sPutInt_ev n) ?_
    split <;> exact Ev.now _
  | cons r rest ih =>
    intro pre n hn
    simp only [List.length_cons] at hn
    have h := ih (pre ++ [r]) (joinI n r) (by simp only [List.length_append, List.length_cons, List.length_nil]; omega)
    simp only [List.append_assoc, List.cons_append, List.nil_append] at h
    refine Ev.succ ?_
    simp only [spec_GetInt.l0]
    simp only [if_pos (show (pre.length : Int) < ((pre ++ r :: rest).length : Int) by simp only [List.length_append, List.length_cons]; omega), if_pos (show (0 : Int) ≤ (pre.length : Int) by omega), rd_mid, w64 (x := (pre.length : Int) + 1) (by omega) (by omega), List.foldl_cons]
    rw [show ((pre ++ [r]).length : Int) = (pre.length : Int) + 1 by simp] at h
    exact h
theorem iIl (all : List Int) (rest : List Int) : ∀ (pre : List Int) (n m : Int), m = (pre.length : Int) + rest.length → pre.length + rest.length ≤ 1099511627776 →
    Ev (fun k => impl_GetInt.l0 k all n (pre ++ rest) m (pre.length : Int)) (if ((putInt (clip (rest.foldl joinI n))).length : Int) = (all.length : Int) then (rest.foldl joinI n, true) else (0, false)) := by
  induction rest with
  | nil =>
    intro pre n m hm _
    simp only [List.length_nil] at hm
    show Ev _ (if ((putInt (clip n)).length : Int) = (all.length : Int) then (n, true) else (0, false))
    refine Ev.succ ?_
    simp only [impl_GetInt.l0]
    simp only [if_neg (show ¬ (pre.length : Int) < m by omega)]
    refine Ev.bind (iPutInt_ev n) ?_
    by_cases e : ((putInt (clip n)).length : Int) = (all.length : Int)
    · simp only [if_pos e]
      exact Ev.now _
    · simp only [if_neg e]
      exact Ev.now _
  | cons r rest ih =>
    intro pre n m hm hn
    simp only [List.length_cons] at hm hn
    have h := ih (pre ++ [r]) (joinI n r) m (by simp only [List.length_append, List.length_cons, List.length_nil]; omega) (by simp only [List.length_append, List.length_cons, List.length_nil]; omega)
    simp only [List.append_assoc, List.cons_append, List.nil_append] at h
    refine Ev.succ ?_
    simp only [impl_GetInt.l0]
    simp only [if_pos (show (pre.length : Int) < m by omega), if_pos (show (0 : Int) ≤ (pre.length : Int) by omega), if_pos (show (pre.length : Int) < ((pre ++ r :: rest).length : Int) by simp only [List.length_append, List.length_cons]; omega), rd_mid, w64 (x := (pre.length : Int) + 1) (by omega) (by omega), List.foldl_cons]
    rw [show ((pre ++ [r]).length : Int) = (pre.length : Int) + 1 by simp] at h
    exact h
theorem wrap8 {b : Int} (h0 : 0 ≤ b) (h1 : b ≤ 255) : IntKind.i8.wrap b = if b > 127 then b - 256 else b := by
  simp only [IntKind.wrap, IntKind.bits, IntKind.signed, Bool.true_and]
  split <;> split <;> simp_all <;> omega
theorem sGetInt_ev (l : List Int) (hb : ∀ y ∈ l, 0 ≤ y ∧ y ≤ 255) (h : l.length ≤ 1048576) : Ev (fun k => spec_GetInt.f k l) (getInt l) := by
  unfold spec_GetInt.f getInt
  simp only [l1In_eq, Option.bind_some, decide_eq_true_eq]
  by_cases c : 1 ≤ (l.length : Int) ∧ (l.length : Int) ≤ 4
  · simp only [if_pos c, if_pos (show 0 < (l.length : Int) by omega)]
    cases l with
    | nil => simp at c
    | cons b rest =>
      obtain ⟨h0, h1⟩ := hb b List.mem_cons_self
      have e1 : rd (b :: rest) 0 = b := rd_mid [] rest b
      simp only [List.length_cons] at h
      simp only [e1, w64 (x := b) (by omega) (by omega), w64 (x := b - 256) (by omega) (by omega), rawInt]
      by_cases d : b > 127
      · simp only [if_pos d]
        refine Ev.succ ?_
        simp only [spec_GetInt.j0]
        have e := sIl rest [b] (b - 256) (by simp only [List.length_cons, List.length_nil]; omega)
        simpa using e
      · simp only [if_neg d]
        refine Ev.succ ?_
        simp only [spec_GetInt.j0]
        have e := sIl rest [b] b (by simp only [List.length_cons, List.length_nil]; omega)
        simpa using e
  · simp only [if_neg c]
    exact Ev.now _
theorem iGetInt_ev (l : List Int) (hb : ∀ y ∈ l, 0 ≤ y ∧ y ≤ 255) (h : l.length ≤ 1048576) : Ev (fun k => impl_GetInt.f k l) (getInt l) := by
  unfold impl_GetInt.f getInt
  simp only [in_eq, Option.bind_some, decide_eq_true_eq]
  by_cases c : 1 ≤ (l.length : Int) ∧ (l.length : Int) ≤ 4
  · simp only [if_pos c, if_pos (show 0 < (l.length : Int) by omega), if_pos (show 1 ≤ (l.length : Int) by omega)]
    cases l with
    | nil => simp at c
    | cons b rest =>
      obtain ⟨h0, h1⟩ := hb b List.mem_cons_self
      have e1 : rd (b :: rest) 0 = b := rd_mid [] rest b
      simp only [List.length_cons] at h
      have hw : wrap64 (if b > 127 then b - 256 else b) = if b > 127 then b - 256 else b := by split <;> exact w64 (by omega) (by omega)
      simp only [e1, wrap8 h0 h1, hw, rawInt, List.drop_succ_cons, List.drop_zero]
      have e := iIl (b :: rest) rest [] (if b > 127 then b - 256 else b) (rest.length : Int) (by simp) (by simp only [List.length_nil]; omega)
      simpa using e
  · simp only [if_neg c]
    exact Ev.now _
theorem wraps_i64 (n : Int) (h0 : 0 ≤ n) (h1 : n < 2 ^ 63) : IntKind.i64.wrap n = n := by rw [IntKind.wrap_i64]; omega
theorem and127 (x : Int) (h0 : 0 ≤ x) (h1 : x < 9223372036854775808) : Go.bits .and .i64 x 127 = x % 128 :=
  Go.bits_mask .i64 63 (by decide) wraps_i64 7 (by decide) x h0 h1
theorem or128 (y : Int) (h0 : 0 ≤ y) (h1 : y < 128) : Go.bits .or .i64 y 128 = y + 128 := by
  obtain ⟨b, rfl⟩ := Int.eq_ofNat_of_zero_le h0
  have hb : b < 2 ^ 7 := by omega
  have e := (Go.bits_nat .i64 63 (by decide) wraps_i64 b 128 (by omega) (by decide)).2
  rw [show (128 : Int) = ((128 : Nat) : Int) from rfl, e, Nat.or_comm]
  have h := Nat.two_pow_add_eq_or_of_lt hb 1
  rw [show (2 : Nat) ^ 7 * 1 = 128 from rfl] at h
  rw [← h]
  omega
def group (n : Int) : List Int :=
  if n ≤ 127 then [n] else if n ≤ 16383 then [n / 128 + 128, n % 128] else [n / 16384 + 128, n / 128 % 128 + 128, n % 128]
theorem group_len (n : Int) : 1 ≤ (group n).length ∧ (group n).length ≤ 3 := by
  unfold group
  split
  · simp
  · split <;> simp
def putOid (o : List Int) : List Int := if oidOk o = true then o.flatMap group else []
theorem flat_len (o : List Int) : (o.flatMap group).length ≤ 3 * o.length := by
  induction o with
  | nil => simp
  | cons n o ih =>
    have := group_len n
    simp only [List.flatMap_cons, List.length_append, List.length_cons]
    omega
theorem oidNums_cons (n : Int) (o : List Int) (h : oidNums (n :: o) = true) : (0 ≤ n ∧ n ≤ 100000) ∧ oidNums o = true := by
  simp only [oidNums, List.all_cons, Bool.and_eq_true, decide_eq_true_eq] at h
  exact h
theorem shr7 (n : Int) : shr .i64 n 7 = n / 128 := rfl
theorem shr14 (n : Int) : shr .i64 n 14 = n / 16384 := rfl
theorem shrz (n : Int) : shr .i64 n 0 = n := by
  show n / 1 = n
  omega
theorem iGe (n : Int) (h0 : 0 ≤ n) (h1 : n ≤ 100000) (out xs : List Int) (m i : Int) (r : List Int) (ho : out.length ≤ 100000000) (h : Ev (fun k => impl_PutOid.l0 k (out ++ group n) xs m (wrap64 (i + 1))) r) :
    Ev (fun k => impl_PutOid.l1 k out n 0 xs m i) r := by
  have a0 : wrap64 (7 * 0) = 0 := by decide +kernel
  have a1 : wrap64 (7 * 1) = 7 := by decide +kernel
  have a2 : wrap64 (7 * 2) = 14 := by decide +kernel
  have b1 : wrap64 (0 + 1) = 1 := by decide +kernel
  have b2 : wrap64 (1 + 1) = 2 := by decide +kernel
  have d1 : wrap64 (1 - 1) = 0 := by decide +kernel
  have d2 : wrap64 (2 - 1) = 1 := by decide +kernel
  have z : (0 : Int) ≤ 0 := by decide
  have z7 : (0 : Int) ≤ 7 := by decide
  have z14 : (0 : Int) ≤ 14 := by decide
  unfold group at h
  refine Ev.succ ?_
  simp only [impl_PutOid.l1]
  simp only [a0, shrz, if_pos z, b1]
  by_cases c1 : n ≤ 127
  · simp only [if_neg (show ¬ n > 127 by omega)]
    simp only [if_pos c1] at h
    refine Ev.succ ?_
    simp only [impl_PutOid.l2]
    simp only [if_neg (show ¬ (0 : Int) > 0 by omega), if_pos (show out.length < 140737488355328 by omega), and127 n h0 (by omega), show n % 128 % 256 = n by omega]
    exact h
  · simp only [if_pos (show n > 127 by omega)]
    simp only [if_neg c1] at h
    refine Ev.succ ?_
    simp only [impl_PutOid.l1]
    simp only [a1, shr7, if_pos z7, b2]
    by_cases c2 : n ≤ 16383
    · simp only [if_neg (show ¬ n / 128 > 127 by omega)]
      simp only [if_pos c2] at h
      refine Ev.succ ?_
      simp only [impl_PutOid.l2]
      simp only [if_pos (show (1 : Int) > 0 by omega), a1, if_pos z7, shr7, if_pos (show out.length < 140737488355328 by omega), d1, and127 (n / 128) (by omega) (by omega)]
      rw [w64 (by omega) (by omega), show (n / 128 % 128 + 128) % 256 = n / 128 + 128 by omega]
      refine Ev.succ ?_
      simp only [impl_PutOid.l2]
      simp only [if_neg (show ¬ (0 : Int) > 0 by omega), List.length_append, List.length_cons, List.length_nil, if_pos (show out.length + (0 + 1) < 140737488355328 by omega), and127 n h0 (by omega), show n % 128 % 256 = n % 128 by omega, List.append_assoc, List.cons_append, List.nil_append]
      exact h
    · simp only [if_pos (show n / 128 > 127 by omega)]
      simp only [if_neg c2] at h
      refine Ev.succ ?_
      simp only [impl_PutOid.l1]
      simp only [a2, shr14, if_pos z14, if_neg (show ¬ n / 16384 > 127 by omega)]
      refine Ev.succ ?_
      simp only [impl_PutOid.l2]
      simp only [if_pos (show (2 : Int) > 0 by omega), a2, if_pos z14, shr14, if_pos (show out.length < 140737488355328 by omega), d2, and127 (n / 16384) (by omega) (by omega)]
      rw [w64 (by omega) (by omega), show (n / 16384 % 128 + 128) % 256 = n / 16384 + 128 by omega]
      refine Ev.succ ?_
      simp only [impl_PutOid.l2]
      simp only [if_pos (show (1 : Int) > 0 by omega), a1, if_pos z7, shr7, List.length_append, List.length_cons, List.length_nil, if_pos (show out.length + (0 + 1) < 140737488355328 by omega), d1, and127 (n / 128) (by omega) (by omega)]
      rw [w64 (by omega) (by omega), show (n / 128 % 128 + 128) % 256 = n / 128 % 128 + 128 by omega]
      refine Ev.succ ?_
      simp only [impl_PutOid.l2]
      simp only [if_neg (show ¬ (0 : Int) > 0 by omega), List.length_append, List.length_cons, List.length_nil, if_pos (show out.length + (0 + 1) + (0 + 1) < 140737488355328 by omega), and127 n h0 (by omega), show n % 128 % 256 = n % 128 by omega, List.append_assoc, List.cons_append, List.nil_append]
      exact h
theorem iPl (rest : List Int) : ∀ (pre out : List Int) (m : Int), m = (pre.length : Int) + rest.length → pre.length + rest.length ≤ 1048576 → out.length ≤ 3 * pre.length → oidNums rest = true →
    Ev (fun k => impl_PutOid.l0 k out (pre ++ rest) m (pre.length : Int)) (out ++ rest.flatMap group) := by
  induction rest with
  | nil =>
    intro pre out m hm _ _ _
    simp only [List.length_nil] at hm
    refine Ev.succ ?_
    simp only [impl_PutOid.l0]
    simp only [if_neg (show ¬ (pre.length : Int) < m by omega), List.flatMap_nil, List.append_nil]
    exact Ev.now _
  | cons r rest ih =>
    intro pre out m hm hn ho hw
    simp only [List.length_cons] at hm hn
    obtain ⟨hr, hw⟩ := oidNums_cons r rest hw
    have hg := group_len r
    have h := ih (pre ++ [r]) (out ++ group r) m (by simp only [List.length_append, List.length_cons, List.length_nil]; omega) (by simp only [List.length_append, List.length_cons, List.length_nil]; omega) (by simp only [List.length_append, List.length_cons, List.length_nil]; omega) hw
    simp only [List.append_assoc, List.cons_append, List.nil_append] at h
    rw [show ((pre ++ [r]).length : Int) = (pre.length : Int) + 1 by simp] at h
    refine Ev.succ ?_
    simp only [impl_PutOid.l0]
    simp only [if_pos (show (pre.length : Int) < m by omega), if_pos (show (0 : Int) ≤ (pre.length : Int) by omega), if_pos (show (pre.length : Int) < ((pre ++ r :: rest).length : Int) by simp only [List.length_append, List.length_cons]; omega), rd_mid]
    refine iGe r hr.1 hr.2 out _ m _ _ (by omega) ?_
    rw [w64 (by omega) (by omega), List.flatMap_cons]
    exact h
theorem iPutOid_ev (o : List Int) (h : o.length ≤ 1048576) : Ev (fun k => impl_PutOid.f k o) (putOid o) := by
  unfold impl_PutOid.f putOid
  refine Ev.bind (iOidOk_ev o (by omega)) ?_
  by_cases c : oidOk o = true
  · simp only [if_pos c]
    have c' := c
    simp only [oidOk, Bool.and_eq_true] at c'
    have e := iPl o [] [] (o.length : Int) (by simp) (by simp only [List.length_nil]; omega) (by simp) c'.1
    simpa using e
  · simp only [if_neg c]
    exact Ev.now _
theorem sNt (a : List Int) : (strOfNums a).toList = a.map fun n => UInt8.ofNat n.toNat := by
  unfold strOfNums
  exact ByteArray.toList_mk _
theorem byte_inj (a b : Int) (ha : 0 ≤ a ∧ a ≤ 255) (hb : 0 ≤ b ∧ b ≤ 255) (h : UInt8.ofNat a.toNat = UInt8.ofNat b.toNat) : a = b := by
  have e := congrArg UInt8.toNat h
  simp only [UInt8.toNat_ofNat'] at e
  omega
theorem mbi : ∀ (a b : List Int), (∀ y ∈ a, 0 ≤ y ∧ y ≤ 255) → (∀ y ∈ b, 0 ≤ y ∧ y ≤ 255) → (a.map fun n => UInt8.ofNat n.toNat) = (b.map fun n => UInt8.ofNat n.toNat) → a = b
  | [], [], _, _, _ => rfl
  | [], _ :: _, _, _, h => by simp at h
  | _ :: _, [], _, _, h => by simp at h
  | x :: a, y :: b, ha, hb, h => by
    simp only [List.map_cons, List.cons.injEq] at h
    rw [byte_inj x y (ha x List.mem_cons_self) (hb y List.mem_cons_self) h.1, mbi a b (fun z hz => ha z (List.mem_cons_of_mem _ hz)) (fun z hz => hb z (List.mem_cons_of_mem _ hz)) h.2]
theorem strNums_inj (a b : List Int) (ha : ∀ y ∈ a, 0 ≤ y ∧ y ≤ 255) (hb : ∀ y ∈ b, 0 ≤ y ∧ y ≤ 255) (h : (strOfNums a).toList = (strOfNums b).toList) : a = b := by
  rw [sNt, sNt] at h
  exact mbi a b ha hb h
theorem wraps_u8 (n : Int) (h0 : 0 ≤ n) (h1 : n < 2 ^ 8) : IntKind.u8.wrap n = n := by
  simp only [IntKind.wrap, IntKind.bits, IntKind.signed, Bool.false_and]
  simp
  omega
theorem and127b (x : Int) (h0 : 0 ≤ x) (h1 : x ≤ 255) : Go.bits .and .u8 x 127 = x % 128 :=
  Go.bits_mask .u8 8 (by decide) wraps_u8 7 (by decide) x h0 (by omega)
theorem join7 (n b : Int) (h0 : 0 ≤ n) (h1 : n < 4398046511104) (hb : 0 ≤ b) (hb1 : b < 128) : Go.bits .or .i64 (n * 128) b = n * 128 + b :=
  Go.bits_join .i64 63 (by decide) wraps_i64 7 (n * 128) b (by omega) (by omega) (by omega) hb (by omega) (by omega)
def bytes (l : List Int) : Prop := ∀ y ∈ l, 0 ≤ y ∧ y ≤ 255
theorem bcs {b : Int} {l : List Int} (h : bytes (b :: l)) : (0 ≤ b ∧ b ≤ 255) ∧ bytes l :=
  ⟨h b List.mem_cons_self, fun y hy => h y (List.mem_cons_of_mem _ hy)⟩
def group4 (n : Int) : List Int :=
  if n ≤ 127 then [n] else if n ≤ 16383 then [n / 128 + 128, n % 128] else if n ≤ 2097151 then [n / 16384 + 128, n / 128 % 128 + 128, n % 128] else [n / 2097152 + 128, n / 16384 % 128 + 128, n / 128 % 128 + 128, n % 128]
theorem g4s (n : Int) (h : n ≤ 100000) : group4 n = group n := by
  unfold group4 group
  by_cases c1 : n ≤ 127
  · simp only [if_pos c1]
  · simp only [if_neg c1]
    by_cases c2 : n ≤ 16383
    · simp only [if_pos c2]
    · simp only [if_neg c2, if_pos (show n ≤ 2097151 by omega)]
theorem g4e (n : Int) (h0 : 0 ≤ n) (h1 : n < 268435456) : Ev (fun k => spec_l2Group.f k n) (group4 n) := by
  unfold spec_l2Group.f
  simp only [and127 n h0 (by omega), show n % 128 % 256 = n % 128 by omega]
  refine Ev.succ ?_
  simp only [spec_l2Group.l0]
  unfold group4
  by_cases c1 : n ≤ 127
  · simp only [if_neg (show ¬ n > 127 by omega), if_pos c1, show n % 128 = n by omega]
    exact Ev.now _
  · simp only [if_pos (show n > 127 by omega), if_neg c1, Option.bind_some, List.length_cons, List.length_nil, and127 (n / 128) (by omega) (by omega), or128 (n / 128 % 128) (by omega) (by omega), show (n / 128 % 128 + 128) % 256 = n / 128 % 128 + 128 by omega]
    simp only [if_pos (show 0 + 1 + (0 + 1) < 140737488355328 by omega)]
    refine Ev.succ ?_
    simp only [spec_l2Group.l0]
    by_cases c2 : n ≤ 16383
    · simp only [if_neg (show ¬ n / 128 > 127 by omega), if_pos c2, show n / 128 % 128 = n / 128 by omega]
      exact Ev.now _
    · simp only [if_pos (show n / 128 > 127 by omega), if_neg c2, Option.bind_some, List.length_cons, List.length_nil, List.length_append, show n / 128 / 128 = n / 16384 by omega, and127 (n / 16384) (by omega) (by omega), or128 (n / 16384 % 128) (by omega) (by omega), show (n / 16384 % 128 + 128) % 256 = n / 16384 % 128 + 128 by omega]
      simp only [if_pos (show 0 + 1 + (0 + 1 + (0 + 1)) < 140737488355328 by omega)]
      refine Ev.succ ?_
      simp only [spec_l2Group.l0]
      by_cases c3 : n ≤ 2097151
      · simp only [if_neg (show ¬ n / 16384 > 127 by omega), if_pos c3, show n / 16384 % 128 = n / 16384 by omega]
        exact Ev.now _
      · simp only [if_pos (show n / 16384 > 127 by omega), if_neg c3, Option.bind_some, List.length_cons, List.length_nil, List.length_append, show n / 16384 / 128 = n / 2097152 by omega, and127 (n / 2097152) (by omega) (by omega), or128 (n / 2097152 % 128) (by omega) (by omega), show (n / 2097152 % 128 + 128) % 256 = n / 2097152 + 128 by omega]
        simp only [if_pos (show 0 + 1 + (0 + 1 + (0 + 1 + (0 + 1))) < 140737488355328 by omega)]
        refine Ev.succ ?_
        simp only [spec_l2Group.l0]
        simp only [if_neg (show ¬ n / 2097152 > 127 by omega)]
        exact Ev.now _
theorem g4_len (n : Int) : 1 ≤ (group4 n).length := by
  unfold group4
  split
  · simp
  · split
    · simp
    · split <;> simp
theorem so_go (pre rest x4 : List Int) (b n c : Int) (r : List Int × Bool) (hp : pre.length + rest.length ≤ 1048576) (hb : 0 ≤ b ∧ b ≤ 255) (hn : 0 ≤ n ∧ n < 2097152) (hc : 0 ≤ c ∧ c < 4)
    (h : Ev (fun k => spec_GetOid.l1 k ((pre ++ [b]) ++ rest) x4 ((pre ++ [b]).length : Int) (n * 128 + b % 128) (c + 1) (decide (b > 127))) r) :
    Ev (fun k => spec_GetOid.l1 k (pre ++ b :: rest) x4 (pre.length : Int) n c true) r := by
  refine Ev.succ ?_
  simp only [spec_GetOid.l1]
  simp only [if_true, if_pos (show (pre.length : Int) < ((pre ++ b :: rest).length : Int) by simp only [List.length_append, List.length_cons]; omega), if_pos hc.2, if_pos (show (0 : Int) ≤ (pre.length : Int) by omega), rd_mid, and127b b hb.1 hb.2, w64 (x := b % 128) (by omega) (by omega), w64 (x := n * 128) (by omega) (by omega), join7 n (b % 128) hn.1 (by omega) (by omega) (by omega), w64 (x := (pre.length : Int) + 1) (by omega) (by omega), w64 (x := c + 1) (by omega) (by omega)]
  simp only [List.append_assoc, List.cons_append, List.nil_append] at h
  rw [show ((pre ++ [b]).length : Int) = (pre.length : Int) + 1 by simp] at h
  exact h
theorem so_end (pre x4 : List Int) (n c : Int) : Ev (fun k => spec_GetOid.l1 k (pre ++ []) x4 (pre.length : Int) n c true) ([], false) := by
  refine Ev.succ ?_
  simp only [spec_GetOid.l1]
  simp only [if_true, List.append_nil, if_neg (show ¬ (pre.length : Int) < (pre.length : Int) by omega)]
  exact Ev.now _
theorem so_full (l x4 : List Int) (p n : Int) : Ev (fun k => spec_GetOid.l1 k l x4 p n 4 true) ([], false) := by
  refine Ev.succ ?_
  simp only [spec_GetOid.l1]
  simp only [if_true, if_neg (show ¬ (4 : Int) < 4 by omega), ite_self]
  exact Ev.now _
theorem so_out (l x4 : List Int) (p n c : Int) (r : List Int × Bool) (hn : 0 ≤ n ∧ n < 268435456) (h4 : x4.length ≤ 1048576) (hc : ((group4 n).length : Int) = c) (h : Ev (fun k => spec_GetOid.l0 k l (x4 ++ [n]) p) r) :
    Ev (fun k => spec_GetOid.l1 k l x4 p n c false) r := by
  refine Ev.succ ?_
  simp only [spec_GetOid.l1]
  simp only [Bool.false_eq_true, if_false]
  refine Ev.bind (g4e n hn.1 hn.2) ?_
  simp only [if_pos hc, if_pos (show x4.length < 17592186044416 by omega)]
  exact h
theorem so_bad (l x4 : List Int) (p n c : Int) (hn : 0 ≤ n ∧ n < 268435456) (hc : ¬ ((group4 n).length : Int) = c) :
    Ev (fun k => spec_GetOid.l1 k l x4 p n c false) ([], false) := by
  refine Ev.succ ?_
  simp only [spec_GetOid.l1]
  simp only [Bool.false_eq_true, if_false]
  refine Ev.bind (g4e n hn.1 hn.2) ?_
  simp only [if_neg hc]
  exact Ev.now _
theorem g4_1 (n : Int) (h : n ≤ 127) : group4 n = [n] := by unfold group4; rw [if_pos h]
theorem g4_2 (n : Int) (h0 : 127 < n) (h : n ≤ 16383) : group4 n = [n / 128 + 128, n % 128] := by unfold group4; rw [if_neg (by omega), if_pos h]
theorem g4_3 (n : Int) (h0 : 16383 < n) (h : n ≤ 2097151) : group4 n = [n / 16384 + 128, n / 128 % 128 + 128, n % 128] := by unfold group4; rw [if_neg (by omega), if_neg (by omega), if_pos h]
theorem g4_4 (n : Int) (h0 : 2097151 < n) : group4 n = [n / 2097152 + 128, n / 16384 % 128 + 128, n / 128 % 128 + 128, n % 128] := by unfold group4; rw [if_neg (by omega), if_neg (by omega), if_neg (by omega)]
/- one arc out of what is left: either the bytes are an arc's shortest form and the loop goes on behind them, or the answer is no -/
theorem so_any (rest pre x4 : List Int) (hw : bytes rest) (hl : pre.length + rest.length ≤ 1048576) (h4 : x4.length ≤ 1048576) :
    (∃ n rest', 0 ≤ n ∧ n < 268435456 ∧ rest = group4 n ++ rest' ∧ ∀ r, Ev (fun k => spec_GetOid.l0 k ((pre ++ group4 n) ++ rest') (x4 ++ [n]) ((pre ++ group4 n).length : Int)) r → Ev (fun k => spec_GetOid.l1 k (pre ++ rest) x4 (pre.length : Int) 0 0 true) r) ∨
    Ev (fun k => spec_GetOid.l1 k (pre ++ rest) x4 (pre.length : Int) 0 0 true) ([], false) := by
  rcases rest with _ | ⟨b1, rest⟩
  · exact Or.inr (so_end pre x4 0 0)
  obtain ⟨hb1, hw⟩ := bcs hw
  simp only [List.length_cons] at hl
  by_cases c1 : b1 > 127
  rotate_left
  · left
    refine ⟨b1, rest, hb1.1, by omega, by rw [g4_1 b1 (by omega)]; rfl, fun r h => ?_⟩
    refine so_go pre rest x4 b1 0 0 r (by omega) hb1 (by omega) (by omega) ?_
    rw [decide_eq_false c1, show (0 : Int) * 128 + b1 % 128 = b1 by omega, show (0 : Int) + 1 = 1 by omega]
    rw [g4_1 b1 (by omega)] at h
    exact so_out _ x4 _ b1 1 r (by omega) h4 (by rw [g4_1 b1 (by omega)]; rfl) h
  rcases rest with _ | ⟨b2, rest⟩
  · right
    refine so_go pre [] x4 b1 0 0 _ (by simp only [List.length_nil]; omega) hb1 (by omega) (by omega) ?_
    rw [decide_eq_true c1]
    exact so_end _ x4 _ _
  obtain ⟨hb2, hw⟩ := bcs hw
  simp only [List.length_cons] at hl
  have p1 : (pre ++ [b1]).length = pre.length + 1 := by simp
  by_cases c2 : b2 > 127
  rotate_left
  · by_cases d : (b1 - 128) * 128 + b2 > 127
    · left
      have g := g4_2 ((b1 - 128) * 128 + b2) (by omega) (by omega)
      rw [show ((b1 - 128) * 128 + b2) / 128 + 128 = b1 by omega, show ((b1 - 128) * 128 + b2) % 128 = b2 by omega] at g
      refine ⟨(b1 - 128) * 128 + b2, rest, by omega, by omega, by rw [g]; rfl, fun r h => ?_⟩
      refine so_go pre (b2 :: rest) x4 b1 0 0 r (by simp only [List.length_cons]; omega) hb1 (by omega) (by omega) ?_
      rw [decide_eq_true c1]
      refine so_go (pre ++ [b1]) rest x4 b2 _ _ r (by omega) hb2 (by omega) (by omega) ?_
      rw [decide_eq_false c2, show ((0 : Int) * 128 + b1 % 128) * 128 + b2 % 128 = (b1 - 128) * 128 + b2 by omega, show (0 : Int) + 1 + 1 = 2 by omega]
      rw [g, show pre ++ [b1, b2] = pre ++ [b1] ++ [b2] by simp] at h
      exact so_out _ x4 _ _ 2 r (by omega) h4 (by rw [g]; rfl) h
    · right
      refine so_go pre (b2 :: rest) x4 b1 0 0 _ (by simp only [List.length_cons]; omega) hb1 (by omega) (by omega) ?_
      rw [decide_eq_true c1]
      refine so_go (pre ++ [b1]) rest x4 b2 _ _ _ (by omega) hb2 (by omega) (by omega) ?_
      rw [decide_eq_false c2]
      refine so_bad _ x4 _ _ _ (by omega) ?_
      rw [g4_1 _ (by omega)]
      simp
  rcases rest with _ | ⟨b3, rest⟩
  · right
    refine so_go pre [b2] x4 b1 0 0 _ (by simp only [List.length_cons, List.length_nil]; omega) hb1 (by omega) (by omega) ?_
    rw [decide_eq_true c1]
    refine so_go (pre ++ [b1]) [] x4 b2 _ _ _ (by simp only [List.length_nil]; omega) hb2 (by omega) (by omega) ?_
    rw [decide_eq_true c2]
    exact so_end _ x4 _ _
  obtain ⟨hb3, hw⟩ := bcs hw
  simp only [List.length_cons] at hl
  have p2 : (pre ++ [b1] ++ [b2]).length = pre.length + 2 := by simp
  by_cases c3 : b3 > 127
  rotate_left
  · by_cases d : ((b1 - 128) * 128 + (b2 - 128)) * 128 + b3 > 16383
    · left
      have g := g4_3 (((b1 - 128) * 128 + (b2 - 128)) * 128 + b3) (by omega) (by omega)
      rw [show (((b1 - 128) * 128 + (b2 - 128)) * 128 + b3) / 16384 + 128 = b1 by omega, show (((b1 - 128) * 128 + (b2 - 128)) * 128 + b3) / 128 % 128 + 128 = b2 by omega, show (((b1 - 128) * 128 + (b2 - 128)) * 128 + b3) % 128 = b3 by omega] at g
      refine ⟨((b1 - 128) * 128 + (b2 - 128)) * 128 + b3, rest, by omega, by omega, by rw [g]; rfl, fun r h => ?_⟩
      refine so_go pre (b2 :: b3 :: rest) x4 b1 0 0 r (by simp only [List.length_cons]; omega) hb1 (by omega) (by omega) ?_
      rw [decide_eq_true c1]
      refine so_go (pre ++ [b1]) (b3 :: rest) x4 b2 _ _ r (by simp only [List.length_cons]; omega) hb2 (by omega) (by omega) ?_
      rw [decide_eq_true c2]
      refine so_go (pre ++ [b1] ++ [b2]) rest x4 b3 _ _ r (by omega) hb3 (by omega) (by omega) ?_
      rw [decide_eq_false c3, show (((0 : Int) * 128 + b1 % 128) * 128 + b2 % 128) * 128 + b3 % 128 = ((b1 - 128) * 128 + (b2 - 128)) * 128 + b3 by omega, show (0 : Int) + 1 + 1 + 1 = 3 by omega]
      rw [g, show pre ++ [b1, b2, b3] = pre ++ [b1] ++ [b2] ++ [b3] by simp] at h
      exact so_out _ x4 _ _ 3 r (by omega) h4 (by rw [g]; rfl) h
    · right
      refine so_go pre (b2 :: b3 :: rest) x4 b1 0 0 _ (by simp only [List.length_cons]; omega) hb1 (by omega) (by omega) ?_
      rw [decide_eq_true c1]
      refine so_go (pre ++ [b1]) (b3 :: rest) x4 b2 _ _ _ (by simp only [List.length_cons]; omega) hb2 (by omega) (by omega) ?_
      rw [decide_eq_true c2]
      refine so_go (pre ++ [b1] ++ [b2]) rest x4 b3 _ _ _ (by omega) hb3 (by omega) (by omega) ?_
      rw [decide_eq_false c3]
      refine so_bad _ x4 _ _ _ (by omega) ?_
      by_cases e : (((0 : Int) * 128 + b1 % 128) * 128 + b2 % 128) * 128 + b3 % 128 ≤ 127
      · rw [g4_1 _ e]; simp
      · rw [g4_2 _ (by omega) (by omega)]; simp
  rcases rest with _ | ⟨b4, rest⟩
  · right
    refine so_go pre [b2, b3] x4 b1 0 0 _ (by simp only [List.length_cons, List.length_nil]; omega) hb1 (by omega) (by omega) ?_
    rw [decide_eq_true c1]
    refine so_go (pre ++ [b1]) [b3] x4 b2 _ _ _ (by simp only [List.length_cons, List.length_nil]; omega) hb2 (by omega) (by omega) ?_
    rw [decide_eq_true c2]
    refine so_go (pre ++ [b1] ++ [b2]) [] x4 b3 _ _ _ (by simp only [List.length_nil]; omega) hb3 (by omega) (by omega) ?_
    rw [decide_eq_true c3]
    exact so_end _ x4 _ _
  obtain ⟨hb4, hw⟩ := bcs hw
  simp only [List.length_cons] at hl
  have p3 : (pre ++ [b1] ++ [b2] ++ [b3]).length = pre.length + 3 := by simp
  by_cases c4 : b4 > 127
  rotate_left
  · by_cases d : (((b1 - 128) * 128 + (b2 - 128)) * 128 + (b3 - 128)) * 128 + b4 > 2097151
    · left
      have g := g4_4 ((((b1 - 128) * 128 + (b2 - 128)) * 128 + (b3 - 128)) * 128 + b4) (by omega)
      rw [show ((((b1 - 128) * 128 + (b2 - 128)) * 128 + (b3 - 128)) * 128 + b4) / 2097152 + 128 = b1 by omega, show ((((b1 - 128) * 128 + (b2 - 128)) * 128 + (b3 - 128)) * 128 + b4) / 16384 % 128 + 128 = b2 by omega, show ((((b1 - 128) * 128 + (b2 - 128)) * 128 + (b3 - 128)) * 128 + b4) / 128 % 128 + 128 = b3 by omega, show ((((b1 - 128) * 128 + (b2 - 128)) * 128 + (b3 - 128)) * 128 + b4) % 128 = b4 by omega] at g
      refine ⟨(((b1 - 128) * 128 + (b2 - 128)) * 128 + (b3 - 128)) * 128 + b4, rest, by omega, by omega, by rw [g]; rfl, fun r h => ?_⟩
      refine so_go pre (b2 :: b3 :: b4 :: rest) x4 b1 0 0 r (by simp only [List.length_cons]; omega) hb1 (by omega) (by omega) ?_
      rw [decide_eq_true c1]
      refine so_go (pre ++ [b1]) (b3 :: b4 :: rest) x4 b2 _ _ r (by simp only [List.length_cons]; omega) hb2 (by omega) (by omega) ?_
      rw [decide_eq_true c2]
      refine so_go (pre ++ [b1] ++ [b2]) (b4 :: rest) x4 b3 _ _ r (by simp only [List.length_cons]; omega) hb3 (by omega) (by omega) ?_
      rw [decide_eq_true c3]
      refine so_go (pre ++ [b1] ++ [b2] ++ [b3]) rest x4 b4 _ _ r (by omega) hb4 (by omega) (by omega) ?_
      rw [decide_eq_false c4, show ((((0 : Int) * 128 + b1 % 128) * 128 + b2 % 128) * 128 + b3 % 128) * 128 + b4 % 128 = (((b1 - 128) * 128 + (b2 - 128)) * 128 + (b3 - 128)) * 128 + b4 by omega, show (0 : Int) + 1 + 1 + 1 + 1 = 4 by omega]
      rw [g, show pre ++ [b1, b2, b3, b4] = pre ++ [b1] ++ [b2] ++ [b3] ++ [b4] by simp] at h
      exact so_out _ x4 _ _ 4 r (by omega) h4 (by rw [g]; rfl) h
    · right
      refine so_go pre (b2 :: b3 :: b4 :: rest) x4 b1 0 0 _ (by simp only [List.length_cons]; omega) hb1 (by omega) (by omega) ?_
      rw [decide_eq_true c1]
      refine so_go (pre ++ [b1]) (b3 :: b4 :: rest) x4 b2 _ _ _ (by simp only [List.length_cons]; omega) hb2 (by omega) (by omega) ?_
      rw [decide_eq_true c2]
      refine so_go (pre ++ [b1] ++ [b2]) (b4 :: rest) x4 b3 _ _ _ (by simp only [List.length_cons]; omega) hb3 (by omega) (by omega) ?_
      rw [decide_eq_true c3]
      refine so_go (pre ++ [b1] ++ [b2] ++ [b3]) rest x4 b4 _ _ _ (by omega) hb4 (by omega) (by omega) ?_
      rw [decide_eq_false c4]
      refine so_bad _ x4 _ _ _ (by omega) ?_
      by_cases e : ((((0 : Int) * 128 + b1 % 128) * 128 + b2 % 128) * 128 + b3 % 128) * 128 + b4 % 128 ≤ 127
      · rw [g4_1 _ e]; simp
      · by_cases e2 : ((((0 : Int) * 128 + b1 % 128) * 128 + b2 % 128) * 128 + b3 % 128) * 128 + b4 % 128 ≤ 16383
        · rw [g4_2 _ (by omega) e2]; simp
        · rw [g4_3 _ (by omega) (by omega)]; simp
  · right
    refine so_go pre (b2 :: b3 :: b4 :: rest) x4 b1 0 0 _ (by simp only [List.length_cons]; omega) hb1 (by omega) (by omega) ?_
    rw [decide_eq_true c1]
    refine so_go (pre ++ [b1]) (b3 :: b4 :: rest) x4 b2 _ _ _ (by simp only [List.length_cons]; omega) hb2 (by omega) (by omega) ?_
    rw [decide_eq_true c2]
    refine so_go (pre ++ [b1] ++ [b2]) (b4 :: rest) x4 b3 _ _ _ (by simp only [List.length_cons]; omega) hb3 (by omega) (by omega) ?_
    rw [decide_eq_true c3]
    refine so_go (pre ++ [b1] ++ [b2] ++ [b3]) rest x4 b4 _ _ _ (by omega) hb4 (by omega) (by omega) ?_
    rw [decide_eq_true c4, show (0 : Int) + 1 + 1 + 1 + 1 = 4 by omega]
    exact so_full _ x4 _ _
theorem so_fwd (n : Int) (hn : 0 ≤ n ∧ n ≤ 100000) (pre rest x4 : List Int) (r : List Int × Bool) (hl : pre.length + 3 + rest.length ≤ 1048576) (h4 : x4.length ≤ 1048576)
    (h : Ev (fun k => spec_GetOid.l0 k ((pre ++ group n) ++ rest) (x4 ++ [n]) ((pre ++ group n).length : Int)) r) :
    Ev (fun k => spec_GetOid.l1 k (pre ++ (group n ++ rest)) x4 (pre.length : Int) 0 0 true) r := by
  have p1 (b : Int) : (pre ++ [b]).length = pre.length + 1 := by simp
  have p2 (b c : Int) : (pre ++ [b] ++ [c]).length = pre.length + 2 := by simp
  rw [← g4s n hn.2] at h ⊢
  by_cases c1 : n ≤ 127
  · rw [g4_1 n c1] at h ⊢
    refine so_go pre rest x4 n 0 0 r (by omega) (by omega) (by omega) (by omega) ?_
    rw [decide_eq_false (show ¬ n > 127 by omega), show (0 : Int) * 128 + n % 128 = n by omega, show (0 : Int) + 1 = 1 by omega]
    exact so_out _ x4 _ n 1 r (by omega) h4 (by rw [g4_1 n c1]; rfl) h
  · by_cases c2 : n ≤ 16383
    · have g := g4_2 n (by omega) c2
      rw [g] at h ⊢
      refine so_go pre (n % 128 :: rest) x4 (n / 128 + 128) 0 0 r (by simp only [List.length_cons]; omega) (by omega) (by omega) (by omega) ?_
      rw [decide_eq_true (show n / 128 + 128 > 127 by omega)]
      refine so_go (pre ++ [n / 128 + 128]) rest x4 (n % 128) _ _ r (by rw [p1]; omega) (by omega) (by omega) (by omega) ?_
      rw [decide_eq_false (show ¬ n % 128 > 127 by omega), show ((0 : Int) * 128 + (n / 128 + 128) % 128) * 128 + n % 128 % 128 = n by omega, show (0 : Int) + 1 + 1 = 2 by omega]
      rw [show pre ++ [n / 128 + 128, n % 128] = pre ++ [n / 128 + 128] ++ [n % 128] by simp] at h
      exact so_out _ x4 _ n 2 r (by omega) h4 (by rw [g]; rfl) h
    · have g := g4_3 n (by omega) (by omega)
      rw [g] at h ⊢
      refine so_go pre ((n / 128 % 128 + 128) :: n % 128 :: rest) x4 (n / 16384 + 128) 0 0 r (by simp only [List.length_cons]; omega) (by omega) (by omega) (by omega) ?_
      rw [decide_eq_true (show n / 16384 + 128 > 127 by omega)]
      refine so_go (pre ++ [n / 16384 + 128]) (n % 128 :: rest) x4 (n / 128 % 128 + 128) _ _ r (by rw [p1]; simp only [List.length_cons]; omega) (by omega) (by omega) (by omega) ?_
      rw [decide_eq_true (show n / 128 % 128 + 128 > 127 by omega)]
      refine so_go (pre ++ [n / 16384 + 128] ++ [n / 128 % 128 + 128]) rest x4 (n % 128) _ _ r (by rw [p2]; omega) (by omega) (by omega) (by omega) ?_
      rw [decide_eq_false (show ¬ n % 128 > 127 by omega), show (((0 : Int) * 128 + (n / 16384 + 128) % 128) * 128 + (n / 128 % 128 + 128) % 128) * 128 + n % 128 % 128 = n by omega, show (0 : Int) + 1 + 1 + 1 = 3 by omega]
      rw [show pre ++ [n / 16384 + 128, n / 128 % 128 + 128, n % 128] = pre ++ [n / 16384 + 128] ++ [n / 128 % 128 + 128] ++ [n % 128] by simp] at h
      exact so_out _ x4 _ n 3 r (by omega) h4 (by rw [g]; rfl) h
theorem so_stop (l x4 : List Int) (hl : l.length ≤ 1048576) (h4 : x4.length ≤ 1048576) : Ev (fun k => spec_GetOid.l0 k l x4 (l.length : Int)) (if oidOk x4 = true then (x4, true) else ([], false)) := by
  refine Ev.succ ?_
  simp only [spec_GetOid.l0]
  simp only [if_neg (show ¬ (l.length : Int) < (l.length : Int) by omega)]
  refine Ev.succ ?_
  simp only [spec_GetOid.j1]
  simp only [Bool.false_eq_true, if_false, if_true]
  refine Ev.bind (sOidOk_ev x4 (by omega)) ?_
  split <;> exact Ev.now _
theorem so_goOn (pre rest x4 : List Int) (r : List Int × Bool) (hr : rest ≠ []) (h4 : x4.length ≤ 10) (h : Ev (fun k => spec_GetOid.l1 k (pre ++ rest) x4 (pre.length : Int) 0 0 true) r) :
    Ev (fun k => spec_GetOid.l0 k (pre ++ rest) x4 (pre.length : Int)) r := by
  have hp : 0 < rest.length := by cases rest with | nil => exact absurd rfl hr | cons _ _ => simp
  refine Ev.succ ?_
  simp only [spec_GetOid.l0]
  simp only [if_pos (show (pre.length : Int) < ((pre ++ rest).length : Int) by simp only [List.length_append]; omega)]
  rw [decide_eq_true (show (x4.length : Int) ≤ 10 by omega)]
  refine Ev.succ ?_
  simp only [spec_GetOid.j1]
  simp only [if_true]
  exact h
theorem so_tooMany (pre rest x4 : List Int) (hr : rest ≠ []) (h4 : ¬ x4.length ≤ 10) : Ev (fun k => spec_GetOid.l0 k (pre ++ rest) x4 (pre.length : Int)) ([], false) := by
  have hp : 0 < rest.length := by cases rest with | nil => exact absurd rfl hr | cons _ _ => simp
  refine Ev.succ ?_
  simp only [spec_GetOid.l0]
  simp only [if_pos (show (pre.length : Int) < ((pre ++ rest).length : Int) by simp only [List.length_append]; omega)]
  rw [decide_eq_false (show ¬ (x4.length : Int) ≤ 10 by omega)]
  refine Ev.succ ?_
  simp only [spec_GetOid.j1]
  simp only [Bool.false_eq_true, if_false, if_neg (show ¬ (pre.length : Int) = ((pre ++ rest).length : Int) by simp only [List.length_append]; omega)]
  exact Ev.now _
theorem group_ne (n : Int) (l : List Int) : group n ++ l ≠ [] := by
  have := group_len n
  intro h
  have := congrArg List.length h
  simp only [List.length_append, List.length_nil] at this
  omega
theorem sGy (o : List Int) : ∀ (pre x4 : List Int), oidOk (x4 ++ o) = true → pre.length + 3 * o.length ≤ 1000 →
    Ev (fun k => spec_GetOid.l0 k (pre ++ o.flatMap group) x4 (pre.length : Int)) (x4 ++ o, true) := by
  induction o with
  | nil =>
    intro pre x4 h hl
    have e := so_stop pre x4 (by omega) (by simp only [oidOk, Bool.and_eq_true, decide_eq_true_eq, List.append_nil] at h; omega)
    rw [List.append_nil] at h
    rw [if_pos h] at e
    simpa using e
  | cons n o ih =>
    intro pre x4 h hl
    simp only [List.length_cons] at hl
    have hg := group_len n
    have hf := flat_len o
    have h' := h
    simp only [oidOk, Bool.and_eq_true, decide_eq_true_eq, List.length_append, List.length_cons] at h'
    have hn : 0 ≤ n ∧ n ≤ 100000 := by
      have := h'.1
      simp only [oidNums, List.all_append, List.all_cons, Bool.and_eq_true, decide_eq_true_eq] at this
      exact this.2.1
    simp only [List.flatMap_cons]
    refine so_goOn pre _ x4 _ (group_ne n _) (by omega) ?_
    refine so_fwd n hn pre _ x4 _ (by omega) (by omega) ?_
    have e := ih (pre ++ group n) (x4 ++ [n]) (by simpa using h) (by simp only [List.length_append]; omega)
    simpa using e
theorem flat4 (o : List Int) (h : oidNums o = true) : o.flatMap group4 = o.flatMap group := by
  induction o with
  | nil => rfl
  | cons n o ih =>
    obtain ⟨hn, ho⟩ := oidNums_cons n o h
    simp only [List.flatMap_cons, g4s n hn.2, ih ho]
theorem sGn (m : Nat) : ∀ (rest x4 : List Int), rest.length ≤ m → bytes rest → (x4.flatMap group4).length + rest.length ≤ 1048576 → (∀ o, oidOk o = true → o.flatMap group ≠ x4.flatMap group4 ++ rest) →
    Ev (fun k => spec_GetOid.l0 k (x4.flatMap group4 ++ rest) x4 ((x4.flatMap group4).length : Int)) ([], false) := by
  induction m with
  | zero =>
    intro rest x4 hm _ hl hno
    have : rest = [] := List.eq_nil_of_length_eq_zero (by omega)
    subst this
    have h4 : x4.length ≤ (x4.flatMap group4).length := by
      clear hno hl hm
      induction x4 with
      | nil => simp
      | cons n x4 ih =>
        have := g4_len n
        simp only [List.flatMap_cons, List.length_append, List.length_cons]
        omega
    have e := so_stop (x4.flatMap group4) x4 (by omega) (by omega)
    have hx : ¬ oidOk x4 = true := by
      intro hx
      have hx' := hx
      simp only [oidOk, Bool.and_eq_true] at hx'
      exact hno x4 hx (by rw [List.append_nil, flat4 x4 hx'.1])
    rw [if_neg hx] at e
    simpa using e
  | succ m ih =>
    intro rest x4 hm hw hl hno
    by_cases hr : rest = []
    · subst hr
      exact ih [] x4 (by simp) hw hl hno
    by_cases h4 : x4.length ≤ 10
    · refine so_goOn _ rest x4 _ hr h4 ?_
      rcases so_any rest (x4.flatMap group4) x4 hw hl (by omega) with ⟨n, rest', h0, h1, e, h⟩ | h
      · refine h _ ?_
        have hg := g4_len n
        have hw' : bytes rest' := fun y hy => hw y (by rw [e]; exact List.mem_append_right _ hy)
        have hle : rest.length = (group4 n).length + rest'.length := by rw [e, List.length_append]
        have hc : (x4 ++ [n]).flatMap group4 = x4.flatMap group4 ++ group4 n := by simp
        have := ih rest' (x4 ++ [n]) (by omega) hw' (by rw [hc, List.length_append]; omega) (by
          intro o ho
          rw [hc, List.append_assoc, ← e]
          exact hno o ho)
        rw [hc] at this
        exact this
      · exact h
    · exact so_tooMany _ rest x4 hr h4
def gfin (all x4 : List Int) : List Int × Bool := if ((putOid x4).length : Int) = 0 then ([], false) else if (strOfNums (putOid x4)).toList = (strOfNums all).toList then (x4, true) else ([], false)
theorem io_fin (all x4 xs : List Int) (n m p : Int) (hp : ¬ p < m) (h4 : x4.length ≤ 1048576) : Ev (fun k => impl_GetOid.l0 k all x4 n xs m p) (gfin all x4) := by
  refine Ev.succ ?_
  simp only [impl_GetOid.l0]
  simp only [if_neg hp]
  refine Ev.bind (iPutOid_ev x4 h4) ?_
  unfold gfin
  split
  · exact Ev.now _
  · split <;> exact Ev.now _
def joinO (n b : Int) : Int := Go.bits .or .i64 (wrap64 ((mn n 1048576) * 128)) (wrap64 (Go.bits .and .u8 b 127))
theorem joinO_eq (n b : Int) (hn : 0 ≤ n ∧ n ≤ 1048576) (hb : 0 ≤ b ∧ b ≤ 255) : joinO n b = n * 128 + b % 128 := by
  unfold joinO mn
  rw [if_neg (by omega), and127b b hb.1 hb.2, w64 (by omega) (by omega), w64 (by omega) (by omega), join7 n (b % 128) hn.1 (by omega) (by omega) (by omega)]
theorem io_small (all pre rest x4 : List Int) (b n m : Int) (r : List Int × Bool) (hm : m = (pre.length : Int) + rest.length + 1) (hp : pre.length < 40) (h4 : x4.length ≤ 1048576) (hb : b < 128)
    (h : Ev (fun k => impl_GetOid.l0 k all (x4 ++ [joinO n b]) 0 ((pre ++ [b]) ++ rest) m ((pre ++ [b]).length : Int)) r) :
    Ev (fun k => impl_GetOid.l0 k all x4 n (pre ++ b :: rest) m (pre.length : Int)) r := by
  refine Ev.succ ?_
  simp only [impl_GetOid.l0]
  simp only [if_pos (show (pre.length : Int) < m by omega), if_pos (show (0 : Int) ≤ (pre.length : Int) by omega), if_pos (show (pre.length : Int) < ((pre ++ b :: rest).length : Int) by simp only [List.length_append, List.length_cons]; omega), if_neg (show ¬ (pre.length : Int) ≥ 40 by omega), rd_mid, if_pos hb, if_pos (show x4.length < 17592186044416 by omega), w64 (x := (pre.length : Int) + 1) (by omega) (by omega)]
  simp only [List.append_assoc, List.cons_append, List.nil_append] at h
  rw [show ((pre ++ [b]).length : Int) = (pre.length : Int) + 1 by simp] at h
  exact h
theorem io_big (all pre rest x4 : List Int) (b n m : Int) (r : List Int × Bool) (hm : m = (pre.length : Int) + rest.length + 1) (hp : pre.length < 40) (hb : ¬ b < 128)
    (h : Ev (fun k => impl_GetOid.l0 k all x4 (joinO n b) ((pre ++ [b]) ++ rest) m ((pre ++ [b]).length : Int)) r) :
    Ev (fun k => impl_GetOid.l0 k all x4 n (pre ++ b :: rest) m (pre.length : Int)) r := by
  refine Ev.succ ?_
  simp only [impl_GetOid.l0]
  simp only [if_pos (show (pre.length : Int) < m by omega), if_pos (show (0 : Int) ≤ (pre.length : Int) by omega), if_pos (show (pre.length : Int) < ((pre ++ b :: rest).length : Int) by simp only [List.length_append, List.length_cons]; omega), if_neg (show ¬ (pre.length : Int) ≥ 40 by omega), rd_mid, if_neg hb, w64 (x := (pre.length : Int) + 1) (by omega) (by omega)]
  simp only [List.append_assoc, List.cons_append, List.nil_append] at h
  rw [show ((pre ++ [b]).length : Int) = (pre.length : Int) + 1 by simp] at h
  exact h
theorem io_over (all pre rest x4 : List Int) (b n m : Int) (hm : m = (pre.length : Int) + rest.length + 1) (hp : ¬ pre.length < 40) :
    Ev (fun k => impl_GetOid.l0 k all x4 n (pre ++ b :: rest) m (pre.length : Int)) ([], false) := by
  refine Ev.succ ?_
  simp only [impl_GetOid.l0]
  simp only [if_pos (show (pre.length : Int) < m by omega), if_pos (show (0 : Int) ≤ (pre.length : Int) by omega), if_pos (show (pre.length : Int) < ((pre ++ b :: rest).length : Int) by simp only [List.length_append, List.length_cons]; omega), if_pos (show (pre.length : Int) ≥ 40 by omega)]
  exact Ev.now _
theorem iGa (all : List Int) (rest : List Int) : ∀ (pre x4 : List Int) (n m : Int), m = (pre.length : Int) + rest.length → x4.length ≤ pre.length → pre.length ≤ 40 →
    ∃ x, Ev (fun k => impl_GetOid.l0 k all x4 n (pre ++ rest) m (pre.length : Int)) (gfin all x) ∨ Ev (fun k => impl_GetOid.l0 k all x4 n (pre ++ rest) m (pre.length : Int)) ([], false) := by
  induction rest with
  | nil =>
    intro pre x4 n m hm h4 hp
    simp only [List.length_nil] at hm
    exact ⟨x4, Or.inl (io_fin all x4 _ n m _ (by omega) (by omega))⟩
  | cons b rest ih =>
    intro pre x4 n m hm h4 hp
    simp only [List.length_cons] at hm
    by_cases hp' : pre.length < 40
    · by_cases hb : b < 128
      · obtain ⟨x, h⟩ := ih (pre ++ [b]) (x4 ++ [joinO n b]) 0 m (by simp only [List.length_append, List.length_cons, List.length_nil]; omega) (by simp only [List.length_append, List.length_cons, List.length_nil]; omega) (by simp only [List.length_append, List.length_cons, List.length_nil]; omega)
        exact ⟨x, h.imp (io_small all pre rest x4 b n m _ (by omega) hp' (by omega) hb) (io_small all pre rest x4 b n m _ (by omega) hp' (by omega) hb)⟩
      · obtain ⟨x, h⟩ := ih (pre ++ [b]) x4 (joinO n b) m (by simp only [List.length_append, List.length_cons, List.length_nil]; omega) (by simp only [List.length_append, List.length_cons, List.length_nil]; omega) (by simp only [List.length_append, List.length_cons, List.length_nil]; omega)
        exact ⟨x, h.imp (io_big all pre rest x4 b n m _ (by omega) hp' hb) (io_big all pre rest x4 b n m _ (by omega) hp' hb)⟩
    · exact ⟨[], Or.inr (io_over all pre rest x4 b n m (by omega) hp')⟩
theorem io_fwd (all : List Int) (n : Int) (hn : 0 ≤ n ∧ n ≤ 100000) (pre rest x4 : List Int) (m : Int) (r : List Int × Bool) (hm : m = (pre.length : Int) + (group n).length + rest.length) (hp : pre.length ≤ 37) (h4 : x4.length ≤ 1048576)
    (h : Ev (fun k => impl_GetOid.l0 k all (x4 ++ [n]) 0 ((pre ++ group n) ++ rest) m ((pre ++ group n).length : Int)) r) :
    Ev (fun k => impl_GetOid.l0 k all x4 0 (pre ++ (group n ++ rest)) m (pre.length : Int)) r := by
  have p1 (b : Int) : (pre ++ [b]).length = pre.length + 1 := by simp
  have p2 (b c : Int) : (pre ++ [b] ++ [c]).length = pre.length + 2 := by simp
  rw [← g4s n hn.2] at h hm ⊢
  by_cases c1 : n ≤ 127
  · rw [g4_1 n c1] at h hm ⊢
    simp only [List.length_cons, List.length_nil] at hm
    refine io_small all pre rest x4 n 0 m r (by omega) (by omega) h4 (by omega) ?_
    rw [joinO_eq 0 n (by omega) (by omega), show (0 : Int) * 128 + n % 128 = n by omega]
    exact h
  · by_cases c2 : n ≤ 16383
    · have g := g4_2 n (by omega) c2
      rw [g] at h hm ⊢
      simp only [List.length_cons, List.length_nil] at hm
      refine io_big all pre (n % 128 :: rest) x4 (n / 128 + 128) 0 m r (by simp only [List.length_cons]; omega) (by omega) (by omega) ?_
      refine io_small all (pre ++ [n / 128 + 128]) rest x4 (n % 128) _ m r (by rw [p1]; omega) (by rw [p1]; omega) h4 (by omega) ?_
      rw [joinO_eq 0 _ (by omega) (by omega), joinO_eq _ _ (by omega) (by omega), show ((0 : Int) * 128 + (n / 128 + 128) % 128) * 128 + n % 128 % 128 = n by omega]
      rw [show pre ++ [n / 128 + 128, n % 128] = pre ++ [n / 128 + 128] ++ [n % 128] by simp] at h
      exact h
    · have g := g4_3 n (by omega) (by omega)
      rw [g] at h hm ⊢
      simp only [List.length_cons, List.length_nil] at hm
      refine io_big all pre ((n / 128 % 128 + 128) :: n % 128 :: rest) x4 (n / 16384 + 128) 0 m r (by simp only [List.length_cons]; omega) (by omega) (by omega) ?_
      refine io_big all (pre ++ [n / 16384 + 128]) (n % 128 :: rest) x4 (n / 128 % 128 + 128) _ m r (by rw [p1]; simp only [List.length_cons]; omega) (by rw [p1]; omega) (by omega) ?_
      refine io_small all (pre ++ [n / 16384 + 128] ++ [n / 128 % 128 + 128]) rest x4 (n % 128) _ m r (by rw [p2]; omega) (by rw [p2]; omega) h4 (by omega) ?_
      rw [joinO_eq 0 _ (by omega) (by omega), joinO_eq _ (n / 128 % 128 + 128) (by omega) (by omega), joinO_eq _ _ (by omega) (by omega), show (((0 : Int) * 128 + (n / 16384 + 128) % 128) * 128 + (n / 128 % 128 + 128) % 128) * 128 + n % 128 % 128 = n by omega]
      rw [show pre ++ [n / 16384 + 128, n / 128 % 128 + 128, n % 128] = pre ++ [n / 16384 + 128] ++ [n / 128 % 128 + 128] ++ [n % 128] by simp] at h
      exact h
theorem iGl (all : List Int) (o : List Int) : ∀ (pre x4 : List Int) (m : Int), m = (pre.length : Int) + (o.flatMap group).length → oidNums o = true → pre.length + 3 * o.length ≤ 40 → x4.length + o.length ≤ 10 →
    Ev (fun k => impl_GetOid.l0 k all x4 0 (pre ++ o.flatMap group) m (pre.length : Int)) (gfin all (x4 ++ o)) := by
  induction o with
  | nil =>
    intro pre x4 m hm _ hl h4
    simp only [List.flatMap_nil, List.length_nil] at hm
    simp only [List.length_nil] at h4
    have e := io_fin all x4 (pre ++ []) 0 m (pre.length : Int) (by omega) (by omega)
    simpa using e
  | cons n o ih =>
    intro pre x4 m hm ho hl h4
    obtain ⟨hn, ho⟩ := oidNums_cons n o ho
    have hg := group_len n
    simp only [List.length_cons] at hl h4
    simp only [List.flatMap_cons, List.length_append] at hm ⊢
    refine io_fwd all n hn pre _ x4 m _ (by omega) (by omega) (by omega) ?_
    have e := ih (pre ++ group n) (x4 ++ [n]) m (by simp only [List.length_append]; omega) ho (by simp only [List.length_append]; omega) (by simp only [List.length_append, List.length_cons, List.length_nil]; omega)
    simpa using e
theorem gby (n : Int) (hn : 0 ≤ n ∧ n ≤ 100000) : ∀ y ∈ group n, 0 ≤ y ∧ y ≤ 255 := by
  unfold group
  intro y hy
  split at hy
  · simp only [List.mem_cons, List.not_mem_nil, or_false] at hy; omega
  · split at hy
    · simp only [List.mem_cons, List.not_mem_nil, or_false] at hy; omega
    · simp only [List.mem_cons, List.not_mem_nil, or_false] at hy; omega
theorem pOb (o : List Int) : ∀ y ∈ putOid o, 0 ≤ y ∧ y ≤ 255 := by
  unfold putOid
  split
  · rename_i h
    intro y hy
    simp only [List.mem_flatMap] at hy
    obtain ⟨n, hn, hy⟩ := hy
    simp only [oidOk, Bool.and_eq_true, oidNums, List.all_eq_true, decide_eq_true_eq] at h
    exact gby n (h.1 n hn) y hy
  · simp
/- what both make of the bytes -/
theorem gOb (l : List Int) (hw : bytes l) (hl : l.length ≤ 1048576) : ∃ R, Ev (fun k => spec_GetOid.f k l) R ∧ Ev (fun k => impl_GetOid.f k l) R ∧ R.1.length ≤ 10 := by
  unfold spec_GetOid.f impl_GetOid.f
  by_cases h : ∃ o, oidOk o = true ∧ o.flatMap group = l
  · obtain ⟨o, ho, rfl⟩ := h
    have ho' := ho
    simp only [oidOk, Bool.and_eq_true, decide_eq_true_eq] at ho'
    refine ⟨(o, true), ?_, ?_, by show o.length ≤ 10; omega⟩
    · have e := sGy o [] [] (by simpa using ho) (by simp only [List.length_nil]; omega)
      simpa using e
    · have e := iGl (o.flatMap group) o [] [] ((o.flatMap group).length : Int) (by simp) ho'.1 (by simp only [List.length_nil]; omega) (by simp only [List.length_nil]; omega)
      have hg : gfin (o.flatMap group) o = (o, true) := by
        unfold gfin putOid
        rw [if_pos ho]
        have : 1 ≤ (o.flatMap group).length := by
          cases o with
          | nil => simp at ho'
          | cons n o =>
            have := group_len n
            simp only [List.flatMap_cons, List.length_append]
            omega
        rw [if_neg (by omega), if_pos rfl]
      simp only [List.nil_append] at e
      rw [hg] at e
      exact e
  · have hno : ∀ o, oidOk o = true → o.flatMap group ≠ l := fun o ho e => h ⟨o, ho, e⟩
    refine ⟨([], false), ?_, ?_, by simp⟩
    · have e := sGn l.length l [] (Nat.le_refl _) hw (by simpa using hl) (by simpa using hno)
      simpa using e
    · obtain ⟨x, e⟩ := iGa l l [] [] 0 (l.length : Int) (by simp) (by simp) (by simp)
      rcases e with e | e
      · have hg : gfin l x = ([], false) := by
          unfold gfin
          split
          · rfl
          · rename_i h0
            rw [if_neg]
            intro hs
            have he := strNums_inj _ _ (pOb x) hw hs
            unfold putOid at he h0
            by_cases hx : oidOk x = true
            · rw [if_pos hx] at he
              exact hno x hx he
            · rw [if_neg hx] at h0
              simp at h0
        rw [hg] at e
        simpa using e
      · simpa using e
theorem eqVal_ev (a b : Int) (s : ByteArray) (l : List Int) (h : l.length ≤ 1099511627776) : Ev (fun k => laws_eqVal.f k a b s l a b s l) true := by
  unfold laws_eqVal.f
  simp only [↓reduceIte]
  refine Ev.bind (eqIntS_ev l l h) ?_
  simp only [decide_true, ↓reduceIte]
  exact Ev.now _
def sameVal (a b : Int) (s : ByteArray) (l : List Int) (a' b' : Int) (s' : ByteArray) (l' : List Int) : Bool :=
  if a = a' then (if b = b' then (if s.toList = s'.toList then decide (l = l') else false) else false) else false
theorem iSameVal_ev (a b : Int) (s : ByteArray) (l : List Int) (a' b' : Int) (s' : ByteArray) (l' : List Int) (h : l.length ≤ 1099511627776) : Ev (fun k => impl_SameVal.f k a b s l a' b' s' l') (sameVal a b s l a' b' s' l') := by
  unfold impl_SameVal.f sameVal
  refine Ev.ite (fun _ => ?_) (fun _ => Ev.now _)
  refine Ev.ite (fun _ => ?_) (fun _ => Ev.now _)
  refine Ev.ite (fun _ => ?_) (fun _ => Ev.now _)
  refine Ev.bind (iSameOid_ev l l' h) ?_
  exact Ev.now _
def valNil (b : Int) (s : ByteArray) (l : List Int) : Bool := if b = 0 then (if s.toList = ([] : List UInt8) then ((l.length : Int) == 0) else false) else false
def valOk (a b : Int) (s : ByteArray) (l : List Int) : Bool :=
  if a = 5 ∨ a = 128 ∨ a = 130 then valNil b s l
  else if a = 2 then (if clip b = b then (if s.toList = ([] : List UInt8) then ((l.length : Int) == 0) else false) else false)
  else if a = 4 then (if (s.size : Int) ≤ 20 then (if b = 0 then ((l.length : Int) == 0) else false) else false)
  else if a = 6 then (if oidOk l = true then (if b = 0 then (s.toList == ([] : List UInt8)) else false) else false)
  else false
theorem decEmpty (l : List Int) : decide (l = []) = ((l.length : Int) == 0) := by
  cases l with
  | nil => rfl
  | cons x l => simp; omega
theorem emptyStr : (⟨#[]⟩ : ByteArray).toList = ([] : List UInt8) := by decide +kernel
theorem valNil_same (a b : Int) (s : ByteArray) (l : List Int) : sameVal a b s l a 0 ⟨#[]⟩ [] = valNil b s l := by
  unfold sameVal valNil
  rw [if_pos rfl, emptyStr, decEmpty]
theorem sValOk_j (a b : Int) (s : ByteArray) (l : List Int) (q : Bool) (h : l.length ≤ 1048576) (hq : q = true ↔ (a = 5 ∨ a = 128 ∨ a = 130)) : Ev (fun k => spec_ValOk.j0 k a q a b s l) (valOk a b s l) := by
  refine Ev.succ ?_
  simp only [spec_ValOk.j0]
  unfold valOk valNil
  by_cases c : a = 5 ∨ a = 128 ∨ a = 130
  · simp only [if_pos c, if_pos (hq.2 c)]
    refine Ev.ite (fun _ => ?_) (fun _ => Ev.now _)
    refine Ev.ite (fun _ => Ev.now _) (fun _ => Ev.now _)
  · have hq' : ¬ q = true := fun e => c (hq.1 e)
    simp only [if_neg c, if_neg hq', sClip_eq, Option.bind_some]
    refine Ev.ite (fun _ => ?_) (fun _ => ?_)
    · refine Ev.ite (fun _ => ?_) (fun _ => Ev.now _)
      refine Ev.ite (fun _ => Ev.now _) (fun _ => Ev.now _)
    refine Ev.ite (fun _ => ?_) (fun _ => ?_)
    · refine Ev.ite (fun _ => ?_) (fun _ => Ev.now _)
      refine Ev.ite (fun _ => Ev.now _) (fun _ => Ev.now _)
    refine Ev.ite (fun _ => ?_) (fun _ => Ev.now _)
    refine Ev.bind (sOidOk_ev l (by omega)) ?_
    refine Ev.ite (fun _ => ?_) (fun _ => Ev.now _)
    refine Ev.ite (fun _ => Ev.now _) (fun _ => Ev.now _)
theorem sValOk_ev (a b : Int) (s : ByteArray) (l : List Int) (h : l.length ≤ 1048576) : Ev (fun k => spec_ValOk.f k a b s l) (valOk a b s l) := by
  unfold spec_ValOk.f
  by_cases c1 : a = 5
  · simp only [if_pos c1]
    exact sValOk_j a b s l _ h (by simp [c1])
  · simp only [if_neg c1]
    by_cases c2 : a = 128
    · simp only [if_pos c2]
      exact sValOk_j a b s l _ h (by simp [c2])
    · simp only [if_neg c2]
      exact sValOk_j a b s l _ h (by simp [c1, c2])
theorem iIsInt_eq (b : Int) : impl_isInt.f b = some (decide (-2147483648 ≤ b ∧ b ≤ 2147483647)) := by
  unfold impl_isInt.f
  rw [in_eq]
  rfl
theorem clip_same (b : Int) : decide (-2147483648 ≤ b ∧ b ≤ 2147483647) = decide (clip b = b) := by
  unfold clip
  refine decide_eq_decide.2 ⟨fun h => ?_, fun h => ?_⟩
  · rw [if_neg (by omega), if_neg (by omega)]
  · split at h
    · omega
    · split at h <;> omega
theorem iValOk_ev (a b : Int) (s : ByteArray) (l : List Int) (h : l.length ≤ 1048576) : Ev (fun k => impl_ValOk.f k a b s l) (valOk a b s l) := by
  unfold impl_ValOk.f valOk
  by_cases c2 : a = 2
  · simp only [if_pos c2, if_neg (show ¬ (a = 5 ∨ a = 128 ∨ a = 130) by omega), iIsInt_eq, Option.bind_some, clip_same, decide_eq_true_eq]
    refine Ev.ite (fun _ => ?_) (fun _ => Ev.now _)
    refine Ev.bind (iSameVal_ev a b s l a b _ _ (by omega)) ?_
    unfold sameVal
    rw [if_pos rfl, if_pos rfl, emptyStr, decEmpty]
    exact Ev.now _
  simp only [if_neg c2]
  by_cases c4 : a = 4
  · simp only [if_pos c4, if_neg (show ¬ (a = 5 ∨ a = 128 ∨ a = 130) by omega)]
    refine Ev.ite (fun _ => ?_) (fun _ => Ev.now _)
    refine Ev.bind (iSameVal_ev a b s l a 0 s _ (by omega)) ?_
    unfold sameVal
    rw [if_pos rfl, if_pos rfl, decEmpty]
    exact Ev.now _
  simp only [if_neg c4]
  by_cases c6 : a = 6
  · simp only [if_pos c6, if_neg (show ¬ (a = 5 ∨ a = 128 ∨ a = 130) by omega)]
    refine Ev.bind (iOidOk_ev l (by omega)) ?_
    refine Ev.ite (fun _ => ?_) (fun _ => Ev.now _)
    refine Ev.bind (iSameVal_ev a b s l a 0 _ l (by omega)) ?_
    unfold sameVal
    rw [if_pos rfl, emptyStr]
    have e : (if b = 0 then (if s.toList = ([] : List UInt8) then decide (l = l) else false) else false) = (if b = 0 then (s.toList == ([] : List UInt8)) else false) := by
      split
      · by_cases z : s.toList = ([] : List UInt8)
        · simp [z]
        · rw [if_neg z]
          exact (beq_eq_false_iff_ne.2 z).symm
      · rfl
    rw [e]
    exact Ev.now _
  simp only [if_neg c6]
  by_cases c5 : a = 5
  · simp only [if_pos c5, if_pos (show (a = 5 ∨ a = 128 ∨ a = 130) by omega)]
    refine Ev.bind (iSameVal_ev a b s l a 0 _ _ (by omega)) ?_
    rw [valNil_same]
    exact Ev.now _
  simp only [if_neg c5]
  by_cases c8 : a = 128
  · simp only [if_pos c8, if_pos (show (a = 5 ∨ a = 128 ∨ a = 130) by omega)]
    refine Ev.bind (iSameVal_ev a b s l a 0 _ _ (by omega)) ?_
    rw [valNil_same]
    exact Ev.now _
  simp only [if_neg c8]
  by_cases c3 : a = 130
  · simp only [if_pos c3, if_pos (show (a = 5 ∨ a = 128 ∨ a = 130) by omega)]
    refine Ev.bind (iSameVal_ev a b s l a 0 _ _ (by omega)) ?_
    rw [valNil_same]
    exact Ev.now _
  simp only [if_neg c3, if_neg (show ¬ (a = 5 ∨ a = 128 ∨ a = 130) by omega)]
  exact Ev.now _
def no4 : Int × List Int × Int × Bool := (0, [], 0, false)
def tlvTail (b : List Int) (a x : Int) : Int × List Int × Int × Bool :=
  if rd b x > 250 then no4 else if rd b x > (b.length : Int) - (x + 1) then no4 else (rd b a, (b.take (x + 1 + rd b x).toNat).drop (x + 1).toNat, x + 1 + rd b x, true)
def getTlv (b : List Int) (a : Int) : Int × List Int × Int × Bool :=
  if a < 0 ∨ a + 1 ≥ (b.length : Int) then no4
  else if rd b (a + 1) > 127 then (if rd b (a + 1) = 129 then (if a + 2 ≥ (b.length : Int) then no4 else if rd b (a + 2) < 128 then no4 else tlvTail b a (a + 2)) else no4)
  else tlvTail b a (a + 1)
theorem getTlv_len (b : List Int) (a : Int) : (getTlv b a).2.1.length ≤ b.length := by
  have ht : ∀ x, (tlvTail b a x).2.1.length ≤ b.length := by
    intro x
    unfold tlvTail no4
    split
    · simp
    · split
      · simp
      · simp only [List.length_drop, List.length_take]
        omega
  have hz : (no4).2.1.length ≤ b.length := by simp [no4]
  unfold getTlv
  split
  · exact hz
  · split
    · split
      · split
        · exact hz
        · split
          · exact hz
          · exact ht _
      · exact hz
    · exact ht _
theorem rd_bd (b : List Int) (hb : ∀ y ∈ b, 0 ≤ y ∧ y ≤ 255) (x : Int) : 0 ≤ rd b x ∧ rd b x ≤ 255 := by
  unfold rd
  rw [List.getD_eq_getElem?_getD]
  cases h : b[x.toNat]? with
  | none => simp
  | some v =>
    have := hb v (List.mem_of_getElem? h)
    simpa using this
theorem cut_le (b : List Int) (p q : Nat) : ((b.take p).drop q).length ≤ b.length := by
  simp only [List.length_drop, List.length_take]
  omega
theorem spec_GetTlv_j1_ev (b : List Int) (a x : Int) (hb : ∀ y ∈ b, 0 ≤ y ∧ y ≤ 255) (hl : b.length ≤ 1048576) (ha : 0 ≤ a ∧ a < (b.length : Int)) (hx : 0 ≤ x ∧ x < (b.length : Int)) : Ev (fun k => spec_GetTlv.j1 k b a x false) (tlvTail b a x) := by
  obtain ⟨n0, n1⟩ := rd_bd b hb x
  obtain ⟨m0, m1⟩ := rd_bd b hb a
  refine Ev.succ ?_
  simp only [spec_GetTlv.j1]
  simp only [Bool.false_eq_true, if_false, if_pos hx.1, if_pos hx.2, if_pos ha.1, if_pos ha.2, w64 (x := rd b x) (by omega) (by omega), w64 (x := rd b a) (by omega) (by omega), w64 (x := x + 1) (by omega) (by omega), w64 (x := (b.length : Int) - (x + 1)) (by omega) (by omega), w64 (x := x + 1 + rd b x) (by omega) (by omega)]
  unfold tlvTail no4
  by_cases c1 : rd b x > 250
  · simp only [if_pos c1]
    exact Ev.now _
  by_cases c2 : rd b x > (b.length : Int) - (x + 1)
  · simp only [if_neg c1, if_pos c2]
    exact Ev.now _
  have hc := cut_le b (x + 1 + rd b x).toNat (x + 1).toNat
  simp only [if_neg c1, if_neg c2, if_pos (show 0 ≤ x + 1 by omega), if_pos (show x + 1 ≤ x + 1 + rd b x by omega), if_pos (show x + 1 + rd b x ≤ (b.length : Int) by omega), Option.bind_some, List.length_nil, List.nil_append, if_pos (show 0 + ((b.take (x + 1 + rd b x).toNat).drop (x + 1).toNat).length < 140737488355328 by omega)]
  exact Ev.now _
theorem spec_GetTlv_j1_no (b : List Int) (a x : Int) : Ev (fun k => spec_GetTlv.j1 k b a x true) no4 := by
  refine Ev.succ ?_
  simp only [spec_GetTlv.j1]
  simp only [if_true]
  exact Ev.now _
theorem spec_GetTlv_j0_no (b : List Int) (a : Int) : Ev (fun k => spec_GetTlv.j0 k b a true) no4 := by
  refine Ev.succ ?_
  simp only [spec_GetTlv.j0]
  simp only [if_true]
  exact Ev.now _
theorem spec_GetTlv_j0_ev (b : List Int) (a : Int) (hb : ∀ y ∈ b, 0 ≤ y ∧ y ≤ 255) (hl : b.length ≤ 1048576) (ha : ¬ (a < 0 ∨ a + 1 ≥ (b.length : Int))) : Ev (fun k => spec_GetTlv.j0 k b a false) (getTlv b a) := by
  obtain ⟨n0, n1⟩ := rd_bd b hb (a + 1)
  obtain ⟨m0, m1⟩ := rd_bd b hb a
  refine Ev.succ ?_
  simp only [spec_GetTlv.j0]
  simp only [Bool.false_eq_true, if_false, w64 (x := a + 1) (by omega) (by omega), w64 (x := a + 2) (by omega) (by omega), if_pos (show 0 ≤ a + 1 by omega), if_pos (show a + 1 < (b.length : Int) by omega), w64 (x := rd b (a + 1)) (by omega) (by omega)]
  unfold getTlv
  simp only [if_neg ha]
  by_cases c : rd b (a + 1) > 127
  · simp only [if_pos c, if_pos (show rd b (a + 1) > 127 by omega)]
    refine Ev.ite (fun _ => ?_) (fun _ => spec_GetTlv_j1_no _ _ _)
    refine Ev.ite (fun _ => spec_GetTlv_j1_no _ _ _) (fun d => ?_)
    simp only [if_pos (show 0 ≤ a + 2 by omega), if_pos (show a + 2 < (b.length : Int) by omega)]
    by_cases e : rd b (a + 2) < 128
    · rw [decide_eq_true e, if_pos e]
      exact spec_GetTlv_j1_no _ _ _
    · rw [decide_eq_false e, if_neg e]
      exact spec_GetTlv_j1_ev b a (a + 2) hb hl (by omega) (by omega)
  · simp only [if_neg c, if_neg (show ¬ rd b (a + 1) > 127 by omega)]
    unfold tlvTail no4
    simp only [show a + 1 + 1 = a + 2 by omega, w64 (x := (b.length : Int) - (a + 2)) (by omega) (by omega), w64 (x := a + 2 + rd b (a + 1)) (by omega) (by omega), w64 (x := rd b a) (by omega) (by omega), if_pos (show 0 ≤ a by omega), if_pos (show a < (b.length : Int) by omega)]
    by_cases c1 : rd b (a + 1) > 250
    · simp only [if_pos c1]
      exact Ev.now _
    by_cases c2 : rd b (a + 1) > (b.length : Int) - (a + 2)
    · simp only [if_neg c1, if_pos c2]
      exact Ev.now _
    have hc := cut_le b (a + 2 + rd b (a + 1)).toNat (a + 2).toNat
    simp only [if_neg c1, if_neg c2, if_pos (show 0 ≤ a + 2 by omega), if_pos (show a + 2 ≤ a + 2 + rd b (a + 1) by omega), if_pos (show a + 2 + rd b (a + 1) ≤ (b.length : Int) by omega), Option.bind_some, List.length_nil, List.nil_append, if_pos (show 0 + ((b.take (a + 2 + rd b (a + 1)).toNat).drop (a + 2).toNat).length < 140737488355328 by omega)]
    exact Ev.now _
theorem sGetTlv_ev (b : List Int) (a : Int) (hb : ∀ y ∈ b, 0 ≤ y ∧ y ≤ 255) (hl : b.length ≤ 1048576) (hw : -9223372036854775808 ≤ a ∧ a ≤ 9223372036854775807) : Ev (fun k => spec_GetTlv.f k b a) (getTlv b a) := by
  unfold spec_GetTlv.f
  by_cases c : a < 0 ∨ a + 1 ≥ (b.length : Int)
  · have e : getTlv b a = no4 := by unfold getTlv; rw [if_pos c]
    rw [e]
    by_cases c1 : a < 0
    · simp only [if_pos c1]
      exact spec_GetTlv_j0_no _ _
    · by_cases c2 : a ≥ (b.length : Int)
      · simp only [if_neg c1, if_pos c2]
        exact spec_GetTlv_j0_no _ _
      · simp only [if_neg c1, if_neg c2, w64 (x := a + 1) (by omega) (by omega), decide_eq_true (show a + 1 ≥ (b.length : Int) by omega)]
        exact spec_GetTlv_j0_no _ _
  · simp only [if_neg (show ¬ a < 0 by omega), if_neg (show ¬ a ≥ (b.length : Int) by omega), w64 (x := a + 1) (by omega) (by omega), decide_eq_false (show ¬ a + 1 ≥ (b.length : Int) by omega)]
    exact spec_GetTlv_j0_ev b a hb hl c
theorem impl_GetTlv_j1_ev (b : List Int) (a x : Int) (hb : ∀ y ∈ b, 0 ≤ y ∧ y ≤ 255) (hl : b.length ≤ 1048576) (ha : 0 ≤ a ∧ a < (b.length : Int)) (hx : 0 ≤ x ∧ x < (b.length : Int)) : Ev (fun k => impl_GetTlv.j1 k b a x false) (tlvTail b a x) := by
  obtain ⟨n0, n1⟩ := rd_bd b hb x
  obtain ⟨m0, m1⟩ := rd_bd b hb a
  refine Ev.succ ?_
  simp only [impl_GetTlv.j1]
  simp only [Bool.false_eq_true, if_false, if_pos hx.1, if_pos hx.2, if_pos ha.1, if_pos ha.2, w64 (x := rd b x) (by omega) (by omega), w64 (x := rd b a) (by omega) (by omega), w64 (x := x + 1) (by omega) (by omega), w64 (x := (b.length : Int) - (x + 1)) (by omega) (by omega), w64 (x := x + 1 + rd b x) (by omega) (by omega)]
  unfold tlvTail no4
  by_cases c1 : rd b x > 250
  · simp only [if_pos c1]
    exact Ev.now _
  by_cases c2 : rd b x > (b.length : Int) - (x + 1)
  · simp only [if_neg c1, if_pos c2]
    exact Ev.now _
  have hc := cut_le b (x + 1 + rd b x).toNat (x + 1).toNat
  simp only [if_neg c1, if_neg c2, if_pos (show 0 ≤ x + 1 by omega), if_pos (show x + 1 ≤ x + 1 + rd b x by omega), if_pos (show x + 1 + rd b x ≤ (b.length : Int) by omega), impl_copyBytes.f, Option.bind_some, List.length_nil, List.nil_append, if_pos (show 0 + ((b.take (x + 1 + rd b x).toNat).drop (x + 1).toNat).length < 140737488355328 by omega)]
  exact Ev.now _
theorem impl_GetTlv_j1_no (b : List Int) (a x : Int) : Ev (fun k => impl_GetTlv.j1 k b a x true) no4 := by
  refine Ev.succ ?_
  simp only [impl_GetTlv.j1]
  simp only [if_true]
  exact Ev.now _
theorem impl_GetTlv_j0_no (b : List Int) (a : Int) : Ev (fun k => impl_GetTlv.j0 k b a true) no4 := by
  refine Ev.succ ?_
  simp only [impl_GetTlv.j0]
  simp only [if_true]
  exact Ev.now _
theorem impl_GetTlv_j0_ev (b : List Int) (a : Int) (hb : ∀ y ∈ b, 0 ≤ y ∧ y ≤ 255) (hl : b.length ≤ 1048576) (ha : ¬ (a < 0 ∨ a + 1 ≥ (b.length : Int))) : Ev (fun k => impl_GetTlv.j0 k b a false) (getTlv b a) := by
  obtain ⟨n0, n1⟩ := rd_bd b hb (a + 1)
  obtain ⟨m0, m1⟩ := rd_bd b hb a
  refine Ev.succ ?_
  simp only [impl_GetTlv.j0]
  simp only [Bool.false_eq_true, if_false, w64 (x := a + 1) (by omega) (by omega), w64 (x := a + 2) (by omega) (by omega), if_pos (show 0 ≤ a + 1 by omega), if_pos (show a + 1 < (b.length : Int) by omega), w64 (x := rd b (a + 1)) (by omega) (by omega)]
  unfold getTlv
  simp only [if_neg ha]
  by_cases c : rd b (a + 1) > 127
  · simp only [if_pos c, if_pos (show rd b (a + 1) ≥ 128 by omega)]
    refine Ev.ite (fun _ => ?_) (fun _ => impl_GetTlv_j1_no _ _ _)
    refine Ev.ite (fun _ => impl_GetTlv_j1_no _ _ _) (fun d => ?_)
    simp only [if_pos (show 0 ≤ a + 2 by omega), if_pos (show a + 2 < (b.length : Int) by omega)]
    by_cases e : rd b (a + 2) < 128
    · rw [decide_eq_true e, if_pos e]
      exact impl_GetTlv_j1_no _ _ _
    · rw [decide_eq_false e, if_neg e]
      exact impl_GetTlv_j1_ev b a (a + 2) hb hl (by omega) (by omega)
  · simp only [if_neg c, if_neg (show ¬ rd b (a + 1) ≥ 128 by omega)]
    unfold tlvTail no4
    simp only [show a + 1 + 1 = a + 2 by omega, w64 (x := (b.length : Int) - (a + 2)) (by omega) (by omega), w64 (x := a + 2 + rd b (a + 1)) (by omega) (by omega), w64 (x := rd b a) (by omega) (by omega), if_pos (show 0 ≤ a by omega), if_pos (show a < (b.length : Int) by omega)]
    by_cases c1 : rd b (a + 1) > 250
    · simp only [if_pos c1]
      exact Ev.now _
    by_cases c2 : rd b (a + 1) > (b.length : Int) - (a + 2)
    · simp only [if_neg c1, if_pos c2]
      exact Ev.now _
    have hc := cut_le b (a + 2 + rd b (a + 1)).toNat (a + 2).toNat
    simp only [if_neg c1, if_neg c2, if_pos (show 0 ≤ a + 2 by omega), if_pos (show a + 2 ≤ a + 2 + rd b (a + 1) by omega), if_pos (show a + 2 + rd b (a + 1) ≤ (b.length : Int) by omega), impl_copyBytes.f, Option.bind_some, List.length_nil, List.nil_append, if_pos (show 0 + ((b.take (a + 2 + rd b (a + 1)).toNat).drop (a + 2).toNat).length < 140737488355328 by omega)]
    exact Ev.now _
theorem iGetTlv_ev (b : List Int) (a : Int) (hb : ∀ y ∈ b, 0 ≤ y ∧ y ≤ 255) (hl : b.length ≤ 1048576) (hw : -9223372036854775808 ≤ a ∧ a ≤ 9223372036854775807) : Ev (fun k => impl_GetTlv.f k b a) (getTlv b a) := by
  unfold impl_GetTlv.f
  by_cases c : a < 0 ∨ a + 1 ≥ (b.length : Int)
  · have e : getTlv b a = no4 := by unfold getTlv; rw [if_pos c]
    rw [e]
    by_cases c1 : a < 0
    · simp only [if_pos c1]
      exact impl_GetTlv_j0_no _ _
    · simp only [if_neg c1, w64 (x := (b.length : Int) - 2) (by omega) (by omega), decide_eq_true (show a > (b.length : Int) - 2 by omega)]
      exact impl_GetTlv_j0_no _ _
  · simp only [if_neg (show ¬ a < 0 by omega), w64 (x := (b.length : Int) - 2) (by omega) (by omega), decide_eq_false (show ¬ a > (b.length : Int) - 2 by omega)]
    exact impl_GetTlv_j0_ev b a hb hl c
theorem tTo (b : List Int) (a x : Int) (hb : ∀ y ∈ b, 0 ≤ y ∧ y ≤ 255) : tlvTail b a x = no4 ∨ ((tlvTail b a x).2.2.2 = true ∧ ∀ y ∈ (tlvTail b a x).2.1, 0 ≤ y ∧ y ≤ 255) := by
  unfold tlvTail
  split
  · exact Or.inl rfl
  · split
    · exact Or.inl rfl
    · exact Or.inr ⟨rfl, fun y hy => hb y (List.mem_of_mem_take (List.mem_of_mem_drop hy))⟩
theorem gTo (b : List Int) (a : Int) (hb : ∀ y ∈ b, 0 ≤ y ∧ y ≤ 255) : getTlv b a = no4 ∨ ((getTlv b a).2.2.2 = true ∧ ∀ y ∈ (getTlv b a).2.1, 0 ≤ y ∧ y ≤ 255) := by
  unfold getTlv
  split
  · exact Or.inl rfl
  · split
    · split
      · split
        · exact Or.inl rfl
        · split
          · exact Or.inl rfl
          · exact tTo b a _ hb
      · exact Or.inl rfl
    · exact tTo b a _ hb
def noVal : Int × Int × ByteArray × List Int × Int × Bool := (0, 0, ⟨#[]⟩, [], 0, false)
theorem sVal_ev (t n : Int) (s : ByteArray) (o : List Int) (p : Int) (h : o.length ≤ 1048576) : Ev (fun k => (spec_ValOk.f k t n s o).bind fun v => if v = true then some (t, n, s, o, p, true) else some (0, 0, (⟨#[]⟩ : ByteArray), ([] : List Int), 0, false)) (if valOk t n s o = true then (t, n, s, o, p, true) else noVal) := by
  refine Ev.bind (sValOk_ev t n s o h) ?_
  exact Ev.ite (fun _ => Ev.now _) (fun _ => Ev.now _)
theorem iVal_ev (t n : Int) (s : ByteArray) (o : List Int) (p : Int) (h : o.length ≤ 1048576) : Ev (fun k => (impl_ValOk.f k t n s o).bind fun v => if v = true then some (t, n, s, o, p, true) else some (0, 0, (⟨#[]⟩ : ByteArray), ([] : List Int), 0, false)) (if valOk t n s o = true then (t, n, s, o, p, true) else noVal) := by
  refine Ev.bind (iValOk_ev t n s o h) ?_
  exact Ev.ite (fun _ => Ev.now _) (fun _ => Ev.now _)
theorem val_len (t n : Int) (s : ByteArray) (o : List Int) (p : Int) (h : o.length ≤ 10) : (if valOk t n s o = true then (t, n, s, o, p, true) else noVal).2.2.2.1.length ≤ 10 := by
  split
  · exact h
  · simp [noVal]
theorem gVb (l : List Int) (a : Int) (hb : ∀ y ∈ l, 0 ≤ y ∧ y ≤ 255) (hl : l.length ≤ 1048576) (ha : -9223372036854775808 ≤ a ∧ a ≤ 9223372036854775807) :
    ∃ R, Ev (fun k => spec_GetVal.f k l a) R ∧ Ev (fun k => impl_GetVal.f k l a) R ∧ R.2.2.2.1.length ≤ 10 := by
  have hs := sGetTlv_ev l a hb hl ha
  have hi := iGetTlv_ev l a hb hl ha
  have hy := getTlv_len l a
  have hor := gTo l a hb
  generalize getTlv l a = T at hs hi hy hor
  obtain ⟨t, y, p, q⟩ := T
  have hy : y.length ≤ l.length := hy
  unfold spec_GetVal.f impl_GetVal.f
  rcases hor with hor | ⟨hq, hby⟩
  · unfold no4 at hor
    simp only [Prod.mk.injEq] at hor
    obtain ⟨rfl, rfl, rfl, rfl⟩ := hor
    refine ⟨noVal, Ev.bind hs ?_, Ev.bind hi ?_, by simp [noVal]⟩
    · simp only [if_neg (show ¬ (0 : Int) = 2 by omega), if_neg (show ¬ (0 : Int) = 4 by omega), if_neg (show ¬ (0 : Int) = 6 by omega), Bool.false_eq_true, if_false]
      exact Ev.now _
    · simp only [Bool.false_eq_true, if_false]
      exact Ev.now _
  · have hq : q = true := hq
    have hby : ∀ z ∈ y, 0 ≤ z ∧ z ≤ 255 := hby
    subst hq
    by_cases c2 : t = 2
    · have gs := sGetInt_ev y hby (by omega)
      have gi := iGetInt_ev y hby (by omega)
      generalize getInt y = G at gs gi
      obtain ⟨n, g⟩ := G
      cases g with
      | true =>
        refine ⟨_, Ev.bind hs ?_, Ev.bind hi ?_, val_len t n ⟨#[]⟩ [] p (by simp)⟩
        · simp only [if_pos c2, if_true]
          refine Ev.bind gs ?_
          simp only [if_true]
          exact sVal_ev t n _ [] p (by simp)
        · simp only [if_pos c2, if_true]
          refine Ev.bind gi ?_
          simp only [if_true]
          exact iVal_ev t n _ [] p (by simp)
      | false =>
        refine ⟨noVal, Ev.bind hs ?_, Ev.bind hi ?_, by simp [noVal]⟩
        · simp only [if_pos c2, if_true]
          refine Ev.bind gs ?_
          simp only [Bool.false_eq_true, if_false]
          exact Ev.now _
        · simp only [if_pos c2, if_true]
          refine Ev.bind gi ?_
          simp only [Bool.false_eq_true, if_false]
          exact Ev.now _
    by_cases c4 : t = 4
    · refine ⟨_, Ev.bind hs ?_, Ev.bind hi ?_, val_len t 0 (strOfNums y) [] p (by simp)⟩
      · simp only [if_neg c2, if_pos c4, if_true]
        exact sVal_ev t 0 _ [] p (by simp)
      · simp only [if_neg c2, if_pos c4, if_true]
        exact iVal_ev t 0 _ [] p (by simp)
    by_cases c6 : t = 6
    · obtain ⟨G, gs, gi, hg⟩ := gOb y hby (by omega)
      obtain ⟨o, g⟩ := G
      have hg : o.length ≤ 10 := hg
      cases g with
      | true =>
        refine ⟨_, Ev.bind hs ?_, Ev.bind hi ?_, val_len t 0 ⟨#[]⟩ o p hg⟩
        · simp only [if_neg c2, if_neg c4, if_pos c6, if_true]
          refine Ev.bind gs ?_
          simp only [if_true]
          exact sVal_ev t 0 _ o p (by omega)
        · simp only [if_neg c2, if_neg c4, if_pos c6, if_true]
          refine Ev.bind gi ?_
          simp only [if_true]
          exact iVal_ev t 0 _ o p (by omega)
      | false =>
        refine ⟨noVal, Ev.bind hs ?_, Ev.bind hi ?_, by simp [noVal]⟩
        · simp only [if_neg c2, if_neg c4, if_pos c6, if_true]
          refine Ev.bind gs ?_
          simp only [Bool.false_eq_true, if_false]
          exact Ev.now _
        · simp only [if_neg c2, if_neg c4, if_pos c6, if_true]
          refine Ev.bind gi ?_
          simp only [Bool.false_eq_true, if_false]
          exact Ev.now _
    by_cases c0 : (y.length : Int) = 0
    · refine ⟨_, Ev.bind hs ?_, Ev.bind hi ?_, val_len t 0 ⟨#[]⟩ [] p (by simp)⟩
      · simp only [if_neg c2, if_neg c4, if_neg c6, if_true, if_pos c0]
        exact sVal_ev t 0 _ [] p (by simp)
      · simp only [if_neg c2, if_neg c4, if_neg c6, if_true, if_pos c0]
        exact iVal_ev t 0 _ [] p (by simp)
    · refine ⟨noVal, Ev.bind hs ?_, Ev.bind hi ?_, by simp [noVal]⟩
      · simp only [if_neg c2, if_neg c4, if_neg c6, if_true, if_neg c0]
        exact Ev.now _
      · simp only [if_neg c2, if_neg c4, if_neg c6, if_true, if_neg c0]
        exact Ev.now _
theorem markVal_ev (a b : Int) (s : ByteArray) (l : List Int) (m : Int) (h0 : 0 ≤ m) (h1 : m ≤ 1099511627776) (h : l.length ≤ 1099511627776) : Ev (fun k => laws_markVal.f k a b s l m) (m + l.length, marksInt m l.length) := by
  unfold laws_markVal.f
  refine Ev.bind (markIntS_ev l m h0 h1 h) ?_
  exact Ev.now _
theorem heldVal_ev (a b : Int) (s : ByteArray) (m : Int) (d : Nat) (h0 : 0 ≤ m) (h1 : m ≤ 1099511627776) (h : d ≤ 1099511627776) : Ev (fun k => laws_heldVal.f k a b s (marksInt m d) m) (m + d) := by
  unfold laws_heldVal.f
  refine Ev.bind (heldIntS_ev m d h0 h1 h) ?_
  simp only [if_neg (show ¬ m + (d : Int) < 0 by omega)]
  exact Ev.now _
theorem FnExactGetVal : laws_FnExactGetVal.Pure := by
  intro l0 a1 _ hw ha
  refine Ev.rounds ?_
  unfold laws_FnExactGetVal.f
  by_cases bl0 : (l0.length : Int) > 1048576
  · simp only [if_pos bl0]; exact Ev.now _
  simp only [if_neg bl0]
  have hb : ∀ y ∈ l0, 0 ≤ y ∧ y ≤ 255 := fun y hy => wf8 (hw y hy)
  obtain ⟨R, hs, hi, hl⟩ := gVb l0 a1 hb (by omega) (wf64 ha)
  obtain ⟨t, n, s, o, p, q⟩ := R
  have hl : o.length ≤ 10 := hl
  have hneg : ¬ ((1 : Int) + (o.length : Int) < 0) := by omega
  have hneg2 : ¬ ((1 : Int) + (l0.length : Int) < 0) := by omega
  repeat' first
    | exact Ev.now _
    | (with_reducible refine Ev.bind hs ?_)
    | (with_reducible refine Ev.bind hi ?_)
    | ((with_reducible refine Ev.bind (toByteS_ev _ ?s0) ?_); (case s0 => omega))
    | ((with_reducible refine Ev.bind (eqByteS_ev _ _ ?s0) ?_); (case s0 => omega))
    | ((with_reducible refine Ev.bind (eqVal_ev _ _ _ _ ?s0) ?_); (case s0 => omega))
    | ((with_reducible refine Ev.bind (markByteS_ev _ _ ?s0 ?s1 ?s2) ?_); (case s0 => omega); (case s1 => omega); (case s2 => omega))
    | ((with_reducible refine Ev.bind (markVal_ev _ _ _ _ _ ?s0 ?s1 ?s2) ?_); (case s0 => omega); (case s1 => omega); (case s2 => omega))
    | ((with_reducible refine Ev.bind (heldVal_ev _ _ _ _ _ ?s0 ?s1 ?s2) ?_); (case s0 => omega); (case s1 => omega); (case s2 => omega))
    | simp only [bne_self_eq_false, Bool.false_eq_true, Bool.not_true, Bool.not_false, decide_true, Option.bind_some, ↓reduceIte, if_neg hneg, if_neg hneg2]
    | (refine Ev.succ ?_; simp only [laws_FnExactGetVal.j0])
    | (refine Ev.succ ?_; simp only [laws_FnExactGetVal.j1])
    | (refine Ev.succ ?_; simp only [laws_FnExactGetVal.j2])
end Go.Proofs.Ythhnfmbfgplelaa.Pure
