/- The pure side of FnExactGetOid: the program's GetOid and the reference's agree at all arguments. No conditions but those of the given statement. -/
import Derived.Test.YtndfokcnogpeiaaXFnExactGetOidx4
namespace Go.Proofs.Ytndfokcnogpeiaa.Pure
open Go.RowKit Go.Proofs.Ytndfokcnogpeiaa.XFnExactGetOid Go.Proofs.YtndfokcnogpeiaaW.PrintWords Go.Proofs.YtndfokcnogpeiaaW.PrintLast Go.Proofs.YtndfokcnogpeiaaW.PrintMore
set_option linter.unusedVariables false
set_option linter.unusedSimpArgs false

theorem w64 {x : Int} (h0 : -9223372036854775808 ≤ x) (h1 : x ≤ 9223372036854775807) : wrap64 x = x := by
  unfold wrap64
  omega
theorem wf64 {x : Int} (h : (Lit.int .i64 x).wf = true) : -9223372036854775808 ≤ x ∧ x ≤ 9223372036854775807 := by
  simp only [Lit.wf, Bool.and_eq_true, decide_eq_true_eq] at h
  exact h
theorem wf8 {x : Int} (h : (Lit.int .u8 x).wf = true) : 0 ≤ x ∧ x ≤ 255 := by
  simp only [Lit.wf, Bool.and_eq_true, decide_eq_true_eq] at h
  exact h
theorem rd_mid (pre rest : List Int) (r : Int) : rd (pre ++ r :: rest) (pre.length : Int) = r := by
  unfold rd
  simp [List.getD_eq_getElem?_getD]
theorem set_mid {α : Type} (pre rest : List α) (r v : α) : (pre ++ r :: rest).set (pre.length : Int).toNat v = pre ++ v :: rest := by
  rw [Int.toNat_natCast, List.set_append_right _ _ (Nat.le_refl _)]
  simp
theorem succ_of {d k : Nat} (h : d < k) : ∃ m, k = m + 1 := ⟨k - 1, by omega⟩
theorem Ev.at_ {α : Type} {g : Nat → Option α} {r : α} (n : Nat) (h : ∀ k, n < k → g k = some r) : Ev g r := ⟨n + 1, fun k hk => h k (by omega)⟩
theorem Ev.some_ {α : Type} {v : Option α} {r : α} (h : v = some r) : Ev (fun _ => v) r := ⟨0, fun _ _ => h⟩
theorem Ev.succ {α : Type} {g : Nat → Option α} {r : α} (h : Ev (fun k => g (k + 1)) r) : Ev g r := by
  obtain ⟨K, h⟩ := h
  refine ⟨K + 1, fun n hn => ?_⟩
  obtain ⟨m, rfl⟩ : ∃ m, n = m + 1 := ⟨n - 1, by omega⟩
  exact h m (by omega)
theorem Ev.some_const {α : Type} {g : Nat → Option α} {r : α} (h : ∀ k, g k = some r) : Ev g r := ⟨0, fun k _ => h k⟩

theorem l1In_eq (a b c : Int) : spec_l1In.f a b c = some (decide (b ≤ a ∧ a ≤ c)) := by
  unfold spec_l1In.f
  by_cases h : b ≤ a
  · rw [if_pos h]; simp [h]
  · rw [if_neg h]; simp [h]

theorem in_eq (a b c : Int) : impl_in.f a b c = some (decide (b ≤ a ∧ a ≤ c)) := by
  unfold impl_in.f
  by_cases h : b ≤ a
  · rw [if_pos h]; simp [h]
  · rw [if_neg h]; simp [h]

theorem toByteS_loop (rest : List Int) : ∀ (pre : List Int) (k : Nat), pre.length + rest.length ≤ 1099511627776 → rest.length < k →
    laws_toByteS.l0 k (pre ++ rest) (pre ++ List.replicate rest.length 0) (pre.length : Int) = some (pre ++ rest) := by
  induction rest with
  | nil =>
    intro pre k _ hk
    obtain ⟨k, rfl⟩ := succ_of hk
    simp only [laws_toByteS.l0]
    rw [if_neg (by simp only [List.length_append, List.length_nil]; omega)]
    simp
  | cons r rest ih =>
    intro pre k hn hk
    obtain ⟨k, rfl⟩ := succ_of hk
    simp only [List.length_cons] at hn hk
    simp only [laws_toByteS.l0]
    rw [if_pos (by simp only [List.length_append, List.length_cons]; omega), if_pos (by omega), if_pos (by simp only [List.length_append, List.length_cons, List.length_replicate]; omega), rd_mid, List.length_cons, List.replicate_succ, set_mid, w64 (by omega) (by omega)]
    have h := ih (pre ++ [r]) k (by simp only [List.length_append, List.length_cons, List.length_nil]; omega) (by omega)
    simpa using h
theorem toByteS_ev (xs : List Int) (h : xs.length ≤ 1048576) : Ev (fun k => laws_toByteS.f k xs) xs := by
  refine Ev.at_ xs.length fun k hk => ?_
  simp only [laws_toByteS.f]
  rw [if_pos (by omega), if_pos (by omega)]
  have h := toByteS_loop xs [] k (by simp only [List.length_nil]; omega) hk
  simpa using h

theorem eqByteS_loop (a : List Int) : ∀ (b pre pre' : List Int) (k : Nat), pre.length = pre'.length → a.length = b.length → pre.length + a.length ≤ 1099511627776 → a.length < k →
    laws_eqByteS.l0 k (pre ++ a) (pre' ++ b) (pre.length : Int) = some (decide (a = b)) := by
  induction a with
  | nil =>
    intro b pre pre' k hp hab hn hk
    obtain ⟨k, rfl⟩ := succ_of hk
    obtain rfl : b = [] := List.eq_nil_of_length_eq_zero hab.symm
    simp only [laws_eqByteS.l0]
    rw [if_neg (by simp only [List.length_append, List.length_nil] at *; omega)]
    simp
  | cons r a ih =>
    intro b pre pre' k hp hab hn hk
    obtain ⟨k, rfl⟩ := succ_of hk
    cases b with
    | nil => simp at hab
    | cons s b =>
      simp only [List.length_cons] at hab hn hk
      simp only [laws_eqByteS.l0]
      have e : rd (pre' ++ s :: b) (pre.length : Int) = s := by rw [hp, rd_mid]
      rw [if_pos (by simp only [List.length_append, List.length_cons]; omega), if_pos (by omega), if_pos (by simp only [List.length_append, List.length_cons]; omega), rd_mid, e]
      by_cases hrs : r = s
      · subst hrs
        rw [if_pos rfl, w64 (by omega) (by omega)]
        have h := ih b (pre ++ [r]) (pre' ++ [r]) k (by simp [hp]) (by omega) (by simp only [List.length_append, List.length_cons, List.length_nil]; omega) (by omega)
        simpa using h
      · rw [if_neg hrs]
        simp [hrs]
theorem eqByteS_ev (a b : List Int) (h : a.length ≤ 1099511627776) : Ev (fun k => laws_eqByteS.f k a b) (decide (a = b)) := by
  refine Ev.at_ a.length fun k hk => ?_
  simp only [laws_eqByteS.f]
  by_cases e : a.length = b.length
  · rw [if_pos (by omega)]
    have h := eqByteS_loop a b [] [] k rfl e (by simp only [List.length_nil]; omega) hk
    simpa using h
  · rw [if_neg (by omega)]
    have hne : ¬ a = b := fun h => e (by rw [h])
    simp [hne]

theorem eqIntS_loop (a : List Int) : ∀ (b pre pre' : List Int) (k : Nat), pre.length = pre'.length → a.length = b.length → pre.length + a.length ≤ 1099511627776 → a.length < k →
    laws_eqIntS.l0 k (pre ++ a) (pre' ++ b) (pre.length : Int) = some (decide (a = b)) := by
  induction a with
  | nil =>
    intro b pre pre' k hp hab hn hk
    obtain ⟨k, rfl⟩ := succ_of hk
    obtain rfl : b = [] := List.eq_nil_of_length_eq_zero hab.symm
    simp only [laws_eqIntS.l0]
    rw [if_neg (by simp only [List.length_append, List.length_nil] at *; omega)]
    simp
  | cons r a ih =>
    intro b pre pre' k hp hab hn hk
    obtain ⟨k, rfl⟩ := succ_of hk
    cases b with
    | nil => simp at hab
    | cons s b =>
      simp only [List.length_cons] at hab hn hk
      simp only [laws_eqIntS.l0]
      have e : rd (pre' ++ s :: b) (pre.length : Int) = s := by rw [hp, rd_mid]
      rw [if_pos (by simp only [List.length_append, List.length_cons]; omega), if_pos (by omega), if_pos (by simp only [List.length_append, List.length_cons]; omega), rd_mid, e]
      by_cases hrs : r = s
      · subst hrs
        rw [if_pos rfl, w64 (by omega) (by omega)]
        have h := ih b (pre ++ [r]) (pre' ++ [r]) k (by simp [hp]) (by omega) (by simp only [List.length_append, List.length_cons, List.length_nil]; omega) (by omega)
        simpa using h
      · rw [if_neg hrs]
        simp [hrs]
theorem eqIntS_ev (a b : List Int) (h : a.length ≤ 1099511627776) : Ev (fun k => laws_eqIntS.f k a b) (decide (a = b)) := by
  refine Ev.at_ a.length fun k hk => ?_
  simp only [laws_eqIntS.f]
  by_cases e : a.length = b.length
  · rw [if_pos (by omega)]
    have h := eqIntS_loop a b [] [] k rfl e (by simp only [List.length_nil]; omega) hk
    simpa using h
  · rw [if_neg (by omega)]
    have hne : ¬ a = b := fun h => e (by rw [h])
    simp [hne]

def marksByte : Int → Nat → List Int
  | _, 0 => []
  | m, d + 1 => (m % 256) :: marksByte (m + 1) d
theorem marksByte_length (m : Int) (d : Nat) : (marksByte m d).length = d := by
  induction d generalizing m with
  | zero => rfl
  | succ d ih => simp [marksByte, ih]
theorem markByteS_loop (rest : List Int) : ∀ (pre : List Int) (m : Int) (k : Nat), 0 ≤ m → m ≤ 1152921504606846976 - rest.length → pre.length + rest.length ≤ 1099511627776 → rest.length < k →
    laws_markByteS.l0 k (pre ++ rest) m (pre.length : Int) = some (m + rest.length, pre ++ marksByte m rest.length) := by
  induction rest with
  | nil =>
    intro pre m k _ _ _ hk
    obtain ⟨k, rfl⟩ := succ_of hk
    simp only [laws_markByteS.l0]
    rw [if_neg (by simp only [List.length_append, List.length_nil]; omega)]
    simp [marksByte]
  | cons r rest ih =>
    intro pre m k h0 h1 hn hk
    obtain ⟨k, rfl⟩ := succ_of hk
    simp only [List.length_cons] at h1 hn hk
    simp only [laws_markByteS.l0]
    rw [if_pos (by simp only [List.length_append, List.length_cons]; omega), if_pos (by omega), set_mid, w64 (x := m + 1) (by omega) (by omega), w64 (by omega) (by omega)]
    have h := ih (pre ++ [m % 256]) (m + 1) k (by omega) (by omega) (by simp only [List.length_append, List.length_cons, List.length_nil]; omega) (by omega)
    simp only [List.length_append, List.length_cons, List.length_nil, List.append_assoc, List.cons_append, List.nil_append] at h
    simp only [marksByte, List.length_cons]
    rw [show (pre.length : Int) + 1 = ((pre.length + (0 + 1) : Nat) : Int) from by omega, h]
    congr 2
    omega
theorem markByteS_ev (xs : List Int) (m : Int) (h0 : 0 ≤ m) (h1 : m ≤ 1099511627776) (h : xs.length ≤ 1099511627776) : Ev (fun k => laws_markByteS.f k xs m) (m + xs.length, marksByte m xs.length) := by
  refine Ev.at_ xs.length fun k hk => ?_
  simp only [laws_markByteS.f]
  have h := markByteS_loop xs [] m k h0 (by omega) (by simp only [List.length_nil]; omega) hk
  simpa using h

def marksInt : Int → Nat → List Int
  | _, 0 => []
  | m, d + 1 => (m) :: marksInt (m + 1) d
theorem marksInt_length (m : Int) (d : Nat) : (marksInt m d).length = d := by
  induction d generalizing m with
  | zero => rfl
  | succ d ih => simp [marksInt, ih]
theorem markIntS_loop (rest : List Int) : ∀ (pre : List Int) (m : Int) (k : Nat), 0 ≤ m → m ≤ 1152921504606846976 - rest.length → pre.length + rest.length ≤ 1099511627776 → rest.length < k →
    laws_markIntS.l0 k (pre ++ rest) m (pre.length : Int) = some (m + rest.length, pre ++ marksInt m rest.length) := by
  induction rest with
  | nil =>
    intro pre m k _ _ _ hk
    obtain ⟨k, rfl⟩ := succ_of hk
    simp only [laws_markIntS.l0]
    rw [if_neg (by simp only [List.length_append, List.length_nil]; omega)]
    simp [marksInt]
  | cons r rest ih =>
    intro pre m k h0 h1 hn hk
    obtain ⟨k, rfl⟩ := succ_of hk
    simp only [List.length_cons] at h1 hn hk
    simp only [laws_markIntS.l0]
    rw [if_pos (by simp only [List.length_append, List.length_cons]; omega), if_pos (by omega), set_mid, w64 (x := m + 1) (by omega) (by omega), w64 (by omega) (by omega)]
    have h := ih (pre ++ [m]) (m + 1) k (by omega) (by omega) (by simp only [List.length_append, List.length_cons, List.length_nil]; omega) (by omega)
    simp only [List.length_append, List.length_cons, List.length_nil, List.append_assoc, List.cons_append, List.nil_append] at h
    simp only [marksInt, List.length_cons]
    rw [show (pre.length : Int) + 1 = ((pre.length + (0 + 1) : Nat) : Int) from by omega, h]
    congr 2
    omega
theorem markIntS_ev (xs : List Int) (m : Int) (h0 : 0 ≤ m) (h1 : m ≤ 1099511627776) (h : xs.length ≤ 1099511627776) : Ev (fun k => laws_markIntS.f k xs m) (m + xs.length, marksInt m xs.length) := by
  refine Ev.at_ xs.length fun k hk => ?_
  simp only [laws_markIntS.f]
  have h := markIntS_loop xs [] m k h0 (by omega) (by simp only [List.length_nil]; omega) hk
  simpa using h
theorem heldIntS_loop (d : Nat) : ∀ (pre : List Int) (m : Int) (k : Nat), 0 ≤ m → m ≤ 1152921504606846976 - d → pre.length + d ≤ 1099511627776 → d < k →
    laws_heldIntS.l0 k (pre ++ marksInt m d) m (pre.length : Int) = some (m + d) := by
  induction d with
  | zero =>
    intro pre m k _ _ _ hk
    obtain ⟨k, rfl⟩ := succ_of hk
    simp only [marksInt]
    simp only [laws_heldIntS.l0]
    rw [if_neg (by simp only [List.length_append, List.length_nil]; omega)]
    simp
  | succ d ih =>
    intro pre m k h0 h1 hn hk
    obtain ⟨k, rfl⟩ := succ_of hk
    simp only [marksInt]
    simp only [laws_heldIntS.l0]
    rw [if_pos (by simp only [List.length_append, List.length_cons]; omega), if_pos (by omega), rd_mid, if_pos rfl, w64 (x := m + 1) (by omega) (by omega), w64 (by omega) (by omega)]
    have h := ih (pre ++ [m]) (m + 1) k (by omega) (by omega) (by simp only [List.length_append, List.length_cons, List.length_nil]; omega) (by omega)
    simp only [List.length_append, List.length_cons, List.length_nil, List.append_assoc, List.cons_append, List.nil_append] at h
    rw [show (pre.length : Int) + 1 = ((pre.length + (0 + 1) : Nat) : Int) from by omega, h]
    congr 1
    omega
theorem heldIntS_ev (m : Int) (d : Nat) (h0 : 0 ≤ m) (h1 : m ≤ 1099511627776) (h : d ≤ 1099511627776) : Ev (fun k => laws_heldIntS.f k (marksInt m d) m) (m + d) := by
  refine Ev.at_ d fun k hk => ?_
  simp only [laws_heldIntS.f]
  have h := heldIntS_loop d [] m k h0 (by omega) (by simp only [List.length_nil]; omega) hk
  simpa using h

def oidNums (xs : List Int) : Bool := xs.all fun n => decide (0 ≤ n ∧ n ≤ 100000)
def oidOk (xs : List Int) : Bool := oidNums xs && decide (1 ≤ (xs.length : Int) ∧ (xs.length : Int) ≤ 10)

theorem sOidOk_loop (rest : List Int) : ∀ (pre : List Int) (k : Nat), pre.length + rest.length ≤ 1099511627776 → rest.length < k →
    spec_OidOk.l0 k (pre ++ rest) (pre.length : Int) = some (oidNums rest && decide (1 ≤ ((pre ++ rest).length : Int) ∧ ((pre ++ rest).length : Int) ≤ 10)) := by
  induction rest with
  | nil =>
    intro pre k _ hk
    obtain ⟨k, rfl⟩ := succ_of hk
    simp only [spec_OidOk.l0]
    rw [if_neg (by simp only [List.length_append, List.length_nil]; omega), l1In_eq]
    simp [oidNums]
  | cons r rest ih =>
    intro pre k hn hk
    obtain ⟨k, rfl⟩ := succ_of hk
    simp only [List.length_cons] at hn hk
    simp only [spec_OidOk.l0]
    rw [if_pos (by simp only [List.length_append, List.length_cons]; omega), if_pos (by omega), rd_mid, l1In_eq, w64 (by omega) (by omega)]
    simp only [Option.bind_some]
    by_cases h : 0 ≤ r ∧ r ≤ 100000
    · rw [if_pos (by simpa using h)]
      have e := ih (pre ++ [r]) k (by simp only [List.length_append, List.length_cons, List.length_nil]; omega) (by omega)
      simp only [List.append_assoc, List.cons_append, List.nil_append] at e
      rw [show (pre.length : Int) + 1 = ((pre ++ [r]).length : Int) from by simp, e]
      simp [oidNums, h]
    · rw [if_neg (by simpa using h)]
      simp only [oidNums, List.all_cons, decide_eq_false h, Bool.false_and]
theorem sOidOk_ev (xs : List Int) (h : xs.length ≤ 1099511627776) : Ev (fun k => spec_OidOk.f k xs) (oidOk xs) := by
  refine Ev.at_ xs.length fun k hk => ?_
  simp only [spec_OidOk.f]
  have e := sOidOk_loop xs [] k (by simp only [List.length_nil]; omega) hk
  simpa [oidOk] using e

theorem iOidOk_loop (rest : List Int) : ∀ (pre all : List Int) (m : Int) (k : Nat), m = (pre.length : Int) + rest.length → pre.length + rest.length ≤ 1099511627776 → rest.length < k →
    impl_OidOk.l0 k all (pre ++ rest) m (pre.length : Int) = some (oidNums rest && decide (1 ≤ (all.length : Int) ∧ (all.length : Int) ≤ 10)) := by
  induction rest with
  | nil =>
    intro pre all m k hm _ hk
    obtain ⟨k, rfl⟩ := succ_of hk
    simp only [List.length_nil] at hm
    simp only [impl_OidOk.l0]
    rw [if_neg (by omega), in_eq]
    simp [oidNums]
  | cons r rest ih =>
    intro pre all m k hm hn hk
    obtain ⟨k, rfl⟩ := succ_of hk
    simp only [List.length_cons] at hm hn hk
    simp only [impl_OidOk.l0]
    rw [if_pos (by omega), if_pos (by omega), if_pos (by simp only [List.length_append, List.length_cons]; omega), rd_mid, in_eq, w64 (by omega) (by omega)]
    simp only [Option.bind_some]
    by_cases h : 0 ≤ r ∧ r ≤ 100000
    · rw [if_pos (by simpa using h)]
      have e := ih (pre ++ [r]) all m k (by simp only [List.length_append, List.length_cons, List.length_nil]; omega) (by simp only [List.length_append, List.length_cons, List.length_nil]; omega) (by omega)
      simp only [List.append_assoc, List.cons_append, List.nil_append] at e
      rw [show (pre.length : Int) + 1 = ((pre ++ [r]).length : Int) from by simp, e]
      simp [oidNums, h]
    · rw [if_neg (by simpa using h)]
      simp only [oidNums, List.all_cons, decide_eq_false h, Bool.false_and]
theorem iOidOk_ev (xs : List Int) (h : xs.length ≤ 1099511627776) : Ev (fun k => impl_OidOk.f k xs) (oidOk xs) := by
  refine Ev.at_ xs.length fun k hk => ?_
  simp only [impl_OidOk.f]
  have e := iOidOk_loop xs [] xs (xs.length : Int) k (by simp) (by simp only [List.length_nil]; omega) hk
  simpa [oidOk] using e

theorem wraps_i64 (n : Int) (h0 : 0 ≤ n) (h1 : n < 2 ^ 63) : IntKind.i64.wrap n = n := by rw [IntKind.wrap_i64]; omega
theorem and127 (x : Int) (h0 : 0 ≤ x) (h1 : x < 9223372036854775808) : Go.bits .and .i64 x 127 = x % 128 :=
  Go.bits_mask .i64 63 (by decide) wraps_i64 7 (by decide) x h0 h1
theorem or128 (y : Int) (h0 : 0 ≤ y) (h1 : y < 128) : Go.bits .or .i64 y 128 = y + 128 := by
  obtain ⟨b, rfl⟩ := Int.eq_ofNat_of_zero_le h0
  have hb : b < 2 ^ 7 := by omega
  have e := (Go.bits_nat .i64 63 (by decide) wraps_i64 b 128 (by omega) (by decide)).2
  rw [show (128 : Int) = ((128 : Nat) : Int) from rfl, e, Nat.or_comm]
  have h := Nat.two_pow_add_eq_or_of_lt hb 1
  rw [show (2 : Nat) ^ 7 * 1 = 128 from rfl] at h
  rw [← h]
  omega
def group (n : Int) : List Int :=
  if n ≤ 127 then [n] else if n ≤ 16383 then [n / 128 + 128, n % 128] else [n / 16384 + 128, n / 128 % 128 + 128, n % 128]
theorem group_len (n : Int) : 1 ≤ (group n).length ∧ (group n).length ≤ 3 := by
  unfold group
  split
  · simp
  · split <;> simp
def putOid (o : List Int) : List Int := if oidOk o = true then o.flatMap group else []
theorem flat_len (o : List Int) : (o.flatMap group).length ≤ 3 * o.length := by
  induction o with
  | nil => simp
  | cons n o ih =>
    have := group_len n
    simp only [List.flatMap_cons, List.length_append, List.length_cons]
    omega
theorem putOid_len (o : List Int) : (putOid o).length ≤ 30 := by
  unfold putOid
  split
  · rename_i h
    have h1 := flat_len o
    simp only [oidOk, Bool.and_eq_true, decide_eq_true_eq] at h
    omega
  · simp
theorem oidNums_cons (n : Int) (o : List Int) (h : oidNums (n :: o) = true) : (0 ≤ n ∧ n ≤ 100000) ∧ oidNums o = true := by
  simp only [oidNums, List.all_cons, Bool.and_eq_true, decide_eq_true_eq] at h
  exact h

theorem shr7 (n : Int) : shr .i64 n 7 = n / 128 := rfl
theorem shr14 (n : Int) : shr .i64 n 14 = n / 16384 := rfl
theorem shrz (n : Int) : shr .i64 n 0 = n := by
  show n / 1 = n
  omega
theorem iGroup_ev (n : Int) (h0 : 0 ≤ n) (h1 : n ≤ 100000) (out xs : List Int) (m i : Int) (r : List Int) (ho : out.length ≤ 100000000) (h : Ev (fun k => impl_PutOid.l0 k (out ++ group n) xs m (wrap64 (i + 1))) r) :
    Ev (fun k => impl_PutOid.l1 k out n 0 xs m i) r := by
  have a0 : wrap64 (7 * 0) = 0 := by decide +kernel
  have a1 : wrap64 (7 * 1) = 7 := by decide +kernel
  have a2 : wrap64 (7 * 2) = 14 := by decide +kernel
  have b1 : wrap64 (0 + 1) = 1 := by decide +kernel
  have b2 : wrap64 (1 + 1) = 2 := by decide +kernel
  have d1 : wrap64 (1 - 1) = 0 := by decide +kernel
  have d2 : wrap64 (2 - 1) = 1 := by decide +kernel
  have z : (0 : Int) ≤ 0 := by decide
  have z7 : (0 : Int) ≤ 7 := by decide
  have z14 : (0 : Int) ≤ 14 := by decide
  unfold group at h
  refine Ev.succ ?_
  simp only [impl_PutOid.l1]
  simp only [a0, shrz, if_pos z, b1]
  by_cases c1 : n ≤ 127
  · simp only [if_neg (show ¬ n > 127 by omega)]
    simp only [if_pos c1] at h
    refine Ev.succ ?_
    simp only [impl_PutOid.l2]
    simp only [if_neg (show ¬ (0 : Int) > 0 by omega), if_pos (show out.length < 140737488355328 by omega), and127 n h0 (by omega), show n % 128 % 256 = n by omega]
    exact h
  · simp only [if_pos (show n > 127 by omega)]
    simp only [if_neg c1] at h
    refine Ev.succ ?_
    simp only [impl_PutOid.l1]
    simp only [a1, shr7, if_pos z7, b2]
    by_cases c2 : n ≤ 16383
    · simp only [if_neg (show ¬ n / 128 > 127 by omega)]
      simp only [if_pos c2] at h
      refine Ev.succ ?_
      simp only [impl_PutOid.l2]
      simp only [if_pos (show (1 : Int) > 0 by omega), a1, if_pos z7, shr7, if_pos (show out.length < 140737488355328 by omega), d1, and127 (n / 128) (by omega) (by omega)]
      rw [w64 (by omega) (by omega), show (n / 128 % 128 + 128) % 256 = n / 128 + 128 by omega]
      refine Ev.succ ?_
      simp only [impl_PutOid.l2]
      simp only [if_neg (show ¬ (0 : Int) > 0 by omega), List.length_append, List.length_cons, List.length_nil, if_pos (show out.length + (0 + 1) < 140737488355328 by omega), and127 n h0 (by omega), show n % 128 % 256 = n % 128 by omega, List.append_assoc, List.cons_append, List.nil_append]
      exact h
    · simp only [if_pos (show n / 128 > 127 by omega)]
      simp only [if_neg c2] at h
      refine Ev.succ ?_
      simp only [impl_PutOid.l1]
      simp only [a2, shr14, if_pos z14, if_neg (show ¬ n / 16384 > 127 by omega)]
      refine Ev.succ ?_
      simp only [impl_PutOid.l2]
      simp only [if_pos (show (2 : Int) > 0 by omega), a2, if_pos z14, shr14, if_pos (show out.length < 140737488355328 by omega), d2, and127 (n / 16384) (by omega) (by omega)]
      rw [w64 (by omega) (by omega), show (n / 16384 % 128 + 128) % 256 = n / 16384 + 128 by omega]
      refine Ev.succ ?_
      simp only [impl_PutOid.l2]
      simp only [if_pos (show (1 : Int) > 0 by omega), a1, if_pos z7, shr7, List.length_append, List.length_cons, List.length_nil, if_pos (show out.length + (0 + 1) < 140737488355328 by omega), d1, and127 (n / 128) (by omega) (by omega)]
      rw [w64 (by omega) (by omega), show (n / 128 % 128 + 128) % 256 = n / 128 % 128 + 128 by omega]
      refine Ev.succ ?_
      simp only [impl_PutOid.l2]
      simp only [if_neg (show ¬ (0 : Int) > 0 by omega), List.length_append, List.length_cons, List.length_nil, if_pos (show out.length + (0 + 1) + (0 + 1) < 140737488355328 by omega), and127 n h0 (by omega), show n % 128 % 256 = n % 128 by omega, List.append_assoc, List.cons_append, List.nil_append]
      exact h
theorem iPutOid_loop (rest : List Int) : ∀ (pre out : List Int) (m : Int), m = (pre.length : Int) + rest.length → pre.length + rest.length ≤ 1048576 → out.length ≤ 3 * pre.length → oidNums rest = true →
    Ev (fun k => impl_PutOid.l0 k out (pre ++ rest) m (pre.length : Int)) (out ++ rest.flatMap group) := by
  induction rest with
  | nil =>
    intro pre out m hm _ _ _
    simp only [List.length_nil] at hm
    refine Ev.succ ?_
    simp only [impl_PutOid.l0]
    simp only [if_neg (show ¬ (pre.length : Int) < m by omega), List.flatMap_nil, List.append_nil]
    exact Ev.now _
  | cons r rest ih =>
    intro pre out m hm hn ho hw
    simp only [List.length_cons] at hm hn
    obtain ⟨hr, hw⟩ := oidNums_cons r rest hw
    have hg := group_len r
    have h := ih (pre ++ [r]) (out ++ group r) m (by simp only [List.length_append, List.length_cons, List.length_nil]; omega) (by simp only [List.length_append, List.length_cons, List.length_nil]; omega) (by simp only [List.length_append, List.length_cons, List.length_nil]; omega) hw
    simp only [List.append_assoc, List.cons_append, List.nil_append] at h
    rw [show ((pre ++ [r]).length : Int) = (pre.length : Int) + 1 by simp] at h
    refine Ev.succ ?_
    simp only [impl_PutOid.l0]
    simp only [if_pos (show (pre.length : Int) < m by omega), if_pos (show (0 : Int) ≤ (pre.length : Int) by omega), if_pos (show (pre.length : Int) < ((pre ++ r :: rest).length : Int) by simp only [List.length_append, List.length_cons]; omega), rd_mid]
    refine iGroup_ev r hr.1 hr.2 out _ m _ _ (by omega) ?_
    rw [w64 (by omega) (by omega), List.flatMap_cons]
    exact h
theorem iPutOid_ev (o : List Int) (h : o.length ≤ 1048576) : Ev (fun k => impl_PutOid.f k o) (putOid o) := by
  unfold impl_PutOid.f putOid
  refine Ev.bind (iOidOk_ev o (by omega)) ?_
  by_cases c : oidOk o = true
  · simp only [if_pos c]
    have c' := c
    simp only [oidOk, Bool.and_eq_true] at c'
    have e := iPutOid_loop o [] [] (o.length : Int) (by simp) (by simp only [List.length_nil]; omega) (by simp) c'.1
    simpa using e
  · simp only [if_neg c]
    exact Ev.now _

theorem strNums_toList (a : List Int) : (strOfNums a).toList = a.map fun n => UInt8.ofNat n.toNat := by
  unfold strOfNums
  exact ByteArray.toList_mk _
theorem byte_inj (a b : Int) (ha : 0 ≤ a ∧ a ≤ 255) (hb : 0 ≤ b ∧ b ≤ 255) (h : UInt8.ofNat a.toNat = UInt8.ofNat b.toNat) : a = b := by
  have e := congrArg UInt8.toNat h
  simp only [UInt8.toNat_ofNat'] at e
  omega
theorem map_byte_inj : ∀ (a b : List Int), (∀ y ∈ a, 0 ≤ y ∧ y ≤ 255) → (∀ y ∈ b, 0 ≤ y ∧ y ≤ 255) → (a.map fun n => UInt8.ofNat n.toNat) = (b.map fun n => UInt8.ofNat n.toNat) → a = b
  | [], [], _, _, _ => rfl
  | [], _ :: _, _, _, h => by simp at h
  | _ :: _, [], _, _, h => by simp at h
  | x :: a, y :: b, ha, hb, h => by
    simp only [List.map_cons, List.cons.injEq] at h
    rw [byte_inj x y (ha x List.mem_cons_self) (hb y List.mem_cons_self) h.1, map_byte_inj a b (fun z hz => ha z (List.mem_cons_of_mem _ hz)) (fun z hz => hb z (List.mem_cons_of_mem _ hz)) h.2]
theorem strNums_inj (a b : List Int) (ha : ∀ y ∈ a, 0 ≤ y ∧ y ≤ 255) (hb : ∀ y ∈ b, 0 ≤ y ∧ y ≤ 255) (h : (strOfNums a).toList = (strOfNums b).toList) : a = b := by
  rw [strNums_toList, strNums_toList] at h
  exact map_byte_inj a b ha hb h

theorem wraps_u8 (n : Int) (h0 : 0 ≤ n) (h1 : n < 2 ^ 8) : IntKind.u8.wrap n = n := by
  simp only [IntKind.wrap, IntKind.bits, IntKind.signed, Bool.false_and]
  simp
  omega
theorem and127b (x : Int) (h0 : 0 ≤ x) (h1 : x ≤ 255) : Go.bits .and .u8 x 127 = x % 128 :=
  Go.bits_mask .u8 8 (by decide) wraps_u8 7 (by decide) x h0 (by omega)
theorem join7 (n b : Int) (h0 : 0 ≤ n) (h1 : n < 4398046511104) (hb : 0 ≤ b) (hb1 : b < 128) : Go.bits .or .i64 (n * 128) b = n * 128 + b :=
  Go.bits_join .i64 63 (by decide) wraps_i64 7 (n * 128) b (by omega) (by omega) (by omega) hb (by omega) (by omega)
def bytes (l : List Int) : Prop := ∀ y ∈ l, 0 ≤ y ∧ y ≤ 255
theorem bytes_cons {b : Int} {l : List Int} (h : bytes (b :: l)) : (0 ≤ b ∧ b ≤ 255) ∧ bytes l :=
  ⟨h b List.mem_cons_self, fun y hy => h y (List.mem_cons_of_mem _ hy)⟩
def group4 (n : Int) : List Int :=
  if n ≤ 127 then [n] else if n ≤ 16383 then [n / 128 + 128, n % 128] else if n ≤ 2097151 then [n / 16384 + 128, n / 128 % 128 + 128, n % 128] else [n / 2097152 + 128, n / 16384 % 128 + 128, n / 128 % 128 + 128, n % 128]
theorem group4_small (n : Int) (h : n ≤ 100000) : group4 n = group n := by
  unfold group4 group
  by_cases c1 : n ≤ 127
  · simp only [if_pos c1]
  · simp only [if_neg c1]
    by_cases c2 : n ≤ 16383
    · simp only [if_pos c2]
    · simp only [if_neg c2, if_pos (show n ≤ 2097151 by omega)]
theorem sGroup4_ev (n : Int) (h0 : 0 ≤ n) (h1 : n < 268435456) : Ev (fun k => spec_l2Group.f k n) (group4 n) := by
  unfold spec_l2Group.f
  simp only [and127 n h0 (by omega), show n % 128 % 256 = n % 128 by omega]
  refine Ev.succ ?_
  simp only [spec_l2Group.l0]
  unfold group4
  by_cases c1 : n ≤ 127
  · simp only [if_neg (show ¬ n > 127 by omega), if_pos c1, show n % 128 = n by omega]
    exact Ev.now _
  · simp only [if_pos (show n > 127 by omega), if_neg c1, Option.bind_some, List.length_cons, List.length_nil, and127 (n / 128) (by omega) (by omega), or128 (n / 128 % 128) (by omega) (by omega), show (n / 128 % 128 + 128) % 256 = n / 128 % 128 + 128 by omega]
    simp only [if_pos (show 0 + 1 + (0 + 1) < 140737488355328 by omega)]
    refine Ev.succ ?_
    simp only [spec_l2Group.l0]
    by_cases c2 : n ≤ 16383
    · simp only [if_neg (show ¬ n / 128 > 127 by omega), if_pos c2, show n / 128 % 128 = n / 128 by omega]
      exact Ev.now _
    · simp only [if_pos (show n / 128 > 127 by omega), if_neg c2, Option.bind_some, List.length_cons, List.length_nil, List.length_append, show n / 128 / 128 = n / 16384 by omega, and127 (n / 16384) (by omega) (by omega), or128 (n / 16384 % 128) (by omega) (by omega), show (n / 16384 % 128 + 128) % 256 = n / 16384 % 128 + 128 by omega]
      simp only [if_pos (show 0 + 1 + (0 + 1 + (0 + 1)) < 140737488355328 by omega)]
      refine Ev.succ ?_
      simp only [spec_l2Group.l0]
      by_cases c3 : n ≤ 2097151
      · simp only [if_neg (show ¬ n / 16384 > 127 by omega), if_pos c3, show n / 16384 % 128 = n / 16384 by omega]
        exact Ev.now _
      · simp only [if_pos (show n / 16384 > 127 by omega), if_neg c3, Option.bind_some, List.length_cons, List.length_nil, List.length_append, show n / 16384 / 128 = n / 2097152 by omega, and127 (n / 2097152) (by omega) (by omega), or128 (n / 2097152 % 128) (by omega) (by omega), show (n / 2097152 % 128 + 128) % 256 = n / 2097152 + 128 by omega]
        simp only [if_pos (show 0 + 1 + (0 + 1 + (0 + 1 + (0 + 1))) < 140737488355328 by omega)]
        refine Ev.succ ?_
        simp only [spec_l2Group.l0]
        simp only [if_neg (show ¬ n / 2097152 > 127 by omega)]
        exact Ev.now _
theorem g4_len (n : Int) : 1 ≤ (group4 n).length := by
  unfold group4
  split
  · simp
  · split
    · simp
    · split <;> simp
theorem so_go (pre rest x4 : List Int) (b n c : Int) (r : List Int × Bool) (hp : pre.length + rest.length ≤ 1048576) (hb : 0 ≤ b ∧ b ≤ 255) (hn : 0 ≤ n ∧ n < 2097152) (hc : 0 ≤ c ∧ c < 4)
    (h : Ev (fun k => spec_GetOid.l1 k ((pre ++ [b]) ++ rest) x4 ((pre ++ [b]).length : Int) (n * 128 + b % 128) (c + 1) (decide (b > 127))) r) :
    Ev (fun k => spec_GetOid.l1 k (pre ++ b :: rest) x4 (pre.length : Int) n c true) r := by
  refine Ev.succ ?_
  simp only [spec_GetOid.l1]
  simp only [if_true, if_pos (show (pre.length : Int) < ((pre ++ b :: rest).length : Int) by simp only [List.length_append, List.length_cons]; omega), if_pos hc.2, if_pos (show (0 : Int) ≤ (pre.length : Int) by omega), rd_mid, and127b b hb.1 hb.2, w64 (x := b % 128) (by omega) (by omega), w64 (x := n * 128) (by omega) (by omega), join7 n (b % 128) hn.1 (by omega) (by omega) (by omega), w64 (x := (pre.length : Int) + 1) (by omega) (by omega), w64 (x := c + 1) (by omega) (by omega)]
  simp only [List.append_assoc, List.cons_append, List.nil_append] at h
  rw [show ((pre ++ [b]).length : Int) = (pre.length : Int) + 1 by simp] at h
  exact h
theorem so_end (pre x4 : List Int) (n c : Int) : Ev (fun k => spec_GetOid.l1 k (pre ++ []) x4 (pre.length : Int) n c true) ([], false) := by
  refine Ev.succ ?_
  simp only [spec_GetOid.l1]
  simp only [if_true, List.append_nil, if_neg (show ¬ (pre.length : Int) < (pre.length : Int) by omega)]
  exact Ev.now _
theorem so_full (l x4 : List Int) (p n : Int) : Ev (fun k => spec_GetOid.l1 k l x4 p n 4 true) ([], false) := by
  refine Ev.succ ?_
  simp only [spec_GetOid.l1]
  simp only [if_true, if_neg (show ¬ (4 : Int) < 4 by omega), ite_self]
  exact Ev.now _
theorem so_out (l x4 : List Int) (p n c : Int) (r : List Int × Bool) (hn : 0 ≤ n ∧ n < 268435456) (h4 : x4.length ≤ 1048576) (hc : ((group4 n).length : Int) = c) (h : Ev (fun k => spec_GetOid.l0 k l (x4 ++ [n]) p) r) :
    Ev (fun k => spec_GetOid.l1 k l x4 p n c false) r := by
  refine Ev.succ ?_
  simp only [spec_GetOid.l1]
  simp only [Bool.false_eq_true, if_false]
  refine Ev.bind (sGroup4_ev n hn.1 hn.2) ?_
  simp only [if_pos hc, if_pos (show x4.length < 17592186044416 by omega)]
  exact h
theorem so_bad (l x4 : List Int) (p n c : Int) (hn : 0 ≤ n ∧ n < 268435456) (hc : ¬ ((group4 n).length : Int) = c) :
    Ev (fun k => spec_GetOid.l1 k l x4 p n c false) ([], false) := by
  refine Ev.succ ?_
  simp only [spec_GetOid.l1]
  simp only [Bool.false_eq_true, if_false]
  refine Ev.bind (sGroup4_ev n hn.1 hn.2) ?_
  simp only [if_neg hc]
  exact Ev.now _
theorem g4_1 (n : Int) (h : n ≤ 127) : group4 n = [n] := by unfold group4; rw [if_pos h]
theorem g4_2 (n : Int) (h0 : 127 < n) (h : n ≤ 16383) : group4 n = [n / 128 + 128, n % 128] := by unfold group4; rw [if_neg (by omega), if_pos h]
theorem g4_3 (n : Int) (h0 : 16383 < n) (h : n ≤ 2097151) : group4 n = [n / 16384 + 128, n / 128 % 128 + 128, n % 128] := by unfold group4; rw [if_neg (by omega), if_neg (by omega), if_pos h]
theorem g4_4 (n : Int) (h0 : 2097151 < n) : group4 n = [n / 2097152 + 128, n / 16384 % 128 + 128, n / 128 % 128 + 128, n % 128] := by unfold group4; rw [if_neg (by omega), if_neg (by omega), if_neg (by omega)]
/- one arc out of what is left: either the bytes are an arc's shortest form and the loop goes on behind them, or the answer is no -/
theorem so_any (rest pre x4 : List Int) (hw : bytes rest) (hl : pre.length + rest.length ≤ 1048576) (h4 : x4.length ≤ 1048576) :
    (∃ n rest', 0 ≤ n ∧ n < 268435456 ∧ rest = group4 n ++ rest' ∧ ∀ r, Ev (fun k => spec_GetOid.l0 k ((pre ++ group4 n) ++ rest') (x4 ++ [n]) ((pre ++ group4 n).length : Int)) r → Ev (fun k => spec_GetOid.l1 k (pre ++ rest) x4 (pre.length : Int) 0 0 true) r) ∨
    Ev (fun k => spec_GetOid.l1 k (pre ++ rest) x4 (pre.length : Int) 0 0 true) ([], false) := by
  rcases rest with _ | ⟨b1, rest⟩
  · exact Or.inr (so_end pre x4 0 0)
  obtain ⟨hb1, hw⟩ := bytes_cons hw
  simp only [List.length_cons] at hl
  by_cases c1 : b1 > 127
  rotate_left
  · left
    refine ⟨b1, rest, hb1.1, by omega, by rw [g4_1 b1 (by omega)]; rfl, fun r h => ?_⟩
    refine so_go pre rest x4 b1 0 0 r (by omega) hb1 (by omega) (by omega) ?_
    rw [decide_eq_false c1, show (0 : Int) * 128 + b1 % 128 = b1 by omega, show (0 : Int) + 1 = 1 by omega]
    rw [g4_1 b1 (by omega)] at h
    exact so_out _ x4 _ b1 1 r (by omega) h4 (by rw [g4_1 b1 (by omega)]; rfl) h
  rcases rest with _ | ⟨b2, rest⟩
  · right
    refine so_go pre [] x4 b1 0 0 _ (by simp only [List.length_nil]; omega) hb1 (by omega) (by omega) ?_
    rw [decide_eq_true c1]
    exact so_end _ x4 _ _
  obtain ⟨hb2, hw⟩ := bytes_cons hw
  simp only [List.length_cons] at hl
  have p1 : (pre ++ [b1]).length = pre.length + 1 := by simp
  by_cases c2 : b2 > 127
  rotate_left
  · by_cases d : (b1 - 128) * 128 + b2 > 127
    · left
      have g := g4_2 ((b1 - 128) * 128 + b2) (by omega) (by omega)
      rw [show ((b1 - 128) * 128 + b2) / 128 + 128 = b1 by omega, show ((b1 - 128) * 128 + b2) % 128 = b2 by omega] at g
      refine ⟨(b1 - 128) * 128 + b2, rest, by omega, by omega, by rw [g]; rfl, fun r h => ?_⟩
      refine so_go pre (b2 :: rest) x4 b1 0 0 r (by simp only [List.length_cons]; omega) hb1 (by omega) (by omega) ?_
      rw [decide_eq_true c1]
      refine so_go (pre ++ [b1]) rest x4 b2 _ _ r (by omega) hb2 (by omega) (by omega) ?_
      rw [decide_eq_false c2, show ((0 : Int) * 128 + b1 % 128) * 128 + b2 % 128 = (b1 - 128) * 128 + b2 by omega, show (0 : Int) + 1 + 1 = 2 by omega]
      rw [g, show pre ++ [b1, b2] = pre ++ [b1] ++ [b2] by simp] at h
      exact so_out _ x4 _ _ 2 r (by omega) h4 (by rw [g]; rfl) h
    · right
      refine so_go pre (b2 :: rest) x4 b1 0 0 _ (by simp only [List.length_cons]; omega) hb1 (by omega) (by omega) ?_
      rw [decide_eq_true c1]
      refine so_go (pre ++ [b1]) rest x4 b2 _ _ _ (by omega) hb2 (by omega) (by omega) ?_
      rw [decide_eq_false c2]
      refine so_bad _ x4 _ _ _ (by omega) ?_
      rw [g4_1 _ (by omega)]
      simp
  rcases rest with _ | ⟨b3, rest⟩
  · right
    refine so_go pre [b2] x4 b1 0 0 _ (by simp only [List.length_cons, List.length_nil]; omega) hb1 (by omega) (by omega) ?_
    rw [decide_eq_true c1]
    refine so_go (pre ++ [b1]) [] x4 b2 _ _ _ (by simp only [List.length_nil]; omega) hb2 (by omega) (by omega) ?_
    rw [decide_eq_true c2]
    exact so_end _ x4 _ _
  obtain ⟨hb3, hw⟩ := bytes_cons hw
  simp only [List.length_cons] at hl
  have p2 : (pre ++ [b1] ++ [b2]).length = pre.length + 2 := by simp
  by_cases c3 : b3 > 127
  rotate_left
  · by_cases d : ((b1 - 128) * 128 + (b2 - 128)) * 128 + b3 > 16383
    · left
      have g := g4_3 (((b1 - 128) * 128 + (b2 - 128)) * 128 + b3) (by omega) (by omega)
      rw [show (((b1 - 128) * 128 + (b2 - 128)) * 128 + b3) / 16384 + 128 = b1 by omega, show (((b1 - 128) * 128 + (b2 - 128)) * 128 + b3) / 128 % 128 + 128 = b2 by omega, show (((b1 - 128) * 128 + (b2 - 128)) * 128 + b3) % 128 = b3 by omega] at g
      refine ⟨((b1 - 128) * 128 + (b2 - 128)) * 128 + b3, rest, by omega, by omega, by rw [g]; rfl, fun r h => ?_⟩
      refine so_go pre (b2 :: b3 :: rest) x4 b1 0 0 r (by simp only [List.length_cons]; omega) hb1 (by omega) (by omega) ?_
      rw [decide_eq_true c1]
      refine so_go (pre ++ [b1]) (b3 :: rest) x4 b2 _ _ r (by simp only [List.length_cons]; omega) hb2 (by omega) (by omega) ?_
      rw [decide_eq_true c2]
      refine so_go (pre ++ [b1] ++ [b2]) rest x4 b3 _ _ r (by omega) hb3 (by omega) (by omega) ?_
      rw [decide_eq_false c3, show (((0 : Int) * 128 + b1 % 128) * 128 + b2 % 128) * 128 + b3 % 128 = ((b1 - 128) * 128 + (b2 - 128)) * 128 + b3 by omega, show (0 : Int) + 1 + 1 + 1 = 3 by omega]
      rw [g, show pre ++ [b1, b2, b3] = pre ++ [b1] ++ [b2] ++ [b3] by simp] at h
      exact so_out _ x4 _ _ 3 r (by omega) h4 (by rw [g]; rfl) h
    · right
      refine so_go pre (b2 :: b3 :: rest) x4 b1 0 0 _ (by simp only [List.length_cons]; omega) hb1 (by omega) (by omega) ?_
      rw [decide_eq_true c1]
      refine so_go (pre ++ [b1]) (b3 :: rest) x4 b2 _ _ _ (by simp only [List.length_cons]; omega) hb2 (by omega) (by omega) ?_
      rw [decide_eq_true c2]
      refine so_go (pre ++ [b1] ++ [b2]) rest x4 b3 _ _ _ (by omega) hb3 (by omega) (by omega) ?_
      rw [decide_eq_false c3]
      refine so_bad _ x4 _ _ _ (by omega) ?_
      by_cases e : (((0 : Int) * 128 + b1 % 128) * 128 + b2 % 128) * 128 + b3 % 128 ≤ 127
      · rw [g4_1 _ e]; simp
      · rw [g4_2 _ (by omega) (by omega)]; simp
  rcases rest with _ | ⟨b4, rest⟩
  · right
    refine so_go pre [b2, b3] x4 b1 0 0 _ (by simp only [List.length_cons, List.length_nil]; omega) hb1 (by omega) (by omega) ?_
    rw [decide_eq_true c1]
    refine so_go (pre ++ [b1]) [b3] x4 b2 _ _ _ (by simp only [List.length_cons, List.length_nil]; omega) hb2 (by omega) (by omega) ?_
    rw [decide_eq_true c2]
    refine so_go (pre ++ [b1] ++ [b2]) [] x4 b3 _ _ _ (by simp only [List.length_nil]; omega) hb3 (by omega) (by omega) ?_
    rw [decide_eq_true c3]
    exact so_end _ x4 _ _
  obtain ⟨hb4, hw⟩ := bytes_cons hw
  simp only [List.length_cons] at hl
  have p3 : (pre ++ [b1] ++ [b2] ++ [b3]).length = pre.length + 3 := by simp
  by_cases c4 : b4 > 127
  rotate_left
  · by_cases d : (((b1 - 128) * 128 + (b2 - 128)) * 128 + (b3 - 128)) * 128 + b4 > 2097151
    · left
      have g := g4_4 ((((b1 - 128) * 128 + (b2 - 128)) * 128 + (b3 - 128)) * 128 + b4) (by omega)
      rw [show ((((b1 - 128) * 128 + (b2 - 128)) * 128 + (b3 - 128)) * 128 + b4) / 2097152 + 128 = b1 by omega, show ((((b1 - 128) * 128 + (b2 - 128)) * 128 + (b3 - 128)) * 128 + b4) / 16384 % 128 + 128 = b2 by omega, show ((((b1 - 128) * 128 + (b2 - 128)) * 128 + (b3 - 128)) * 128 + b4) / 128 % 128 + 128 = b3 by omega, show ((((b1 - 128) * 128 + (b2 - 128)) * 128 + (b3 - 128)) * 128 + b4) % 128 = b4 by omega] at g
      refine ⟨(((b1 - 128) * 128 + (b2 - 128)) * 128 + (b3 - 128)) * 128 + b4, rest, by omega, by omega, by rw [g]; rfl, fun r h => ?_⟩
      refine so_go pre (b2 :: b3 :: b4 :: rest) x4 b1 0 0 r (by simp only [List.length_cons]; omega) hb1 (by omega) (by omega) ?_
      rw [decide_eq_true c1]
      refine so_go (pre ++ [b1]) (b3 :: b4 :: rest) x4 b2 _ _ r (by simp only [List.length_cons]; omega) hb2 (by omega) (by omega) ?_
      rw [decide_eq_true c2]
      refine so_go (pre ++ [b1] ++ [b2]) (b4 :: rest) x4 b3 _ _ r (by simp only [List.length_cons]; omega) hb3 (by omega) (by omega) ?_
      rw [decide_eq_true c3]
      refine so_go (pre ++ [b1] ++ [b2] ++ [b3]) rest x4 b4 _ _ r (by omega) hb4 (by omega) (by omega) ?_
      rw [decide_eq_false c4, show ((((0 : Int) * 128 + b1 % 128) * 128 + b2 % 128) * 128 + b3 % 128) * 128 + b4 % 128 = (((b1 - 128) * 128 + (b2 - 128)) * 128 + (b3 - 128)) * 128 + b4 by omega, show (0 : Int) + 1 + 1 + 1 + 1 = 4 by omega]
      rw [g, show pre ++ [b1, b2, b3, b4] = pre ++ [b1] ++ [b2] ++ [b3] ++ [b4] by simp] at h
      exact so_out _ x4 _ _ 4 r (by omega) h4 (by rw [g]; rfl) h
    · right
      refine so_go pre (b2 :: b3 :: b4 :: rest) x4 b1 0 0 _ (by simp only [List.length_cons]; omega) hb1 (by omega) (by omega) ?_
      rw [decide_eq_true c1]
      refine so_go (pre ++ [b1]) (b3 :: b4 :: rest) x4 b2 _ _ _ (by simp only [List.length_cons]; omega) hb2 (by omega) (by omega) ?_
      rw [decide_eq_true c2]
      refine so_go (pre ++ [b1] ++ [b2]) (b4 :: rest) x4 b3 _ _ _ (by simp only [List.length_cons]; omega) hb3 (by omega) (by omega) ?_
      rw [decide_eq_true c3]
      refine so_go (pre ++ [b1] ++ [b2] ++ [b3]) rest x4 b4 _ _ _ (by omega) hb4 (by omega) (by omega) ?_
      rw [decide_eq_false c4]
      refine so_bad _ x4 _ _ _ (by omega) ?_
      by_cases e : ((((0 : Int) * 128 + b1 % 128) * 128 + b2 % 128) * 128 + b3 % 128) * 128 + b4 % 128 ≤ 127
      · rw [g4_1 _ e]; simp
      · by_cases e2 : ((((0 : Int) * 128 + b1 % 128) * 128 + b2 % 128) * 128 + b3 % 128) * 128 + b4 % 128 ≤ 16383
        · rw [g4_2 _ (by omega) e2]; simp
        · rw [g4_3 _ (by omega) (by omega)]; simp
  · right
    refine so_go pre (b2 :: b3 :: b4 :: rest) x4 b1 0 0 _ (by simp only [List.length_cons]; omega) hb1 (by omega) (by omega) ?_
    rw [decide_eq_true c1]
    refine so_go (pre ++ [b1]) (b3 :: b4 :: rest) x4 b2 _ _ _ (by simp only [List.length_cons]; omega) hb2 (by omega) (by omega) ?_
    rw [decide_eq_true c2]
    refine so_go (pre ++ [b1] ++ [b2]) (b4 :: rest) x4 b3 _ _ _ (by simp only [List.length_cons]; omega) hb3 (by omega) (by omega) ?_
    rw [decide_eq_true c3]
    refine so_go (pre ++ [b1] ++ [b2] ++ [b3]) rest x4 b4 _ _ _ (by omega) hb4 (by omega) (by omega) ?_
    rw [decide_eq_true c4, show (0 : Int) + 1 + 1 + 1 + 1 = 4 by omega]
    exact so_full _ x4 _ _

theorem so_fwd (n : Int) (hn : 0 ≤ n ∧ n ≤ 100000) (pre rest x4 : List Int) (r : List Int × Bool) (hl : pre.length + 3 + rest.length ≤ 1048576) (h4 : x4.length ≤ 1048576)
    (h : Ev (fun k => spec_GetOid.l0 k ((pre ++ group n) ++ rest) (x4 ++ [n]) ((pre ++ group n).length : Int)) r) :
    Ev (fun k => spec_GetOid.l1 k (pre ++ (group n ++ rest)) x4 (pre.length : Int) 0 0 true) r := by
  have p1 (b : Int) : (pre ++ [b]).length = pre.length + 1 := by simp
  have p2 (b c : Int) : (pre ++ [b] ++ [c]).length = pre.length + 2 := by simp
  rw [← group4_small n hn.2] at h ⊢
  by_cases c1 : n ≤ 127
  · rw [g4_1 n c1] at h ⊢
    refine so_go pre rest x4 n 0 0 r (by omega) (by omega) (by omega) (by omega) ?_
    rw [decide_eq_false (show ¬ n > 127 by omega), show (0 : Int) * 128 + n % 128 = n by omega, show (0 : Int) + 1 = 1 by omega]
    exact so_out _ x4 _ n 1 r (by omega) h4 (by rw [g4_1 n c1]; rfl) h
  · by_cases c2 : n ≤ 16383
    · have g := g4_2 n (by omega) c2
      rw [g] at h ⊢
      refine so_go pre (n % 128 :: rest) x4 (n / 128 + 128) 0 0 r (by simp only [List.length_cons]; omega) (by omega) (by omega) (by omega) ?_
      rw [decide_eq_true (show n / 128 + 128 > 127 by omega)]
      refine so_go (pre ++ [n / 128 + 128]) rest x4 (n % 128) _ _ r (by rw [p1]; omega) (by omega) (by omega) (by omega) ?_
      rw [decide_eq_false (show ¬ n % 128 > 127 by omega), show ((0 : Int) * 128 + (n / 128 + 128) % 128) * 128 + n % 128 % 128 = n by omega, show (0 : Int) + 1 + 1 = 2 by omega]
      rw [show pre ++ [n / 128 + 128, n % 128] = pre ++ [n / 128 + 128] ++ [n % 128] by simp] at h
      exact so_out _ x4 _ n 2 r (by omega) h4 (by rw [g]; rfl) h
    · have g := g4_3 n (by omega) (by omega)
      rw [g] at h ⊢
      refine so_go pre ((n / 128 % 128 + 128) :: n % 128 :: rest) x4 (n / 16384 + 128) 0 0 r (by simp only [List.length_cons]; omega) (by omega) (by omega) (by omega) ?_
      rw [decide_eq_true (show n / 16384 + 128 > 127 by omega)]
      refine so_go (pre ++ [n / 16384 + 128]) (n % 128 :: rest) x4 (n / 128 % 128 + 128) _ _ r (by rw [p1]; simp only [List.length_cons]; omega) (by omega) (by omega) (by omega) ?_
      rw [decide_eq_true (show n / 128 % 128 + 128 > 127 by omega)]
      refine so_go (pre ++ [n / 16384 + 128] ++ [n / 128 % 128 + 128]) rest x4 (n % 128) _ _ r (by rw [p2]; omega) (by omega) (by omega) (by omega) ?_
      rw [decide_eq_false (show ¬ n % 128 > 127 by omega), show (((0 : Int) * 128 + (n / 16384 + 128) % 128) * 128 + (n / 128 % 128 + 128) % 128) * 128 + n % 128 % 128 = n by omega, show (0 : Int) + 1 + 1 + 1 = 3 by omega]
      rw [show pre ++ [n / 16384 + 128, n / 128 % 128 + 128, n % 128] = pre ++ [n / 16384 + 128] ++ [n / 128 % 128 + 128] ++ [n % 128] by simp] at h
      exact so_out _ x4 _ n 3 r (by omega) h4 (by rw [g]; rfl) h
theorem so_stop (l x4 : List Int) (hl : l.length ≤ 1048576) (h4 : x4.length ≤ 1048576) : Ev (fun k => spec_GetOid.l0 k l x4 (l.length : Int)) (if oidOk x4 = true then (x4, true) else ([], false)) := by
  refine Ev.succ ?_
  simp only [spec_GetOid.l0]
  simp only [if_neg (show ¬ (l.length : Int) < (l.length : Int) by omega)]
  refine Ev.succ ?_
  simp only [spec_GetOid.j1]
  simp only [Bool.false_eq_true, if_false, if_true]
  refine Ev.bind (sOidOk_ev x4 (by omega)) ?_
  split <;> exact Ev.now _
theorem so_goOn (pre rest x4 : List Int) (r : List Int × Bool) (hr : rest ≠ []) (h4 : x4.length ≤ 10) (h : Ev (fun k => spec_GetOid.l1 k (pre ++ rest) x4 (pre.length : Int) 0 0 true) r) :
    Ev (fun k => spec_GetOid.l0 k (pre ++ rest) x4 (pre.length : Int)) r := by
  have hp : 0 < rest.length := by cases rest with | nil => exact absurd rfl hr | cons _ _ => simp
  refine Ev.succ ?_
  simp only [spec_GetOid.l0]
  simp only [if_pos (show (pre.length : Int) < ((pre ++ rest).length : Int) by simp only [List.length_append]; omega)]
  rw [decide_eq_true (show (x4.length : Int) ≤ 10 by omega)]
  refine Ev.succ ?_
  simp only [spec_GetOid.j1]
  simp only [if_true]
  exact h
theorem so_tooMany (pre rest x4 : List Int) (hr : rest ≠ []) (h4 : ¬ x4.length ≤ 10) : Ev (fun k => spec_GetOid.l0 k (pre ++ rest) x4 (pre.length : Int)) ([], false) := by
  have hp : 0 < rest.length := by cases rest with | nil => exact absurd rfl hr | cons _ _ => simp
  refine Ev.succ ?_
  simp only [spec_GetOid.l0]
  simp only [if_pos (show (pre.length : Int) < ((pre ++ rest).length : Int) by simp only [List.length_append]; omega)]
  rw [decide_eq_false (show ¬ (x4.length : Int) ≤ 10 by omega)]
  refine Ev.succ ?_
  simp only [spec_GetOid.j1]
  simp only [Bool.false_eq_true, if_false, if_neg (show ¬ (pre.length : Int) = ((pre ++ rest).length : Int) by simp only [List.length_append]; omega)]
  exact Ev.now _
theorem group_ne (n : Int) (l : List Int) : group n ++ l ≠ [] := by
  have := group_len n
  intro h
  have := congrArg List.length h
  simp only [List.length_append, List.length_nil] at this
  omega
theorem sGetOid_yes (o : List Int) : ∀ (pre x4 : List Int), oidOk (x4 ++ o) = true → pre.length + 3 * o.length ≤ 1000 →
    Ev (fun k => spec_GetOid.l0 k (pre ++ o.flatMap group) x4 (pre.length : Int)) (x4 ++ o, true) := by
  induction o with
  | nil =>
    intro pre x4 h hl
    have e := so_stop pre x4 (by omega) (by simp only [oidOk, Bool.and_eq_true, decide_eq_true_eq, List.append_nil] at h; omega)
    rw [List.append_nil] at h
    rw [if_pos h] at e
    simpa using e
  | cons n o ih =>
    intro pre x4 h hl
    simp only [List.length_cons] at hl
    have hg := group_len n
    have hf := flat_len o
    have h' := h
    simp only [oidOk, Bool.and_eq_true, decide_eq_true_eq, List.length_append, List.length_cons] at h'
    have hn : 0 ≤ n ∧ n ≤ 100000 := by
      have := h'.1
      simp only [oidNums, List.all_append, List.all_cons, Bool.and_eq_true, decide_eq_true_eq] at this
      exact this.2.1
    simp only [List.flatMap_cons]
    refine so_goOn pre _ x4 _ (group_ne n _) (by omega) ?_
    refine so_fwd n hn pre _ x4 _ (by omega) (by omega) ?_
    have e := ih (pre ++ group n) (x4 ++ [n]) (by simpa using h) (by simp only [List.length_append]; omega)
    simpa using e
theorem flat4 (o : List Int) (h : oidNums o = true) : o.flatMap group4 = o.flatMap group := by
  induction o with
  | nil => rfl
  | cons n o ih =>
    obtain ⟨hn, ho⟩ := oidNums_cons n o h
    simp only [List.flatMap_cons, group4_small n hn.2, ih ho]
theorem sGetOid_no (m : Nat) : ∀ (rest x4 : List Int), rest.length ≤ m → bytes rest → (x4.flatMap group4).length + rest.length ≤ 1048576 → (∀ o, oidOk o = true → o.flatMap group ≠ x4.flatMap group4 ++ rest) →
    Ev (fun k => spec_GetOid.l0 k (x4.flatMap group4 ++ rest) x4 ((x4.flatMap group4).length : Int)) ([], false) := by
  induction m with
  | zero =>
    intro rest x4 hm _ hl hno
    have : rest = [] := List.eq_nil_of_length_eq_zero (by omega)
    subst this
    have h4 : x4.length ≤ (x4.flatMap group4).length := by
      clear hno hl hm
      induction x4 with
      | nil => simp
      | cons n x4 ih =>
        have := g4_len n
        simp only [List.flatMap_cons, List.length_append, List.length_cons]
        omega
    have e := so_stop (x4.flatMap group4) x4 (by omega) (by omega)
    have hx : ¬ oidOk x4 = true := by
      intro hx
      have hx' := hx
      simp only [oidOk, Bool.and_eq_true] at hx'
      exact hno x4 hx (by rw [List.append_nil, flat4 x4 hx'.1])
    rw [if_neg hx] at e
    simpa using e
  | succ m ih =>
    intro rest x4 hm hw hl hno
    by_cases hr : rest = []
    · subst hr
      exact ih [] x4 (by simp) hw hl hno
    by_cases h4 : x4.length ≤ 10
    · refine so_goOn _ rest x4 _ hr h4 ?_
      rcases so_any rest (x4.flatMap group4) x4 hw hl (by omega) with ⟨n, rest', h0, h1, e, h⟩ | h
      · refine h _ ?_
        have hg := g4_len n
        have hw' : bytes rest' := fun y hy => hw y (by rw [e]; exact List.mem_append_right _ hy)
        have hle : rest.length = (group4 n).length + rest'.length := by rw [e, List.length_append]
        have hc : (x4 ++ [n]).flatMap group4 = x4.flatMap group4 ++ group4 n := by simp
        have := ih rest' (x4 ++ [n]) (by omega) hw' (by rw [hc, List.length_append]; omega) (by
          intro o ho
          rw [hc, List.append_assoc, ← e]
          exact hno o ho)
        rw [hc] at this
        exact this
      · exact h
    · exact so_tooMany _ rest x4 hr h4
def gfin (all x4 : List Int) : List Int × Bool := if ((putOid x4).length : Int) = 0 then ([], false) else if (strOfNums (putOid x4)).toList = (strOfNums all).toList then (x4, true) else ([], false)
theorem io_fin (all x4 xs : List Int) (n m p : Int) (hp : ¬ p < m) (h4 : x4.length ≤ 1048576) : Ev (fun k => impl_GetOid.l0 k all x4 n xs m p) (gfin all x4) := by
  refine Ev.succ ?_
  simp only [impl_GetOid.l0]
  simp only [if_neg hp]
  refine Ev.bind (iPutOid_ev x4 h4) ?_
  unfold gfin
  split
  · exact Ev.now _
  · split <;> exact Ev.now _
def joinO (n b : Int) : Int := Go.bits .or .i64 (wrap64 ((mn n 1048576) * 128)) (wrap64 (Go.bits .and .u8 b 127))
theorem joinO_eq (n b : Int) (hn : 0 ≤ n ∧ n ≤ 1048576) (hb : 0 ≤ b ∧ b ≤ 255) : joinO n b = n * 128 + b % 128 := by
  unfold joinO mn
  rw [if_neg (by omega), and127b b hb.1 hb.2, w64 (by omega) (by omega), w64 (by omega) (by omega), join7 n (b % 128) hn.1 (by omega) (by omega) (by omega)]
theorem io_small (all pre rest x4 : List Int) (b n m : Int) (r : List Int × Bool) (hm : m = (pre.length : Int) + rest.length + 1) (hp : pre.length < 40) (h4 : x4.length ≤ 1048576) (hb : b < 128)
    (h : Ev (fun k => impl_GetOid.l0 k all (x4 ++ [joinO n b]) 0 ((pre ++ [b]) ++ rest) m ((pre ++ [b]).length : Int)) r) :
    Ev (fun k => impl_GetOid.l0 k all x4 n (pre ++ b :: rest) m (pre.length : Int)) r := by
  refine Ev.succ ?_
  simp only [impl_GetOid.l0]
  simp only [if_pos (show (pre.length : Int) < m by omega), if_pos (show (0 : Int) ≤ (pre.length : Int) by omega), if_pos (show (pre.length : Int) < ((pre ++ b :: rest).length : Int) by simp only [List.length_append, List.length_cons]; omega), if_neg (show ¬ (pre.length : Int) ≥ 40 by omega), rd_mid, if_pos hb, if_pos (show x4.length < 17592186044416 by omega), w64 (x := (pre.length : Int) + 1) (by omega) (by omega)]
  simp only [List.append_assoc, List.cons_append, List.nil_append] at h
  rw [show ((pre ++ [b]).length : Int) = (pre.length : Int) + 1 by simp] at h
  exact h
theorem io_big (all pre rest x4 : List Int) (b n m : Int) (r : List Int × Bool) (hm : m = (pre.length : Int) + rest.length + 1) (hp : pre.length < 40) (hb : ¬ b < 128)
    (h : Ev (fun k => impl_GetOid.l0 k all x4 (joinO n b) ((pre ++ [b]) ++ rest) m ((pre ++ [b]).length : Int)) r) :
    Ev (fun k => impl_GetOid.l0 k all x4 n (pre ++ b :: rest) m (pre.length : Int)) r := by
  refine Ev.succ ?_
  simp only [impl_GetOid.l0]
  simp only [if_pos (show (pre.length : Int) < m by omega), if_pos (show (0 : Int) ≤ (pre.length : Int) by omega), if_pos (show (pre.length : Int) < ((pre ++ b :: rest).length : Int) by simp only [List.length_append, List.length_cons]; omega), if_neg (show ¬ (pre.length : Int) ≥ 40 by omega), rd_mid, if_neg hb, w64 (x := (pre.length : Int) + 1) (by omega) (by omega)]
  simp only [List.append_assoc, List.cons_append, List.nil_append] at h
  rw [show ((pre ++ [b]).length : Int) = (pre.length : Int) + 1 by simp] at h
  exact h
theorem io_over (all pre rest x4 : List Int) (b n m : Int) (hm : m = (pre.length : Int) + rest.length + 1) (hp : ¬ pre.length < 40) :
    Ev (fun k => impl_GetOid.l0 k all x4 n (pre ++ b :: rest) m (pre.length : Int)) ([], false) := by
  refine Ev.succ ?_
  simp only [impl_GetOid.l0]
  simp only [if_pos (show (pre.length : Int) < m by omega), if_pos (show (0 : Int) ≤ (pre.length : Int) by omega), if_pos (show (pre.length : Int) < ((pre ++ b :: rest).length : Int) by simp only [List.length_append, List.length_cons]; omega), if_pos (show (pre.length : Int) ≥ 40 by omega)]
  exact Ev.now _
theorem iGetOid_any (all : List Int) (rest : List Int) : ∀ (pre x4 : List Int) (n m : Int), m = (pre.length : Int) + rest.length → x4.length ≤ pre.length → pre.length ≤ 40 →
    ∃ x, Ev (fun k => impl_GetOid.l0 k all x4 n (pre ++ rest) m (pre.length : Int)) (gfin all x) ∨ Ev (fun k => impl_GetOid.l0 k all x4 n (pre ++ rest) m (pre.length : Int)) ([], false) := by
  induction rest with
  | nil =>
    intro pre x4 n m hm h4 hp
    simp only [List.length_nil] at hm
    exact ⟨x4, Or.inl (io_fin all x4 _ n m _ (by omega) (by omega))⟩
  | cons b rest ih =>
    intro pre x4 n m hm h4 hp
    simp only [List.length_cons] at hm
    by_cases hp' : pre.length < 40
    · by_cases hb : b < 128
      · obtain ⟨x, h⟩ := ih (pre ++ [b]) (x4 ++ [joinO n b]) 0 m (by simp only [List.length_append, List.length_cons, List.length_nil]; omega) (by simp only [List.length_append, List.length_cons, List.length_nil]; omega) (by simp only [List.length_append, List.length_cons, List.length_nil]; omega)
        exact ⟨x, h.imp (io_small all pre rest x4 b n m _ (by omega) hp' (by omega) hb) (io_small all pre rest x4 b n m _ (by omega) hp' (by omega) hb)⟩
      · obtain ⟨x, h⟩ := ih (pre ++ [b]) x4 (joinO n b) m (by simp only [List.length_append, List.length_cons, List.length_nil]; omega) (by simp only [List.length_append, List.length_cons, List.length_nil]; omega) (by simp only [List.length_append, List.length_cons, List.length_nil]; omega)
        exact ⟨x, h.imp (io_big all pre rest x4 b n m _ (by omega) hp' hb) (io_big all pre rest x4 b n m _ (by omega) hp' hb)⟩
    · exact ⟨[], Or.inr (io_over all pre rest x4 b n m (by omega) hp')⟩
theorem io_fwd (all : List Int) (n : Int) (hn : 0 ≤ n ∧ n ≤ 100000) (pre rest x4 : List Int) (m : Int) (r : List Int × Bool) (hm : m = (pre.length : Int) + (group n).length + rest.length) (hp : pre.length ≤ 37) (h4 : x4.length ≤ 1048576)
    (h : Ev (fun k => impl_GetOid.l0 k all (x4 ++ [n]) 0 ((pre ++ group n) ++ rest) m ((pre ++ group n).length : Int)) r) :
    Ev (fun k => impl_GetOid.l0 k all x4 0 (pre ++ (group n ++ rest)) m (pre.length : Int)) r := by
  have p1 (b : Int) : (pre ++ [b]).length = pre.length + 1 := by simp
  have p2 (b c : Int) : (pre ++ [b] ++ [c]).length = pre.length + 2 := by simp
  rw [← group4_small n hn.2] at h hm ⊢
  by_cases c1 : n ≤ 127
  · rw [g4_1 n c1] at h hm ⊢
    simp only [List.length_cons, List.length_nil] at hm
    refine io_small all pre rest x4 n 0 m r (by omega) (by omega) h4 (by omega) ?_
    rw [joinO_eq 0 n (by omega) (by omega), show (0 : Int) * 128 + n % 128 = n by omega]
    exact h
  · by_cases c2 : n ≤ 16383
    · have g := g4_2 n (by omega) c2
      rw [g] at h hm ⊢
      simp only [List.length_cons, List.length_nil] at hm
      refine io_big all pre (n % 128 :: rest) x4 (n / 128 + 128) 0 m r (by simp only [List.length_cons]; omega) (by omega) (by omega) ?_
      refine io_small all (pre ++ [n / 128 + 128]) rest x4 (n % 128) _ m r (by rw [p1]; omega) (by rw [p1]; omega) h4 (by omega) ?_
      rw [joinO_eq 0 _ (by omega) (by omega), joinO_eq _ _ (by omega) (by omega), show ((0 : Int) * 128 + (n / 128 + 128) % 128) * 128 + n % 128 % 128 = n by omega]
      rw [show pre ++ [n / 128 + 128, n % 128] = pre ++ [n / 128 + 128] ++ [n % 128] by simp] at h
      exact h
    · have g := g4_3 n (by omega) (by omega)
      rw [g] at h hm ⊢
      simp only [List.length_cons, List.length_nil] at hm
      refine io_big all pre ((n / 128 % 128 + 128) :: n % 128 :: rest) x4 (n / 16384 + 128) 0 m r (by simp only [List.length_cons]; omega) (by omega) (by omega) ?_
      refine io_big all (pre ++ [n / 16384 + 128]) (n % 128 :: rest) x4 (n / 128 % 128 + 128) _ m r (by rw [p1]; simp only [List.length_cons]; omega) (by rw [p1]; omega) (by omega) ?_
      refine io_small all (pre ++ [n / 16384 + 128] ++ [n / 128 % 128 + 128]) rest x4 (n % 128) _ m r (by rw [p2]; omega) (by rw [p2]; omega) h4 (by omega) ?_
      rw [joinO_eq 0 _ (by omega) (by omega), joinO_eq _ (n / 128 % 128 + 128) (by omega) (by omega), joinO_eq _ _ (by omega) (by omega), show (((0 : Int) * 128 + (n / 16384 + 128) % 128) * 128 + (n / 128 % 128 + 128) % 128) * 128 + n % 128 % 128 = n by omega]
      rw [show pre ++ [n / 16384 + 128, n / 128 % 128 + 128, n % 128] = pre ++ [n / 16384 + 128] ++ [n / 128 % 128 + 128] ++ [n % 128] by simp] at h
      exact h
theorem iGetOid_loop (all : List Int) (o : List Int) : ∀ (pre x4 : List Int) (m : Int), m = (pre.length : Int) + (o.flatMap group).length → oidNums o = true → pre.length + 3 * o.length ≤ 40 → x4.length + o.length ≤ 10 →
    Ev (fun k => impl_GetOid.l0 k all x4 0 (pre ++ o.flatMap group) m (pre.length : Int)) (gfin all (x4 ++ o)) := by
  induction o with
  | nil =>
    intro pre x4 m hm _ hl h4
    simp only [List.flatMap_nil, List.length_nil] at hm
    simp only [List.length_nil] at h4
    have e := io_fin all x4 (pre ++ []) 0 m (pre.length : Int) (by omega) (by omega)
    simpa using e
  | cons n o ih =>
    intro pre x4 m hm ho hl h4
    obtain ⟨hn, ho⟩ := oidNums_cons n o ho
    have hg := group_len n
    simp only [List.length_cons] at hl h4
    simp only [List.flatMap_cons, List.length_append] at hm ⊢
    refine io_fwd all n hn pre _ x4 m _ (by omega) (by omega) (by omega) ?_
    have e := ih (pre ++ group n) (x4 ++ [n]) m (by simp only [List.length_append]; omega) ho (by simp only [List.length_append]; omega) (by simp only [List.length_append, List.length_cons, List.length_nil]; omega)
    simpa using e
theorem group_bytes (n : Int) (hn : 0 ≤ n ∧ n ≤ 100000) : ∀ y ∈ group n, 0 ≤ y ∧ y ≤ 255 := by
  unfold group
  intro y hy
  split at hy
  · simp only [List.mem_cons, List.not_mem_nil, or_false] at hy; omega
  · split at hy
    · simp only [List.mem_cons, List.not_mem_nil, or_false] at hy; omega
    · simp only [List.mem_cons, List.not_mem_nil, or_false] at hy; omega
theorem putOid_bytes (o : List Int) : ∀ y ∈ putOid o, 0 ≤ y ∧ y ≤ 255 := by
  unfold putOid
  split
  · rename_i h
    intro y hy
    simp only [List.mem_flatMap] at hy
    obtain ⟨n, hn, hy⟩ := hy
    simp only [oidOk, Bool.and_eq_true, oidNums, List.all_eq_true, decide_eq_true_eq] at h
    exact group_bytes n (h.1 n hn) y hy
  · simp
/- what both make of the bytes -/
theorem getOid_both (l : List Int) (hw : bytes l) (hl : l.length ≤ 1048576) : ∃ R, Ev (fun k => spec_GetOid.f k l) R ∧ Ev (fun k => impl_GetOid.f k l) R ∧ R.1.length ≤ 10 := by
  unfold spec_GetOid.f impl_GetOid.f
  by_cases h : ∃ o, oidOk o = true ∧ o.flatMap group = l
  · obtain ⟨o, ho, rfl⟩ := h
    have ho' := ho
    simp only [oidOk, Bool.and_eq_true, decide_eq_true_eq] at ho'
    refine ⟨(o, true), ?_, ?_, by show o.length ≤ 10; omega⟩
    · have e := sGetOid_yes o [] [] (by simpa using ho) (by simp only [List.length_nil]; omega)
      simpa using e
    · have e := iGetOid_loop (o.flatMap group) o [] [] ((o.flatMap group).length : Int) (by simp) ho'.1 (by simp only [List.length_nil]; omega) (by simp only [List.length_nil]; omega)
      have hg : gfin (o.flatMap group) o = (o, true) := by
        unfold gfin putOid
        rw [if_pos ho]
        have : 1 ≤ (o.flatMap group).length := by
          cases o with
          | nil => simp at ho'
          | cons n o =>
            have := group_len n
            simp only [List.flatMap_cons, List.length_append]
            omega
        rw [if_neg (by omega), if_pos rfl]
      simp only [List.nil_append] at e
      rw [hg] at e
      exact e
  · have hno : ∀ o, oidOk o = true → o.flatMap group ≠ l := fun o ho e => h ⟨o, ho, e⟩
    refine ⟨([], false), ?_, ?_, by simp⟩
    · have e := sGetOid_no l.length l [] (Nat.le_refl _) hw (by simpa using hl) (by simpa using hno)
      simpa using e
    · obtain ⟨x, e⟩ := iGetOid_any l l [] [] 0 (l.length : Int) (by simp) (by simp) (by simp)
      rcases e with e | e
      · have hg : gfin l x = ([], false) := by
          unfold gfin
          split
          · rfl
          · rename_i h0
            rw [if_neg]
            intro hs
            have he := strNums_inj _ _ (putOid_bytes x) hw hs
            unfold putOid at he h0
            by_cases hx : oidOk x = true
            · rw [if_pos hx] at he
              exact hno x hx he
            · rw [if_neg hx] at h0
              simp at h0
        rw [hg] at e
        simpa using e
      · simpa using e

theorem FnExactGetOid : laws_FnExactGetOid.Pure := by
  intro l0 _ hw
  refine Ev.rounds ?_
  unfold laws_FnExactGetOid.f
  by_cases bl0 : (l0.length : Int) > 1048576
  · simp only [if_pos bl0]; exact Ev.now _
  simp only [if_neg bl0]
  obtain ⟨R, hs, hi, hl⟩ := getOid_both l0 (fun y hy => wf8 (hw y hy)) (by omega)
  obtain ⟨o, q⟩ := R
  have hl : o.length ≤ 10 := hl
  have hneg : ¬ ((1 : Int) + (o.length : Int) < 0) := by omega
  have hneg2 : ¬ ((1 : Int) + (l0.length : Int) < 0) := by omega
  repeat' first
    | exact Ev.now _
    | (with_reducible refine Ev.bind hs ?_)
    | (with_reducible refine Ev.bind hi ?_)
    | ((with_reducible refine Ev.bind (toByteS_ev _ ?s0) ?_); (case s0 => omega))
    | ((with_reducible refine Ev.bind (eqByteS_ev _ _ ?s0) ?_); (case s0 => omega))
    | ((with_reducible refine Ev.bind (eqIntS_ev _ _ ?s0) ?_); (case s0 => omega))
    | ((with_reducible refine Ev.bind (markByteS_ev _ _ ?s0 ?s1 ?s2) ?_); (case s0 => omega); (case s1 => omega); (case s2 => omega))
    | ((with_reducible refine Ev.bind (markIntS_ev _ _ ?s0 ?s1 ?s2) ?_); (case s0 => omega); (case s1 => omega); (case s2 => omega))
    | ((with_reducible refine Ev.bind (heldIntS_ev _ _ ?s0 ?s1 ?s2) ?_); (case s0 => omega); (case s1 => omega); (case s2 => omega))
    | simp only [bne_self_eq_false, Bool.false_eq_true, Bool.not_true, Bool.not_false, decide_true, Option.bind_some, ↓reduceIte, if_neg hneg, if_neg hneg2]
    | (refine Ev.succ ?_; simp only [laws_FnExactGetOid.j0])
    | (refine Ev.succ ?_; simp only [laws_FnExactGetOid.j1])
    | (refine Ev.succ ?_; simp only [laws_FnExactGetOid.j2])

end Go.Proofs.Ytndfokcnogpeiaa.Pure
