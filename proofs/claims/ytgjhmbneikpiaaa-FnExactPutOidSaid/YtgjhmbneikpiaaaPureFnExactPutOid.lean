/- The pure side of FnExactPutOid: the program's PutOid and the reference's agree at all arguments. No conditions but those of the given statement. -/
import Derived.Test.YtgjhmbneikpiaaaXFnExactPutOidx3
namespace Go.Proofs.Ytgjhmbneikpiaaa.Pure
open Go.RowKit Go.Proofs.Ytgjhmbneikpiaaa.XFnExactPutOid Go.Proofs.YtgjhmbneikpiaaaW.PrintWords Go.Proofs.YtgjhmbneikpiaaaW.PrintLast Go.Proofs.YtgjhmbneikpiaaaW.PrintMore
set_option linter.unusedVariables false
set_option linter.unusedSimpArgs false

theorem w64 {x : Int} (h0 : -9223372036854775808 ≤ x) (h1 : x ≤ 9223372036854775807) : wrap64 x = x := by
  unfold wrap64
  omega
theorem wf64 {x : Int} (h : (Lit.int .i64 x).wf = true) : -9223372036854775808 ≤ x ∧ x ≤ 9223372036854775807 := by
  simp only [Lit.wf, Bool.and_eq_true, decide_eq_true_eq] at h
  exact h
theorem wf8 {x : Int} (h : (Lit.int .u8 x).wf = true) : 0 ≤ x ∧ x ≤ 255 := by
  simp only [Lit.wf, Bool.and_eq_true, decide_eq_true_eq] at h
  exact h
theorem rd_mid (pre rest : List Int) (r : Int) : rd (pre ++ r :: rest) (pre.length : Int) = r := by
  unfold rd
  simp [List.getD_eq_getElem?_getD]
theorem set_mid {α : Type} (pre rest : List α) (r v : α) : (pre ++ r :: rest).set (pre.length : Int).toNat v = pre ++ v :: rest := by
  rw [Int.toNat_natCast, List.set_append_right _ _ (Nat.le_refl _)]
  simp
theorem succ_of {d k : Nat} (h : d < k) : ∃ m, k = m + 1 := ⟨k - 1, by omega⟩
theorem Ev.at_ {α : Type} {g : Nat → Option α} {r : α} (n : Nat) (h : ∀ k, n < k → g k = some r) : Ev g r := ⟨n + 1, fun k hk => h k (by omega)⟩
theorem Ev.some_ {α : Type} {v : Option α} {r : α} (h : v = some r) : Ev (fun _ => v) r := ⟨0, fun _ _ => h⟩
theorem Ev.succ {α : Type} {g : Nat → Option α} {r : α} (h : Ev (fun k => g (k + 1)) r) : Ev g r := by
  obtain ⟨K, h⟩ := h
  refine ⟨K + 1, fun n hn => ?_⟩
  obtain ⟨m, rfl⟩ : ∃ m, n = m + 1 := ⟨n - 1, by omega⟩
  exact h m (by omega)
theorem Ev.some_const {α : Type} {g : Nat → Option α} {r : α} (h : ∀ k, g k = some r) : Ev g r := ⟨0, fun k _ => h k⟩

theorem l1In_eq (a b c : Int) : spec_l1In.f a b c = some (decide (b ≤ a ∧ a ≤ c)) := by
  unfold spec_l1In.f
  by_cases h : b ≤ a
  · rw [if_pos h]; simp [h]
  · rw [if_neg h]; simp [h]

theorem in_eq (a b c : Int) : impl_in.f a b c = some (decide (b ≤ a ∧ a ≤ c)) := by
  unfold impl_in.f
  by_cases h : b ≤ a
  · rw [if_pos h]; simp [h]
  · rw [if_neg h]; simp [h]

theorem toIntS_loop (rest : List Int) : ∀ (pre : List Int) (k : Nat), pre.length + rest.length ≤ 1099511627776 → rest.length < k →
    laws_toIntS.l0 k (pre ++ rest) (pre ++ List.replicate rest.length 0) (pre.length : Int) = some (pre ++ rest) := by
  induction rest with
  | nil =>
    intro pre k _ hk
    obtain ⟨k, rfl⟩ := succ_of hk
    simp only [laws_toIntS.l0]
    rw [if_neg (by simp only [List.length_append, List.length_nil]; omega)]
    simp
  | cons r rest ih =>
    intro pre k hn hk
    obtain ⟨k, rfl⟩ := succ_of hk
    simp only [List.length_cons] at hn hk
    simp only [laws_toIntS.l0]
    rw [if_pos (by simp only [List.length_append, List.length_cons]; omega), if_pos (by omega), if_pos (by simp only [List.length_append, List.length_cons, List.length_replicate]; omega), rd_mid, List.length_cons, List.replicate_succ, set_mid, w64 (by omega) (by omega)]
    have h := ih (pre ++ [r]) k (by simp only [List.length_append, List.length_cons, List.length_nil]; omega) (by omega)
    simpa using h
theorem toIntS_ev (xs : List Int) (h : xs.length ≤ 1048576) : Ev (fun k => laws_toIntS.f k xs) xs := by
  refine Ev.at_ xs.length fun k hk => ?_
  simp only [laws_toIntS.f]
  rw [if_pos (by omega), if_pos (by omega)]
  have h := toIntS_loop xs [] k (by simp only [List.length_nil]; omega) hk
  simpa using h

theorem eqIntS_loop (a : List Int) : ∀ (b pre pre' : List Int) (k : Nat), pre.length = pre'.length → a.length = b.length → pre.length + a.length ≤ 1099511627776 → a.length < k →
    laws_eqIntS.l0 k (pre ++ a) (pre' ++ b) (pre.length : Int) = some (decide (a = b)) := by
  induction a with
  | nil =>
    intro b pre pre' k hp hab hn hk
    obtain ⟨k, rfl⟩ := succ_of hk
    obtain rfl : b = [] := List.eq_nil_of_length_eq_zero hab.symm
    simp only [laws_eqIntS.l0]
    rw [if_neg (by simp only [List.length_append, List.length_nil] at *; omega)]
    simp
  | cons r a ih =>
    intro b pre pre' k hp hab hn hk
    obtain ⟨k, rfl⟩ := succ_of hk
    cases b with
    | nil => simp at hab
    | cons s b =>
      simp only [List.length_cons] at hab hn hk
      simp only [laws_eqIntS.l0]
      have e : rd (pre' ++ s :: b) (pre.length : Int) = s := by rw [hp, rd_mid]
      rw [if_pos (by simp only [List.length_append, List.length_cons]; omega), if_pos (by omega), if_pos (by simp only [List.length_append, List.length_cons]; omega), rd_mid, e]
      by_cases hrs : r = s
      · subst hrs
        rw [if_pos rfl, w64 (by omega) (by omega)]
        have h := ih b (pre ++ [r]) (pre' ++ [r]) k (by simp [hp]) (by omega) (by simp only [List.length_append, List.length_cons, List.length_nil]; omega) (by omega)
        simpa using h
      · rw [if_neg hrs]
        simp [hrs]
theorem eqIntS_ev (a b : List Int) (h : a.length ≤ 1099511627776) : Ev (fun k => laws_eqIntS.f k a b) (decide (a = b)) := by
  refine Ev.at_ a.length fun k hk => ?_
  simp only [laws_eqIntS.f]
  by_cases e : a.length = b.length
  · rw [if_pos (by omega)]
    have h := eqIntS_loop a b [] [] k rfl e (by simp only [List.length_nil]; omega) hk
    simpa using h
  · rw [if_neg (by omega)]
    have hne : ¬ a = b := fun h => e (by rw [h])
    simp [hne]

theorem eqByteS_loop (a : List Int) : ∀ (b pre pre' : List Int) (k : Nat), pre.length = pre'.length → a.length = b.length → pre.length + a.length ≤ 1099511627776 → a.length < k →
    laws_eqByteS.l0 k (pre ++ a) (pre' ++ b) (pre.length : Int) = some (decide (a = b)) := by
  induction a with
  | nil =>
    intro b pre pre' k hp hab hn hk
    obtain ⟨k, rfl⟩ := succ_of hk
    obtain rfl : b = [] := List.eq_nil_of_length_eq_zero hab.symm
    simp only [laws_eqByteS.l0]
    rw [if_neg (by simp only [List.length_append, List.length_nil] at *; omega)]
    simp
  | cons r a ih =>
    intro b pre pre' k hp hab hn hk
    obtain ⟨k, rfl⟩ := succ_of hk
    cases b with
    | nil => simp at hab
    | cons s b =>
      simp only [List.length_cons] at hab hn hk
      simp only [laws_eqByteS.l0]
      have e : rd (pre' ++ s :: b) (pre.length : Int) = s := by rw [hp, rd_mid]
      rw [if_pos (by simp only [List.length_append, List.length_cons]; omega), if_pos (by omega), if_pos (by simp only [List.length_append, List.length_cons]; omega), rd_mid, e]
      by_cases hrs : r = s
      · subst hrs
        rw [if_pos rfl, w64 (by omega) (by omega)]
        have h := ih b (pre ++ [r]) (pre' ++ [r]) k (by simp [hp]) (by omega) (by simp only [List.length_append, List.length_cons, List.length_nil]; omega) (by omega)
        simpa using h
      · rw [if_neg hrs]
        simp [hrs]
theorem eqByteS_ev (a b : List Int) (h : a.length ≤ 1099511627776) : Ev (fun k => laws_eqByteS.f k a b) (decide (a = b)) := by
  refine Ev.at_ a.length fun k hk => ?_
  simp only [laws_eqByteS.f]
  by_cases e : a.length = b.length
  · rw [if_pos (by omega)]
    have h := eqByteS_loop a b [] [] k rfl e (by simp only [List.length_nil]; omega) hk
    simpa using h
  · rw [if_neg (by omega)]
    have hne : ¬ a = b := fun h => e (by rw [h])
    simp [hne]

def marksByte : Int → Nat → List Int
  | _, 0 => []
  | m, d + 1 => (m % 256) :: marksByte (m + 1) d
theorem marksByte_length (m : Int) (d : Nat) : (marksByte m d).length = d := by
  induction d generalizing m with
  | zero => rfl
  | succ d ih => simp [marksByte, ih]
theorem markByteS_loop (rest : List Int) : ∀ (pre : List Int) (m : Int) (k : Nat), 0 ≤ m → m ≤ 1152921504606846976 - rest.length → pre.length + rest.length ≤ 1099511627776 → rest.length < k →
    laws_markByteS.l0 k (pre ++ rest) m (pre.length : Int) = some (m + rest.length, pre ++ marksByte m rest.length) := by
  induction rest with
  | nil =>
    intro pre m k _ _ _ hk
    obtain ⟨k, rfl⟩ := succ_of hk
    simp only [laws_markByteS.l0]
    rw [if_neg (by simp only [List.length_append, List.length_nil]; omega)]
    simp [marksByte]
  | cons r rest ih =>
    intro pre m k h0 h1 hn hk
    obtain ⟨k, rfl⟩ := succ_of hk
    simp only [List.length_cons] at h1 hn hk
    simp only [laws_markByteS.l0]
    rw [if_pos (by simp only [List.length_append, List.length_cons]; omega), if_pos (by omega), set_mid, w64 (x := m + 1) (by omega) (by omega), w64 (by omega) (by omega)]
    have h := ih (pre ++ [m % 256]) (m + 1) k (by omega) (by omega) (by simp only [List.length_append, List.length_cons, List.length_nil]; omega) (by omega)
    simp only [List.length_append, List.length_cons, List.length_nil, List.append_assoc, List.cons_append, List.nil_append] at h
    simp only [marksByte, List.length_cons]
    rw [show (pre.length : Int) + 1 = ((pre.length + (0 + 1) : Nat) : Int) from by omega, h]
    congr 2
    omega
theorem markByteS_ev (xs : List Int) (m : Int) (h0 : 0 ≤ m) (h1 : m ≤ 1099511627776) (h : xs.length ≤ 1099511627776) : Ev (fun k => laws_markByteS.f k xs m) (m + xs.length, marksByte m xs.length) := by
  refine Ev.at_ xs.length fun k hk => ?_
  simp only [laws_markByteS.f]
  have h := markByteS_loop xs [] m k h0 (by omega) (by simp only [List.length_nil]; omega) hk
  simpa using h
theorem heldByteS_loop (d : Nat) : ∀ (pre : List Int) (m : Int) (k : Nat), 0 ≤ m → m ≤ 1152921504606846976 - d → pre.length + d ≤ 1099511627776 → d < k →
    laws_heldByteS.l0 k (pre ++ marksByte m d) m (pre.length : Int) = some (m + d) := by
  induction d with
  | zero =>
    intro pre m k _ _ _ hk
    obtain ⟨k, rfl⟩ := succ_of hk
    simp only [marksByte]
    simp only [laws_heldByteS.l0]
    rw [if_neg (by simp only [List.length_append, List.length_nil]; omega)]
    simp
  | succ d ih =>
    intro pre m k h0 h1 hn hk
    obtain ⟨k, rfl⟩ := succ_of hk
    simp only [marksByte]
    simp only [laws_heldByteS.l0]
    rw [if_pos (by simp only [List.length_append, List.length_cons]; omega), if_pos (by omega), rd_mid, if_pos rfl, w64 (x := m + 1) (by omega) (by omega), w64 (by omega) (by omega)]
    have h := ih (pre ++ [m % 256]) (m + 1) k (by omega) (by omega) (by simp only [List.length_append, List.length_cons, List.length_nil]; omega) (by omega)
    simp only [List.length_append, List.length_cons, List.length_nil, List.append_assoc, List.cons_append, List.nil_append] at h
    rw [show (pre.length : Int) + 1 = ((pre.length + (0 + 1) : Nat) : Int) from by omega, h]
    congr 1
    omega
theorem heldByteS_ev (m : Int) (d : Nat) (h0 : 0 ≤ m) (h1 : m ≤ 1099511627776) (h : d ≤ 1099511627776) : Ev (fun k => laws_heldByteS.f k (marksByte m d) m) (m + d) := by
  refine Ev.at_ d fun k hk => ?_
  simp only [laws_heldByteS.f]
  have h := heldByteS_loop d [] m k h0 (by omega) (by simp only [List.length_nil]; omega) hk
  simpa using h

def marksInt : Int → Nat → List Int
  | _, 0 => []
  | m, d + 1 => (m) :: marksInt (m + 1) d
theorem marksInt_length (m : Int) (d : Nat) : (marksInt m d).length = d := by
  induction d generalizing m with
  | zero => rfl
  | succ d ih => simp [marksInt, ih]
theorem markIntS_loop (rest : List Int) : ∀ (pre : List Int) (m : Int) (k : Nat), 0 ≤ m → m ≤ 1152921504606846976 - rest.length → pre.length + rest.length ≤ 1099511627776 → rest.length < k →
    laws_markIntS.l0 k (pre ++ rest) m (pre.length : Int) = some (m + rest.length, pre ++ marksInt m rest.length) := by
  induction rest with
  | nil =>
    intro pre m k _ _ _ hk
    obtain ⟨k, rfl⟩ := succ_of hk
    simp only [laws_markIntS.l0]
    rw [if_neg (by simp only [List.length_append, List.length_nil]; omega)]
    simp [marksInt]
  | cons r rest ih =>
    intro pre m k h0 h1 hn hk
    obtain ⟨k, rfl⟩ := succ_of hk
    simp only [List.length_cons] at h1 hn hk
    simp only [laws_markIntS.l0]
    rw [if_pos (by simp only [List.length_append, List.length_cons]; omega), if_pos (by omega), set_mid, w64 (x := m + 1) (by omega) (by omega), w64 (by omega) (by omega)]
    have h := ih (pre ++ [m]) (m + 1) k (by omega) (by omega) (by simp only [List.length_append, List.length_cons, List.length_nil]; omega) (by omega)
    simp only [List.length_append, List.length_cons, List.length_nil, List.append_assoc, List.cons_append, List.nil_append] at h
    simp only [marksInt, List.length_cons]
    rw [show (pre.length : Int) + 1 = ((pre.length + (0 + 1) : Nat) : Int) from by omega, h]
    congr 2
    omega
theorem markIntS_ev (xs : List Int) (m : Int) (h0 : 0 ≤ m) (h1 : m ≤ 1099511627776) (h : xs.length ≤ 1099511627776) : Ev (fun k => laws_markIntS.f k xs m) (m + xs.length, marksInt m xs.length) := by
  refine Ev.at_ xs.length fun k hk => ?_
  simp only [laws_markIntS.f]
  have h := markIntS_loop xs [] m k h0 (by omega) (by simp only [List.length_nil]; omega) hk
  simpa using h

def oidNums (xs : List Int) : Bool := xs.all fun n => decide (0 ≤ n ∧ n ≤ 100000)
def oidOk (xs : List Int) : Bool := oidNums xs && decide (1 ≤ (xs.length : Int) ∧ (xs.length : Int) ≤ 10)

theorem sOidOk_loop (rest : List Int) : ∀ (pre : List Int) (k : Nat), pre.length + rest.length ≤ 1099511627776 → rest.length < k →
    spec_OidOk.l0 k (pre ++ rest) (pre.length : Int) = some (oidNums rest && decide (1 ≤ ((pre ++ rest).length : Int) ∧ ((pre ++ rest).length : Int) ≤ 10)) := by
  induction rest with
  | nil =>
    intro pre k _ hk
    obtain ⟨k, rfl⟩ := succ_of hk
    simp only [spec_OidOk.l0]
    rw [if_neg (by simp only [List.length_append, List.length_nil]; omega), l1In_eq]
    simp [oidNums]
  | cons r rest ih =>
    intro pre k hn hk
    obtain ⟨k, rfl⟩ := succ_of hk
    simp only [List.length_cons] at hn hk
    simp only [spec_OidOk.l0]
    rw [if_pos (by simp only [List.length_append, List.length_cons]; omega), if_pos (by omega), rd_mid, l1In_eq, w64 (by omega) (by omega)]
    simp only [Option.bind_some]
    by_cases h : 0 ≤ r ∧ r ≤ 100000
    · rw [if_pos (by simpa using h)]
      have e := ih (pre ++ [r]) k (by simp only [List.length_append, List.length_cons, List.length_nil]; omega) (by omega)
      simp only [List.append_assoc, List.cons_append, List.nil_append] at e
      rw [show (pre.length : Int) + 1 = ((pre ++ [r]).length : Int) from by simp, e]
      simp [oidNums, h]
    · rw [if_neg (by simpa using h)]
      simp only [oidNums, List.all_cons, decide_eq_false h, Bool.false_and]
theorem sOidOk_ev (xs : List Int) (h : xs.length ≤ 1099511627776) : Ev (fun k => spec_OidOk.f k xs) (oidOk xs) := by
  refine Ev.at_ xs.length fun k hk => ?_
  simp only [spec_OidOk.f]
  have e := sOidOk_loop xs [] k (by simp only [List.length_nil]; omega) hk
  simpa [oidOk] using e

theorem iOidOk_loop (rest : List Int) : ∀ (pre all : List Int) (m : Int) (k : Nat), m = (pre.length : Int) + rest.length → pre.length + rest.length ≤ 1099511627776 → rest.length < k →
    impl_OidOk.l0 k all (pre ++ rest) m (pre.length : Int) = some (oidNums rest && decide (1 ≤ (all.length : Int) ∧ (all.length : Int) ≤ 10)) := by
  induction rest with
  | nil =>
    intro pre all m k hm _ hk
    obtain ⟨k, rfl⟩ := succ_of hk
    simp only [List.length_nil] at hm
    simp only [impl_OidOk.l0]
    rw [if_neg (by omega), in_eq]
    simp [oidNums]
  | cons r rest ih =>
    intro pre all m k hm hn hk
    obtain ⟨k, rfl⟩ := succ_of hk
    simp only [List.length_cons] at hm hn hk
    simp only [impl_OidOk.l0]
    rw [if_pos (by omega), if_pos (by omega), if_pos (by simp only [List.length_append, List.length_cons]; omega), rd_mid, in_eq, w64 (by omega) (by omega)]
    simp only [Option.bind_some]
    by_cases h : 0 ≤ r ∧ r ≤ 100000
    · rw [if_pos (by simpa using h)]
      have e := ih (pre ++ [r]) all m k (by simp only [List.length_append, List.length_cons, List.length_nil]; omega) (by simp only [List.length_append, List.length_cons, List.length_nil]; omega) (by omega)
      simp only [List.append_assoc, List.cons_append, List.nil_append] at e
      rw [show (pre.length : Int) + 1 = ((pre ++ [r]).length : Int) from by simp, e]
      simp [oidNums, h]
    · rw [if_neg (by simpa using h)]
      simp only [oidNums, List.all_cons, decide_eq_false h, Bool.false_and]
theorem iOidOk_ev (xs : List Int) (h : xs.length ≤ 1099511627776) : Ev (fun k => impl_OidOk.f k xs) (oidOk xs) := by
  refine Ev.at_ xs.length fun k hk => ?_
  simp only [impl_OidOk.f]
  have e := iOidOk_loop xs [] xs (xs.length : Int) k (by simp) (by simp only [List.length_nil]; omega) hk
  simpa [oidOk] using e

theorem wraps_i64 (n : Int) (h0 : 0 ≤ n) (h1 : n < 2 ^ 63) : IntKind.i64.wrap n = n := by rw [IntKind.wrap_i64]; omega
theorem and127 (x : Int) (h0 : 0 ≤ x) (h1 : x < 9223372036854775808) : Go.bits .and .i64 x 127 = x % 128 :=
  Go.bits_mask .i64 63 (by decide) wraps_i64 7 (by decide) x h0 h1
theorem or128 (y : Int) (h0 : 0 ≤ y) (h1 : y < 128) : Go.bits .or .i64 y 128 = y + 128 := by
  obtain ⟨b, rfl⟩ := Int.eq_ofNat_of_zero_le h0
  have hb : b < 2 ^ 7 := by omega
  have e := (Go.bits_nat .i64 63 (by decide) wraps_i64 b 128 (by omega) (by decide)).2
  rw [show (128 : Int) = ((128 : Nat) : Int) from rfl, e, Nat.or_comm]
  have h := Nat.two_pow_add_eq_or_of_lt hb 1
  rw [show (2 : Nat) ^ 7 * 1 = 128 from rfl] at h
  rw [← h]
  omega
def group (n : Int) : List Int :=
  if n ≤ 127 then [n] else if n ≤ 16383 then [n / 128 + 128, n % 128] else [n / 16384 + 128, n / 128 % 128 + 128, n % 128]
theorem group_len (n : Int) : 1 ≤ (group n).length ∧ (group n).length ≤ 3 := by
  unfold group
  split
  · simp
  · split <;> simp
def putOid (o : List Int) : List Int := if oidOk o = true then o.flatMap group else []
theorem flat_len (o : List Int) : (o.flatMap group).length ≤ 3 * o.length := by
  induction o with
  | nil => simp
  | cons n o ih =>
    have := group_len n
    simp only [List.flatMap_cons, List.length_append, List.length_cons]
    omega
theorem putOid_len (o : List Int) : (putOid o).length ≤ 30 := by
  unfold putOid
  split
  · rename_i h
    have h1 := flat_len o
    simp only [oidOk, Bool.and_eq_true, decide_eq_true_eq] at h
    omega
  · simp
theorem oidNums_cons (n : Int) (o : List Int) (h : oidNums (n :: o) = true) : (0 ≤ n ∧ n ≤ 100000) ∧ oidNums o = true := by
  simp only [oidNums, List.all_cons, Bool.and_eq_true, decide_eq_true_eq] at h
  exact h

theorem sGroup_ev (n : Int) (h0 : 0 ≤ n) (h1 : n ≤ 100000) : Ev (fun k => spec_l2Group.f k n) (group n) := by
  unfold spec_l2Group.f
  simp only [and127 n h0 (by omega), show n % 128 % 256 = n % 128 by omega]
  refine Ev.succ ?_
  simp only [spec_l2Group.l0]
  unfold group
  by_cases c1 : n ≤ 127
  · simp only [if_neg (show ¬ n > 127 by omega), if_pos c1, show n % 128 = n by omega]
    exact Ev.now _
  · simp only [if_pos (show n > 127 by omega), if_neg c1, Option.bind_some, List.length_cons, List.length_nil, and127 (n / 128) (by omega) (by omega), or128 (n / 128 % 128) (by omega) (by omega), show (n / 128 % 128 + 128) % 256 = n / 128 % 128 + 128 by omega]
    simp only [if_pos (show 0 + 1 + (0 + 1) < 140737488355328 by omega)]
    refine Ev.succ ?_
    simp only [spec_l2Group.l0]
    by_cases c2 : n ≤ 16383
    · simp only [if_neg (show ¬ n / 128 > 127 by omega), if_pos c2, show n / 128 % 128 = n / 128 by omega]
      exact Ev.now _
    · simp only [if_pos (show n / 128 > 127 by omega), if_neg c2, Option.bind_some, List.length_cons, List.length_nil, List.length_append, show n / 128 / 128 = n / 16384 by omega, and127 (n / 16384) (by omega) (by omega), or128 (n / 16384 % 128) (by omega) (by omega), show (n / 16384 % 128 + 128) % 256 = n / 16384 + 128 by omega]
      simp only [if_pos (show 0 + 1 + (0 + 1 + (0 + 1)) < 140737488355328 by omega)]
      refine Ev.succ ?_
      simp only [spec_l2Group.l0]
      simp only [if_neg (show ¬ n / 16384 > 127 by omega)]
      exact Ev.now _
theorem sPutOid_loop (rest : List Int) : ∀ (pre out : List Int), pre.length + rest.length ≤ 1048576 → out.length ≤ 3 * pre.length → oidNums rest = true →
    Ev (fun k => spec_PutOid.l0 k (pre ++ rest) out (pre.length : Int)) (out ++ rest.flatMap group) := by
  induction rest with
  | nil =>
    intro pre out _ _ _
    refine Ev.succ ?_
    simp only [spec_PutOid.l0]
    simp only [List.append_nil, if_neg (show ¬ (pre.length : Int) < (pre.length : Int) by omega), List.flatMap_nil]
    exact Ev.now _
  | cons r rest ih =>
    intro pre out hn ho hw
    simp only [List.length_cons] at hn
    obtain ⟨hr, hw⟩ := oidNums_cons r rest hw
    have hg := group_len r
    have h := ih (pre ++ [r]) (out ++ group r) (by simp only [List.length_append, List.length_cons, List.length_nil]; omega) (by simp only [List.length_append, List.length_cons, List.length_nil]; omega) hw
    simp only [List.append_assoc, List.cons_append, List.nil_append] at h
    rw [show ((pre ++ [r]).length : Int) = (pre.length : Int) + 1 by simp] at h
    refine Ev.succ ?_
    simp only [spec_PutOid.l0]
    simp only [if_pos (show (pre.length : Int) < ((pre ++ r :: rest).length : Int) by simp only [List.length_append, List.length_cons]; omega), if_pos (show (0 : Int) ≤ (pre.length : Int) by omega), rd_mid, w64 (x := (pre.length : Int) + 1) (by omega) (by omega)]
    refine Ev.bind (sGroup_ev r hr.1 hr.2) ?_
    simp only [if_pos (show out.length + (group r).length < 140737488355328 by omega), List.flatMap_cons]
    exact h
theorem sPutOid_ev (o : List Int) (h : o.length ≤ 1048576) : Ev (fun k => spec_PutOid.f k o) (putOid o) := by
  unfold spec_PutOid.f putOid
  simp only [Option.bind_some]
  refine Ev.bind (sOidOk_ev o (by omega)) ?_
  by_cases c : oidOk o = true
  · simp only [if_pos c]
    have c' := c
    simp only [oidOk, Bool.and_eq_true] at c'
    have e := sPutOid_loop o [] [] (by simp only [List.length_nil]; omega) (by simp) c'.1
    simpa using e
  · simp only [if_neg c]
    exact Ev.now _

theorem shr7 (n : Int) : shr .i64 n 7 = n / 128 := rfl
theorem shr14 (n : Int) : shr .i64 n 14 = n / 16384 := rfl
theorem shrz (n : Int) : shr .i64 n 0 = n := by
  show n / 1 = n
  omega
theorem iGroup_ev (n : Int) (h0 : 0 ≤ n) (h1 : n ≤ 100000) (out xs : List Int) (m i : Int) (r : List Int) (ho : out.length ≤ 100000000) (h : Ev (fun k => impl_PutOid.l0 k (out ++ group n) xs m (wrap64 (i + 1))) r) :
    Ev (fun k => impl_PutOid.l1 k out n 0 xs m i) r := by
  have a0 : wrap64 (7 * 0) = 0 := by decide +kernel
  have a1 : wrap64 (7 * 1) = 7 := by decide +kernel
  have a2 : wrap64 (7 * 2) = 14 := by decide +kernel
  have b1 : wrap64 (0 + 1) = 1 := by decide +kernel
  have b2 : wrap64 (1 + 1) = 2 := by decide +kernel
  have d1 : wrap64 (1 - 1) = 0 := by decide +kernel
  have d2 : wrap64 (2 - 1) = 1 := by decide +kernel
  have z : (0 : Int) ≤ 0 := by decide
  have z7 : (0 : Int) ≤ 7 := by decide
  have z14 : (0 : Int) ≤ 14 := by decide
  unfold group at h
  refine Ev.succ ?_
  simp only [impl_PutOid.l1]
  simp only [a0, shrz, if_pos z, b1]
  by_cases c1 : n ≤ 127
  · simp only [if_neg (show ¬ n > 127 by omega)]
    simp only [if_pos c1] at h
    refine Ev.succ ?_
    simp only [impl_PutOid.l2]
    simp only [if_neg (show ¬ (0 : Int) > 0 by omega), if_pos (show out.length < 140737488355328 by omega), and127 n h0 (by omega), show n % 128 % 256 = n by omega]
    exact h
  · simp only [if_pos (show n > 127 by omega)]
    simp only [if_neg c1] at h
    refine Ev.succ ?_
    simp only [impl_PutOid.l1]
    simp only [a1, shr7, if_pos z7, b2]
    by_cases c2 : n ≤ 16383
    · simp only [if_neg (show ¬ n / 128 > 127 by omega)]
      simp only [if_pos c2] at h
      refine Ev.succ ?_
      simp only [impl_PutOid.l2]
      simp only [if_pos (show (1 : Int) > 0 by omega), a1, if_pos z7, shr7, if_pos (show out.length < 140737488355328 by omega), d1, and127 (n / 128) (by omega) (by omega)]
      rw [w64 (by omega) (by omega), show (n / 128 % 128 + 128) % 256 = n / 128 + 128 by omega]
      refine Ev.succ ?_
      simp only [impl_PutOid.l2]
      simp only [if_neg (show ¬ (0 : Int) > 0 by omega), List.length_append, List.length_cons, List.length_nil, if_pos (show out.length + (0 + 1) < 140737488355328 by omega), and127 n h0 (by omega), show n % 128 % 256 = n % 128 by omega, List.append_assoc, List.cons_append, List.nil_append]
      exact h
    · simp only [if_pos (show n / 128 > 127 by omega)]
      simp only [if_neg c2] at h
      refine Ev.succ ?_
      simp only [impl_PutOid.l1]
      simp only [a2, shr14, if_pos z14, if_neg (show ¬ n / 16384 > 127 by omega)]
      refine Ev.succ ?_
      simp only [impl_PutOid.l2]
      simp only [if_pos (show (2 : Int) > 0 by omega), a2, if_pos z14, shr14, if_pos (show out.length < 140737488355328 by omega), d2, and127 (n / 16384) (by omega) (by omega)]
      rw [w64 (by omega) (by omega), show (n / 16384 % 128 + 128) % 256 = n / 16384 + 128 by omega]
      refine Ev.succ ?_
      simp only [impl_PutOid.l2]
      simp only [if_pos (show (1 : Int) > 0 by omega), a1, if_pos z7, shr7, List.length_append, List.length_cons, List.length_nil, if_pos (show out.length + (0 + 1) < 140737488355328 by omega), d1, and127 (n / 128) (by omega) (by omega)]
      rw [w64 (by omega) (by omega), show (n / 128 % 128 + 128) % 256 = n / 128 % 128 + 128 by omega]
      refine Ev.succ ?_
      simp only [impl_PutOid.l2]
      simp only [if_neg (show ¬ (0 : Int) > 0 by omega), List.length_append, List.length_cons, List.length_nil, if_pos (show out.length + (0 + 1) + (0 + 1) < 140737488355328 by omega), and127 n h0 (by omega), show n % 128 % 256 = n % 128 by omega, List.append_assoc, List.cons_append, List.nil_append]
      exact h
theorem iPutOid_loop (rest : List Int) : ∀ (pre out : List Int) (m : Int), m = (pre.length : Int) + rest.length → pre.length + rest.length ≤ 1048576 → out.length ≤ 3 * pre.length → oidNums rest = true →
    Ev (fun k => impl_PutOid.l0 k out (pre ++ rest) m (pre.length : Int)) (out ++ rest.flatMap group) := by
  induction rest with
  | nil =>
    intro pre out m hm _ _ _
    simp only [List.length_nil] at hm
    refine Ev.succ ?_
    simp only [impl_PutOid.l0]
    simp only [if_neg (show ¬ (pre.length : Int) < m by omega), List.flatMap_nil, List.append_nil]
    exact Ev.now _
  | cons r rest ih =>
    intro pre out m hm hn ho hw
    simp only [List.length_cons] at hm hn
    obtain ⟨hr, hw⟩ := oidNums_cons r rest hw
    have hg := group_len r
    have h := ih (pre ++ [r]) (out ++ group r) m (by simp only [List.length_append, List.length_cons, List.length_nil]; omega) (by simp only [List.length_append, List.length_cons, List.length_nil]; omega) (by simp only [List.length_append, List.length_cons, List.length_nil]; omega) hw
    simp only [List.append_assoc, List.cons_append, List.nil_append] at h
    rw [show ((pre ++ [r]).length : Int) = (pre.length : Int) + 1 by simp] at h
    refine Ev.succ ?_
    simp only [impl_PutOid.l0]
    simp only [if_pos (show (pre.length : Int) < m by omega), if_pos (show (0 : Int) ≤ (pre.length : Int) by omega), if_pos (show (pre.length : Int) < ((pre ++ r :: rest).length : Int) by simp only [List.length_append, List.length_cons]; omega), rd_mid]
    refine iGroup_ev r hr.1 hr.2 out _ m _ _ (by omega) ?_
    rw [w64 (by omega) (by omega), List.flatMap_cons]
    exact h
theorem iPutOid_ev (o : List Int) (h : o.length ≤ 1048576) : Ev (fun k => impl_PutOid.f k o) (putOid o) := by
  unfold impl_PutOid.f putOid
  refine Ev.bind (iOidOk_ev o (by omega)) ?_
  by_cases c : oidOk o = true
  · simp only [if_pos c]
    have c' := c
    simp only [oidOk, Bool.and_eq_true] at c'
    have e := iPutOid_loop o [] [] (o.length : Int) (by simp) (by simp only [List.length_nil]; omega) (by simp) c'.1
    simpa using e
  · simp only [if_neg c]
    exact Ev.now _

theorem FnExactPutOid : laws_FnExactPutOid.Pure := by
  intro l0 _ _
  refine Ev.rounds ?_
  unfold laws_FnExactPutOid.f
  by_cases bl0 : (l0.length : Int) > 1048576
  · simp only [if_pos bl0]; exact Ev.now _
  simp only [if_neg bl0]
  have hl := putOid_len l0
  have hneg : ¬ ((1 : Int) + ((putOid l0).length : Int) < 0) := by omega
  have hneg2 : ¬ ((1 : Int) + (l0.length : Int) < 0) := by omega
  repeat' first
    | exact Ev.now _
    | ((with_reducible refine Ev.bind (toIntS_ev _ ?s0) ?_); (case s0 => omega))
    | ((with_reducible refine Ev.bind (sPutOid_ev _ ?s0) ?_); (case s0 => omega))
    | ((with_reducible refine Ev.bind (iPutOid_ev _ ?s0) ?_); (case s0 => omega))
    | ((with_reducible refine Ev.bind (eqByteS_ev _ _ ?s0) ?_); (case s0 => omega))
    | ((with_reducible refine Ev.bind (eqIntS_ev _ _ ?s0) ?_); (case s0 => omega))
    | ((with_reducible refine Ev.bind (markIntS_ev _ _ ?s0 ?s1 ?s2) ?_); (case s0 => omega); (case s1 => omega); (case s2 => omega))
    | ((with_reducible refine Ev.bind (markByteS_ev _ _ ?s0 ?s1 ?s2) ?_); (case s0 => omega); (case s1 => omega); (case s2 => omega))
    | ((with_reducible refine Ev.bind (heldByteS_ev _ _ ?s0 ?s1 ?s2) ?_); (case s0 => omega); (case s1 => omega); (case s2 => omega))
    | simp only [bne_self_eq_false, Bool.false_eq_true, Bool.not_true, Bool.not_false, decide_true, Option.bind_some, ↓reduceIte, if_neg hneg, if_neg hneg2]
    | (refine Ev.succ ?_; simp only [laws_FnExactPutOid.j0])

end Go.Proofs.Ytgjhmbneikpiaaa.Pure
