/- The pure side of FnExactPutMsg: the program's PutMsg and the reference's agree at all arguments. No conditions but those of the given statement. -/
import Derived.Test.YthhnfmbfgplelaaXFnExactPutMsgx14
namespace Go.Proofs.Ythhnfmbfgplelaa.Pure
open Go.RowKit Go.Proofs.Ythhnfmbfgplelaa.XFnExactPutMsg Go.Proofs.YthhnfmbfgplelaaW.PrintWords Go.Proofs.YthhnfmbfgplelaaW.PrintLast Go.Proofs.YthhnfmbfgplelaaW.PrintMore
set_option linter.unusedVariables false
set_option linter.unusedSimpArgs false

theorem w64 {x : Int} (h0 : -9223372036854775808 ≤ x) (h1 : x ≤ 9223372036854775807) : wrap64 x = x := by
  unfold wrap64
  omega
theorem wf64 {x : Int} (h : (Lit.int .i64 x).wf = true) : -9223372036854775808 ≤ x ∧ x ≤ 9223372036854775807 := by
  simp only [Lit.wf, Bool.and_eq_true, decide_eq_true_eq] at h
  exact h
theorem wf8 {x : Int} (h : (Lit.int .u8 x).wf = true) : 0 ≤ x ∧ x ≤ 255 := by
  simp only [Lit.wf, Bool.and_eq_true, decide_eq_true_eq] at h
  exact h
theorem rd_mid (pre rest : List Int) (r : Int) : rd (pre ++ r :: rest) (pre.length : Int) = r := by
  unfold rd
  simp [List.getD_eq_getElem?_getD]
theorem set_mid {α : Type} (pre rest : List α) (r v : α) : (pre ++ r :: rest).set (pre.length : Int).toNat v = pre ++ v :: rest := by
  rw [Int.toNat_natCast, List.set_append_right _ _ (Nat.le_refl _)]
  simp
theorem succ_of {d k : Nat} (h : d < k) : ∃ m, k = m + 1 := ⟨k - 1, by omega⟩
theorem Ev.at_ {α : Type} {g : Nat → Option α} {r : α} (n : Nat) (h : ∀ k, n < k → g k = some r) : Ev g r := ⟨n + 1, fun k hk => h k (by omega)⟩
theorem Ev.some_ {α : Type} {v : Option α} {r : α} (h : v = some r) : Ev (fun _ => v) r := ⟨0, fun _ _ => h⟩
theorem Ev.succ {α : Type} {g : Nat → Option α} {r : α} (h : Ev (fun k => g (k + 1)) r) : Ev g r := by
  obtain ⟨K, h⟩ := h
  refine ⟨K + 1, fun n hn => ?_⟩
  obtain ⟨m, rfl⟩ : ∃ m, n = m + 1 := ⟨n - 1, by omega⟩
  exact h m (by omega)
theorem Ev.some_const {α : Type} {g : Nat → Option α} {r : α} (h : ∀ k, g k = some r) : Ev g r := ⟨0, fun k _ => h k⟩

theorem l1In_eq (a b c : Int) : spec_l1In.f a b c = some (decide (b ≤ a ∧ a ≤ c)) := by
  unfold spec_l1In.f
  by_cases h : b ≤ a
  · rw [if_pos h]; simp [h]
  · rw [if_neg h]; simp [h]

theorem in_eq (a b c : Int) : impl_in.f a b c = some (decide (b ≤ a ∧ a ≤ c)) := by
  unfold impl_in.f
  by_cases h : b ≤ a
  · rw [if_pos h]; simp [h]
  · rw [if_neg h]; simp [h]

theorem Ev.ite {α : Type} {c : Prop} [Decidable c] {g1 g2 : Nat → Option α} {r1 r2 : α} (h1 : c → Ev g1 r1) (h2 : ¬ c → Ev g2 r2) : Ev (fun k => if c then g1 k else g2 k) (if c then r1 else r2) := by
  by_cases h : c
  · simp only [if_pos h]; exact h1 h
  · simp only [if_neg h]; exact h2 h

theorem toIntS_loop (rest : List Int) : ∀ (pre : List Int) (k : Nat), pre.length + rest.length ≤ 1099511627776 → rest.length < k →
    laws_toIntS.l0 k (pre ++ rest) (pre ++ List.replicate rest.length 0) (pre.length : Int) = some (pre ++ rest) := by
  induction rest with
  | nil =>
    intro pre k _ hk
    obtain ⟨k, rfl⟩ := succ_of hk
    simp only [laws_toIntS.l0]
    rw [if_neg (by simp only [List.length_append, List.length_nil]; omega)]
    simp
  | cons r rest ih =>
    intro pre k hn hk
    obtain ⟨k, rfl⟩ := succ_of hk
    simp only [List.length_cons] at hn hk
    simp only [laws_toIntS.l0]
    rw [if_pos (by simp only [List.length_append, List.length_cons]; omega), if_pos (by omega), if_pos (by simp only [List.length_append, List.length_cons, List.length_replicate]; omega), rd_mid, List.length_cons, List.replicate_succ, set_mid, w64 (by omega) (by omega)]
    have h := ih (pre ++ [r]) k (by simp only [List.length_append, List.length_cons, List.length_nil]; omega) (by omega)
    simpa using h
theorem toIntS_ev (xs : List Int) (h : xs.length ≤ 1048576) : Ev (fun k => laws_toIntS.f k xs) xs := by
  refine Ev.at_ xs.length fun k hk => ?_
  simp only [laws_toIntS.f]
  rw [if_pos (by omega), if_pos (by omega)]
  have h := toIntS_loop xs [] k (by simp only [List.length_nil]; omega) hk
  simpa using h

theorem eqByteS_loop (a : List Int) : ∀ (b pre pre' : List Int) (k : Nat), pre.length = pre'.length → a.length = b.length → pre.length + a.length ≤ 1099511627776 → a.length < k →
    laws_eqByteS.l0 k (pre ++ a) (pre' ++ b) (pre.length : Int) = some (decide (a = b)) := by
  induction a with
  | nil =>
    intro b pre pre' k hp hab hn hk
    obtain ⟨k, rfl⟩ := succ_of hk
    obtain rfl : b = [] := List.eq_nil_of_length_eq_zero hab.symm
    simp only [laws_eqByteS.l0]
    rw [if_neg (by simp only [List.length_append, List.length_nil] at *; omega)]
    simp
  | cons r a ih =>
    intro b pre pre' k hp hab hn hk
    obtain ⟨k, rfl⟩ := succ_of hk
    cases b with
    | nil => simp at hab
    | cons s b =>
      simp only [List.length_cons] at hab hn hk
      simp only [laws_eqByteS.l0]
      have e : rd (pre' ++ s :: b) (pre.length : Int) = s := by rw [hp, rd_mid]
      rw [if_pos (by simp only [List.length_append, List.length_cons]; omega), if_pos (by omega), if_pos (by simp only [List.length_append, List.length_cons]; omega), rd_mid, e]
      by_cases hrs : r = s
      · subst hrs
        rw [if_pos rfl, w64 (by omega) (by omega)]
        have h := ih b (pre ++ [r]) (pre' ++ [r]) k (by simp [hp]) (by omega) (by simp only [List.length_append, List.length_cons, List.length_nil]; omega) (by omega)
        simpa using h
      · rw [if_neg hrs]
        simp [hrs]
theorem eqByteS_ev (a b : List Int) (h : a.length ≤ 1099511627776) : Ev (fun k => laws_eqByteS.f k a b) (decide (a = b)) := by
  refine Ev.at_ a.length fun k hk => ?_
  simp only [laws_eqByteS.f]
  by_cases e : a.length = b.length
  · rw [if_pos (by omega)]
    have h := eqByteS_loop a b [] [] k rfl e (by simp only [List.length_nil]; omega) hk
    simpa using h
  · rw [if_neg (by omega)]
    have hne : ¬ a = b := fun h => e (by rw [h])
    simp [hne]

theorem eqIntS_loop (a : List Int) : ∀ (b pre pre' : List Int) (k : Nat), pre.length = pre'.length → a.length = b.length → pre.length + a.length ≤ 1099511627776 → a.length < k →
    laws_eqIntS.l0 k (pre ++ a) (pre' ++ b) (pre.length : Int) = some (decide (a = b)) := by
  induction a with
  | nil =>
    intro b pre pre' k hp hab hn hk
    obtain ⟨k, rfl⟩ := succ_of hk
    obtain rfl : b = [] := List.eq_nil_of_length_eq_zero hab.symm
    simp only [laws_eqIntS.l0]
    rw [if_neg (by simp only [List.length_append, List.length_nil] at *; omega)]
    simp
  | cons r a ih =>
    intro b pre pre' k hp hab hn hk
    obtain ⟨k, rfl⟩ := succ_of hk
    cases b with
    | nil => simp at hab
    | cons s b =>
      simp only [List.length_cons] at hab hn hk
      simp only [laws_eqIntS.l0]
      have e : rd (pre' ++ s :: b) (pre.length : Int) = s := by rw [hp, rd_mid]
      rw [if_pos (by simp only [List.length_append, List.length_cons]; omega), if_pos (by omega), if_pos (by simp only [List.length_append, List.length_cons]; omega), rd_mid, e]
      by_cases hrs : r = s
      · subst hrs
        rw [if_pos rfl, w64 (by omega) (by omega)]
        have h := ih b (pre ++ [r]) (pre' ++ [r]) k (by simp [hp]) (by omega) (by simp only [List.length_append, List.length_cons, List.length_nil]; omega) (by omega)
        simpa using h
      · rw [if_neg hrs]
        simp [hrs]
theorem eqIntS_ev (a b : List Int) (h : a.length ≤ 1099511627776) : Ev (fun k => laws_eqIntS.f k a b) (decide (a = b)) := by
  refine Ev.at_ a.length fun k hk => ?_
  simp only [laws_eqIntS.f]
  by_cases e : a.length = b.length
  · rw [if_pos (by omega)]
    have h := eqIntS_loop a b [] [] k rfl e (by simp only [List.length_nil]; omega) hk
    simpa using h
  · rw [if_neg (by omega)]
    have hne : ¬ a = b := fun h => e (by rw [h])
    simp [hne]

def marksByte : Int → Nat → List Int
  | _, 0 => []
  | m, d + 1 => (m % 256) :: marksByte (m + 1) d
theorem marksByte_length (m : Int) (d : Nat) : (marksByte m d).length = d := by
  induction d generalizing m with
  | zero => rfl
  | succ d ih => simp [marksByte, ih]
theorem markByteS_loop (rest : List Int) : ∀ (pre : List Int) (m : Int) (k : Nat), 0 ≤ m → m ≤ 1152921504606846976 - rest.length → pre.length + rest.length ≤ 1099511627776 → rest.length < k →
    laws_markByteS.l0 k (pre ++ rest) m (pre.length : Int) = some (m + rest.length, pre ++ marksByte m rest.length) := by
  induction rest with
  | nil =>
    intro pre m k _ _ _ hk
    obtain ⟨k, rfl⟩ := succ_of hk
    simp only [laws_markByteS.l0]
    rw [if_neg (by simp only [List.length_append, List.length_nil]; omega)]
    simp [marksByte]
  | cons r rest ih =>
    intro pre m k h0 h1 hn hk
    obtain ⟨k, rfl⟩ := succ_of hk
    simp only [List.length_cons] at h1 hn hk
    simp only [laws_markByteS.l0]
    rw [if_pos (by simp only [List.length_append, List.length_cons]; omega), if_pos (by omega), set_mid, w64 (x := m + 1) (by omega) (by omega), w64 (by omega) (by omega)]
    have h := ih (pre ++ [m % 256]) (m + 1) k (by omega) (by omega) (by simp only [List.length_append, List.length_cons, List.length_nil]; omega) (by omega)
    simp only [List.length_append, List.length_cons, List.length_nil, List.append_assoc, List.cons_append, List.nil_append] at h
    simp only [marksByte, List.length_cons]
    rw [show (pre.length : Int) + 1 = ((pre.length + (0 + 1) : Nat) : Int) from by omega, h]
    congr 2
    omega
theorem markByteS_ev (xs : List Int) (m : Int) (h0 : 0 ≤ m) (h1 : m ≤ 1099511627776) (h : xs.length ≤ 1099511627776) : Ev (fun k => laws_markByteS.f k xs m) (m + xs.length, marksByte m xs.length) := by
  refine Ev.at_ xs.length fun k hk => ?_
  simp only [laws_markByteS.f]
  have h := markByteS_loop xs [] m k h0 (by omega) (by simp only [List.length_nil]; omega) hk
  simpa using h
theorem heldByteS_loop (d : Nat) : ∀ (pre : List Int) (m : Int) (k : Nat), 0 ≤ m → m ≤ 1152921504606846976 - d → pre.length + d ≤ 1099511627776 → d < k →
    laws_heldByteS.l0 k (pre ++ marksByte m d) m (pre.length : Int) = some (m + d) := by
  induction d with
  | zero =>
    intro pre m k _ _ _ hk
    obtain ⟨k, rfl⟩ := succ_of hk
    simp only [marksByte]
    simp only [laws_heldByteS.l0]
    rw [if_neg (by simp only [List.length_append, List.length_nil]; omega)]
    simp
  | succ d ih =>
    intro pre m k h0 h1 hn hk
    obtain ⟨k, rfl⟩ := succ_of hk
    simp only [marksByte]
    simp only [laws_heldByteS.l0]
    rw [if_pos (by simp only [List.length_append, List.length_cons]; omega), if_pos (by omega), rd_mid, if_pos rfl, w64 (x := m + 1) (by omega) (by omega), w64 (by omega) (by omega)]
    have h := ih (pre ++ [m % 256]) (m + 1) k (by omega) (by omega) (by simp only [List.length_append, List.length_cons, List.length_nil]; omega) (by omega)
    simp only [List.length_append, List.length_cons, List.length_nil, List.append_assoc, List.cons_append, List.nil_append] at h
    rw [show (pre.length : Int) + 1 = ((pre.length + (0 + 1) : Nat) : Int) from by omega, h]
    congr 1
    omega
theorem heldByteS_ev (m : Int) (d : Nat) (h0 : 0 ≤ m) (h1 : m ≤ 1099511627776) (h : d ≤ 1099511627776) : Ev (fun k => laws_heldByteS.f k (marksByte m d) m) (m + d) := by
  refine Ev.at_ d fun k hk => ?_
  simp only [laws_heldByteS.f]
  have h := heldByteS_loop d [] m k h0 (by omega) (by simp only [List.length_nil]; omega) hk
  simpa using h

theorem iSameOid_loop (a : List Int) : ∀ (b pre pre' : List Int) (m : Int) (k : Nat), pre.length = pre'.length → a.length = b.length → pre.length + a.length ≤ 1099511627776 → m = (pre.length : Int) + (a.length : Int) → a.length < k →
    impl_SameOid.l0 k (pre ++ a) (pre' ++ b) m (pre.length : Int) = some (decide (a = b)) := by
  induction a with
  | nil =>
    intro b pre pre' m k hp hab hn hm hk
    obtain ⟨k, rfl⟩ := succ_of hk
    obtain rfl : b = [] := List.eq_nil_of_length_eq_zero hab.symm
    simp only [impl_SameOid.l0]
    rw [if_neg (by simp only [List.length_append, List.length_nil] at *; omega)]
    simp
  | cons r a ih =>
    intro b pre pre' m k hp hab hn hm hk
    obtain ⟨k, rfl⟩ := succ_of hk
    cases b with
    | nil => simp at hab
    | cons s b =>
      simp only [List.length_cons] at hab hn hk hm
      simp only [impl_SameOid.l0]
      have e : rd (pre' ++ s :: b) (pre.length : Int) = s := by rw [hp, rd_mid]
      rw [if_pos (by omega), if_pos (by omega), if_pos (by simp only [List.length_append, List.length_cons]; omega), if_pos (by simp only [List.length_append, List.length_cons]; omega), rd_mid, e]
      by_cases hrs : r = s
      · subst hrs
        rw [if_pos rfl, w64 (by omega) (by omega)]
        have h := ih b (pre ++ [r]) (pre' ++ [r]) m k (by simp [hp]) (by omega) (by simp only [List.length_append, List.length_cons, List.length_nil]; omega) (by simp only [List.length_append, List.length_cons, List.length_nil]; omega) (by omega)
        simpa using h
      · rw [if_neg hrs]
        simp [hrs]
theorem iSameOid_ev (a b : List Int) (h : a.length ≤ 1099511627776) : Ev (fun k => impl_SameOid.f k a b) (decide (a = b)) := by
  refine Ev.at_ a.length fun k hk => ?_
  simp only [impl_SameOid.f]
  by_cases e : a.length = b.length
  · rw [if_pos (by omega)]
    have h := iSameOid_loop a b [] [] (a.length : Int) k rfl e (by simp only [List.length_nil]; omega) (by simp) hk
    simpa using h
  · rw [if_neg (by omega)]
    have hne : ¬ a = b := fun h => e (by rw [h])
    simp [hne]

def oidNums (xs : List Int) : Bool := xs.all fun n => decide (0 ≤ n ∧ n ≤ 100000)
def oidOk (xs : List Int) : Bool := oidNums xs && decide (1 ≤ (xs.length : Int) ∧ (xs.length : Int) ≤ 10)

theorem sOidOk_loop (rest : List Int) : ∀ (pre : List Int) (k : Nat), pre.length + rest.length ≤ 1099511627776 → rest.length < k →
    spec_OidOk.l0 k (pre ++ rest) (pre.length : Int) = some (oidNums rest && decide (1 ≤ ((pre ++ rest).length : Int) ∧ ((pre ++ rest).length : Int) ≤ 10)) := by
  induction rest with
  | nil =>
    intro pre k _ hk
    obtain ⟨k, rfl⟩ := succ_of hk
    simp only [spec_OidOk.l0]
    rw [if_neg (by simp only [List.length_append, List.length_nil]; omega), l1In_eq]
    simp [oidNums]
  | cons r rest ih =>
    intro pre k hn hk
    obtain ⟨k, rfl⟩ := succ_of hk
    simp only [List.length_cons] at hn hk
    simp only [spec_OidOk.l0]
    rw [if_pos (by simp only [List.length_append, List.length_cons]; omega), if_pos (by omega), rd_mid, l1In_eq, w64 (by omega) (by omega)]
    simp only [Option.bind_some]
    by_cases h : 0 ≤ r ∧ r ≤ 100000
    · rw [if_pos (by simpa using h)]
      have e := ih (pre ++ [r]) k (by simp only [List.length_append, List.length_cons, List.length_nil]; omega) (by omega)
      simp only [List.append_assoc, List.cons_append, List.nil_append] at e
      rw [show (pre.length : Int) + 1 = ((pre ++ [r]).length : Int) from by simp, e]
      simp [oidNums, h]
    · rw [if_neg (by simpa using h)]
      simp only [oidNums, List.all_cons, decide_eq_false h, Bool.false_and]
theorem sOidOk_ev (xs : List Int) (h : xs.length ≤ 1099511627776) : Ev (fun k => spec_OidOk.f k xs) (oidOk xs) := by
  refine Ev.at_ xs.length fun k hk => ?_
  simp only [spec_OidOk.f]
  have e := sOidOk_loop xs [] k (by simp only [List.length_nil]; omega) hk
  simpa [oidOk] using e

theorem iOidOk_loop (rest : List Int) : ∀ (pre all : List Int) (m : Int) (k : Nat), m = (pre.length : Int) + rest.length → pre.length + rest.length ≤ 1099511627776 → rest.length < k →
    impl_OidOk.l0 k all (pre ++ rest) m (pre.length : Int) = some (oidNums rest && decide (1 ≤ (all.length : Int) ∧ (all.length : Int) ≤ 10)) := by
  induction rest with
  | nil =>
    intro pre all m k hm _ hk
    obtain ⟨k, rfl⟩ := succ_of hk
    simp only [List.length_nil] at hm
    simp only [impl_OidOk.l0]
    rw [if_neg (by omega), in_eq]
    simp [oidNums]
  | cons r rest ih =>
    intro pre all m k hm hn hk
    obtain ⟨k, rfl⟩ := succ_of hk
    simp only [List.length_cons] at hm hn hk
    simp only [impl_OidOk.l0]
    rw [if_pos (by omega), if_pos (by omega), if_pos (by simp only [List.length_append, List.length_cons]; omega), rd_mid, in_eq, w64 (by omega) (by omega)]
    simp only [Option.bind_some]
    by_cases h : 0 ≤ r ∧ r ≤ 100000
    · rw [if_pos (by simpa using h)]
      have e := ih (pre ++ [r]) all m k (by simp only [List.length_append, List.length_cons, List.length_nil]; omega) (by simp only [List.length_append, List.length_cons, List.length_nil]; omega) (by omega)
      simp only [List.append_assoc, List.cons_append, List.nil_append] at e
      rw [show (pre.length : Int) + 1 = ((pre ++ [r]).length : Int) from by simp, e]
      simp [oidNums, h]
    · rw [if_neg (by simpa using h)]
      simp only [oidNums, List.all_cons, decide_eq_false h, Bool.false_and]
theorem iOidOk_ev (xs : List Int) (h : xs.length ≤ 1099511627776) : Ev (fun k => impl_OidOk.f k xs) (oidOk xs) := by
  refine Ev.at_ xs.length fun k hk => ?_
  simp only [impl_OidOk.f]
  have e := iOidOk_loop xs [] xs (xs.length : Int) k (by simp) (by simp only [List.length_nil]; omega) hk
  simpa [oidOk] using e

def clip (n : Int) : Int := if n > 2147483647 then 2147483647 else if n < -2147483648 then -2147483648 else n
theorem clip_bd (n : Int) : -2147483648 ≤ clip n ∧ clip n ≤ 2147483647 := by
  unfold clip
  split
  · omega
  · split <;> omega
def putInt (n : Int) : List Int :=
  if -128 ≤ n ∧ n ≤ 127 then [n % 256]
  else if -32768 ≤ n ∧ n ≤ 32767 then [n / 256 % 256, n % 256]
  else if -8388608 ≤ n ∧ n ≤ 8388607 then [n / 65536 % 256, n / 256 % 256, n % 256]
  else [n / 16777216 % 256, n / 65536 % 256, n / 256 % 256, n % 256]
theorem putInt_len (n : Int) : (putInt n).length ≤ 4 := by
  unfold putInt
  split
  · simp
  · split
    · simp
    · split <;> simp

theorem sClip_eq (n : Int) : spec_l1Clip.f n = some (clip n) := by
  unfold spec_l1Clip.f clip
  split
  · rfl
  · split <;> rfl
theorem sPutInt_stop (k : Nat) (n : Int) (out : List Int) (h0 : -128 ≤ n) (h1 : n ≤ 127) : spec_PutInt.l0 (k + 1) n out = some out := by
  simp only [spec_PutInt.l0]
  rw [if_neg (by omega), if_neg (by omega)]
theorem sPutInt_go (k : Nat) (n : Int) (out : List Int) (h : n < -128 ∨ n > 127) (ho : out.length < 1000) : spec_PutInt.l0 (k + 1) n out = spec_PutInt.l0 k (n / 256) ([n / 256 % 256] ++ out) := by
  simp only [spec_PutInt.l0]
  by_cases h0 : n < -128
  · rw [if_pos h0]
    simp only [Option.bind_some]
    rw [if_pos (by simp only [List.length_cons, List.length_nil]; omega)]
  · rw [if_neg h0, if_pos (by omega)]
    simp only [Option.bind_some]
    rw [if_pos (by simp only [List.length_cons, List.length_nil]; omega)]
theorem sPutInt_at (m : Nat) (n : Int) (h0 : -2147483648 ≤ n) (h1 : n ≤ 2147483647) : spec_PutInt.l0 (m + 4) n [n % 256] = some (putInt n) := by
  unfold putInt
  by_cases c1 : -128 ≤ n ∧ n ≤ 127
  · rw [if_pos c1, sPutInt_stop _ _ _ c1.1 c1.2]
  · rw [if_neg c1, sPutInt_go _ _ _ (by omega) (by simp)]
    by_cases c2 : -32768 ≤ n ∧ n ≤ 32767
    · rw [if_pos c2, sPutInt_stop _ _ _ (by omega) (by omega)]
      rfl
    · rw [if_neg c2, sPutInt_go _ _ _ (by omega) (by simp), show n / 256 / 256 = n / 65536 by omega]
      by_cases c3 : -8388608 ≤ n ∧ n ≤ 8388607
      · rw [if_pos c3, sPutInt_stop _ _ _ (by omega) (by omega)]
        rfl
      · rw [if_neg c3, sPutInt_go _ _ _ (by omega) (by simp), show n / 65536 / 256 = n / 16777216 by omega, sPutInt_stop _ _ _ (by omega) (by omega)]
        rfl
theorem sPutInt_ev (n : Int) : Ev (fun k => spec_PutInt.f k n) (putInt (clip n)) := by
  refine Ev.at_ 4 fun k hk => ?_
  obtain ⟨m, rfl⟩ : ∃ m, k = m + 4 := ⟨k - 4, by omega⟩
  simp only [spec_PutInt.f, sClip_eq, Option.bind_some]
  exact sPutInt_at m _ (clip_bd n).1 (clip_bd n).2

theorem iClip_eq (n : Int) : mx (-2147483648) (mn n 2147483647) = clip n := by
  unfold mx mn clip
  split <;> split <;> (try split) <;> omega
theorem iPutInt_l1 (k : Nat) (n i : Int) (out : List Int) (s q : Int) (h0 : 0 ≤ i) (hi : wrap64 (8 * i) = s) (hs : 0 ≤ s) (hq : shr .i64 n s = q) (ho : out.length < 1000) :
    impl_PutInt.l1 (k + 1) n out i = impl_PutInt.l1 k n (out ++ [q % 256]) (wrap64 (i - 1)) := by
  simp only [impl_PutInt.l1]
  rw [if_pos h0, hi, if_pos hs, if_pos (by omega), hq]
theorem iPutInt_l1_end (k : Nat) (n : Int) (out : List Int) : impl_PutInt.l1 (k + 1) n out (-1) = some out := by
  simp only [impl_PutInt.l1]
  rw [if_neg (by omega)]
theorem shr0 (n : Int) : shr .i64 n 0 = n := by
  show n / 1 = n
  omega
theorem shr8 (n : Int) : shr .i64 n 8 = n / 256 := rfl
theorem shr16 (n : Int) : shr .i64 n 16 = n / 65536 := rfl
theorem shr24 (n : Int) : shr .i64 n 24 = n / 16777216 := rfl
theorem iPutInt_j1 (m : Nat) (n : Int) : impl_PutInt.j1 (m + 3) n 1 = some [n % 256] ∧ impl_PutInt.j1 (m + 4) n 2 = some [n / 256 % 256, n % 256] ∧
    impl_PutInt.j1 (m + 5) n 3 = some [n / 65536 % 256, n / 256 % 256, n % 256] ∧ impl_PutInt.j1 (m + 6) n 4 = some [n / 16777216 % 256, n / 65536 % 256, n / 256 % 256, n % 256] := by
  have t1 : wrap64 (1 - 1) = 0 := by decide +kernel
  have t2 : wrap64 (2 - 1) = 1 := by decide +kernel
  have t3 : wrap64 (3 - 1) = 2 := by decide +kernel
  have t4 : wrap64 (4 - 1) = 3 := by decide +kernel
  have s0 : wrap64 (0 - 1) = -1 := by decide +kernel
  have e0 : ∀ k out, out.length < 1000 → impl_PutInt.l1 (k + 2) n out 0 = some (out ++ [n % 256]) := fun k out ho => by
    rw [iPutInt_l1 (k + 1) n 0 out 0 n (by decide +kernel) (by decide +kernel) (by decide +kernel) (shr0 n) ho, s0, iPutInt_l1_end]
  have e1 : ∀ k out, out.length < 900 → impl_PutInt.l1 (k + 3) n out 1 = some (out ++ [n / 256 % 256] ++ [n % 256]) := fun k out ho => by
    rw [iPutInt_l1 (k + 2) n 1 out 8 _ (by decide +kernel) (by decide +kernel) (by decide +kernel) (shr8 n) (by omega), t1, e0 _ _ (by simp only [List.length_append, List.length_cons, List.length_nil]; omega)]
  have e2 : ∀ k out, out.length < 800 → impl_PutInt.l1 (k + 4) n out 2 = some (out ++ [n / 65536 % 256] ++ [n / 256 % 256] ++ [n % 256]) := fun k out ho => by
    rw [iPutInt_l1 (k + 3) n 2 out 16 _ (by decide +kernel) (by decide +kernel) (by decide +kernel) (shr16 n) (by omega), t2, e1 _ _ (by simp only [List.length_append, List.length_cons, List.length_nil]; omega)]
  have e3 : ∀ k out, out.length < 700 → impl_PutInt.l1 (k + 5) n out 3 = some (out ++ [n / 16777216 % 256] ++ [n / 65536 % 256] ++ [n / 256 % 256] ++ [n % 256]) := fun k out ho => by
    rw [iPutInt_l1 (k + 4) n 3 out 24 _ (by decide +kernel) (by decide +kernel) (by decide +kernel) (shr24 n) (by omega), t3, e2 _ _ (by simp only [List.length_append, List.length_cons, List.length_nil]; omega)]
  refine ⟨?_, ?_, ?_, ?_⟩
  · simp only [impl_PutInt.j1]
    rw [t1, e0 _ _ (by simp)]
    rfl
  · simp only [impl_PutInt.j1]
    rw [t2, e1 _ _ (by simp)]
    rfl
  · simp only [impl_PutInt.j1]
    rw [t3, e2 _ _ (by simp)]
    rfl
  · simp only [impl_PutInt.j1]
    rw [t4, e3 _ _ (by simp)]
    rfl
theorem iPutInt_l0 (k : Nat) (n j s lo hi : Int) (h4 : j < 4) (hs : wrap64 (wrap64 (8 * j) - 1) = s) (h0 : 0 ≤ s) (hl : shl .i64 (-1) s = lo) (hh : wrap64 (shl .i64 1 s - 1) = hi) :
    impl_PutInt.l0 (k + 1) n j = if lo ≤ n ∧ n ≤ hi then impl_PutInt.j1 k n j else impl_PutInt.l0 k n (wrap64 (j + 1)) := by
  simp only [impl_PutInt.l0]
  rw [if_pos h4, hs, if_pos h0, hl, hh, in_eq]
  simp only [Option.bind_some, decide_eq_true_eq]
theorem iPutInt_ev (n : Int) : Ev (fun k => impl_PutInt.f k n) (putInt (clip n)) := by
  refine Ev.at_ 12 fun k hk => ?_
  obtain ⟨m, rfl⟩ : ∃ m, k = m + 12 := ⟨k - 12, by omega⟩
  simp only [impl_PutInt.f]
  rw [iClip_eq]
  generalize clip n = c
  unfold putInt
  rw [iPutInt_l0 (m + 11) c 1 7 (-128) 127 (by decide +kernel) (by decide +kernel) (by decide +kernel) (by decide +kernel) (by decide +kernel)]
  by_cases c1 : -128 ≤ c ∧ c ≤ 127
  · rw [if_pos c1, if_pos c1]
    exact (iPutInt_j1 (m + 8) c).1
  · rw [if_neg c1, if_neg c1, show wrap64 (1 + 1) = 2 by decide +kernel, iPutInt_l0 (m + 10) c 2 15 (-32768) 32767 (by decide +kernel) (by decide +kernel) (by decide +kernel) (by decide +kernel) (by decide +kernel)]
    by_cases c2 : -32768 ≤ c ∧ c ≤ 32767
    · rw [if_pos c2, if_pos c2]
      exact (iPutInt_j1 (m + 6) c).2.1
    · rw [if_neg c2, if_neg c2, show wrap64 (2 + 1) = 3 by decide +kernel, iPutInt_l0 (m + 9) c 3 23 (-8388608) 8388607 (by decide +kernel) (by decide +kernel) (by decide +kernel) (by decide +kernel) (by decide +kernel)]
      by_cases c3 : -8388608 ≤ c ∧ c ≤ 8388607
      · rw [if_pos c3, if_pos c3]
        exact (iPutInt_j1 (m + 4) c).2.2.1
      · rw [if_neg c3, if_neg c3, show wrap64 (3 + 1) = 4 by decide +kernel]
        simp only [impl_PutInt.l0]
        rw [if_neg (by omega)]
        exact (iPutInt_j1 (m + 2) c).2.2.2

theorem wraps_i64 (n : Int) (h0 : 0 ≤ n) (h1 : n < 2 ^ 63) : IntKind.i64.wrap n = n := by rw [IntKind.wrap_i64]; omega
theorem and127 (x : Int) (h0 : 0 ≤ x) (h1 : x < 9223372036854775808) : Go.bits .and .i64 x 127 = x % 128 :=
  Go.bits_mask .i64 63 (by decide) wraps_i64 7 (by decide) x h0 h1
theorem or128 (y : Int) (h0 : 0 ≤ y) (h1 : y < 128) : Go.bits .or .i64 y 128 = y + 128 := by
  obtain ⟨b, rfl⟩ := Int.eq_ofNat_of_zero_le h0
  have hb : b < 2 ^ 7 := by omega
  have e := (Go.bits_nat .i64 63 (by decide) wraps_i64 b 128 (by omega) (by decide)).2
  rw [show (128 : Int) = ((128 : Nat) : Int) from rfl, e, Nat.or_comm]
  have h := Nat.two_pow_add_eq_or_of_lt hb 1
  rw [show (2 : Nat) ^ 7 * 1 = 128 from rfl] at h
  rw [← h]
  omega
def group (n : Int) : List Int :=
  if n ≤ 127 then [n] else if n ≤ 16383 then [n / 128 + 128, n % 128] else [n / 16384 + 128, n / 128 % 128 + 128, n % 128]
theorem group_len (n : Int) : 1 ≤ (group n).length ∧ (group n).length ≤ 3 := by
  unfold group
  split
  · simp
  · split <;> simp
def putOid (o : List Int) : List Int := if oidOk o = true then o.flatMap group else []
theorem flat_len (o : List Int) : (o.flatMap group).length ≤ 3 * o.length := by
  induction o with
  | nil => simp
  | cons n o ih =>
    have := group_len n
    simp only [List.flatMap_cons, List.length_append, List.length_cons]
    omega
theorem putOid_len (o : List Int) : (putOid o).length ≤ 30 := by
  unfold putOid
  split
  · rename_i h
    have h1 := flat_len o
    simp only [oidOk, Bool.and_eq_true, decide_eq_true_eq] at h
    omega
  · simp
theorem oidNums_cons (n : Int) (o : List Int) (h : oidNums (n :: o) = true) : (0 ≤ n ∧ n ≤ 100000) ∧ oidNums o = true := by
  simp only [oidNums, List.all_cons, Bool.and_eq_true, decide_eq_true_eq] at h
  exact h

theorem sGroup_ev (n : Int) (h0 : 0 ≤ n) (h1 : n ≤ 100000) : Ev (fun k => spec_l2Group.f k n) (group n) := by
  unfold spec_l2Group.f
  simp only [and127 n h0 (by omega), show n % 128 % 256 = n % 128 by omega]
  refine Ev.succ ?_
  simp only [spec_l2Group.l0]
  unfold group
  by_cases c1 : n ≤ 127
  · simp only [if_neg (show ¬ n > 127 by omega), if_pos c1, show n % 128 = n by omega]
    exact Ev.now _
  · simp only [if_pos (show n > 127 by omega), if_neg c1, Option.bind_some, List.length_cons, List.length_nil, and127 (n / 128) (by omega) (by omega), or128 (n / 128 % 128) (by omega) (by omega), show (n / 128 % 128 + 128) % 256 = n / 128 % 128 + 128 by omega]
    simp only [if_pos (show 0 + 1 + (0 + 1) < 140737488355328 by omega)]
    refine Ev.succ ?_
    simp only [spec_l2Group.l0]
    by_cases c2 : n ≤ 16383
    · simp only [if_neg (show ¬ n / 128 > 127 by omega), if_pos c2, show n / 128 % 128 = n / 128 by omega]
      exact Ev.now _
    · simp only [if_pos (show n / 128 > 127 by omega), if_neg c2, Option.bind_some, List.length_cons, List.length_nil, List.length_append, show n / 128 / 128 = n / 16384 by omega, and127 (n / 16384) (by omega) (by omega), or128 (n / 16384 % 128) (by omega) (by omega), show (n / 16384 % 128 + 128) % 256 = n / 16384 + 128 by omega]
      simp only [if_pos (show 0 + 1 + (0 + 1 + (0 + 1)) < 140737488355328 by omega)]
      refine Ev.succ ?_
      simp only [spec_l2Group.l0]
      simp only [if_neg (show ¬ n / 16384 > 127 by omega)]
      exact Ev.now _
theorem sPutOid_loop (rest : List Int) : ∀ (pre out : List Int), pre.length + rest.length ≤ 1048576 → out.length ≤ 3 * pre.length → oidNums rest = true →
    Ev (fun k => spec_PutOid.l0 k (pre ++ rest) out (pre.length : Int)) (out ++ rest.flatMap group) := by
  induction rest with
  | nil =>
    intro pre out _ _ _
    refine Ev.succ ?_
    simp only [spec_PutOid.l0]
    simp only [List.append_nil, if_neg (show ¬ (pre.length : Int) < (pre.length : Int) by omega), List.flatMap_nil]
    exact Ev.now _
  | cons r rest ih =>
    intro pre out hn ho hw
    simp only [List.length_cons] at hn
    obtain ⟨hr, hw⟩ := oidNums_cons r rest hw
    have hg := group_len r
    have h := ih (pre ++ [r]) (out ++ group r) (by simp only [List.length_append, List.length_cons, List.length_nil]; omega) (by simp only [List.length_append, List.length_cons, List.length_nil]; omega) hw
    simp only [List.append_assoc, List.cons_append, List.nil_append] at h
    rw [show ((pre ++ [r]).length : Int) = (pre.length : Int) + 1 by simp] at h
    refine Ev.succ ?_
    simp only [spec_PutOid.l0]
    simp only [if_pos (show (pre.length : Int) < ((pre ++ r :: rest).length : Int) by simp only [List.length_append, List.length_cons]; omega), if_pos (show (0 : Int) ≤ (pre.length : Int) by omega), rd_mid, w64 (x := (pre.length : Int) + 1) (by omega) (by omega)]
    refine Ev.bind (sGroup_ev r hr.1 hr.2) ?_
    simp only [if_pos (show out.length + (group r).length < 140737488355328 by omega), List.flatMap_cons]
    exact h
theorem sPutOid_ev (o : List Int) (h : o.length ≤ 1048576) : Ev (fun k => spec_PutOid.f k o) (putOid o) := by
  unfold spec_PutOid.f putOid
  simp only [Option.bind_some]
  refine Ev.bind (sOidOk_ev o (by omega)) ?_
  by_cases c : oidOk o = true
  · simp only [if_pos c]
    have c' := c
    simp only [oidOk, Bool.and_eq_true] at c'
    have e := sPutOid_loop o [] [] (by simp only [List.length_nil]; omega) (by simp) c'.1
    simpa using e
  · simp only [if_neg c]
    exact Ev.now _

theorem shr7 (n : Int) : shr .i64 n 7 = n / 128 := rfl
theorem shr14 (n : Int) : shr .i64 n 14 = n / 16384 := rfl
theorem shrz (n : Int) : shr .i64 n 0 = n := by
  show n / 1 = n
  omega
theorem iGroup_ev (n : Int) (h0 : 0 ≤ n) (h1 : n ≤ 100000) (out xs : List Int) (m i : Int) (r : List Int) (ho : out.length ≤ 100000000) (h : Ev (fun k => impl_PutOid.l0 k (out ++ group n) xs m (wrap64 (i + 1))) r) :
    Ev (fun k => impl_PutOid.l1 k out n 0 xs m i) r := by
  have a0 : wrap64 (7 * 0) = 0 := by decide +kernel
  have a1 : wrap64 (7 * 1) = 7 := by decide +kernel
  have a2 : wrap64 (7 * 2) = 14 := by decide +kernel
  have b1 : wrap64 (0 + 1) = 1 := by decide +kernel
  have b2 : wrap64 (1 + 1) = 2 := by decide +kernel
  have d1 : wrap64 (1 - 1) = 0 := by decide +kernel
  have d2 : wrap64 (2 - 1) = 1 := by decide +kernel
  have z : (0 : Int) ≤ 0 := by decide
  have z7 : (0 : Int) ≤ 7 := by decide
  have z14 : (0 : Int) ≤ 14 := by decide
  unfold group at h
  refine Ev.succ ?_
  simp only [impl_PutOid.l1]
  simp only [a0, shrz, if_pos z, b1]
  by_cases c1 : n ≤ 127
  · simp only [if_neg (show ¬ n > 127 by omega)]
    simp only [if_pos c1] at h
    refine Ev.succ ?_
    simp only [impl_PutOid.l2]
    simp only [if_neg (show ¬ (0 : Int) > 0 by omega), if_pos (show out.length < 140737488355328 by omega), and127 n h0 (by omega), show n % 128 % 256 = n by omega]
    exact h
  · simp only [if_pos (show n > 127 by omega)]
    simp only [if_neg c1] at h
    refine Ev.succ ?_
    simp only [impl_PutOid.l1]
    simp only [a1, shr7, if_pos z7, b2]
    by_cases c2 : n ≤ 16383
    · simp only [if_neg (show ¬ n / 128 > 127 by omega)]
      simp only [if_pos c2] at h
      refine Ev.succ ?_
      simp only [impl_PutOid.l2]
      simp only [if_pos (show (1 : Int) > 0 by omega), a1, if_pos z7, shr7, if_pos (show out.length < 140737488355328 by omega), d1, and127 (n / 128) (by omega) (by omega)]
      rw [w64 (by omega) (by omega), show (n / 128 % 128 + 128) % 256 = n / 128 + 128 by omega]
      refine Ev.succ ?_
      simp only [impl_PutOid.l2]
      simp only [if_neg (show ¬ (0 : Int) > 0 by omega), List.length_append, List.length_cons, List.length_nil, if_pos (show out.length + (0 + 1) < 140737488355328 by omega), and127 n h0 (by omega), show n % 128 % 256 = n % 128 by omega, List.append_assoc, List.cons_append, List.nil_append]
      exact h
    · simp only [if_pos (show n / 128 > 127 by omega)]
      simp only [if_neg c2] at h
      refine Ev.succ ?_
      simp only [impl_PutOid.l1]
      simp only [a2, shr14, if_pos z14, if_neg (show ¬ n / 16384 > 127 by omega)]
      refine Ev.succ ?_
      simp only [impl_PutOid.l2]
      simp only [if_pos (show (2 : Int) > 0 by omega), a2, if_pos z14, shr14, if_pos (show out.length < 140737488355328 by omega), d2, and127 (n / 16384) (by omega) (by omega)]
      rw [w64 (by omega) (by omega), show (n / 16384 % 128 + 128) % 256 = n / 16384 + 128 by omega]
      refine Ev.succ ?_
      simp only [impl_PutOid.l2]
      simp only [if_pos (show (1 : Int) > 0 by omega), a1, if_pos z7, shr7, List.length_append, List.length_cons, List.length_nil, if_pos (show out.length + (0 + 1) < 140737488355328 by omega), d1, and127 (n / 128) (by omega) (by omega)]
      rw [w64 (by omega) (by omega), show (n / 128 % 128 + 128) % 256 = n / 128 % 128 + 128 by omega]
      refine Ev.succ ?_
      simp only [impl_PutOid.l2]
      simp only [if_neg (show ¬ (0 : Int) > 0 by omega), List.length_append, List.length_cons, List.length_nil, if_pos (show out.length + (0 + 1) + (0 + 1) < 140737488355328 by omega), and127 n h0 (by omega), show n % 128 % 256 = n % 128 by omega, List.append_assoc, List.cons_append, List.nil_append]
      exact h
theorem iPutOid_loop (rest : List Int) : ∀ (pre out : List Int) (m : Int), m = (pre.length : Int) + rest.length → pre.length + rest.length ≤ 1048576 → out.length ≤ 3 * pre.length → oidNums rest = true →
    Ev (fun k => impl_PutOid.l0 k out (pre ++ rest) m (pre.length : Int)) (out ++ rest.flatMap group) := by
  induction rest with
  | nil =>
    intro pre out m hm _ _ _
    simp only [List.length_nil] at hm
    refine Ev.succ ?_
    simp only [impl_PutOid.l0]
    simp only [if_neg (show ¬ (pre.length : Int) < m by omega), List.flatMap_nil, List.append_nil]
    exact Ev.now _
  | cons r rest ih =>
    intro pre out m hm hn ho hw
    simp only [List.length_cons] at hm hn
    obtain ⟨hr, hw⟩ := oidNums_cons r rest hw
    have hg := group_len r
    have h := ih (pre ++ [r]) (out ++ group r) m (by simp only [List.length_append, List.length_cons, List.length_nil]; omega) (by simp only [List.length_append, List.length_cons, List.length_nil]; omega) (by simp only [List.length_append, List.length_cons, List.length_nil]; omega) hw
    simp only [List.append_assoc, List.cons_append, List.nil_append] at h
    rw [show ((pre ++ [r]).length : Int) = (pre.length : Int) + 1 by simp] at h
    refine Ev.succ ?_
    simp only [impl_PutOid.l0]
    simp only [if_pos (show (pre.length : Int) < m by omega), if_pos (show (0 : Int) ≤ (pre.length : Int) by omega), if_pos (show (pre.length : Int) < ((pre ++ r :: rest).length : Int) by simp only [List.length_append, List.length_cons]; omega), rd_mid]
    refine iGroup_ev r hr.1 hr.2 out _ m _ _ (by omega) ?_
    rw [w64 (by omega) (by omega), List.flatMap_cons]
    exact h
theorem iPutOid_ev (o : List Int) (h : o.length ≤ 1048576) : Ev (fun k => impl_PutOid.f k o) (putOid o) := by
  unfold impl_PutOid.f putOid
  refine Ev.bind (iOidOk_ev o (by omega)) ?_
  by_cases c : oidOk o = true
  · simp only [if_pos c]
    have c' := c
    simp only [oidOk, Bool.and_eq_true] at c'
    have e := iPutOid_loop o [] [] (o.length : Int) (by simp) (by simp only [List.length_nil]; omega) (by simp) c'.1
    simpa using e
  · simp only [if_neg c]
    exact Ev.now _

theorem szIntS_eq (l : List Int) (a : Int) (h0 : 0 ≤ a) (h1 : a ≤ 1099511627776) (hl : l.length ≤ maxLen) : laws_szIntS.f l a = some (if a - (l.length : Int) < 0 then -1 else a - (l.length : Int)) := by
  have hl' : l.length ≤ 9223372036854775807 := hl
  unfold laws_szIntS.f
  rw [w64 (by omega) (by omega)]
  split <;> rfl
theorem szVal_eq (a b : Int) (s : ByteArray) (l : List Int) (n : Int) (h0 : 0 ≤ n) (h1 : n ≤ 1099511627776) (hs : s.size ≤ maxLen) (hl : l.length ≤ maxLen) :
    ∃ m : Int, laws_szVal.f a b s l n = some m ∧ (m < 0 ∨ (m = n - s.size - l.length ∧ 0 ≤ m)) := by
  have hs' : s.size ≤ 9223372036854775807 := hs
  have hl' : l.length ≤ 9223372036854775807 := hl
  unfold laws_szVal.f
  rw [w64 (by omega) (by omega)]
  by_cases h : n - (s.size : Int) < 0
  · exact ⟨-1, by rw [if_pos h], Or.inl (by omega)⟩
  · rw [if_neg h, szIntS_eq l _ (by omega) (by omega) hl]
    simp only [Option.bind_some]
    by_cases h' : n - (s.size : Int) - (l.length : Int) < 0
    · exact ⟨-1, by simp only [if_pos h']; rfl, Or.inl (by omega)⟩
    · exact ⟨n - (s.size : Int) - (l.length : Int), by simp only [if_neg h'], Or.inr ⟨rfl, by omega⟩⟩
theorem toVal_ev (a b : Int) (s : ByteArray) (l : List Int) (h : l.length ≤ 1048576) : Ev (fun k => laws_toVal.f k a b s l) (a, b, s, l) := by
  unfold laws_toVal.f
  refine Ev.bind (toIntS_ev l h) ?_
  exact Ev.now _
theorem eqVal_ev (a b : Int) (s : ByteArray) (l : List Int) (h : l.length ≤ 1099511627776) : Ev (fun k => laws_eqVal.f k a b s l a b s l) true := by
  unfold laws_eqVal.f
  simp only [↓reduceIte]
  refine Ev.bind (eqIntS_ev l l h) ?_
  simp only [decide_true, ↓reduceIte]
  exact Ev.now _

def sameVal (a b : Int) (s : ByteArray) (l : List Int) (a' b' : Int) (s' : ByteArray) (l' : List Int) : Bool :=
  if a = a' then (if b = b' then (if s.toList = s'.toList then decide (l = l') else false) else false) else false

theorem iSameVal_ev (a b : Int) (s : ByteArray) (l : List Int) (a' b' : Int) (s' : ByteArray) (l' : List Int) (h : l.length ≤ 1099511627776) : Ev (fun k => impl_SameVal.f k a b s l a' b' s' l') (sameVal a b s l a' b' s' l') := by
  unfold impl_SameVal.f sameVal
  refine Ev.ite (fun _ => ?_) (fun _ => Ev.now _)
  refine Ev.ite (fun _ => ?_) (fun _ => Ev.now _)
  refine Ev.ite (fun _ => ?_) (fun _ => Ev.now _)
  refine Ev.bind (iSameOid_ev l l' h) ?_
  exact Ev.now _

def valNil (b : Int) (s : ByteArray) (l : List Int) : Bool := if b = 0 then (if s.toList = ([] : List UInt8) then ((l.length : Int) == 0) else false) else false
def valOk (a b : Int) (s : ByteArray) (l : List Int) : Bool :=
  if a = 5 ∨ a = 128 ∨ a = 130 then valNil b s l
  else if a = 2 then (if clip b = b then (if s.toList = ([] : List UInt8) then ((l.length : Int) == 0) else false) else false)
  else if a = 4 then (if (s.size : Int) ≤ 20 then (if b = 0 then ((l.length : Int) == 0) else false) else false)
  else if a = 6 then (if oidOk l = true then (if b = 0 then (s.toList == ([] : List UInt8)) else false) else false)
  else false
theorem decEmpty (l : List Int) : decide (l = []) = ((l.length : Int) == 0) := by
  cases l with
  | nil => rfl
  | cons x l => simp; omega
theorem emptyStr : (⟨#[]⟩ : ByteArray).toList = ([] : List UInt8) := by decide +kernel
theorem valNil_same (a b : Int) (s : ByteArray) (l : List Int) : sameVal a b s l a 0 ⟨#[]⟩ [] = valNil b s l := by
  unfold sameVal valNil
  rw [if_pos rfl, emptyStr, decEmpty]

theorem sValOk_j (a b : Int) (s : ByteArray) (l : List Int) (q : Bool) (h : l.length ≤ 1048576) (hq : q = true ↔ (a = 5 ∨ a = 128 ∨ a = 130)) : Ev (fun k => spec_ValOk.j0 k a q a b s l) (valOk a b s l) := by
  refine Ev.succ ?_
  simp only [spec_ValOk.j0]
  unfold valOk valNil
  by_cases c : a = 5 ∨ a = 128 ∨ a = 130
  · simp only [if_pos c, if_pos (hq.2 c)]
    refine Ev.ite (fun _ => ?_) (fun _ => Ev.now _)
    refine Ev.ite (fun _ => Ev.now _) (fun _ => Ev.now _)
  · have hq' : ¬ q = true := fun e => c (hq.1 e)
    simp only [if_neg c, if_neg hq', sClip_eq, Option.bind_some]
    refine Ev.ite (fun _ => ?_) (fun _ => ?_)
    · refine Ev.ite (fun _ => ?_) (fun _ => Ev.now _)
      refine Ev.ite (fun _ => Ev.now _) (fun _ => Ev.now _)
    refine Ev.ite (fun _ => ?_) (fun _ => ?_)
    · refine Ev.ite (fun _ => ?_) (fun _ => Ev.now _)
      refine Ev.ite (fun _ => Ev.now _) (fun _ => Ev.now _)
    refine Ev.ite (fun _ => ?_) (fun _ => Ev.now _)
    refine Ev.bind (sOidOk_ev l (by omega)) ?_
    refine Ev.ite (fun _ => ?_) (fun _ => Ev.now _)
    refine Ev.ite (fun _ => Ev.now _) (fun _ => Ev.now _)
theorem sValOk_ev (a b : Int) (s : ByteArray) (l : List Int) (h : l.length ≤ 1048576) : Ev (fun k => spec_ValOk.f k a b s l) (valOk a b s l) := by
  unfold spec_ValOk.f
  by_cases c1 : a = 5
  · simp only [if_pos c1]
    exact sValOk_j a b s l _ h (by simp [c1])
  · simp only [if_neg c1]
    by_cases c2 : a = 128
    · simp only [if_pos c2]
      exact sValOk_j a b s l _ h (by simp [c2])
    · simp only [if_neg c2]
      exact sValOk_j a b s l _ h (by simp [c1, c2])

theorem iIsInt_eq (b : Int) : impl_isInt.f b = some (decide (-2147483648 ≤ b ∧ b ≤ 2147483647)) := by
  unfold impl_isInt.f
  rw [in_eq]
  rfl
theorem clip_same (b : Int) : decide (-2147483648 ≤ b ∧ b ≤ 2147483647) = decide (clip b = b) := by
  unfold clip
  refine decide_eq_decide.2 ⟨fun h => ?_, fun h => ?_⟩
  · rw [if_neg (by omega), if_neg (by omega)]
  · split at h
    · omega
    · split at h <;> omega
theorem iValOk_ev (a b : Int) (s : ByteArray) (l : List Int) (h : l.length ≤ 1048576) : Ev (fun k => impl_ValOk.f k a b s l) (valOk a b s l) := by
  unfold impl_ValOk.f valOk
  by_cases c2 : a = 2
  · simp only [if_pos c2, if_neg (show ¬ (a = 5 ∨ a = 128 ∨ a = 130) by omega), iIsInt_eq, Option.bind_some, clip_same, decide_eq_true_eq]
    refine Ev.ite (fun _ => ?_) (fun _ => Ev.now _)
    refine Ev.bind (iSameVal_ev a b s l a b _ _ (by omega)) ?_
    unfold sameVal
    rw [if_pos rfl, if_pos rfl, emptyStr, decEmpty]
    exact Ev.now _
  simp only [if_neg c2]
  by_cases c4 : a = 4
  · simp only [if_pos c4, if_neg (show ¬ (a = 5 ∨ a = 128 ∨ a = 130) by omega)]
    refine Ev.ite (fun _ => ?_) (fun _ => Ev.now _)
    refine Ev.bind (iSameVal_ev a b s l a 0 s _ (by omega)) ?_
    unfold sameVal
    rw [if_pos rfl, if_pos rfl, decEmpty]
    exact Ev.now _
  simp only [if_neg c4]
  by_cases c6 : a = 6
  · simp only [if_pos c6, if_neg (show ¬ (a = 5 ∨ a = 128 ∨ a = 130) by omega)]
    refine Ev.bind (iOidOk_ev l (by omega)) ?_
    refine Ev.ite (fun _ => ?_) (fun _ => Ev.now _)
    refine Ev.bind (iSameVal_ev a b s l a 0 _ l (by omega)) ?_
    unfold sameVal
    rw [if_pos rfl, emptyStr]
    have e : (if b = 0 then (if s.toList = ([] : List UInt8) then decide (l = l) else false) else false) = (if b = 0 then (s.toList == ([] : List UInt8)) else false) := by
      split
      · by_cases z : s.toList = ([] : List UInt8)
        · simp [z]
        · rw [if_neg z]
          exact (beq_eq_false_iff_ne.2 z).symm
      · rfl
    rw [e]
    exact Ev.now _
  simp only [if_neg c6]
  by_cases c5 : a = 5
  · simp only [if_pos c5, if_pos (show (a = 5 ∨ a = 128 ∨ a = 130) by omega)]
    refine Ev.bind (iSameVal_ev a b s l a 0 _ _ (by omega)) ?_
    rw [valNil_same]
    exact Ev.now _
  simp only [if_neg c5]
  by_cases c8 : a = 128
  · simp only [if_pos c8, if_pos (show (a = 5 ∨ a = 128 ∨ a = 130) by omega)]
    refine Ev.bind (iSameVal_ev a b s l a 0 _ _ (by omega)) ?_
    rw [valNil_same]
    exact Ev.now _
  simp only [if_neg c8]
  by_cases c3 : a = 130
  · simp only [if_pos c3, if_pos (show (a = 5 ∨ a = 128 ∨ a = 130) by omega)]
    refine Ev.bind (iSameVal_ev a b s l a 0 _ _ (by omega)) ?_
    rw [valNil_same]
    exact Ev.now _
  simp only [if_neg c3, if_neg (show ¬ (a = 5 ∨ a = 128 ∨ a = 130) by omega)]
  exact Ev.now _

def tlvOk (tag : Int) (body : List Int) : Bool := decide (0 ≤ tag ∧ tag ≤ 255) && decide ((body.length : Int) ≤ 250)
def tlvBytes (tag : Int) (body : List Int) : List Int := [tag % 256] ++ ((if (body.length : Int) > 127 then [129] else []) ++ ([(body.length : Int) % 256] ++ body))
def putTlv (b : List Int) (tag : Int) (body : List Int) : List Int := if tlvOk tag body = true then b ++ tlvBytes tag body else b
theorem tlvBytes_len (tag : Int) (body : List Int) : (tlvBytes tag body).length ≤ body.length + 3 := by
  unfold tlvBytes
  split <;> simp <;> omega
theorem putTlv_len (b : List Int) (tag : Int) (body : List Int) : (putTlv b tag body).length ≤ b.length + 253 := by
  unfold putTlv
  split
  · rename_i h
    have := tlvBytes_len tag body
    simp only [tlvOk, Bool.and_eq_true, decide_eq_true_eq] at h
    simp only [List.length_append]
    omega
  · omega

theorem sPutTlv_ev (b : List Int) (tag : Int) (body : List Int) (hb : b.length ≤ 1099511627776) (hy : body.length ≤ 1099511627776) : Ev (fun k => spec_PutTlv.f k b tag body) (putTlv b tag body) := by
  refine Ev.succ ?_
  refine Ev.some_const (fun k => ?_)
  simp only [spec_PutTlv.f, spec_PutTlv.j0, Option.bind_some, l1In_eq, List.nil_append]
  rw [if_pos (by simp only [List.length_nil]; omega)]
  unfold putTlv tlvOk tlvBytes
  by_cases h1 : 0 ≤ tag ∧ tag ≤ 255
  · simp only [decide_eq_true h1, if_true, Bool.true_and]
    by_cases h2 : (body.length : Int) > 250
    · simp only [decide_eq_true h2, if_true, decide_eq_false (show ¬ (body.length : Int) ≤ 250 by omega), Bool.false_eq_true, if_false]
    · simp only [decide_eq_false h2, Bool.false_eq_true, if_false, decide_eq_true (show (body.length : Int) ≤ 250 by omega), if_true]
      rw [if_pos (by omega)]
      by_cases h3 : (body.length : Int) > 127
      · simp only [if_pos h3]
        rw [if_pos (by simp only [List.length_append, List.length_cons, List.length_nil]; omega), if_pos (by simp only [List.length_append, List.length_cons, List.length_nil]; omega), if_pos (by simp only [List.length_append, List.length_cons, List.length_nil]; omega)]
        simp
      · simp only [if_neg h3]
        rw [if_pos (by simp only [List.length_append, List.length_cons, List.length_nil]; omega), if_pos (by simp only [List.length_append, List.length_cons, List.length_nil]; omega)]
        simp
  · simp only [decide_eq_false h1, Bool.false_and, Bool.false_eq_true, if_false, if_true]

theorem iCopyBytes_eq (b : List Int) (hb : b.length ≤ 1099511627776) : impl_copyBytes.f b = some b := by
  unfold impl_copyBytes.f
  rw [if_pos (by simp only [List.length_nil]; omega)]
  simp
theorem iTlv_ev (tag : Int) (body : List Int) (hy : body.length ≤ 1099511627776) : Ev (fun k => impl_tlv.f k tag body) (if tlvOk tag body = true then (tlvBytes tag body, true) else ([], false)) := by
  refine Ev.succ ?_
  refine Ev.some_const (fun k => ?_)
  simp only [impl_tlv.f, impl_tlv.j0, Option.bind_some, in_eq]
  unfold tlvOk tlvBytes
  by_cases h1 : 0 ≤ tag ∧ tag ≤ 255
  · simp only [decide_eq_true h1, if_true, Bool.true_and]
    by_cases h2 : (body.length : Int) > 250
    · simp only [decide_eq_true h2, if_true, decide_eq_false (show ¬ (body.length : Int) ≤ 250 by omega), Bool.false_eq_true, if_false]
    · simp only [decide_eq_false h2, Bool.false_eq_true, if_false, decide_eq_true (show (body.length : Int) ≤ 250 by omega), if_true]
      by_cases h3 : (body.length : Int) > 127
      · rw [if_pos (show (body.length : Int) ≥ 128 by omega), if_pos (by simp only [List.length_cons, List.length_nil]; omega), if_pos (by simp only [List.length_append, List.length_cons, List.length_nil]; omega), if_pos (by simp only [List.length_append, List.length_cons, List.length_nil]; omega)]
        simp [h3]
      · rw [if_neg (show ¬ (body.length : Int) ≥ 128 by omega), if_pos (by simp only [List.length_cons, List.length_nil]; omega), if_pos (by simp only [List.length_append, List.length_cons, List.length_nil]; omega)]
        simp [h3]
  · simp only [decide_eq_false h1, Bool.false_and, Bool.false_eq_true, if_false, if_true]
theorem iPutTlv_ev (b : List Int) (tag : Int) (body : List Int) (hb : b.length ≤ 1099511627776) (hy : body.length ≤ 1099511627776) : Ev (fun k => impl_PutTlv.f k b tag body) (putTlv b tag body) := by
  unfold impl_PutTlv.f putTlv
  refine Ev.bind (iTlv_ev tag body hy) ?_
  simp only [iCopyBytes_eq b hb, Option.bind_some]
  by_cases h : tlvOk tag body = true
  · have hl := tlvBytes_len tag body
    simp only [if_pos h]
    rw [if_pos (by omega)]
    exact Ev.now _
  · simp only [if_neg h, List.length_nil, List.append_nil]
    rw [if_pos (by omega)]
    exact Ev.now _

def putBody (t n : Int) (s : ByteArray) (o : List Int) : List Int := if t = 2 then putInt (clip n) else if t = 4 then bytesOf s else if t = 6 then putOid o else []
def putVal (l : List Int) (t n : Int) (s : ByteArray) (o : List Int) : List Int := if valOk t n s o = true then putTlv l t (putBody t n s o) else l
theorem putVal_len (l : List Int) (t n : Int) (s : ByteArray) (o : List Int) : (putVal l t n s o).length ≤ l.length + 253 := by
  unfold putVal
  split
  · exact putTlv_len _ _ _
  · omega
theorem valOk_text (n : Int) (s : ByteArray) (o : List Int) (h : valOk 4 n s o = true) : (s.size : Int) ≤ 20 := by
  unfold valOk at h
  rw [if_neg (by omega), if_neg (by omega), if_pos rfl] at h
  by_cases c : (s.size : Int) ≤ 20
  · exact c
  · rw [if_neg c] at h
    simp at h

theorem sPutVal_ev (l : List Int) (t n : Int) (s : ByteArray) (o : List Int) (hl : l.length ≤ 1048576) (ho : o.length ≤ 1048576) : Ev (fun k => spec_PutVal.f k l t n s o) (putVal l t n s o) := by
  unfold spec_PutVal.f putVal
  refine Ev.bind (sValOk_ev t n s o ho) ?_
  refine Ev.ite (fun hv => ?_) (fun _ => ?_)
  · unfold putBody
    by_cases c2 : t = 2
    · simp only [if_pos c2]
      refine Ev.bind (sPutInt_ev n) (Ev.bind (sPutTlv_ev l t _ (by omega) (by have := putInt_len (clip n); omega)) (Ev.now _))
    by_cases c4 : t = 4
    · subst c4
      have hs := valOk_text n s o hv
      simp only [if_neg c2, if_true, if_pos (show (s.size : Int) < 140737488355328 by omega)]
      refine Ev.bind (sPutTlv_ev l 4 _ (by omega) (by rw [bytesOf_length]; omega)) (Ev.now _)
    by_cases c6 : t = 6
    · simp only [if_neg c2, if_neg c4, if_pos c6]
      refine Ev.bind (sPutOid_ev o ho) (Ev.bind (sPutTlv_ev l t _ (by omega) (by have := putOid_len o; omega)) (Ev.now _))
    · simp only [if_neg c2, if_neg c4, if_neg c6]
      exact Ev.bind (sPutTlv_ev l t [] (by omega) (by simp)) (Ev.now _)
  · simp only [Option.bind_some, List.nil_append, List.length_nil, if_pos (show 0 + l.length < 140737488355328 by omega)]
    exact Ev.now _

theorem iPutVal_ev (l : List Int) (t n : Int) (s : ByteArray) (o : List Int) (hl : l.length ≤ 1048576) (ho : o.length ≤ 1048576) : Ev (fun k => impl_PutVal.f k l t n s o) (putVal l t n s o) := by
  unfold impl_PutVal.f putVal
  refine Ev.bind (iValOk_ev t n s o ho) ?_
  refine Ev.ite (fun hv => ?_) (fun _ => ?_)
  · unfold putBody
    by_cases c2 : t = 2
    · simp only [if_pos c2]
      refine Ev.bind (iPutInt_ev n) (Ev.bind (iPutTlv_ev l t _ (by omega) (by have := putInt_len (clip n); omega)) (Ev.now _))
    by_cases c4 : t = 4
    · subst c4
      have hs := valOk_text n s o hv
      simp only [if_neg c2, if_true, if_pos (show (s.size : Int) < 140737488355328 by omega)]
      refine Ev.bind (iPutTlv_ev l 4 _ (by omega) (by rw [bytesOf_length]; omega)) (Ev.now _)
    by_cases c6 : t = 6
    · simp only [if_neg c2, if_neg c4, if_pos c6]
      refine Ev.bind (iPutOid_ev o ho) (Ev.bind (iPutTlv_ev l t _ (by omega) (by have := putOid_len o; omega)) (Ev.now _))
    · simp only [if_neg c2, if_neg c4, if_neg c6]
      exact Ev.bind (iPutTlv_ev l t [] (by omega) (by simp)) (Ev.now _)
  · rw [iCopyBytes_eq l (by omega)]
    exact Ev.now _

theorem val_kinds (t n : Int) (s : ByteArray) (o : List Int) (h : valOk t n s o = true) : (t = 2 ∧ clip n = n ∧ s.toList = [] ∧ o = []) ∨ (t = 4 ∧ (s.size : Int) ≤ 20 ∧ n = 0 ∧ o = []) ∨ (t = 6 ∧ oidOk o = true ∧ n = 0 ∧ s.toList = []) ∨ ((t = 5 ∨ t = 128 ∨ t = 130) ∧ n = 0 ∧ s.toList = [] ∧ o = []) := by
  unfold valOk at h
  by_cases c5 : t = 5 ∨ t = 128 ∨ t = 130
  · rw [if_pos c5] at h
    unfold valNil at h
    by_cases a1 : n = 0
    · by_cases a2 : s.toList = ([] : List UInt8)
      · rw [if_pos a1, if_pos a2, beq_iff_eq] at h
        exact Or.inr (Or.inr (Or.inr ⟨c5, a1, a2, List.length_eq_zero_iff.1 (by omega)⟩))
      · rw [if_pos a1, if_neg a2] at h
        simp at h
    · rw [if_neg a1] at h
      simp at h
  rw [if_neg c5] at h
  by_cases c2 : t = 2
  · rw [if_pos c2] at h
    by_cases a1 : clip n = n
    · by_cases a2 : s.toList = ([] : List UInt8)
      · rw [if_pos a1, if_pos a2, beq_iff_eq] at h
        exact Or.inl ⟨c2, a1, a2, List.length_eq_zero_iff.1 (by omega)⟩
      · rw [if_pos a1, if_neg a2] at h
        simp at h
    · rw [if_neg a1] at h
      simp at h
  rw [if_neg c2] at h
  by_cases c4 : t = 4
  · rw [if_pos c4] at h
    by_cases a1 : (s.size : Int) ≤ 20
    · by_cases a2 : n = 0
      · rw [if_pos a1, if_pos a2, beq_iff_eq] at h
        exact Or.inr (Or.inl ⟨c4, a1, a2, List.length_eq_zero_iff.1 (by omega)⟩)
      · rw [if_pos a1, if_neg a2] at h
        simp at h
    · rw [if_neg a1] at h
      simp at h
  rw [if_neg c4] at h
  by_cases c6 : t = 6
  · rw [if_pos c6] at h
    by_cases a1 : oidOk o = true
    · by_cases a2 : n = 0
      · rw [if_pos a1, if_pos a2, beq_iff_eq] at h
        exact Or.inr (Or.inr (Or.inl ⟨c6, a1, a2, h⟩))
      · rw [if_pos a1, if_neg a2] at h
        simp at h
    · rw [if_neg a1] at h
      simp at h
  · rw [if_neg c6] at h
    simp at h
theorem noStr : (⟨#[]⟩ : ByteArray).toList = ([] : List UInt8) := emptyStr
theorem putBody_len (t n : Int) (s : ByteArray) (o : List Int) (h : valOk t n s o = true) : (putBody t n s o).length ≤ 30 := by
  have h1 := putInt_len (clip n)
  have h2 := putOid_len o
  unfold putBody
  by_cases c2 : t = 2
  · rw [if_pos c2]; omega
  by_cases c4 : t = 4
  · subst c4
    have := valOk_text n s o h
    rw [if_neg c2, if_pos rfl, bytesOf_length]; omega
  rw [if_neg c2, if_neg c4]
  split
  · omega
  · simp

def cvB (x : S140) : S116 := ⟨x.f0, ⟨x.f1.f0, x.f1.f1, x.f1.f2, x.f1.f3⟩⟩
theorem rdLB_mid (pre rest : List S140) (r : S140) : rd_T140 (pre ++ r :: rest) (pre.length : Int) = r := by
  unfold rd_T140
  simp [List.getD_eq_getElem?_getD]
theorem rdIB_mid (pre rest : List S116) (r : S116) : rd_T116 (pre ++ r :: rest) (pre.length : Int) = r := by
  unfold rd_T116
  simp [List.getD_eq_getElem?_getD]
theorem rdIB_mid' (pre rest : List S116) (r : S116) (n : Nat) (h : pre.length = n) : rd_T116 (pre ++ r :: rest) (n : Int) = r := by
  subst h
  exact rdIB_mid pre rest r
theorem set_atB {α : Type} (pre rest : List α) (r v : α) (n : Nat) (h : pre.length = n) : (pre ++ r :: rest).set (n : Int).toNat v = pre ++ v :: rest := by
  subst h
  exact set_mid pre rest r v
def smallB (x : S140) : Prop := x.f0.length ≤ 1048576 ∧ x.f1.f3.length ≤ 1048576 ∧ x.f1.f2.size ≤ 1048576
def smallI (x : S116) : Prop := x.f0.length ≤ 1048576 ∧ x.f1.f3.length ≤ 1048576
theorem szBind_eq (x : S140) (n : Int) (h0 : 0 ≤ n) (h1 : n ≤ 1048576) (hx : wfS140 x) :
    ∃ m : Int, laws_szBind.f x.f0 x.f1.f0 x.f1.f1 x.f1.f2 x.f1.f3 n = some m ∧ (m < 0 ∨ (m ≤ n ∧ 0 ≤ m ∧ smallB x)) := by
  unfold laws_szBind.f
  rw [szIntS_eq _ _ h0 (by omega) hx.1]
  simp only [Option.bind_some]
  by_cases h : n - (x.f0.length : Int) < 0
  · exact ⟨-1, by simp only [if_pos h]; rfl, Or.inl (by omega)⟩
  · simp only [if_neg h]
    obtain ⟨m, e, hm⟩ := szVal_eq x.f1.f0 x.f1.f1 x.f1.f2 x.f1.f3 (n - (x.f0.length : Int)) (by omega) (by omega) hx.2.2.2.2.1 hx.2.2.2.2.2.1
    rw [e]
    simp only [Option.bind_some]
    by_cases h' : m < 0
    · exact ⟨-1, by simp only [if_pos h'], Or.inl (by omega)⟩
    · have hm := hm.resolve_left h'
      exact ⟨m, by simp only [if_neg h'], Or.inr ⟨by omega, by omega, by unfold smallB; omega⟩⟩
theorem szBindS_loop (rest : List S140) : ∀ (pre : List S140) (n : Int), 0 ≤ n → n ≤ 1048576 → pre.length + rest.length ≤ 1048576 → (∀ y ∈ rest, wfS140 y) →
    ∃ m : Int, Ev (fun k => laws_szBindS.l0 k (pre ++ rest) n (pre.length : Int)) m ∧ (m < 0 ∨ (m ≤ n ∧ 0 ≤ m ∧ ∀ y ∈ rest, smallB y)) := by
  induction rest with
  | nil =>
    intro pre n h0 h1 _ _
    refine ⟨n, Ev.succ ?_, Or.inr ⟨by omega, by omega, by simp⟩⟩
    simp only [laws_szBindS.l0]
    simp only [List.append_nil, if_neg (show ¬ (pre.length : Int) < (pre.length : Int) by omega)]
    exact Ev.now _
  | cons r rest ih =>
    intro pre n h0 h1 hn hw
    simp only [List.length_cons] at hn
    obtain ⟨m, e, hm⟩ := szBind_eq r n h0 h1 (hw r List.mem_cons_self)
    by_cases c : m < 0
    · refine ⟨-1, Ev.succ ?_, Or.inl (by omega)⟩
      simp only [laws_szBindS.l0]
      simp only [if_pos (show (pre.length : Int) < ((pre ++ r :: rest).length : Int) by simp only [List.length_append, List.length_cons]; omega), if_pos (show (0 : Int) ≤ (pre.length : Int) by omega), rdLB_mid, e, Option.bind_some, if_pos c]
      exact Ev.now _
    · have hm := hm.resolve_left c
      obtain ⟨m', e', hm'⟩ := ih (pre ++ [r]) m (by omega) (by omega) (by simp only [List.length_append, List.length_cons, List.length_nil]; omega) (fun y hy => hw y (List.mem_cons_of_mem _ hy))
      simp only [List.append_assoc, List.cons_append, List.nil_append] at e'
      rw [show ((pre ++ [r]).length : Int) = (pre.length : Int) + 1 by simp] at e'
      refine ⟨m', Ev.succ ?_, ?_⟩
      · simp only [laws_szBindS.l0]
        simp only [if_pos (show (pre.length : Int) < ((pre ++ r :: rest).length : Int) by simp only [List.length_append, List.length_cons]; omega), if_pos (show (0 : Int) ≤ (pre.length : Int) by omega), rdLB_mid, e, Option.bind_some, if_neg c, w64 (x := (pre.length : Int) + 1) (by omega) (by omega)]
        exact e'
      · rcases hm' with h | h
        · exact Or.inl h
        · refine Or.inr ⟨by omega, by omega, fun y hy => ?_⟩
          rcases List.mem_cons.1 hy with rfl | hy
          · exact hm.2.2
          · exact h.2.2 y hy
theorem szBindS_ev (l : List S140) (n : Int) (h0 : 0 ≤ n) (h1 : n ≤ 1048576) (hl : l.length ≤ maxLen) (hw : ∀ y ∈ l, wfS140 y) :
    ∃ m : Int, Ev (fun k => laws_szBindS.f k l n) m ∧ (m < 0 ∨ (m ≤ n ∧ 0 ≤ m ∧ l.length ≤ 1048576 ∧ ∀ y ∈ l, smallB y)) := by
  have hl' : l.length ≤ 9223372036854775807 := hl
  unfold laws_szBindS.f
  rw [w64 (by omega) (by omega)]
  by_cases h : n - (l.length : Int) < 0
  · refine ⟨-1, ?_, Or.inl (by omega)⟩
    simp only [if_pos h]
    exact Ev.now _
  · simp only [if_neg h]
    obtain ⟨m, e, hm⟩ := szBindS_loop l [] (n - (l.length : Int)) (by omega) (by omega) (by simp only [List.length_nil]; omega) hw
    refine ⟨m, by simpa using e, ?_⟩
    rcases hm with hm | hm
    · exact Or.inl hm
    · exact Or.inr ⟨by omega, by omega, by omega, hm.2.2⟩
theorem toBind_ev (x : S140) (h : smallB x) : Ev (fun k => laws_toBind.f k x.f0 x.f1.f0 x.f1.f1 x.f1.f2 x.f1.f3) (x.f0, x.f1.f0, x.f1.f1, x.f1.f2, x.f1.f3) := by
  unfold laws_toBind.f
  refine Ev.bind (toIntS_ev _ h.1) ?_
  refine Ev.bind (toVal_ev _ _ _ _ h.2.1) ?_
  exact Ev.now _
theorem toBindS_loop (rest : List S140) : ∀ (pre : List S140), pre.length + rest.length ≤ 1048576 → (∀ y ∈ rest, smallB y) →
    Ev (fun k => laws_toBindS.l0 k (pre ++ rest) (pre.map cvB ++ List.replicate rest.length z116) (pre.length : Int)) ((pre ++ rest).map cvB) := by
  induction rest with
  | nil =>
    intro pre _ _
    refine Ev.succ ?_
    simp only [laws_toBindS.l0]
    simp only [List.append_nil, if_neg (show ¬ (pre.length : Int) < (pre.length : Int) by omega), List.length_nil, List.replicate_zero]
    exact Ev.now _
  | cons r rest ih =>
    intro pre hn hw
    simp only [List.length_cons] at hn
    have h := ih (pre ++ [r]) (by simp only [List.length_append, List.length_cons, List.length_nil]; omega) (fun y hy => hw y (List.mem_cons_of_mem _ hy))
    simp only [List.append_assoc, List.cons_append, List.nil_append, List.map_append, List.map_cons, List.map_nil] at h
    rw [show ((pre ++ [r]).length : Int) = (pre.length : Int) + 1 by simp] at h
    refine Ev.succ ?_
    simp only [laws_toBindS.l0]
    simp only [if_pos (show (pre.length : Int) < ((pre ++ r :: rest).length : Int) by simp only [List.length_append, List.length_cons]; omega), if_pos (show (0 : Int) ≤ (pre.length : Int) by omega), rdLB_mid]
    refine Ev.bind (toBind_ev r (hw r List.mem_cons_self)) ?_
    simp only [List.length_cons, List.replicate_succ]
    simp only [if_pos (show (pre.length : Int) < ((pre.map cvB ++ z116 :: List.replicate rest.length z116).length : Int) by simp only [List.length_append, List.length_map, List.length_replicate, List.length_cons]; omega), set_atB _ _ _ _ _ (show (pre.map cvB).length = pre.length from List.length_map _), w64 (x := (pre.length : Int) + 1) (by omega) (by omega), List.map_append, List.map_cons]
    exact h
theorem toBindS_ev (xs : List S140) (h : xs.length ≤ 1048576) (hw : ∀ y ∈ xs, smallB y) : Ev (fun k => laws_toBindS.f k xs) (xs.map cvB) := by
  unfold laws_toBindS.f
  simp only [if_pos (show (0 : Int) ≤ (xs.length : Int) by omega), Int.toNat_natCast, if_pos (show xs.length ≤ 3518437208883 by omega)]
  have h := toBindS_loop xs [] (by simp only [List.length_nil]; omega) hw
  simpa using h
theorem eqBind_ev (r : S116) (h : smallI r) : Ev (fun k => laws_eqBind.f k r.f0 r.f1.f0 r.f1.f1 r.f1.f2 r.f1.f3 r.f0 r.f1.f0 r.f1.f1 r.f1.f2 r.f1.f3) true := by
  unfold laws_eqBind.f
  have h1 := h.1
  have h2 := h.2
  refine Ev.bind (eqIntS_ev _ _ (by omega)) ?_
  simp only [decide_true, ↓reduceIte]
  refine Ev.bind (eqVal_ev _ _ _ _ (by omega)) ?_
  simp only [↓reduceIte]
  exact Ev.now _
theorem eqBindS_loop (a : List S116) : ∀ (pre : List S116), pre.length + a.length ≤ 1048576 → (∀ y ∈ a, smallI y) →
    Ev (fun k => laws_eqBindS.l0 k (pre ++ a) (pre ++ a) (pre.length : Int)) true := by
  induction a with
  | nil =>
    intro pre hn _
    refine Ev.succ ?_
    simp only [laws_eqBindS.l0]
    simp only [List.append_nil, if_neg (show ¬ (pre.length : Int) < (pre.length : Int) by omega)]
    exact Ev.now _
  | cons r a ih =>
    intro pre hn hw
    simp only [List.length_cons] at hn
    have h := ih (pre ++ [r]) (by simp only [List.length_append, List.length_cons, List.length_nil]; omega) (fun y hy => hw y (List.mem_cons_of_mem _ hy))
    simp only [List.append_assoc, List.cons_append, List.nil_append] at h
    rw [show ((pre ++ [r]).length : Int) = (pre.length : Int) + 1 by simp] at h
    refine Ev.succ ?_
    simp only [laws_eqBindS.l0]
    simp only [if_pos (show (pre.length : Int) < ((pre ++ r :: a).length : Int) by simp only [List.length_append, List.length_cons]; omega), if_pos (show (0 : Int) ≤ (pre.length : Int) by omega), rdIB_mid, w64 (x := (pre.length : Int) + 1) (by omega) (by omega)]
    refine Ev.bind (eqBind_ev r (hw r List.mem_cons_self)) ?_
    simp only [↓reduceIte]
    exact h
theorem eqBindS_ev (a : List S116) (h : a.length ≤ 1048576) (hw : ∀ y ∈ a, smallI y) : Ev (fun k => laws_eqBindS.f k a a) true := by
  unfold laws_eqBindS.f
  simp only [↓reduceIte]
  have h := eqBindS_loop a [] (by simp only [List.length_nil]; omega) hw
  simpa using h
theorem small_map (l : List S140) (h : ∀ y ∈ l, smallB y) : ∀ y ∈ l.map cvB, smallI y := by
  intro y hy
  obtain ⟨x, hx, rfl⟩ := List.mem_map.1 hy
  exact ⟨(h x hx).1, (h x hx).2.1⟩

theorem szPdu_ev (t id es ei : Int) (l : List S140) (n : Int) (h0 : 0 ≤ n) (h1 : n ≤ 1048576) (hl : l.length ≤ maxLen) (hw : ∀ y ∈ l, wfS140 y) :
    ∃ m : Int, Ev (fun k => laws_szPdu.f k t id es ei l n) m ∧ (m < 0 ∨ (m ≤ n ∧ 0 ≤ m ∧ l.length ≤ 1048576 ∧ ∀ y ∈ l, smallB y)) := by
  unfold laws_szPdu.f
  obtain ⟨m, e, hm⟩ := szBindS_ev l n h0 h1 hl hw
  by_cases c : m < 0
  · refine ⟨-1, Ev.bind e ?_, Or.inl (by omega)⟩
    simp only [if_pos c]
    exact Ev.now _
  · refine ⟨m, Ev.bind e ?_, hm⟩
    simp only [if_neg c]
    exact Ev.now _
theorem toPdu_ev (t id es ei : Int) (l : List S140) (h : l.length ≤ 1048576) (hw : ∀ y ∈ l, smallB y) : Ev (fun k => laws_toPdu.f k t id es ei l) (t, id, es, ei, l.map cvB) := by
  unfold laws_toPdu.f
  refine Ev.bind (toBindS_ev l h hw) ?_
  exact Ev.now _
theorem eqPdu_ev (t id es ei : Int) (l : List S116) (h : l.length ≤ 1048576) (hw : ∀ y ∈ l, smallI y) : Ev (fun k => laws_eqPdu.f k t id es ei l t id es ei l) true := by
  unfold laws_eqPdu.f
  simp only [↓reduceIte]
  refine Ev.bind (eqBindS_ev l h hw) ?_
  simp only [↓reduceIte]
  exact Ev.now _

def bindsOk : List S116 → Bool → Bool
  | [], z => z
  | r :: a, z => if oidOk r.f0 = true then (if valOk r.f1.f0 r.f1.f1 r.f1.f2 r.f1.f3 = true then bindsOk a z else false) else false
theorem bindsOk_false (l : List S116) : bindsOk l false = false := by
  induction l with
  | nil => rfl
  | cons r l ih => simp only [bindsOk, ih, ite_self]
def pduHd (t es ei : Int) : Bool := if t = 160 ∨ t = 161 ∨ t = 163 then decide (es = 0 ∧ ei = 0) else if t = 162 ∨ t = 165 then decide ((0 ≤ es ∧ es ≤ 1000) ∧ (0 ≤ ei ∧ ei ≤ 1000)) else false
def pduOk (t id es ei : Int) (l : List S116) : Bool := if pduHd t es ei = true then (if (l.length : Int) ≤ 10 then bindsOk l (decide (clip id = id)) else false) else false
theorem sKind_eq (t : Int) : spec_l4Kind.f t = some (decide (t = 160 ∨ t = 161 ∨ t = 162 ∨ t = 163 ∨ t = 165)) := by
  unfold spec_l4Kind.f
  by_cases h0 : t = 160
  · simp [h0]
  by_cases h1 : t = 161
  · simp [h1]
  by_cases h2 : t = 162
  · simp [h2]
  by_cases h3 : t = 163
  · simp [h3]
  by_cases h4 : t = 165
  · simp [h4]
  rw [if_neg h0, if_neg h1, if_neg h2, if_neg h3, decide_eq_false (by omega)]
  exact congrArg some (beq_eq_false_iff_ne.2 h4)
def sHd (q : Bool) (t id es ei : Int) (l : List S116) : Bool :=
  if q = true then false else if decide (t = 160 ∨ t = 161 ∨ t = 162 ∨ t = 163 ∨ t = 165) = true then (if clip id = id then (if decide (0 ≤ es ∧ es ≤ 1000) = true then (if decide (0 ≤ ei ∧ ei ≤ 1000) = true then decide ((l.length : Int) ≤ 10) else false) else false) else false) else false
theorem sPdu_j1 (q : Bool) (t id es ei : Int) (l : List S116) : Ev (fun k => spec_PduOk.j1 k q t id es ei l) (sHd q t id es ei l) := by
  refine Ev.succ ?_
  simp only [spec_PduOk.j1]
  unfold sHd
  simp only [sKind_eq, sClip_eq, l1In_eq, Option.bind_some]
  refine Ev.ite (fun _ => Ev.now _) (fun _ => ?_)
  refine Ev.ite (fun _ => ?_) (fun _ => Ev.now _)
  refine Ev.ite (fun _ => ?_) (fun _ => Ev.now _)
  refine Ev.ite (fun _ => ?_) (fun _ => Ev.now _)
  refine Ev.ite (fun _ => Ev.now _) (fun _ => Ev.now _)
def sEnd (t id es ei : Int) (l : List S116) : Bool := if t = 162 then sHd false t id es ei l else if t = 165 then sHd false t id es ei l else if es = 0 then sHd (ei != 0) t id es ei l else sHd true t id es ei l
theorem sEnd_eq (t id es ei : Int) (l : List S116) : sEnd t id es ei l = (if pduHd t es ei = true then (if (l.length : Int) ≤ 10 then decide (clip id = id) else false) else false) := by
  unfold sEnd sHd pduHd
  rw [Bool.eq_iff_iff]
  by_cases h2 : t = 162
  · simp [h2]
    by_cases a1 : 0 ≤ es ∧ es ≤ 1000 <;> by_cases a2 : 0 ≤ ei ∧ ei ≤ 1000 <;> simp [a1, a2]
    exact and_comm
  by_cases h5 : t = 165
  · simp [h5]
    by_cases a1 : 0 ≤ es ∧ es ≤ 1000 <;> by_cases a2 : 0 ≤ ei ∧ ei ≤ 1000 <;> simp [a1, a2]
    exact and_comm
  by_cases hk : t = 160 ∨ t = 161 ∨ t = 163
  · have hk' : t = 160 ∨ t = 161 ∨ t = 162 ∨ t = 163 ∨ t = 165 := by omega
    by_cases e1 : es = 0
    · by_cases e2 : ei = 0
      · simp [h2, h5, hk, hk', e1, e2]
        exact and_comm
      · simp [h2, h5, hk, e1, e2]
    · simp [h2, h5, hk, e1]
  · have hk' : ¬ (t = 160 ∨ t = 161 ∨ t = 162 ∨ t = 163 ∨ t = 165) := by omega
    have hk2 : ¬ (t = 162 ∨ t = 165) := by omega
    rw [if_neg hk, if_neg hk2, decide_eq_false hk']
    simp [h2, h5]
theorem sPduOk_loop (t id es ei : Int) (rest : List S116) : ∀ (pre : List S116), pre.length + rest.length ≤ 1048576 → (∀ y ∈ rest, smallI y) →
    Ev (fun k => spec_PduOk.l0 k (pre.length : Int) t id es ei (pre ++ rest)) (bindsOk rest (sEnd t id es ei (pre ++ rest))) := by
  induction rest with
  | nil =>
    intro pre _ _
    refine Ev.succ ?_
    simp only [spec_PduOk.l0]
    simp only [List.append_nil, if_neg (show ¬ (pre.length : Int) < (pre.length : Int) by omega), bindsOk]
    unfold sEnd
    refine Ev.ite (fun _ => sPdu_j1 _ _ _ _ _ _) (fun _ => ?_)
    refine Ev.ite (fun _ => sPdu_j1 _ _ _ _ _ _) (fun _ => ?_)
    exact Ev.ite (fun _ => sPdu_j1 _ _ _ _ _ _) (fun _ => sPdu_j1 _ _ _ _ _ _)
  | cons r rest ih =>
    intro pre hn hw
    simp only [List.length_cons] at hn
    have hr := hw r List.mem_cons_self
    have h1 := hr.1
    have h2 := hr.2
    have h := ih (pre ++ [r]) (by simp only [List.length_append, List.length_cons, List.length_nil]; omega) (fun y hy => hw y (List.mem_cons_of_mem _ hy))
    simp only [List.append_assoc, List.cons_append, List.nil_append] at h
    rw [show ((pre ++ [r]).length : Int) = (pre.length : Int) + 1 by simp] at h
    refine Ev.succ ?_
    simp only [spec_PduOk.l0]
    simp only [if_pos (show (pre.length : Int) < ((pre ++ r :: rest).length : Int) by simp only [List.length_append, List.length_cons]; omega), if_pos (show (0 : Int) ≤ (pre.length : Int) by omega), rdIB_mid, w64 (x := (pre.length : Int) + 1) (by omega) (by omega), bindsOk]
    refine Ev.bind (sOidOk_ev _ (by omega)) ?_
    refine Ev.ite (fun _ => ?_) (fun _ => Ev.now _)
    refine Ev.bind (sValOk_ev _ _ _ _ h2) ?_
    exact Ev.ite (fun _ => h) (fun _ => Ev.now _)
theorem sPduOk_ev (t id es ei : Int) (l : List S116) (h : l.length ≤ 1048576) (hw : ∀ y ∈ l, smallI y) : Ev (fun k => spec_PduOk.f k t id es ei l) (pduOk t id es ei l) := by
  unfold spec_PduOk.f
  have e := sPduOk_loop t id es ei l [] (by simp only [List.length_nil]; omega) hw
  have hv : bindsOk l (sEnd t id es ei l) = pduOk t id es ei l := by
    rw [sEnd_eq]
    unfold pduOk
    by_cases c : pduHd t es ei = true
    · simp only [if_pos c]
      by_cases d : (l.length : Int) ≤ 10
      · simp only [if_pos d]
      · simp only [if_neg d, bindsOk_false]
    · simp only [if_neg c, bindsOk_false]
  simp only [List.nil_append] at e
  rw [hv] at e
  exact e
theorem iPduOk_loop (t id es ei : Int) (L : List S116) (rest : List S116) : ∀ (pre : List S116) (m : Int), m = (pre.length : Int) + rest.length → pre.length ≤ 10 → (∀ y ∈ rest, smallI y) →
    Ev (fun k => impl_PduOk.l0 k (pre ++ rest) m (pre.length : Int) t id es ei L) (if (pre.length : Int) + rest.length ≤ 10 then bindsOk rest (decide (clip id = id)) else false) := by
  induction rest with
  | nil =>
    intro pre m hm hp _
    simp only [List.length_nil] at hm
    refine Ev.succ ?_
    simp only [impl_PduOk.l0]
    simp only [if_neg (show ¬ (pre.length : Int) < m by omega), iIsInt_eq, clip_same, Option.bind_some, List.length_nil, if_pos (show (pre.length : Int) + ((0 : Nat) : Int) ≤ 10 by omega), bindsOk]
    exact Ev.now _
  | cons r rest ih =>
    intro pre m hm hp hw
    simp only [List.length_cons] at hm
    have hr := hw r List.mem_cons_self
    have h1 := hr.1
    have h2 := hr.2
    refine Ev.succ ?_
    simp only [impl_PduOk.l0]
    simp only [if_pos (show (pre.length : Int) < m by omega), if_pos (show (pre.length : Int) < ((pre ++ r :: rest).length : Int) by simp only [List.length_append, List.length_cons]; omega), if_pos (show (0 : Int) ≤ (pre.length : Int) by omega), rdIB_mid, w64 (x := (pre.length : Int) + 1) (by omega) (by omega)]
    by_cases c : (pre.length : Int) ≥ 10
    · simp only [if_pos c, if_neg (show ¬ (pre.length : Int) + ((r :: rest).length : Int) ≤ 10 by simp only [List.length_cons]; omega)]
      exact Ev.now _
    · have h := ih (pre ++ [r]) m (by simp only [List.length_append, List.length_cons, List.length_nil]; omega) (by simp only [List.length_append, List.length_cons, List.length_nil]; omega) (fun y hy => hw y (List.mem_cons_of_mem _ hy))
      simp only [List.append_assoc, List.cons_append, List.nil_append] at h
      rw [show ((pre ++ [r]).length : Int) = (pre.length : Int) + 1 by simp] at h
      simp only [if_neg c]
      have hv : (if (pre.length : Int) + ((r :: rest).length : Int) ≤ 10 then bindsOk (r :: rest) (decide (clip id = id)) else false) = (if oidOk r.f0 = true then (if valOk r.f1.f0 r.f1.f1 r.f1.f2 r.f1.f3 = true then (if (pre.length : Int) + 1 + rest.length ≤ 10 then bindsOk rest (decide (clip id = id)) else false) else false) else false) := by
        by_cases d : (pre.length : Int) + 1 + rest.length ≤ 10
        · simp only [if_pos (show (pre.length : Int) + ((r :: rest).length : Int) ≤ 10 by simp only [List.length_cons]; omega), if_pos d, bindsOk]
        · simp only [if_neg (show ¬ (pre.length : Int) + ((r :: rest).length : Int) ≤ 10 by simp only [List.length_cons]; omega), if_neg d, ite_self]
      rw [hv]
      refine Ev.bind (iOidOk_ev _ (by omega)) ?_
      refine Ev.ite (fun _ => ?_) (fun _ => Ev.now _)
      refine Ev.bind (iValOk_ev _ _ _ _ h2) ?_
      exact Ev.ite (fun _ => h) (fun _ => Ev.now _)
theorem iPdu_j2 (t id es ei : Int) (l : List S116) (hw : ∀ y ∈ l, smallI y) : Ev (fun k => impl_PduOk.j2 k t id es ei l) (if (l.length : Int) ≤ 10 then bindsOk l (decide (clip id = id)) else false) := by
  refine Ev.succ ?_
  simp only [impl_PduOk.j2]
  have h := iPduOk_loop t id es ei l l [] (l.length : Int) (by simp) (by simp) hw
  simpa using h
theorem iPdu_j1 (q : Bool) (t id es ei : Int) (l : List S116) (hw : ∀ y ∈ l, smallI y) : Ev (fun k => impl_PduOk.j1 k q t id es ei l) (if q = true then (if decide (0 ≤ es ∧ es ≤ 1000) = true then (if decide (0 ≤ ei ∧ ei ≤ 1000) = true then (if (l.length : Int) ≤ 10 then bindsOk l (decide (clip id = id)) else false) else false) else false) else false) := by
  refine Ev.succ ?_
  simp only [impl_PduOk.j1]
  simp only [in_eq, Option.bind_some]
  refine Ev.ite (fun _ => ?_) (fun _ => Ev.now _)
  refine Ev.ite (fun _ => ?_) (fun _ => Ev.now _)
  refine Ev.ite (fun _ => ?_) (fun _ => Ev.now _)
  exact iPdu_j2 t id es ei l hw
theorem iPdu_j0 (q : Bool) (t id es ei : Int) (l : List S116) (hw : ∀ y ∈ l, smallI y) (hq : q = true ↔ (t = 160 ∨ t = 161 ∨ t = 163)) : Ev (fun k => impl_PduOk.j0 k t q t id es ei l) (pduOk t id es ei l) := by
  refine Ev.succ ?_
  simp only [impl_PduOk.j0]
  unfold pduOk pduHd
  by_cases c : t = 160 ∨ t = 161 ∨ t = 163
  · simp only [if_pos c, if_pos (hq.2 c)]
    by_cases e1 : es = 0
    · by_cases e2 : ei = 0
      · simp only [if_pos e1, if_pos e2, decide_eq_true (show es = 0 ∧ ei = 0 from ⟨e1, e2⟩), if_true]
        exact iPdu_j2 t id es ei l hw
      · simp only [if_pos e1, if_neg e2, decide_eq_false (show ¬ (es = 0 ∧ ei = 0) from fun h => e2 h.2), Bool.false_eq_true, if_false]
        exact Ev.now _
    · simp only [if_neg e1, decide_eq_false (show ¬ (es = 0 ∧ ei = 0) from fun h => e1 h.1), Bool.false_eq_true, if_false]
      exact Ev.now _
  · have hq' : ¬ q = true := fun e => c (hq.1 e)
    simp only [if_neg c, if_neg hq']
    by_cases d : t = 162 ∨ t = 165
    · have hb : (t == 162) = true ∨ (t == 165) = true := by rcases d with rfl | rfl <;> simp
      have hgo : ∀ q' : Bool, q' = true → Ev (fun k => impl_PduOk.j1 k q' t id es ei l) (if (if t = 162 ∨ t = 165 then decide ((0 ≤ es ∧ es ≤ 1000) ∧ (0 ≤ ei ∧ ei ≤ 1000)) else false) = true then (if (l.length : Int) ≤ 10 then bindsOk l (decide (clip id = id)) else false) else false) := by
        intro q' h'
        have e := iPdu_j1 q' t id es ei l hw
        rw [if_pos h'] at e
        rw [if_pos d]
        by_cases a1 : 0 ≤ es ∧ es ≤ 1000
        · by_cases a2 : 0 ≤ ei ∧ ei ≤ 1000
          · rw [decide_eq_true a1, decide_eq_true a2, if_pos rfl, if_pos rfl] at e
            rw [decide_eq_true (show (0 ≤ es ∧ es ≤ 1000) ∧ (0 ≤ ei ∧ ei ≤ 1000) from ⟨a1, a2⟩), if_pos rfl]
            exact e
          · rw [decide_eq_true a1, decide_eq_false a2, if_pos rfl, if_neg (by decide)] at e
            rw [decide_eq_false (show ¬ ((0 ≤ es ∧ es ≤ 1000) ∧ (0 ≤ ei ∧ ei ≤ 1000)) from fun h => a2 h.2), if_neg (by decide)]
            exact e
        · rw [decide_eq_false a1, if_neg (by decide)] at e
          rw [decide_eq_false (show ¬ ((0 ≤ es ∧ es ≤ 1000) ∧ (0 ≤ ei ∧ ei ≤ 1000)) from fun h => a1 h.1), if_neg (by decide)]
          exact e
      by_cases d2 : t = 162
      · simp only [if_pos d2]
        exact hgo _ (beq_iff_eq.2 d2)
      · simp only [if_neg d2]
        exact hgo _ (beq_iff_eq.2 (d.resolve_left d2))
    · have hf : ∀ q' : Bool, q' = false → Ev (fun k => impl_PduOk.j1 k q' t id es ei l) false := by
        intro q' h'
        have e := iPdu_j1 q' t id es ei l hw
        rw [h', if_neg (by decide)] at e
        rw [h']
        exact e
      simp only [if_neg d, Bool.false_eq_true, if_false, if_neg (show ¬ t = 162 from fun e => d (Or.inl e))]
      exact hf _ (beq_eq_false_iff_ne.2 fun e => d (Or.inr e))
theorem iPduOk_ev (t id es ei : Int) (l : List S116) (_h : l.length ≤ 1048576) (hw : ∀ y ∈ l, smallI y) : Ev (fun k => impl_PduOk.f k t id es ei l) (pduOk t id es ei l) := by
  unfold impl_PduOk.f
  by_cases c1 : t = 160
  · simp only [if_pos c1]
    exact iPdu_j0 _ t id es ei l hw (by simp [c1])
  · simp only [if_neg c1]
    by_cases c2 : t = 161
    · simp only [if_pos c2]
      exact iPdu_j0 _ t id es ei l hw (by simp [c2])
    · simp only [if_neg c2]
      exact iPdu_j0 _ t id es ei l hw (by simp [c1, c2])

def bindB (x : S116) : List Int := putVal (putTlv [] 6 (putOid x.f0)) x.f1.f0 x.f1.f1 x.f1.f2 x.f1.f3
def bindsB : List S116 → List Int
  | [] => []
  | x :: r => tlvBytes 48 (bindB x) ++ bindsB r
def goodI (x : S116) : Prop := oidOk x.f0 = true ∧ valOk x.f1.f0 x.f1.f1 x.f1.f2 x.f1.f3 = true
theorem bindsOk_good : ∀ (l : List S116) (z : Bool), bindsOk l z = true → (∀ x ∈ l, goodI x) ∧ z = true
  | [], z, h => ⟨fun x hx => by simp at hx, h⟩
  | r :: a, z, h => by
    simp only [bindsOk] at h
    by_cases h1 : oidOk r.f0 = true
    · rw [if_pos h1] at h
      by_cases h2 : valOk r.f1.f0 r.f1.f1 r.f1.f2 r.f1.f3 = true
      · rw [if_pos h2] at h
        obtain ⟨i1, i2⟩ := bindsOk_good a z h
        refine ⟨fun x hx => ?_, i2⟩
        rcases List.mem_cons.1 hx with rfl | hx
        · exact ⟨h1, h2⟩
        · exact i1 x hx
      · rw [if_neg h2] at h
        cases h
    · rw [if_neg h1] at h
      cases h
theorem putTlv_len2 (b : List Int) (t : Int) (y : List Int) : (putTlv b t y).length ≤ b.length + y.length + 3 := by
  have := tlvBytes_len t y
  unfold putTlv
  split
  · rw [List.length_append]
    omega
  · omega
theorem bindB_len (x : S116) (h : goodI x) : (bindB x).length ≤ 66 := by
  have h1 := putOid_len x.f0
  have h2 := putTlv_len2 [] 6 (putOid x.f0)
  have h3 := putBody_len _ _ _ _ h.2
  have h4 := putTlv_len2 (putTlv [] 6 (putOid x.f0)) x.f1.f0 (putBody x.f1.f0 x.f1.f1 x.f1.f2 x.f1.f3)
  simp only [List.length_nil] at h2
  unfold bindB putVal
  rw [if_pos h.2]
  omega
theorem tlvOk48 (y : List Int) (h : (y.length : Int) ≤ 250) : tlvOk 48 y = true := by
  unfold tlvOk
  rw [decide_eq_true h, decide_eq_true (show (0 : Int) ≤ 48 ∧ (48 : Int) ≤ 255 by omega)]
  rfl
theorem put48 (b y : List Int) (h : (y.length : Int) ≤ 250) : putTlv b 48 y = b ++ tlvBytes 48 y := by
  unfold putTlv
  rw [if_pos (tlvOk48 y h)]
theorem bindsB_len : ∀ l : List S116, (∀ x ∈ l, goodI x) → (bindsB l).length ≤ 69 * l.length
  | [], _ => by simp [bindsB]
  | x :: r, h => by
    have h1 := bindB_len x (h x List.mem_cons_self)
    have h2 := tlvBytes_len 48 (bindB x)
    have h3 := bindsB_len r (fun y hy => h y (List.mem_cons_of_mem _ hy))
    simp only [bindsB, List.length_append, List.length_cons]
    omega
def addP (l : List Int) (n : Int) : List Int := putTlv l 2 (putInt (clip n))
theorem addP_len (l : List Int) (n : Int) : (addP l n).length ≤ l.length + 7 := by
  have h := putInt_len (clip n)
  have := putTlv_len2 l 2 (putInt (clip n))
  unfold addP
  omega
def numsB (a b c : Int) : List Int := addP (addP (addP [] a) b) c
theorem numsB_len (a b c : Int) : (numsB a b c).length ≤ 21 := by
  have h1 := addP_len [] a
  have h2 := addP_len (addP [] a) b
  have h3 := addP_len (addP (addP [] a) b) c
  simp only [List.length_nil] at h1
  unfold numsB
  omega
def finP (t a b c : Int) (y : List Int) : List Int := if (y.length : Int) ≤ 250 then (if ((numsB a b c ++ tlvBytes 48 y).length : Int) ≤ 250 then tlvBytes t (numsB a b c ++ tlvBytes 48 y) else []) else []
def putPdu (t a b c : Int) (l : List S116) : List Int := if pduOk t a b c l = true then finP t a b c (bindsB l) else []
theorem finP_len (t a b c : Int) (y : List Int) : (finP t a b c y).length ≤ 253 := by
  unfold finP
  split
  · split
    · have := tlvBytes_len t (numsB a b c ++ tlvBytes 48 y)
      omega
    · simp
  · simp
theorem putPdu_len (t a b c : Int) (l : List S116) : (putPdu t a b c l).length ≤ 253 := by
  unfold putPdu
  split
  · exact finP_len _ _ _ _ _
  · simp
theorem pduOk_kind {t a b c : Int} {l : List S116} (h : pduOk t a b c l = true) : (160 ≤ t ∧ t ≤ 165) ∧ l.length ≤ 10 ∧ ∀ x ∈ l, goodI x := by
  unfold pduOk at h
  by_cases h1 : pduHd t b c = true
  · rw [if_pos h1] at h
    by_cases h2 : (l.length : Int) ≤ 10
    · rw [if_pos h2] at h
      refine ⟨?_, by omega, (bindsOk_good l _ h).1⟩
      unfold pduHd at h1
      split at h1
      · omega
      · split at h1
        · omega
        · cases h1
    · rw [if_neg h2] at h
      cases h
  · rw [if_neg h1] at h
    cases h
theorem tlvOkT (t : Int) (y : List Int) (ht : 160 ≤ t ∧ t ≤ 165) : tlvOk t y = decide ((y.length : Int) ≤ 250) := by
  unfold tlvOk
  rw [decide_eq_true (show (0 : Int) ≤ t ∧ t ≤ 255 by omega), Bool.true_and]

theorem sBinds_loop (rest : List S116) : ∀ (pre : List S116) (out : List Int), pre.length + rest.length ≤ 10 → out.length ≤ 69 * pre.length → (∀ y ∈ rest, goodI y ∧ smallI y) →
    Ev (fun k => spec_l4Binds.l0 k (pre ++ rest) out (pre.length : Int)) (out ++ bindsB rest) := by
  induction rest with
  | nil =>
    intro pre out _ _ _
    refine Ev.succ ?_
    simp only [spec_l4Binds.l0, bindsB, List.append_nil, if_neg (show ¬ (pre.length : Int) < (pre.length : Int) by omega)]
    exact Ev.now _
  | cons r rest ih =>
    intro pre out hn ho hw
    obtain ⟨g, s⟩ := hw r List.mem_cons_self
    simp only [List.length_cons] at hn
    have hb := bindB_len r g
    have hp := putOid_len r.f0
    have ht := putTlv_len2 [] 6 (putOid r.f0)
    simp only [List.length_nil] at ht
    have hl := tlvBytes_len 48 (bindB r)
    have h := ih (pre ++ [r]) (out ++ tlvBytes 48 (bindB r)) (by simp only [List.length_append, List.length_cons, List.length_nil]; omega) (by simp only [List.length_append, List.length_cons, List.length_nil]; omega) (fun y hy => hw y (List.mem_cons_of_mem _ hy))
    simp only [List.append_assoc, List.cons_append, List.nil_append] at h
    rw [show ((pre ++ [r]).length : Int) = (pre.length : Int) + 1 by simp] at h
    refine Ev.succ ?_
    simp only [spec_l4Binds.l0, if_pos (show (pre.length : Int) < ((pre ++ r :: rest).length : Int) by simp only [List.length_append, List.length_cons]; omega), if_pos (show (0 : Int) ≤ (pre.length : Int) by omega), rdIB_mid]
    refine Ev.bind (sPutOid_ev r.f0 s.1) ?_
    refine Ev.bind (sPutTlv_ev [] 6 _ (by simp) (by omega)) ?_
    refine Ev.bind (sPutVal_ev _ _ _ _ _ (by omega) s.2) ?_
    refine Ev.bind (sPutTlv_ev out 48 _ (by omega) (show (bindB r).length ≤ 1099511627776 by omega)) ?_
    rw [show putVal (putTlv [] 6 (putOid r.f0)) r.f1.f0 r.f1.f1 r.f1.f2 r.f1.f3 = bindB r from rfl, put48 out _ (by omega), w64 (x := (pre.length : Int) + 1) (by omega) (by omega)]
    exact h
theorem sPutPdu_ev (t a b c : Int) (l : List S116) (h : l.length ≤ 1048576) (hw : ∀ y ∈ l, smallI y) : Ev (fun k => spec_PutPdu.f k t a b c l) (putPdu t a b c l) := by
  unfold spec_PutPdu.f putPdu
  refine Ev.bind (sPduOk_ev t a b c l h hw) ?_
  refine Ev.ite (fun hk => ?_) (fun _ => Ev.now _)
  obtain ⟨ht, h10, hg⟩ := pduOk_kind hk
  have hl := bindsB_len l hg
  have e1 : Ev (fun k => spec_l4Binds.f k l) (bindsB l) := by
    unfold spec_l4Binds.f
    simpa using sBinds_loop l [] [] (by simpa using h10) (by simp) (fun y hy => ⟨hg y hy, hw y hy⟩)
  unfold finP
  by_cases q : ((bindsB l).length : Int) ≤ 250
  · rw [if_pos q]
    have p1 := putInt_len (clip a)
    have p2 := putInt_len (clip b)
    have p3 := putInt_len (clip c)
    have n1 := addP_len [] a
    have n2 := addP_len (addP [] a) b
    have n3 := numsB_len a b c
    simp only [List.length_nil] at n1
    have e2 : Ev (fun k => spec_l4Body.f k t a b c l) (numsB a b c ++ tlvBytes 48 (bindsB l), decide (((numsB a b c ++ tlvBytes 48 (bindsB l)).length : Int) ≤ 250)) := by
      unfold spec_l4Body.f
      refine Ev.bind e1 ?_
      simp only [if_neg (show ¬ ((bindsB l).length : Int) > 250 by omega)]
      refine Ev.bind (sPutInt_ev a) (Ev.bind (sPutTlv_ev [] 2 _ (by simp) (by omega)) ?_)
      refine Ev.bind (sPutInt_ev b) (Ev.bind (sPutTlv_ev (addP [] a) 2 _ (by omega) (by omega)) ?_)
      refine Ev.bind (sPutInt_ev c) (Ev.bind (sPutTlv_ev (addP (addP [] a) b) 2 _ (by omega) (by omega)) ?_)
      refine Ev.bind (sPutTlv_ev (numsB a b c) 48 _ (by omega) (by omega)) ?_
      rw [put48 _ _ q]
      exact Ev.now _
    refine Ev.bind e2 ?_
    by_cases q2 : ((numsB a b c ++ tlvBytes 48 (bindsB l)).length : Int) ≤ 250
    · simp only [decide_eq_true q2, if_true, if_pos q2]
      refine Ev.bind (sPutTlv_ev [] t _ (by simp) (by omega)) ?_
      rw [show putTlv [] t (numsB a b c ++ tlvBytes 48 (bindsB l)) = tlvBytes t (numsB a b c ++ tlvBytes 48 (bindsB l)) by unfold putTlv; rw [tlvOkT t _ ht, decide_eq_true q2]; rfl]
      exact Ev.now _
    · simp only [decide_eq_false q2, Bool.false_eq_true, if_false, if_neg q2]
      exact Ev.now _
  · rw [if_neg q]
    have e2 : Ev (fun k => spec_l4Body.f k t a b c l) ([], false) := by
      unfold spec_l4Body.f
      refine Ev.bind e1 ?_
      simp only [if_pos (show ((bindsB l).length : Int) > 250 by omega)]
      exact Ev.now _
    refine Ev.bind e2 ?_
    simp only [Bool.false_eq_true, if_false]
    exact Ev.now _

theorem iAddP_ev (l : List Int) (n : Int) (h : l.length ≤ 1099511627776) : Ev (fun k => impl_addNum.f k l 2 n) (addP l n) := by
  have hp := putInt_len (clip n)
  unfold impl_addNum.f
  exact Ev.bind (iPutInt_ev n) (Ev.bind (iPutTlv_ev l 2 _ h (by omega)) (Ev.now _))
theorem iBinds_loop (t a b c : Int) (L : List S116) (ht : 160 ≤ t ∧ t ≤ 165) (rest : List S116) : ∀ (pre : List S116) (out : List Int) (m : Int), m = (pre.length : Int) + rest.length → pre.length + rest.length ≤ 10 → out.length ≤ 69 * pre.length → (∀ y ∈ rest, goodI y ∧ smallI y) →
    Ev (fun k => impl_PutPdu.l0 k out (pre ++ rest) m (pre.length : Int) t a b c L) (finP t a b c (out ++ bindsB rest)) := by
  induction rest with
  | nil =>
    intro pre out m hm hn ho _
    simp only [List.length_nil] at hm
    have n1 := addP_len [] a
    have n2 := addP_len (addP [] a) b
    have n3 := numsB_len a b c
    simp only [List.length_nil] at n1
    refine Ev.succ ?_
    simp only [impl_PutPdu.l0, bindsB, List.append_nil, if_neg (show ¬ (pre.length : Int) < m by omega)]
    refine Ev.bind (iTlv_ev 48 out (by omega)) ?_
    unfold finP
    by_cases q : (out.length : Int) ≤ 250
    · have hl := tlvBytes_len 48 out
      simp only [tlvOk48 out q, if_true, if_pos q]
      refine Ev.bind (iAddP_ev [] a (by simp)) (Ev.bind (iAddP_ev _ b (by omega)) (Ev.bind (iAddP_ev _ c (by omega)) ?_))
      rw [show addP (addP (addP [] a) b) c = numsB a b c from rfl]
      simp only [if_pos (show (numsB a b c).length + (tlvBytes 48 out).length < 140737488355328 by omega)]
      refine Ev.bind (iTlv_ev t (numsB a b c ++ tlvBytes 48 out) (by rw [List.length_append]; omega)) ?_
      rw [tlvOkT t _ ht]
      by_cases q2 : ((numsB a b c ++ tlvBytes 48 out).length : Int) ≤ 250
      · simp only [decide_eq_true q2, if_true, if_pos q2]
        exact Ev.now _
      · simp only [decide_eq_false q2, Bool.false_eq_true, if_false, if_neg q2]
        exact Ev.now _
    · have e : tlvOk 48 out = false := by
        unfold tlvOk
        rw [decide_eq_false q, Bool.and_false]
      simp only [e, Bool.false_eq_true, if_false, if_neg q]
      exact Ev.now _
  | cons r rest ih =>
    intro pre out m hm hn ho hw
    obtain ⟨g, s⟩ := hw r List.mem_cons_self
    simp only [List.length_cons] at hm hn
    have hb := bindB_len r g
    have hp := putOid_len r.f0
    have hq := putTlv_len2 [] 6 (putOid r.f0)
    simp only [List.length_nil] at hq
    have hl := tlvBytes_len 48 (bindB r)
    have h := ih (pre ++ [r]) (out ++ tlvBytes 48 (bindB r)) m (by simp only [List.length_append, List.length_cons, List.length_nil]; omega) (by simp only [List.length_append, List.length_cons, List.length_nil]; omega) (by simp only [List.length_append, List.length_cons, List.length_nil]; omega) (fun y hy => hw y (List.mem_cons_of_mem _ hy))
    simp only [List.append_assoc, List.cons_append, List.nil_append] at h
    rw [show ((pre ++ [r]).length : Int) = (pre.length : Int) + 1 by simp] at h
    refine Ev.succ ?_
    simp only [impl_PutPdu.l0, if_pos (show (pre.length : Int) < m by omega), if_pos (show (0 : Int) ≤ (pre.length : Int) by omega), if_pos (show (pre.length : Int) < ((pre ++ r :: rest).length : Int) by simp only [List.length_append, List.length_cons]; omega), rdIB_mid]
    refine Ev.bind (iPutOid_ev r.f0 s.1) ?_
    refine Ev.bind (iPutTlv_ev [] 6 _ (by simp) (by omega)) ?_
    refine Ev.bind (iPutVal_ev _ _ _ _ _ (by omega) s.2) ?_
    rw [show putVal (putTlv [] 6 (putOid r.f0)) r.f1.f0 r.f1.f1 r.f1.f2 r.f1.f3 = bindB r from rfl]
    refine Ev.bind (iTlv_ev 48 (bindB r) (by omega)) ?_
    simp only [tlvOk48 _ (show ((bindB r).length : Int) ≤ 250 by omega), if_true, if_pos (show out.length + (tlvBytes 48 (bindB r)).length < 140737488355328 by omega), w64 (x := (pre.length : Int) + 1) (by omega) (by omega)]
    exact h
theorem iPutPdu_ev (t a b c : Int) (l : List S116) (h : l.length ≤ 1048576) (hw : ∀ y ∈ l, smallI y) : Ev (fun k => impl_PutPdu.f k t a b c l) (putPdu t a b c l) := by
  unfold impl_PutPdu.f putPdu
  refine Ev.bind (iPduOk_ev t a b c l h hw) ?_
  refine Ev.ite (fun hk => ?_) (fun _ => Ev.now _)
  obtain ⟨ht, h10, hg⟩ := pduOk_kind hk
  simpa using iBinds_loop t a b c l ht l [] [] (l.length : Int) (by simp) (by simpa using h10) (by simp) (fun y hy => ⟨hg y hy, hw y hy⟩)

theorem marks_le : ∀ l : List S116, (∀ y ∈ l, smallI y) → marks l ≤ l.length * 2097155
  | [], _ => by simp [marks]
  | x :: r, h => by
    have h1 := h x List.mem_cons_self
    have h2 := marks_le r (fun y hy => h y (List.mem_cons_of_mem _ hy))
    unfold smallI at h1
    simp only [marks, List.length_cons]
    omega
theorem markPdu_eq (t a b c : Int) (l : List S116) (h : l.length ≤ 1048576) (hw : ∀ y ∈ l, smallI y) : laws_markPdu.f t a b c l 1 = some (1 + (marks l : Int)) := by
  have := marks_le l hw
  unfold laws_markPdu.f
  rw [if_pos (by omega)]

def msgBody (s : ByteArray) (x : List Int) : List Int := putTlv (addP [] 1) 4 (bytesOf s) ++ x
def putMsg (s : ByteArray) (t a b c : Int) (l : List S116) : List Int := if (putPdu t a b c l).length = 0 then [] else if (s.size : Int) > 20 then [] else if ((msgBody s (putPdu t a b c l)).length : Int) ≤ 250 then tlvBytes 48 (msgBody s (putPdu t a b c l)) else []
theorem msgBody_len (s : ByteArray) (x : List Int) : (msgBody s x).length ≤ s.size + x.length + 10 := by
  have h1 := addP_len [] 1
  have h2 := putTlv_len2 (addP [] 1) 4 (bytesOf s)
  have h3 := bytesOf_length s
  simp only [List.length_nil] at h1
  unfold msgBody
  rw [List.length_append]
  omega
theorem putMsg_len (s : ByteArray) (t a b c : Int) (l : List S116) : (putMsg s t a b c l).length ≤ 253 := by
  unfold putMsg
  split
  · simp
  · split
    · simp
    · split
      · have := tlvBytes_len 48 (msgBody s (putPdu t a b c l))
        omega
      · simp

theorem sPutMsg_j0 (s : ByteArray) (x : List Int) (q : Bool) (hq : q = decide ((s.size : Int) > 20)) (hx : x.length ≤ 253) : Ev (fun k => spec_PutMsg.j0 k s x q) (if (s.size : Int) > 20 then [] else if ((msgBody s x).length : Int) ≤ 250 then tlvBytes 48 (msgBody s x) else []) := by
  refine Ev.succ ?_
  simp only [spec_PutMsg.j0]
  by_cases h : (s.size : Int) > 20
  · rw [hq, decide_eq_true h, if_pos h]
    exact Ev.now _
  · rw [hq, decide_eq_false h, if_neg h]
    simp only [Bool.false_eq_true, if_false]
    have p1 := putInt_len (clip 1)
    have h1 := addP_len [] 1
    have h3 := bytesOf_length s
    have h2 := putTlv_len2 (addP [] 1) 4 (bytesOf s)
    have h4 := msgBody_len s x
    simp only [List.length_nil] at h1
    refine Ev.bind (sPutInt_ev 1) (Ev.bind (sPutTlv_ev [] 2 _ (by simp) (by omega)) ?_)
    simp only [if_pos (show (s.size : Int) < 140737488355328 by omega)]
    refine Ev.bind (sPutTlv_ev (addP [] 1) 4 (bytesOf s) (by omega) (by omega)) ?_
    simp only [if_pos (show (putTlv (addP [] 1) 4 (bytesOf s)).length + x.length < 140737488355328 by omega), Option.bind_some]
    rw [show putTlv (addP [] 1) 4 (bytesOf s) ++ x = msgBody s x from rfl]
    by_cases q2 : ((msgBody s x).length : Int) ≤ 250
    · simp only [if_neg (show ¬ ((msgBody s x).length : Int) > 250 by omega), if_pos q2]
      refine Ev.bind (sPutTlv_ev [] 48 _ (by simp) (by omega)) ?_
      rw [put48 [] _ q2]
      exact Ev.now _
    · simp only [if_pos (show ((msgBody s x).length : Int) > 250 by omega), if_neg q2]
      exact Ev.now _
theorem sPutMsg_ev (s : ByteArray) (t a b c : Int) (l : List S116) (h : l.length ≤ 1048576) (hw : ∀ y ∈ l, smallI y) : Ev (fun k => spec_PutMsg.f k s t a b c l) (putMsg s t a b c l) := by
  have hp := putPdu_len t a b c l
  unfold spec_PutMsg.f putMsg
  refine Ev.bind (sPutPdu_ev t a b c l h hw) ?_
  by_cases q : (putPdu t a b c l).length = 0
  · simp only [if_pos q, if_pos (show ((putPdu t a b c l).length : Int) = 0 by omega)]
    refine Ev.succ ?_
    simp only [spec_PutMsg.j0, if_true]
    exact Ev.now _
  · simp only [if_neg q, if_neg (show ¬ ((putPdu t a b c l).length : Int) = 0 by omega)]
    exact sPutMsg_j0 s _ _ rfl hp

theorem iPutMsg_j0 (s : ByteArray) (x : List Int) (q : Bool) (hq : q = decide ((s.size : Int) > 20)) (hx : x.length ≤ 253) : Ev (fun k => impl_PutMsg.j0 k s x q) (if (s.size : Int) > 20 then [] else if ((msgBody s x).length : Int) ≤ 250 then tlvBytes 48 (msgBody s x) else []) := by
  refine Ev.succ ?_
  simp only [impl_PutMsg.j0]
  by_cases h : (s.size : Int) > 20
  · rw [hq, decide_eq_true h, if_pos h]
    exact Ev.now _
  · rw [hq, decide_eq_false h, if_neg h]
    simp only [Bool.false_eq_true, if_false]
    have h1 := addP_len [] 1
    have h3 := bytesOf_length s
    have h2 := putTlv_len2 (addP [] 1) 4 (bytesOf s)
    have h4 := msgBody_len s x
    simp only [List.length_nil] at h1
    refine Ev.bind (iAddP_ev [] 1 (by simp)) ?_
    simp only [if_pos (show (s.size : Int) < 140737488355328 by omega)]
    refine Ev.bind (iPutTlv_ev (addP [] 1) 4 (bytesOf s) (by omega) (by omega)) ?_
    simp only [if_pos (show (putTlv (addP [] 1) 4 (bytesOf s)).length + x.length < 140737488355328 by omega)]
    rw [show putTlv (addP [] 1) 4 (bytesOf s) ++ x = msgBody s x from rfl]
    refine Ev.bind (iTlv_ev 48 (msgBody s x) (by omega)) ?_
    by_cases q2 : ((msgBody s x).length : Int) ≤ 250
    · simp only [tlvOk48 _ q2, if_true, if_pos q2]
      exact Ev.now _
    · have e : tlvOk 48 (msgBody s x) = false := by
        unfold tlvOk
        rw [decide_eq_false q2, Bool.and_false]
      simp only [e, Bool.false_eq_true, if_false, if_neg q2]
      exact Ev.now _
theorem iPutMsg_ev (s : ByteArray) (t a b c : Int) (l : List S116) (h : l.length ≤ 1048576) (hw : ∀ y ∈ l, smallI y) : Ev (fun k => impl_PutMsg.f k s t a b c l) (putMsg s t a b c l) := by
  have hp := putPdu_len t a b c l
  unfold impl_PutMsg.f putMsg
  refine Ev.bind (iPutPdu_ev t a b c l h hw) ?_
  by_cases q : (putPdu t a b c l).length = 0
  · simp only [if_pos q, if_pos (show ((putPdu t a b c l).length : Int) = 0 by omega)]
    refine Ev.succ ?_
    simp only [impl_PutMsg.j0, if_true]
    exact Ev.now _
  · simp only [if_neg q, if_neg (show ¬ ((putPdu t a b c l).length : Int) = 0 by omega)]
    exact iPutMsg_j0 s _ _ rfl hp

theorem FnExactPutMsg : laws_FnExactPutMsg.Pure := by
  intro w t id es ei l _ _ _ _ _ hl hw
  refine Ev.rounds ?_
  unfold laws_FnExactPutMsg.f
  by_cases bw : (w.size : Int) > 1048576
  · simp only [if_pos bw]
    exact Ev.now _
  simp only [if_neg bw]
  obtain ⟨m, em, hm⟩ := szPdu_ev t id es ei l 1048576 (by omega) (by omega) hl hw
  refine Ev.bind em ?_
  by_cases cm : m < 0
  · simp only [if_pos cm]
    exact Ev.now _
  have hm := hm.resolve_left cm
  obtain ⟨gm1, gm2, gm3, gm4⟩ := hm
  have fm : (l.map cvB).length ≤ 1048576 := by rw [List.length_map]; exact gm3
  have sm := small_map l gm4
  simp only [if_neg cm]
  have hmk := markPdu_eq t id es ei (l.map cvB) fm sm
  have hpl := putMsg_len w t id es ei (l.map cvB)
  have hneg : ¬ ((1 : Int) + (marks (l.map cvB) : Int) < 0) := by omega
  have hneg2 : ¬ ((1 : Int) + ((putMsg w t id es ei (l.map cvB)).length : Int) < 0) := by omega
  repeat' first
    | exact Ev.now _
    | ((with_reducible refine Ev.bind (toPdu_ev _ _ _ _ _ ?s0 ?s1) ?_); (case s0 => first | omega | assumption); (case s1 => first | omega | assumption))
    | ((with_reducible refine Ev.bind (sPutMsg_ev _ _ _ _ _ _ ?s0 ?s1) ?_); (case s0 => first | omega | assumption); (case s1 => first | omega | assumption))
    | ((with_reducible refine Ev.bind (iPutMsg_ev _ _ _ _ _ _ ?s0 ?s1) ?_); (case s0 => first | omega | assumption); (case s1 => first | omega | assumption))
    | ((with_reducible refine Ev.bind (eqByteS_ev _ _ ?s0) ?_); (case s0 => first | omega | assumption))
    | ((with_reducible refine Ev.bind (eqPdu_ev _ _ _ _ _ ?s0 ?s1) ?_); (case s0 => first | omega | assumption); (case s1 => first | omega | assumption))
    | ((with_reducible refine Ev.bind (markByteS_ev _ _ ?s0 ?s1 ?s2) ?_); (case s0 => first | omega | assumption); (case s1 => first | omega | assumption); (case s2 => first | omega | assumption))
    | ((with_reducible refine Ev.bind (heldByteS_ev _ _ ?s0 ?s1 ?s2) ?_); (case s0 => first | omega | assumption); (case s1 => first | omega | assumption); (case s2 => first | omega | assumption))
    | simp only [bne_self_eq_false, Bool.false_eq_true, Bool.not_true, Bool.not_false, decide_true, Option.bind_some, ↓reduceIte, hmk, if_neg hneg, if_neg hneg2]
    | (refine Ev.succ ?_; simp only [laws_FnExactPutMsg.j0])

end Go.Proofs.Ythhnfmbfgplelaa.Pure
