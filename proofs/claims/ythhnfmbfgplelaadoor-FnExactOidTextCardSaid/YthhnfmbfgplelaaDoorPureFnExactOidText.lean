/- The pure side of FnExactOidText: the program's OidText and the reference's agree at all arguments. No conditions but those of the given statement. -/
import Derived.Test.YthhnfmbfgplelaaDoorXFnExactOidTextx2
import Derived.Lib.ItoaLen
namespace Go.Proofs.YthhnfmbfgplelaaDoor.Pure
open Go.RowKit Go.Proofs.YthhnfmbfgplelaaDoor.XFnExactOidText Go.Proofs.YthhnfmbfgplelaaDoorW.PrintWords Go.Proofs.YthhnfmbfgplelaaDoorW.PrintLast Go.Proofs.YthhnfmbfgplelaaDoorW.PrintMore
set_option linter.unusedVariables false
set_option linter.unusedSimpArgs false

theorem w64 {x : Int} (h0 : -9223372036854775808 ≤ x) (h1 : x ≤ 9223372036854775807) : wrap64 x = x := by
  unfold wrap64
  omega
theorem wf64 {x : Int} (h : (Lit.int .i64 x).wf = true) : -9223372036854775808 ≤ x ∧ x ≤ 9223372036854775807 := by
  simp only [Lit.wf, Bool.and_eq_true, decide_eq_true_eq] at h
  exact h
theorem wf8 {x : Int} (h : (Lit.int .u8 x).wf = true) : 0 ≤ x ∧ x ≤ 255 := by
  simp only [Lit.wf, Bool.and_eq_true, decide_eq_true_eq] at h
  exact h
theorem rd_mid (pre rest : List Int) (r : Int) : rd (pre ++ r :: rest) (pre.length : Int) = r := by
  unfold rd
  simp [List.getD_eq_getElem?_getD]
theorem set_mid {α : Type} (pre rest : List α) (r v : α) : (pre ++ r :: rest).set (pre.length : Int).toNat v = pre ++ v :: rest := by
  rw [Int.toNat_natCast, List.set_append_right _ _ (Nat.le_refl _)]
  simp
theorem succ_of {d k : Nat} (h : d < k) : ∃ m, k = m + 1 := ⟨k - 1, by omega⟩
theorem Ev.at_ {α : Type} {g : Nat → Option α} {r : α} (n : Nat) (h : ∀ k, n < k → g k = some r) : Ev g r := ⟨n + 1, fun k hk => h k (by omega)⟩
theorem Ev.some_ {α : Type} {v : Option α} {r : α} (h : v = some r) : Ev (fun _ => v) r := ⟨0, fun _ _ => h⟩
theorem Ev.succ {α : Type} {g : Nat → Option α} {r : α} (h : Ev (fun k => g (k + 1)) r) : Ev g r := by
  obtain ⟨K, h⟩ := h
  refine ⟨K + 1, fun n hn => ?_⟩
  obtain ⟨m, rfl⟩ : ∃ m, n = m + 1 := ⟨n - 1, by omega⟩
  exact h m (by omega)
theorem Ev.some_const {α : Type} {g : Nat → Option α} {r : α} (h : ∀ k, g k = some r) : Ev g r := ⟨0, fun k _ => h k⟩

theorem toIntS_loop (rest : List Int) : ∀ (pre : List Int) (k : Nat), pre.length + rest.length ≤ 1099511627776 → rest.length < k →
    laws_toIntS.l0 k (pre ++ rest) (pre ++ List.replicate rest.length 0) (pre.length : Int) = some (pre ++ rest) := by
  induction rest with
  | nil =>
    intro pre k _ hk
    obtain ⟨k, rfl⟩ := succ_of hk
    simp only [laws_toIntS.l0]
    rw [if_neg (by simp only [List.length_append, List.length_nil]; omega)]
    simp
  | cons r rest ih =>
    intro pre k hn hk
    obtain ⟨k, rfl⟩ := succ_of hk
    simp only [List.length_cons] at hn hk
    simp only [laws_toIntS.l0]
    rw [if_pos (by simp only [List.length_append, List.length_cons]; omega), if_pos (by omega), if_pos (by simp only [List.length_append, List.length_cons, List.length_replicate]; omega), rd_mid, List.length_cons, List.replicate_succ, set_mid, w64 (by omega) (by omega)]
    have h := ih (pre ++ [r]) k (by simp only [List.length_append, List.length_cons, List.length_nil]; omega) (by omega)
    simpa using h
theorem toIntS_ev (xs : List Int) (h : xs.length ≤ 1048576) : Ev (fun k => laws_toIntS.f k xs) xs := by
  refine Ev.at_ xs.length fun k hk => ?_
  simp only [laws_toIntS.f]
  rw [if_pos (by omega), if_pos (by omega)]
  have h := toIntS_loop xs [] k (by simp only [List.length_nil]; omega) hk
  simpa using h

theorem eqIntS_loop (a : List Int) : ∀ (b pre pre' : List Int) (k : Nat), pre.length = pre'.length → a.length = b.length → pre.length + a.length ≤ 1099511627776 → a.length < k →
    laws_eqIntS.l0 k (pre ++ a) (pre' ++ b) (pre.length : Int) = some (decide (a = b)) := by
  induction a with
  | nil =>
    intro b pre pre' k hp hab hn hk
    obtain ⟨k, rfl⟩ := succ_of hk
    obtain rfl : b = [] := List.eq_nil_of_length_eq_zero hab.symm
    simp only [laws_eqIntS.l0]
    rw [if_neg (by simp only [List.length_append, List.length_nil] at *; omega)]
    simp
  | cons r a ih =>
    intro b pre pre' k hp hab hn hk
    obtain ⟨k, rfl⟩ := succ_of hk
    cases b with
    | nil => simp at hab
    | cons s b =>
      simp only [List.length_cons] at hab hn hk
      simp only [laws_eqIntS.l0]
      have e : rd (pre' ++ s :: b) (pre.length : Int) = s := by rw [hp, rd_mid]
      rw [if_pos (by simp only [List.length_append, List.length_cons]; omega), if_pos (by omega), if_pos (by simp only [List.length_append, List.length_cons]; omega), rd_mid, e]
      by_cases hrs : r = s
      · subst hrs
        rw [if_pos rfl, w64 (by omega) (by omega)]
        have h := ih b (pre ++ [r]) (pre' ++ [r]) k (by simp [hp]) (by omega) (by simp only [List.length_append, List.length_cons, List.length_nil]; omega) (by omega)
        simpa using h
      · rw [if_neg hrs]
        simp [hrs]
theorem eqIntS_ev (a b : List Int) (h : a.length ≤ 1099511627776) : Ev (fun k => laws_eqIntS.f k a b) (decide (a = b)) := by
  refine Ev.at_ a.length fun k hk => ?_
  simp only [laws_eqIntS.f]
  by_cases e : a.length = b.length
  · rw [if_pos (by omega)]
    have h := eqIntS_loop a b [] [] k rfl e (by simp only [List.length_nil]; omega) hk
    simpa using h
  · rw [if_neg (by omega)]
    have hne : ¬ a = b := fun h => e (by rw [h])
    simp [hne]

theorem l1In_eq (a b c : Int) : spec_l1In.f a b c = some (decide (b ≤ a ∧ a ≤ c)) := by
  unfold spec_l1In.f
  by_cases h : b ≤ a
  · rw [if_pos h]; simp [h]
  · rw [if_neg h]; simp [h]

theorem in_eq (a b c : Int) : impl_in.f a b c = some (decide (b ≤ a ∧ a ≤ c)) := by
  unfold impl_in.f
  by_cases h : b ≤ a
  · rw [if_pos h]; simp [h]
  · rw [if_neg h]; simp [h]

def oidNums (xs : List Int) : Bool := xs.all fun n => decide (0 ≤ n ∧ n ≤ 100000)
def oidOk (xs : List Int) : Bool := oidNums xs && decide (1 ≤ (xs.length : Int) ∧ (xs.length : Int) ≤ 10)

theorem sOidOk_loop (rest : List Int) : ∀ (pre : List Int) (k : Nat), pre.length + rest.length ≤ 1099511627776 → rest.length < k →
    spec_OidOk.l0 k (pre ++ rest) (pre.length : Int) = some (oidNums rest && decide (1 ≤ ((pre ++ rest).length : Int) ∧ ((pre ++ rest).length : Int) ≤ 10)) := by
  induction rest with
  | nil =>
    intro pre k _ hk
    obtain ⟨k, rfl⟩ := succ_of hk
    simp only [spec_OidOk.l0]
    rw [if_neg (by simp only [List.length_append, List.length_nil]; omega), l1In_eq]
    simp [oidNums]
  | cons r rest ih =>
    intro pre k hn hk
    obtain ⟨k, rfl⟩ := succ_of hk
    simp only [List.length_cons] at hn hk
    simp only [spec_OidOk.l0]
    rw [if_pos (by simp only [List.length_append, List.length_cons]; omega), if_pos (by omega), rd_mid, l1In_eq, w64 (by omega) (by omega)]
    simp only [Option.bind_some]
    by_cases h : 0 ≤ r ∧ r ≤ 100000
    · rw [if_pos (by simpa using h)]
      have e := ih (pre ++ [r]) k (by simp only [List.length_append, List.length_cons, List.length_nil]; omega) (by omega)
      simp only [List.append_assoc, List.cons_append, List.nil_append] at e
      rw [show (pre.length : Int) + 1 = ((pre ++ [r]).length : Int) from by simp, e]
      simp [oidNums, h]
    · rw [if_neg (by simpa using h)]
      simp only [oidNums, List.all_cons, decide_eq_false h, Bool.false_and]
theorem sOidOk_ev (xs : List Int) (h : xs.length ≤ 1099511627776) : Ev (fun k => spec_OidOk.f k xs) (oidOk xs) := by
  refine Ev.at_ xs.length fun k hk => ?_
  simp only [spec_OidOk.f]
  have e := sOidOk_loop xs [] k (by simp only [List.length_nil]; omega) hk
  simpa [oidOk] using e

theorem iOidOk_loop (rest : List Int) : ∀ (pre all : List Int) (m : Int) (k : Nat), m = (pre.length : Int) + rest.length → pre.length + rest.length ≤ 1099511627776 → rest.length < k →
    impl_OidOk.l0 k all (pre ++ rest) m (pre.length : Int) = some (oidNums rest && decide (1 ≤ (all.length : Int) ∧ (all.length : Int) ≤ 10)) := by
  induction rest with
  | nil =>
    intro pre all m k hm _ hk
    obtain ⟨k, rfl⟩ := succ_of hk
    simp only [List.length_nil] at hm
    simp only [impl_OidOk.l0]
    rw [if_neg (by omega), in_eq]
    simp [oidNums]
  | cons r rest ih =>
    intro pre all m k hm hn hk
    obtain ⟨k, rfl⟩ := succ_of hk
    simp only [List.length_cons] at hm hn hk
    simp only [impl_OidOk.l0]
    rw [if_pos (by omega), if_pos (by omega), if_pos (by simp only [List.length_append, List.length_cons]; omega), rd_mid, in_eq, w64 (by omega) (by omega)]
    simp only [Option.bind_some]
    by_cases h : 0 ≤ r ∧ r ≤ 100000
    · rw [if_pos (by simpa using h)]
      have e := ih (pre ++ [r]) all m k (by simp only [List.length_append, List.length_cons, List.length_nil]; omega) (by simp only [List.length_append, List.length_cons, List.length_nil]; omega) (by omega)
      simp only [List.append_assoc, List.cons_append, List.nil_append] at e
      rw [show (pre.length : Int) + 1 = ((pre ++ [r]).length : Int) from by simp, e]
      simp [oidNums, h]
    · rw [if_neg (by simpa using h)]
      simp only [oidNums, List.all_cons, decide_eq_false h, Bool.false_and]
theorem iOidOk_ev (xs : List Int) (h : xs.length ≤ 1099511627776) : Ev (fun k => impl_OidOk.f k xs) (oidOk xs) := by
  refine Ev.at_ xs.length fun k hk => ?_
  simp only [impl_OidOk.f]
  have e := iOidOk_loop xs [] xs (xs.length : Int) k (by simp) (by simp only [List.length_nil]; omega) hk
  simpa [oidOk] using e

def decB (n : Nat) : ByteArray := ⟨(Go.Lib.decDigits n).toArray⟩
def itoaB (n : Int) : ByteArray := ⟨(Go.Lib.itoa n).toArray⟩
theorem itoaB_nat (n : Nat) : itoaB (n : Int) = decB n := by
  unfold itoaB decB
  rw [Go.Lib.itoa_nonneg]
theorem decB_size (n : Nat) (h : n ≤ 1000000) : (decB n).size ≤ 21 := by
  have := Go.Lib.itoa_length_le (n : Int) (by omega) (by omega)
  rw [Go.Lib.itoa_nonneg] at this
  simpa [decB, ByteArray.size] using this
theorem itoaB_size (n : Int) (h : 0 ≤ n ∧ n ≤ 100000) : (itoaB n).size ≤ 21 := by
  obtain ⟨m, rfl⟩ : ∃ m : Nat, n = m := ⟨n.toNat, by omega⟩
  rw [itoaB_nat]
  exact decB_size m (by omega)
theorem num_f : ∀ (k n : Nat), n < k → n ≤ 100000 → spec_l2Num.f k (n : Int) = some (decB n) := by
  intro k
  induction k with
  | zero => intro n h _; omega
  | succ k ih =>
    intro n hk hn
    simp only [spec_l2Num.f]
    rw [if_neg (by omega)]
    by_cases h : n < 10
    · rw [if_pos (by omega), w64 (by omega) (by omega)]
      unfold decB strOfNums
      rw [Go.Lib.decDigits_one h]
      simp only [List.map_cons, List.map_nil]
      rw [show ((48 + (n : Int)) % 256).toNat = 48 + n by omega]
    · have h1 : Int.tdiv (n : Int) 10 = ((n / 10 : Nat) : Int) := by rw [Int.tdiv_eq_ediv_of_nonneg (by omega)]; rfl
      have h2 : Int.tmod (n : Int) 10 = ((n % 10 : Nat) : Int) := by rw [Int.tmod_eq_emod_of_nonneg (by omega)]; rfl
      rw [if_neg (by omega), h1, h2, w64 (by omega) (by omega), w64 (by omega) (by omega), ih (n / 10) (by omega) (by omega)]
      simp only [Option.bind_some]
      have hs := decB_size (n / 10) (by omega)
      have e : strOfNums [(48 + ((n % 10 : Nat) : Int)) % 256] = ⟨#[UInt8.ofNat (48 + n % 10)]⟩ := by
        unfold strOfNums
        simp only [List.map_cons, List.map_nil]
        rw [show ((48 + ((n % 10 : Nat) : Int)) % 256).toNat = 48 + n % 10 by omega]
      rw [e, if_pos (by show _ + 1 ≤ _; omega)]
      congr 1
      apply ByteArray.ext
      rw [ByteArray.data_append]
      unfold decB
      conv => rhs; rw [Go.Lib.decDigits, dif_neg h]
      simp
theorem num_int (k : Nat) (n : Int) (h : 0 ≤ n ∧ n ≤ 100000) (hk : 100001 ≤ k) : spec_l2Num.f k n = some (itoaB n) := by
  obtain ⟨m, rfl⟩ : ∃ m : Nat, n = m := ⟨n.toNat, by omega⟩
  rw [itoaB_nat]
  exact num_f k m (by omega) (by omega)
def oidTl (rest : List Int) : List UInt8 := Go.Lib.joinTail [46] (rest.map Go.Lib.itoa)
theorem oidTl_cons (r : Int) (rest : List Int) : oidTl (r :: rest) = 46 :: Go.Lib.itoa r ++ oidTl rest := by
  simp [oidTl, Go.Lib.joinTail]
def oidB (xs : List Int) : ByteArray := ⟨(Go.Lib.join (xs.map Go.Lib.itoa) [46]).toArray⟩
theorem oidTl_len : ∀ rest : List Int, (∀ r ∈ rest, 0 ≤ r ∧ r ≤ 100000) → (oidTl rest).length ≤ 22 * rest.length
  | [], _ => by simp [oidTl, Go.Lib.joinTail]
  | r :: rest, h => by
    have h1 := oidTl_len rest fun y hy => h y (List.mem_cons_of_mem _ hy)
    have h2 := h r List.mem_cons_self
    have h3 := Go.Lib.itoa_length_le r (by omega) (by omega)
    rw [oidTl_cons]
    simp only [List.cons_append, List.length_cons, List.length_append]
    omega
theorem joinB_len (xs : List Int) (h : ∀ r ∈ xs, 0 ≤ r ∧ r ≤ 100000) : (Go.Lib.join (xs.map Go.Lib.itoa) [46]).length ≤ 22 * xs.length := by
  cases xs with
  | nil => simp [Go.Lib.join_nil]
  | cons r rest =>
    have h1 := oidTl_len rest fun y hy => h y (List.mem_cons_of_mem _ hy)
    have h2 := h r List.mem_cons_self
    have h3 := Go.Lib.itoa_length_le r (by omega) (by omega)
    rw [List.map_cons, Go.Lib.join_cons, List.length_append]
    unfold oidTl at h1
    simp only [List.length_cons]
    omega
theorem sOidText_loop (rest : List Int) : ∀ (pre : List Int) (s : ByteArray) (k : Nat), 1 ≤ pre.length → s.size ≤ 22 * pre.length → pre.length + rest.length ≤ 10 → (∀ r ∈ rest, 0 ≤ r ∧ r ≤ 100000) → 100001 + rest.length < k →
    spec_OidText.l0 k (pre ++ rest) s (pre.length : Int) = some ⟨s.data ++ (oidTl rest).toArray⟩ := by
  induction rest with
  | nil =>
    intro pre s k _ _ _ _ hk
    obtain ⟨k, rfl⟩ := succ_of hk
    simp only [spec_OidText.l0]
    rw [if_neg (by simp only [List.length_append, List.length_nil]; omega)]
    simp [oidTl, Go.Lib.joinTail]
  | cons r rest ih =>
    intro pre s k hp hs hn hr hk
    obtain ⟨k, rfl⟩ := succ_of hk
    simp only [List.length_cons] at hn hk
    have h2 := hr r List.mem_cons_self
    have h3 := itoaB_size r h2
    have h4 : (s ++ (⟨#[46]⟩ : ByteArray)).size = s.size + 1 := by rw [ByteArray.size_append]; rfl
    have h5 : ((s ++ (⟨#[46]⟩ : ByteArray)) ++ itoaB r).size = s.size + 1 + (itoaB r).size := by rw [ByteArray.size_append, h4]
    simp only [spec_OidText.l0]
    rw [if_pos (by simp only [List.length_append, List.length_cons]; omega), if_pos (by omega), if_pos (by omega), if_pos (by omega), rd_mid, num_int k r h2 (by omega), w64 (by omega) (by omega)]
    simp only [Option.bind_some]
    rw [if_pos (by omega)]
    have e := ih (pre ++ [r]) (s ++ (⟨#[46]⟩ : ByteArray) ++ itoaB r) k (by simp) (by rw [h5]; simp only [List.length_append, List.length_cons, List.length_nil]; omega) (by simp only [List.length_append, List.length_cons, List.length_nil]; omega) (fun y hy => hr y (List.mem_cons_of_mem _ hy)) (by omega)
    simp only [List.append_assoc, List.cons_append, List.nil_append] at e
    rw [show (pre.length : Int) + 1 = ((pre ++ [r]).length : Int) from by simp, e, oidTl_cons]
    congr 1
    apply ByteArray.ext
    simp only [ByteArray.data_append]
    unfold itoaB
    simp
theorem oid_in {xs : List Int} (h : oidOk xs = true) : (∀ r ∈ xs, 0 ≤ r ∧ r ≤ 100000) ∧ 1 ≤ xs.length ∧ xs.length ≤ 10 := by
  simp only [oidOk, oidNums, Bool.and_eq_true, List.all_eq_true, decide_eq_true_eq] at h
  exact ⟨h.1, by omega, by omega⟩
def oidText (xs : List Int) : ByteArray := if oidOk xs = true then oidB xs else ⟨#[]⟩
theorem sOidText_ev (xs : List Int) (h : xs.length ≤ 1099511627776) : Ev (fun k => spec_OidText.f k xs) (oidText xs) := by
  simp only [spec_OidText.f]
  refine Ev.bind (sOidOk_ev xs h) ?_
  unfold oidText
  cases ho : oidOk xs with
  | false => simp only [Bool.false_eq_true, if_false]; exact Ev.now _
  | true =>
    simp only [if_true]
    obtain ⟨hr, h1, h10⟩ := oid_in ho
    refine Ev.at_ 100020 fun k hk => ?_
    obtain ⟨k, rfl⟩ := succ_of hk
    cases xs with
    | nil => simp at h1
    | cons r rest =>
      simp only [List.length_cons] at h1 h10
      have h2 := hr r List.mem_cons_self
      have h3 := itoaB_size r h2
      have h5 : ((⟨#[]⟩ : ByteArray) ++ itoaB r).size = (itoaB r).size := by rw [ByteArray.size_append]; show 0 + _ = _; omega
      simp only [spec_OidText.l0]
      have hrd : rd (r :: rest) 0 = r := rfl
      rw [if_pos (by simp only [List.length_cons]; omega), if_neg (by omega), if_pos (by omega), hrd, num_int k r h2 (by omega), w64 (by omega) (by omega)]
      simp only [Option.bind_some]
      rw [if_pos (by show 0 + _ ≤ _; omega)]
      have e := sOidText_loop rest [r] ((⟨#[]⟩ : ByteArray) ++ itoaB r) k (by simp) (by rw [h5]; simp only [List.length_cons, List.length_nil]; omega) (by simp only [List.length_cons, List.length_nil]; omega) (fun y hy => hr y (List.mem_cons_of_mem _ hy)) (by omega)
      simp only [List.cons_append, List.nil_append, List.length_cons, List.length_nil] at e
      rw [show ((0 : Int) + 1) = ((0 + 1 : Nat) : Int) from rfl, e]
      congr 1
      apply ByteArray.ext
      unfold itoaB oidB oidTl
      rw [List.map_cons, Go.Lib.join_cons]
      simp only [ByteArray.data_append]
      simp
theorem iOidText_loop (rest : List Int) : ∀ (pre : List Int) (m : Int) (k : Nat), m = (pre.length : Int) + rest.length → pre.length + rest.length ≤ 10 → (∀ r ∈ pre ++ rest, 0 ≤ r ∧ r ≤ 100000) → rest.length < k →
    impl_OidText.l0 k (pre.map itoaB) (pre ++ rest) m (pre.length : Int) = some (oidB (pre ++ rest)) := by
  induction rest with
  | nil =>
    intro pre m k hm hn hr hk
    obtain ⟨k, rfl⟩ := succ_of hk
    simp only [List.length_nil] at hm hn
    simp only [List.append_nil] at hr ⊢
    have hl := joinB_len pre hr
    simp only [impl_OidText.l0]
    rw [if_neg (by omega)]
    have e : joinB (pre.map itoaB) (⟨#[46]⟩ : ByteArray) = Go.Lib.join (pre.map Go.Lib.itoa) [46] := by
      unfold joinB itoaB
      rw [List.map_map]
      rfl
    unfold strings_Join.f
    rw [e, if_pos ⟨by omega, by rw [List.length_map]; omega⟩]
    rfl
  | cons r rest ih =>
    intro pre m k hm hn hr hk
    obtain ⟨k, rfl⟩ := succ_of hk
    simp only [List.length_cons] at hm hn hk
    have h2 := hr r (by simp)
    simp only [impl_OidText.l0]
    rw [if_pos (by omega), if_pos (by omega), if_pos (by simp only [List.length_append, List.length_cons]; omega), rd_mid]
    unfold strconv_Itoa.f
    rw [if_pos (by omega)]
    simp only [Option.bind_some]
    rw [if_pos (by rw [List.length_map]; omega), w64 (by omega) (by omega)]
    have e := ih (pre ++ [r]) m k (by simp only [List.length_append, List.length_cons, List.length_nil]; omega) (by simp only [List.length_append, List.length_cons, List.length_nil]; omega) (by simpa using hr) (by omega)
    simp only [List.append_assoc, List.cons_append, List.nil_append, List.map_append, List.map_cons, List.map_nil] at e
    rw [show (pre.length : Int) + 1 = ((pre ++ [r]).length : Int) from by simp]
    exact e
theorem iOidText_ev (xs : List Int) (h : xs.length ≤ 1099511627776) : Ev (fun k => impl_OidText.f k xs) (oidText xs) := by
  simp only [impl_OidText.f]
  refine Ev.bind (iOidOk_ev xs h) ?_
  unfold oidText
  cases ho : oidOk xs with
  | false => simp only [Bool.false_eq_true, if_false]; exact Ev.now _
  | true =>
    simp only [if_true]
    obtain ⟨hr, h1, h10⟩ := oid_in ho
    refine Ev.at_ 20 fun k hk => ?_
    have e := iOidText_loop xs [] (xs.length : Int) k (by simp) (by simpa using h10) (by simpa using hr) (by omega)
    simpa using e

theorem FnExactOidText : laws_FnExactOidText.Pure := by
  intro l0 _ _
  refine Ev.rounds ?_
  unfold laws_FnExactOidText.f
  by_cases bl0 : (l0.length : Int) > 1048576
  · simp only [if_pos bl0]; exact Ev.now _
  simp only [if_neg bl0]
  repeat' first
    | exact Ev.now _
    | ((with_reducible refine Ev.bind (toIntS_ev _ ?s0) ?_); (case s0 => omega))
    | ((with_reducible refine Ev.bind (eqIntS_ev _ _ ?s0) ?_); (case s0 => omega))
    | ((with_reducible refine Ev.bind (sOidText_ev _ ?s0) ?_); (case s0 => omega))
    | ((with_reducible refine Ev.bind (iOidText_ev _ ?s0) ?_); (case s0 => omega))
    | simp only [bne_self_eq_false, Bool.false_eq_true, Bool.not_true, Bool.not_false, decide_true, Option.bind_some, ↓reduceIte]

end Go.Proofs.YthhnfmbfgplelaaDoor.Pure
