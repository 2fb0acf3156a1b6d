/- The pure side of FnOids: a name's bytes and its text read back, and what reads as a name has these bytes and this text. No conditions but those of the given statement. -/
import Derived.Test.YtgjhmbneikpiaaaDoorXFnOidsx6
import Derived.Lib.ItoaLen
namespace Go.Proofs.YtgjhmbneikpiaaaDoor.Pure
open Go.RowKit Go.Proofs.YtgjhmbneikpiaaaDoor.XFnOids Go.Proofs.YtgjhmbneikpiaaaDoorW.PrintWords Go.Proofs.YtgjhmbneikpiaaaDoorW.PrintLast Go.Proofs.YtgjhmbneikpiaaaDoorW.PrintMore
set_option linter.unusedVariables false
set_option linter.unusedSimpArgs false

theorem w64 {x : Int} (h0 : -9223372036854775808 ≤ x) (h1 : x ≤ 9223372036854775807) : wrap64 x = x := by
  unfold wrap64
  omega
theorem wf64 {x : Int} (h : (Lit.int .i64 x).wf = true) : -9223372036854775808 ≤ x ∧ x ≤ 9223372036854775807 := by
  simp only [Lit.wf, Bool.and_eq_true, decide_eq_true_eq] at h
  exact h
theorem wf8 {x : Int} (h : (Lit.int .u8 x).wf = true) : 0 ≤ x ∧ x ≤ 255 := by
  simp only [Lit.wf, Bool.and_eq_true, decide_eq_true_eq] at h
  exact h
theorem rd_mid (pre rest : List Int) (r : Int) : rd (pre ++ r :: rest) (pre.length : Int) = r := by
  unfold rd
  simp [List.getD_eq_getElem?_getD]
theorem set_mid {α : Type} (pre rest : List α) (r v : α) : (pre ++ r :: rest).set (pre.length : Int).toNat v = pre ++ v :: rest := by
  rw [Int.toNat_natCast, List.set_append_right _ _ (Nat.le_refl _)]
  simp
theorem succ_of {d k : Nat} (h : d < k) : ∃ m, k = m + 1 := ⟨k - 1, by omega⟩
theorem Ev.at_ {α : Type} {g : Nat → Option α} {r : α} (n : Nat) (h : ∀ k, n < k → g k = some r) : Ev g r := ⟨n + 1, fun k hk => h k (by omega)⟩
theorem Ev.some_ {α : Type} {v : Option α} {r : α} (h : v = some r) : Ev (fun _ => v) r := ⟨0, fun _ _ => h⟩
theorem Ev.succ {α : Type} {g : Nat → Option α} {r : α} (h : Ev (fun k => g (k + 1)) r) : Ev g r := by
  obtain ⟨K, h⟩ := h
  refine ⟨K + 1, fun n hn => ?_⟩
  obtain ⟨m, rfl⟩ : ∃ m, n = m + 1 := ⟨n - 1, by omega⟩
  exact h m (by omega)
theorem Ev.some_const {α : Type} {g : Nat → Option α} {r : α} (h : ∀ k, g k = some r) : Ev g r := ⟨0, fun k _ => h k⟩

theorem l1In_eq (a b c : Int) : spec_l1In.f a b c = some (decide (b ≤ a ∧ a ≤ c)) := by
  unfold spec_l1In.f
  by_cases h : b ≤ a
  · rw [if_pos h]; simp [h]
  · rw [if_neg h]; simp [h]

theorem in_eq (a b c : Int) : impl_in.f a b c = some (decide (b ≤ a ∧ a ≤ c)) := by
  unfold impl_in.f
  by_cases h : b ≤ a
  · rw [if_pos h]; simp [h]
  · rw [if_neg h]; simp [h]

theorem sameBytes_loop (a : List Int) : ∀ (b pre pre' : List Int) (k : Nat), pre.length = pre'.length → a.length = b.length → pre.length + a.length ≤ 1099511627776 → a.length < k →
    laws_sameBytes.l0 k (pre ++ a) (pre' ++ b) (pre.length : Int) = some (decide (a = b)) := by
  induction a with
  | nil =>
    intro b pre pre' k hp hab hn hk
    obtain ⟨k, rfl⟩ := succ_of hk
    obtain rfl : b = [] := List.eq_nil_of_length_eq_zero hab.symm
    simp only [laws_sameBytes.l0]
    rw [if_neg (by simp only [List.length_append, List.length_nil] at *; omega)]
    simp
  | cons r a ih =>
    intro b pre pre' k hp hab hn hk
    obtain ⟨k, rfl⟩ := succ_of hk
    cases b with
    | nil => simp at hab
    | cons s b =>
      simp only [List.length_cons] at hab hn hk
      simp only [laws_sameBytes.l0]
      have e : rd (pre' ++ s :: b) (pre.length : Int) = s := by rw [hp, rd_mid]
      rw [if_pos (by simp only [List.length_append, List.length_cons]; omega), if_pos (by omega), if_pos (by simp only [List.length_append, List.length_cons]; omega), rd_mid, e]
      by_cases hrs : r = s
      · subst hrs
        rw [if_pos rfl, w64 (by omega) (by omega)]
        have h := ih b (pre ++ [r]) (pre' ++ [r]) k (by simp [hp]) (by omega) (by simp only [List.length_append, List.length_cons, List.length_nil]; omega) (by omega)
        simpa using h
      · rw [if_neg hrs]
        simp [hrs]
theorem sameBytes_ev (a b : List Int) (h : a.length ≤ 1099511627776) : Ev (fun k => laws_sameBytes.f k a b) (decide (a = b)) := by
  refine Ev.at_ a.length fun k hk => ?_
  simp only [laws_sameBytes.f]
  by_cases e : a.length = b.length
  · rw [if_pos (by omega)]
    have h := sameBytes_loop a b [] [] k rfl e (by simp only [List.length_nil]; omega) hk
    simpa using h
  · rw [if_neg (by omega)]
    have hne : ¬ a = b := fun h => e (by rw [h])
    simp [hne]

theorem Ev.ite {α : Type} {c : Prop} [Decidable c] {g1 g2 : Nat → Option α} {r1 r2 : α} (h1 : c → Ev g1 r1) (h2 : ¬ c → Ev g2 r2) : Ev (fun k => if c then g1 k else g2 k) (if c then r1 else r2) := by
  by_cases h : c
  · simp only [if_pos h]; exact h1 h
  · simp only [if_neg h]; exact h2 h

theorem Ev.uniq {α : Type} {g : Nat → Option α} {r1 r2 : α} (h1 : Ev g r1) (h2 : Ev g r2) : r1 = r2 := by
  obtain ⟨a, ha⟩ := h1
  obtain ⟨b, hb⟩ := h2
  exact Option.some.inj ((ha (max a b) (Nat.le_max_left a b)).symm.trans (hb (max a b) (Nat.le_max_right a b)))

def bys (l : List Int) : Prop := ∀ y ∈ l, 0 ≤ y ∧ y ≤ 255
theorem bys_app {a b : List Int} (ha : bys a) (hb : bys b) : bys (a ++ b) := by
  intro y hy
  rcases List.mem_append.1 hy with h | h
  · exact ha y h
  · exact hb y h
theorem bys_one {b : Int} (h : 0 ≤ b ∧ b ≤ 255) : bys [b] := by
  intro y hy
  rw [List.mem_singleton.1 hy]
  exact h
theorem bys_take {a : List Int} (ha : bys a) (n : Nat) : bys (a.take n) := fun y hy => ha y (List.mem_of_mem_take hy)
theorem bys_set {a : List Int} (ha : bys a) (n : Nat) {v : Int} (hv : 0 ≤ v ∧ v ≤ 255) : bys (a.set n v) := by
  intro y hy
  rcases List.mem_or_eq_of_mem_set hy with h | h
  · exact ha y h
  · rw [h]; exact hv

theorem iSameOid_loop (a : List Int) : ∀ (b pre pre' : List Int) (m : Int) (k : Nat), pre.length = pre'.length → a.length = b.length → pre.length + a.length ≤ 1099511627776 → m = (pre.length : Int) + (a.length : Int) → a.length < k →
    impl_SameOid.l0 k (pre ++ a) (pre' ++ b) m (pre.length : Int) = some (decide (a = b)) := by
  induction a with
  | nil =>
    intro b pre pre' m k hp hab hn hm hk
    obtain ⟨k, rfl⟩ := succ_of hk
    obtain rfl : b = [] := List.eq_nil_of_length_eq_zero hab.symm
    simp only [impl_SameOid.l0]
    rw [if_neg (by simp only [List.length_append, List.length_nil] at *; omega)]
    simp
  | cons r a ih =>
    intro b pre pre' m k hp hab hn hm hk
    obtain ⟨k, rfl⟩ := succ_of hk
    cases b with
    | nil => simp at hab
    | cons s b =>
      simp only [List.length_cons] at hab hn hk hm
      simp only [impl_SameOid.l0]
      have e : rd (pre' ++ s :: b) (pre.length : Int) = s := by rw [hp, rd_mid]
      rw [if_pos (by omega), if_pos (by omega), if_pos (by simp only [List.length_append, List.length_cons]; omega), if_pos (by simp only [List.length_append, List.length_cons]; omega), rd_mid, e]
      by_cases hrs : r = s
      · subst hrs
        rw [if_pos rfl, w64 (by omega) (by omega)]
        have h := ih b (pre ++ [r]) (pre' ++ [r]) m k (by simp [hp]) (by omega) (by simp only [List.length_append, List.length_cons, List.length_nil]; omega) (by simp only [List.length_append, List.length_cons, List.length_nil]; omega) (by omega)
        simpa using h
      · rw [if_neg hrs]
        simp [hrs]
theorem iSameOid_ev (a b : List Int) (h : a.length ≤ 1099511627776) : Ev (fun k => impl_SameOid.f k a b) (decide (a = b)) := by
  refine Ev.at_ a.length fun k hk => ?_
  simp only [impl_SameOid.f]
  by_cases e : a.length = b.length
  · rw [if_pos (by omega)]
    have h := iSameOid_loop a b [] [] (a.length : Int) k rfl e (by simp only [List.length_nil]; omega) (by simp) hk
    simpa using h
  · rw [if_neg (by omega)]
    have hne : ¬ a = b := fun h => e (by rw [h])
    simp [hne]

def oidNums (xs : List Int) : Bool := xs.all fun n => decide (0 ≤ n ∧ n ≤ 100000)
def oidOk (xs : List Int) : Bool := oidNums xs && decide (1 ≤ (xs.length : Int) ∧ (xs.length : Int) ≤ 10)

theorem sOidOk_loop (rest : List Int) : ∀ (pre : List Int) (k : Nat), pre.length + rest.length ≤ 1099511627776 → rest.length < k →
    spec_OidOk.l0 k (pre ++ rest) (pre.length : Int) = some (oidNums rest && decide (1 ≤ ((pre ++ rest).length : Int) ∧ ((pre ++ rest).length : Int) ≤ 10)) := by
  induction rest with
  | nil =>
    intro pre k _ hk
    obtain ⟨k, rfl⟩ := succ_of hk
    simp only [spec_OidOk.l0]
    rw [if_neg (by simp only [List.length_append, List.length_nil]; omega), l1In_eq]
    simp [oidNums]
  | cons r rest ih =>
    intro pre k hn hk
    obtain ⟨k, rfl⟩ := succ_of hk
    simp only [List.length_cons] at hn hk
    simp only [spec_OidOk.l0]
    rw [if_pos (by simp only [List.length_append, List.length_cons]; omega), if_pos (by omega), rd_mid, l1In_eq, w64 (by omega) (by omega)]
    simp only [Option.bind_some]
    by_cases h : 0 ≤ r ∧ r ≤ 100000
    · rw [if_pos (by simpa using h)]
      have e := ih (pre ++ [r]) k (by simp only [List.length_append, List.length_cons, List.length_nil]; omega) (by omega)
      simp only [List.append_assoc, List.cons_append, List.nil_append] at e
      rw [show (pre.length : Int) + 1 = ((pre ++ [r]).length : Int) from by simp, e]
      simp [oidNums, h]
    · rw [if_neg (by simpa using h)]
      simp only [oidNums, List.all_cons, decide_eq_false h, Bool.false_and]
theorem sOidOk_ev (xs : List Int) (h : xs.length ≤ 1099511627776) : Ev (fun k => spec_OidOk.f k xs) (oidOk xs) := by
  refine Ev.at_ xs.length fun k hk => ?_
  simp only [spec_OidOk.f]
  have e := sOidOk_loop xs [] k (by simp only [List.length_nil]; omega) hk
  simpa [oidOk] using e

theorem iOidOk_loop (rest : List Int) : ∀ (pre all : List Int) (m : Int) (k : Nat), m = (pre.length : Int) + rest.length → pre.length + rest.length ≤ 1099511627776 → rest.length < k →
    impl_OidOk.l0 k all (pre ++ rest) m (pre.length : Int) = some (oidNums rest && decide (1 ≤ (all.length : Int) ∧ (all.length : Int) ≤ 10)) := by
  induction rest with
  | nil =>
    intro pre all m k hm _ hk
    obtain ⟨k, rfl⟩ := succ_of hk
    simp only [List.length_nil] at hm
    simp only [impl_OidOk.l0]
    rw [if_neg (by omega), in_eq]
    simp [oidNums]
  | cons r rest ih =>
    intro pre all m k hm hn hk
    obtain ⟨k, rfl⟩ := succ_of hk
    simp only [List.length_cons] at hm hn hk
    simp only [impl_OidOk.l0]
    rw [if_pos (by omega), if_pos (by omega), if_pos (by simp only [List.length_append, List.length_cons]; omega), rd_mid, in_eq, w64 (by omega) (by omega)]
    simp only [Option.bind_some]
    by_cases h : 0 ≤ r ∧ r ≤ 100000
    · rw [if_pos (by simpa using h)]
      have e := ih (pre ++ [r]) all m k (by simp only [List.length_append, List.length_cons, List.length_nil]; omega) (by simp only [List.length_append, List.length_cons, List.length_nil]; omega) (by omega)
      simp only [List.append_assoc, List.cons_append, List.nil_append] at e
      rw [show (pre.length : Int) + 1 = ((pre ++ [r]).length : Int) from by simp, e]
      simp [oidNums, h]
    · rw [if_neg (by simpa using h)]
      simp only [oidNums, List.all_cons, decide_eq_false h, Bool.false_and]
theorem iOidOk_ev (xs : List Int) (h : xs.length ≤ 1099511627776) : Ev (fun k => impl_OidOk.f k xs) (oidOk xs) := by
  refine Ev.at_ xs.length fun k hk => ?_
  simp only [impl_OidOk.f]
  have e := iOidOk_loop xs [] xs (xs.length : Int) k (by simp) (by simp only [List.length_nil]; omega) hk
  simpa [oidOk] using e

theorem wraps_i64 (n : Int) (h0 : 0 ≤ n) (h1 : n < 2 ^ 63) : IntKind.i64.wrap n = n := by rw [IntKind.wrap_i64]; omega
theorem and127 (x : Int) (h0 : 0 ≤ x) (h1 : x < 9223372036854775808) : Go.bits .and .i64 x 127 = x % 128 :=
  Go.bits_mask .i64 63 (by decide) wraps_i64 7 (by decide) x h0 h1
theorem or128 (y : Int) (h0 : 0 ≤ y) (h1 : y < 128) : Go.bits .or .i64 y 128 = y + 128 := by
  obtain ⟨b, rfl⟩ := Int.eq_ofNat_of_zero_le h0
  have hb : b < 2 ^ 7 := by omega
  have e := (Go.bits_nat .i64 63 (by decide) wraps_i64 b 128 (by omega) (by decide)).2
  rw [show (128 : Int) = ((128 : Nat) : Int) from rfl, e, Nat.or_comm]
  have h := Nat.two_pow_add_eq_or_of_lt hb 1
  rw [show (2 : Nat) ^ 7 * 1 = 128 from rfl] at h
  rw [← h]
  omega
def group (n : Int) : List Int :=
  if n ≤ 127 then [n] else if n ≤ 16383 then [n / 128 + 128, n % 128] else [n / 16384 + 128, n / 128 % 128 + 128, n % 128]
theorem group_len (n : Int) : 1 ≤ (group n).length ∧ (group n).length ≤ 3 := by
  unfold group
  split
  · simp
  · split <;> simp
def putOid (o : List Int) : List Int := if oidOk o = true then o.flatMap group else []
theorem flat_len (o : List Int) : (o.flatMap group).length ≤ 3 * o.length := by
  induction o with
  | nil => simp
  | cons n o ih =>
    have := group_len n
    simp only [List.flatMap_cons, List.length_append, List.length_cons]
    omega
theorem putOid_len (o : List Int) : (putOid o).length ≤ 30 := by
  unfold putOid
  split
  · rename_i h
    have h1 := flat_len o
    simp only [oidOk, Bool.and_eq_true, decide_eq_true_eq] at h
    omega
  · simp
theorem oidNums_cons (n : Int) (o : List Int) (h : oidNums (n :: o) = true) : (0 ≤ n ∧ n ≤ 100000) ∧ oidNums o = true := by
  simp only [oidNums, List.all_cons, Bool.and_eq_true, decide_eq_true_eq] at h
  exact h

theorem sGroup_ev (n : Int) (h0 : 0 ≤ n) (h1 : n ≤ 100000) : Ev (fun k => spec_l2Group.f k n) (group n) := by
  unfold spec_l2Group.f
  simp only [and127 n h0 (by omega), show n % 128 % 256 = n % 128 by omega]
  refine Ev.succ ?_
  simp only [spec_l2Group.l0]
  unfold group
  by_cases c1 : n ≤ 127
  · simp only [if_neg (show ¬ n > 127 by omega), if_pos c1, show n % 128 = n by omega]
    exact Ev.now _
  · simp only [if_pos (show n > 127 by omega), if_neg c1, Option.bind_some, List.length_cons, List.length_nil, and127 (n / 128) (by omega) (by omega), or128 (n / 128 % 128) (by omega) (by omega), show (n / 128 % 128 + 128) % 256 = n / 128 % 128 + 128 by omega]
    simp only [if_pos (show 0 + 1 + (0 + 1) < 140737488355328 by omega)]
    refine Ev.succ ?_
    simp only [spec_l2Group.l0]
    by_cases c2 : n ≤ 16383
    · simp only [if_neg (show ¬ n / 128 > 127 by omega), if_pos c2, show n / 128 % 128 = n / 128 by omega]
      exact Ev.now _
    · simp only [if_pos (show n / 128 > 127 by omega), if_neg c2, Option.bind_some, List.length_cons, List.length_nil, List.length_append, show n / 128 / 128 = n / 16384 by omega, and127 (n / 16384) (by omega) (by omega), or128 (n / 16384 % 128) (by omega) (by omega), show (n / 16384 % 128 + 128) % 256 = n / 16384 + 128 by omega]
      simp only [if_pos (show 0 + 1 + (0 + 1 + (0 + 1)) < 140737488355328 by omega)]
      refine Ev.succ ?_
      simp only [spec_l2Group.l0]
      simp only [if_neg (show ¬ n / 16384 > 127 by omega)]
      exact Ev.now _
theorem sPutOid_loop (rest : List Int) : ∀ (pre out : List Int), pre.length + rest.length ≤ 1048576 → out.length ≤ 3 * pre.length → oidNums rest = true →
    Ev (fun k => spec_PutOid.l0 k (pre ++ rest) out (pre.length : Int)) (out ++ rest.flatMap group) := by
  induction rest with
  | nil =>
    intro pre out _ _ _
    refine Ev.succ ?_
    simp only [spec_PutOid.l0]
    simp only [List.append_nil, if_neg (show ¬ (pre.length : Int) < (pre.length : Int) by omega), List.flatMap_nil]
    exact Ev.now _
  | cons r rest ih =>
    intro pre out hn ho hw
    simp only [List.length_cons] at hn
    obtain ⟨hr, hw⟩ := oidNums_cons r rest hw
    have hg := group_len r
    have h := ih (pre ++ [r]) (out ++ group r) (by simp only [List.length_append, List.length_cons, List.length_nil]; omega) (by simp only [List.length_append, List.length_cons, List.length_nil]; omega) hw
    simp only [List.append_assoc, List.cons_append, List.nil_append] at h
    rw [show ((pre ++ [r]).length : Int) = (pre.length : Int) + 1 by simp] at h
    refine Ev.succ ?_
    simp only [spec_PutOid.l0]
    simp only [if_pos (show (pre.length : Int) < ((pre ++ r :: rest).length : Int) by simp only [List.length_append, List.length_cons]; omega), if_pos (show (0 : Int) ≤ (pre.length : Int) by omega), rd_mid, w64 (x := (pre.length : Int) + 1) (by omega) (by omega)]
    refine Ev.bind (sGroup_ev r hr.1 hr.2) ?_
    simp only [if_pos (show out.length + (group r).length < 140737488355328 by omega), List.flatMap_cons]
    exact h
theorem sPutOid_ev (o : List Int) (h : o.length ≤ 1048576) : Ev (fun k => spec_PutOid.f k o) (putOid o) := by
  unfold spec_PutOid.f putOid
  simp only [Option.bind_some]
  refine Ev.bind (sOidOk_ev o (by omega)) ?_
  by_cases c : oidOk o = true
  · simp only [if_pos c]
    have c' := c
    simp only [oidOk, Bool.and_eq_true] at c'
    have e := sPutOid_loop o [] [] (by simp only [List.length_nil]; omega) (by simp) c'.1
    simpa using e
  · simp only [if_neg c]
    exact Ev.now _

theorem shr7 (n : Int) : shr .i64 n 7 = n / 128 := rfl
theorem shr14 (n : Int) : shr .i64 n 14 = n / 16384 := rfl
theorem shrz (n : Int) : shr .i64 n 0 = n := by
  show n / 1 = n
  omega
theorem iGroup_ev (n : Int) (h0 : 0 ≤ n) (h1 : n ≤ 100000) (out xs : List Int) (m i : Int) (r : List Int) (ho : out.length ≤ 100000000) (h : Ev (fun k => impl_PutOid.l0 k (out ++ group n) xs m (wrap64 (i + 1))) r) :
    Ev (fun k => impl_PutOid.l1 k out n 0 xs m i) r := by
  have a0 : wrap64 (7 * 0) = 0 := by decide +kernel
  have a1 : wrap64 (7 * 1) = 7 := by decide +kernel
  have a2 : wrap64 (7 * 2) = 14 := by decide +kernel
  have b1 : wrap64 (0 + 1) = 1 := by decide +kernel
  have b2 : wrap64 (1 + 1) = 2 := by decide +kernel
  have d1 : wrap64 (1 - 1) = 0 := by decide +kernel
  have d2 : wrap64 (2 - 1) = 1 := by decide +kernel
  have z : (0 : Int) ≤ 0 := by decide
  have z7 : (0 : Int) ≤ 7 := by decide
  have z14 : (0 : Int) ≤ 14 := by decide
  unfold group at h
  refine Ev.succ ?_
  simp only [impl_PutOid.l1]
  simp only [a0, shrz, if_pos z, b1]
  by_cases c1 : n ≤ 127
  · simp only [if_neg (show ¬ n > 127 by omega)]
    simp only [if_pos c1] at h
    refine Ev.succ ?_
    simp only [impl_PutOid.l2]
    simp only [if_neg (show ¬ (0 : Int) > 0 by omega), if_pos (show out.length < 140737488355328 by omega), and127 n h0 (by omega), show n % 128 % 256 = n by omega]
    exact h
  · simp only [if_pos (show n > 127 by omega)]
    simp only [if_neg c1] at h
    refine Ev.succ ?_
    simp only [impl_PutOid.l1]
    simp only [a1, shr7, if_pos z7, b2]
    by_cases c2 : n ≤ 16383
    · simp only [if_neg (show ¬ n / 128 > 127 by omega)]
      simp only [if_pos c2] at h
      refine Ev.succ ?_
      simp only [impl_PutOid.l2]
      simp only [if_pos (show (1 : Int) > 0 by omega), a1, if_pos z7, shr7, if_pos (show out.length < 140737488355328 by omega), d1, and127 (n / 128) (by omega) (by omega)]
      rw [w64 (by omega) (by omega), show (n / 128 % 128 + 128) % 256 = n / 128 + 128 by omega]
      refine Ev.succ ?_
      simp only [impl_PutOid.l2]
      simp only [if_neg (show ¬ (0 : Int) > 0 by omega), List.length_append, List.length_cons, List.length_nil, if_pos (show out.length + (0 + 1) < 140737488355328 by omega), and127 n h0 (by omega), show n % 128 % 256 = n % 128 by omega, List.append_assoc, List.cons_append, List.nil_append]
      exact h
    · simp only [if_pos (show n / 128 > 127 by omega)]
      simp only [if_neg c2] at h
      refine Ev.succ ?_
      simp only [impl_PutOid.l1]
      simp only [a2, shr14, if_pos z14, if_neg (show ¬ n / 16384 > 127 by omega)]
      refine Ev.succ ?_
      simp only [impl_PutOid.l2]
      simp only [if_pos (show (2 : Int) > 0 by omega), a2, if_pos z14, shr14, if_pos (show out.length < 140737488355328 by omega), d2, and127 (n / 16384) (by omega) (by omega)]
      rw [w64 (by omega) (by omega), show (n / 16384 % 128 + 128) % 256 = n / 16384 + 128 by omega]
      refine Ev.succ ?_
      simp only [impl_PutOid.l2]
      simp only [if_pos (show (1 : Int) > 0 by omega), a1, if_pos z7, shr7, List.length_append, List.length_cons, List.length_nil, if_pos (show out.length + (0 + 1) < 140737488355328 by omega), d1, and127 (n / 128) (by omega) (by omega)]
      rw [w64 (by omega) (by omega), show (n / 128 % 128 + 128) % 256 = n / 128 % 128 + 128 by omega]
      refine Ev.succ ?_
      simp only [impl_PutOid.l2]
      simp only [if_neg (show ¬ (0 : Int) > 0 by omega), List.length_append, List.length_cons, List.length_nil, if_pos (show out.length + (0 + 1) + (0 + 1) < 140737488355328 by omega), and127 n h0 (by omega), show n % 128 % 256 = n % 128 by omega, List.append_assoc, List.cons_append, List.nil_append]
      exact h
theorem iPutOid_loop (rest : List Int) : ∀ (pre out : List Int) (m : Int), m = (pre.length : Int) + rest.length → pre.length + rest.length ≤ 1048576 → out.length ≤ 3 * pre.length → oidNums rest = true →
    Ev (fun k => impl_PutOid.l0 k out (pre ++ rest) m (pre.length : Int)) (out ++ rest.flatMap group) := by
  induction rest with
  | nil =>
    intro pre out m hm _ _ _
    simp only [List.length_nil] at hm
    refine Ev.succ ?_
    simp only [impl_PutOid.l0]
    simp only [if_neg (show ¬ (pre.length : Int) < m by omega), List.flatMap_nil, List.append_nil]
    exact Ev.now _
  | cons r rest ih =>
    intro pre out m hm hn ho hw
    simp only [List.length_cons] at hm hn
    obtain ⟨hr, hw⟩ := oidNums_cons r rest hw
    have hg := group_len r
    have h := ih (pre ++ [r]) (out ++ group r) m (by simp only [List.length_append, List.length_cons, List.length_nil]; omega) (by simp only [List.length_append, List.length_cons, List.length_nil]; omega) (by simp only [List.length_append, List.length_cons, List.length_nil]; omega) hw
    simp only [List.append_assoc, List.cons_append, List.nil_append] at h
    rw [show ((pre ++ [r]).length : Int) = (pre.length : Int) + 1 by simp] at h
    refine Ev.succ ?_
    simp only [impl_PutOid.l0]
    simp only [if_pos (show (pre.length : Int) < m by omega), if_pos (show (0 : Int) ≤ (pre.length : Int) by omega), if_pos (show (pre.length : Int) < ((pre ++ r :: rest).length : Int) by simp only [List.length_append, List.length_cons]; omega), rd_mid]
    refine iGroup_ev r hr.1 hr.2 out _ m _ _ (by omega) ?_
    rw [w64 (by omega) (by omega), List.flatMap_cons]
    exact h
theorem iPutOid_ev (o : List Int) (h : o.length ≤ 1048576) : Ev (fun k => impl_PutOid.f k o) (putOid o) := by
  unfold impl_PutOid.f putOid
  refine Ev.bind (iOidOk_ev o (by omega)) ?_
  by_cases c : oidOk o = true
  · simp only [if_pos c]
    have c' := c
    simp only [oidOk, Bool.and_eq_true] at c'
    have e := iPutOid_loop o [] [] (o.length : Int) (by simp) (by simp only [List.length_nil]; omega) (by simp) c'.1
    simpa using e
  · simp only [if_neg c]
    exact Ev.now _

theorem strNums_toList (a : List Int) : (strOfNums a).toList = a.map fun n => UInt8.ofNat n.toNat := by
  unfold strOfNums
  exact ByteArray.toList_mk _
theorem byte_inj (a b : Int) (ha : 0 ≤ a ∧ a ≤ 255) (hb : 0 ≤ b ∧ b ≤ 255) (h : UInt8.ofNat a.toNat = UInt8.ofNat b.toNat) : a = b := by
  have e := congrArg UInt8.toNat h
  simp only [UInt8.toNat_ofNat'] at e
  omega
theorem map_byte_inj : ∀ (a b : List Int), (∀ y ∈ a, 0 ≤ y ∧ y ≤ 255) → (∀ y ∈ b, 0 ≤ y ∧ y ≤ 255) → (a.map fun n => UInt8.ofNat n.toNat) = (b.map fun n => UInt8.ofNat n.toNat) → a = b
  | [], [], _, _, _ => rfl
  | [], _ :: _, _, _, h => by simp at h
  | _ :: _, [], _, _, h => by simp at h
  | x :: a, y :: b, ha, hb, h => by
    simp only [List.map_cons, List.cons.injEq] at h
    rw [byte_inj x y (ha x List.mem_cons_self) (hb y List.mem_cons_self) h.1, map_byte_inj a b (fun z hz => ha z (List.mem_cons_of_mem _ hz)) (fun z hz => hb z (List.mem_cons_of_mem _ hz)) h.2]
theorem strNums_inj (a b : List Int) (ha : ∀ y ∈ a, 0 ≤ y ∧ y ≤ 255) (hb : ∀ y ∈ b, 0 ≤ y ∧ y ≤ 255) (h : (strOfNums a).toList = (strOfNums b).toList) : a = b := by
  rw [strNums_toList, strNums_toList] at h
  exact map_byte_inj a b ha hb h

theorem wraps_u8 (n : Int) (h0 : 0 ≤ n) (h1 : n < 2 ^ 8) : IntKind.u8.wrap n = n := by
  simp only [IntKind.wrap, IntKind.bits, IntKind.signed, Bool.false_and]
  simp
  omega
theorem and127b (x : Int) (h0 : 0 ≤ x) (h1 : x ≤ 255) : Go.bits .and .u8 x 127 = x % 128 :=
  Go.bits_mask .u8 8 (by decide) wraps_u8 7 (by decide) x h0 (by omega)
theorem join7 (n b : Int) (h0 : 0 ≤ n) (h1 : n < 4398046511104) (hb : 0 ≤ b) (hb1 : b < 128) : Go.bits .or .i64 (n * 128) b = n * 128 + b :=
  Go.bits_join .i64 63 (by decide) wraps_i64 7 (n * 128) b (by omega) (by omega) (by omega) hb (by omega) (by omega)
def bytes (l : List Int) : Prop := ∀ y ∈ l, 0 ≤ y ∧ y ≤ 255
theorem bytes_cons {b : Int} {l : List Int} (h : bytes (b :: l)) : (0 ≤ b ∧ b ≤ 255) ∧ bytes l :=
  ⟨h b List.mem_cons_self, fun y hy => h y (List.mem_cons_of_mem _ hy)⟩
def group4 (n : Int) : List Int :=
  if n ≤ 127 then [n] else if n ≤ 16383 then [n / 128 + 128, n % 128] else if n ≤ 2097151 then [n / 16384 + 128, n / 128 % 128 + 128, n % 128] else [n / 2097152 + 128, n / 16384 % 128 + 128, n / 128 % 128 + 128, n % 128]
theorem group4_small (n : Int) (h : n ≤ 100000) : group4 n = group n := by
  unfold group4 group
  by_cases c1 : n ≤ 127
  · simp only [if_pos c1]
  · simp only [if_neg c1]
    by_cases c2 : n ≤ 16383
    · simp only [if_pos c2]
    · simp only [if_neg c2, if_pos (show n ≤ 2097151 by omega)]
theorem sGroup4_ev (n : Int) (h0 : 0 ≤ n) (h1 : n < 268435456) : Ev (fun k => spec_l2Group.f k n) (group4 n) := by
  unfold spec_l2Group.f
  simp only [and127 n h0 (by omega), show n % 128 % 256 = n % 128 by omega]
  refine Ev.succ ?_
  simp only [spec_l2Group.l0]
  unfold group4
  by_cases c1 : n ≤ 127
  · simp only [if_neg (show ¬ n > 127 by omega), if_pos c1, show n % 128 = n by omega]
    exact Ev.now _
  · simp only [if_pos (show n > 127 by omega), if_neg c1, Option.bind_some, List.length_cons, List.length_nil, and127 (n / 128) (by omega) (by omega), or128 (n / 128 % 128) (by omega) (by omega), show (n / 128 % 128 + 128) % 256 = n / 128 % 128 + 128 by omega]
    simp only [if_pos (show 0 + 1 + (0 + 1) < 140737488355328 by omega)]
    refine Ev.succ ?_
    simp only [spec_l2Group.l0]
    by_cases c2 : n ≤ 16383
    · simp only [if_neg (show ¬ n / 128 > 127 by omega), if_pos c2, show n / 128 % 128 = n / 128 by omega]
      exact Ev.now _
    · simp only [if_pos (show n / 128 > 127 by omega), if_neg c2, Option.bind_some, List.length_cons, List.length_nil, List.length_append, show n / 128 / 128 = n / 16384 by omega, and127 (n / 16384) (by omega) (by omega), or128 (n / 16384 % 128) (by omega) (by omega), show (n / 16384 % 128 + 128) % 256 = n / 16384 % 128 + 128 by omega]
      simp only [if_pos (show 0 + 1 + (0 + 1 + (0 + 1)) < 140737488355328 by omega)]
      refine Ev.succ ?_
      simp only [spec_l2Group.l0]
      by_cases c3 : n ≤ 2097151
      · simp only [if_neg (show ¬ n / 16384 > 127 by omega), if_pos c3, show n / 16384 % 128 = n / 16384 by omega]
        exact Ev.now _
      · simp only [if_pos (show n / 16384 > 127 by omega), if_neg c3, Option.bind_some, List.length_cons, List.length_nil, List.length_append, show n / 16384 / 128 = n / 2097152 by omega, and127 (n / 2097152) (by omega) (by omega), or128 (n / 2097152 % 128) (by omega) (by omega), show (n / 2097152 % 128 + 128) % 256 = n / 2097152 + 128 by omega]
        simp only [if_pos (show 0 + 1 + (0 + 1 + (0 + 1 + (0 + 1))) < 140737488355328 by omega)]
        refine Ev.succ ?_
        simp only [spec_l2Group.l0]
        simp only [if_neg (show ¬ n / 2097152 > 127 by omega)]
        exact Ev.now _
theorem g4_len (n : Int) : 1 ≤ (group4 n).length := by
  unfold group4
  split
  · simp
  · split
    · simp
    · split <;> simp
theorem so_go (pre rest x4 : List Int) (b n c : Int) (r : List Int × Bool) (hp : pre.length + rest.length ≤ 1048576) (hb : 0 ≤ b ∧ b ≤ 255) (hn : 0 ≤ n ∧ n < 2097152) (hc : 0 ≤ c ∧ c < 4)
    (h : Ev (fun k => spec_GetOid.l1 k ((pre ++ [b]) ++ rest) x4 ((pre ++ [b]).length : Int) (n * 128 + b % 128) (c + 1) (decide (b > 127))) r) :
    Ev (fun k => spec_GetOid.l1 k (pre ++ b :: rest) x4 (pre.length : Int) n c true) r := by
  refine Ev.succ ?_
  simp only [spec_GetOid.l1]
  simp only [if_true, if_pos (show (pre.length : Int) < ((pre ++ b :: rest).length : Int) by simp only [List.length_append, List.length_cons]; omega), if_pos hc.2, if_pos (show (0 : Int) ≤ (pre.length : Int) by omega), rd_mid, and127b b hb.1 hb.2, w64 (x := b % 128) (by omega) (by omega), w64 (x := n * 128) (by omega) (by omega), join7 n (b % 128) hn.1 (by omega) (by omega) (by omega), w64 (x := (pre.length : Int) + 1) (by omega) (by omega), w64 (x := c + 1) (by omega) (by omega)]
  simp only [List.append_assoc, List.cons_append, List.nil_append] at h
  rw [show ((pre ++ [b]).length : Int) = (pre.length : Int) + 1 by simp] at h
  exact h
theorem so_end (pre x4 : List Int) (n c : Int) : Ev (fun k => spec_GetOid.l1 k (pre ++ []) x4 (pre.length : Int) n c true) ([], false) := by
  refine Ev.succ ?_
  simp only [spec_GetOid.l1]
  simp only [if_true, List.append_nil, if_neg (show ¬ (pre.length : Int) < (pre.length : Int) by omega)]
  exact Ev.now _
theorem so_full (l x4 : List Int) (p n : Int) : Ev (fun k => spec_GetOid.l1 k l x4 p n 4 true) ([], false) := by
  refine Ev.succ ?_
  simp only [spec_GetOid.l1]
  simp only [if_true, if_neg (show ¬ (4 : Int) < 4 by omega), ite_self]
  exact Ev.now _
theorem so_out (l x4 : List Int) (p n c : Int) (r : List Int × Bool) (hn : 0 ≤ n ∧ n < 268435456) (h4 : x4.length ≤ 1048576) (hc : ((group4 n).length : Int) = c) (h : Ev (fun k => spec_GetOid.l0 k l (x4 ++ [n]) p) r) :
    Ev (fun k => spec_GetOid.l1 k l x4 p n c false) r := by
  refine Ev.succ ?_
  simp only [spec_GetOid.l1]
  simp only [Bool.false_eq_true, if_false]
  refine Ev.bind (sGroup4_ev n hn.1 hn.2) ?_
  simp only [if_pos hc, if_pos (show x4.length < 17592186044416 by omega)]
  exact h
theorem so_bad (l x4 : List Int) (p n c : Int) (hn : 0 ≤ n ∧ n < 268435456) (hc : ¬ ((group4 n).length : Int) = c) :
    Ev (fun k => spec_GetOid.l1 k l x4 p n c false) ([], false) := by
  refine Ev.succ ?_
  simp only [spec_GetOid.l1]
  simp only [Bool.false_eq_true, if_false]
  refine Ev.bind (sGroup4_ev n hn.1 hn.2) ?_
  simp only [if_neg hc]
  exact Ev.now _
theorem g4_1 (n : Int) (h : n ≤ 127) : group4 n = [n] := by unfold group4; rw [if_pos h]
theorem g4_2 (n : Int) (h0 : 127 < n) (h : n ≤ 16383) : group4 n = [n / 128 + 128, n % 128] := by unfold group4; rw [if_neg (by omega), if_pos h]
theorem g4_3 (n : Int) (h0 : 16383 < n) (h : n ≤ 2097151) : group4 n = [n / 16384 + 128, n / 128 % 128 + 128, n % 128] := by unfold group4; rw [if_neg (by omega), if_neg (by omega), if_pos h]
theorem g4_4 (n : Int) (h0 : 2097151 < n) : group4 n = [n / 2097152 + 128, n / 16384 % 128 + 128, n / 128 % 128 + 128, n % 128] := by unfold group4; rw [if_neg (by omega), if_neg (by omega), if_neg (by omega)]
/- one arc out of what is left: either the bytes are an arc's shortest form and the loop goes on behind them, or the answer is no -/
theorem so_any (rest pre x4 : List Int) (hw : bytes rest) (hl : pre.length + rest.length ≤ 1048576) (h4 : x4.length ≤ 1048576) :
    (∃ n rest', 0 ≤ n ∧ n < 268435456 ∧ rest = group4 n ++ rest' ∧ ∀ r, Ev (fun k => spec_GetOid.l0 k ((pre ++ group4 n) ++ rest') (x4 ++ [n]) ((pre ++ group4 n).length : Int)) r → Ev (fun k => spec_GetOid.l1 k (pre ++ rest) x4 (pre.length : Int) 0 0 true) r) ∨
    Ev (fun k => spec_GetOid.l1 k (pre ++ rest) x4 (pre.length : Int) 0 0 true) ([], false) := by
  rcases rest with _ | ⟨b1, rest⟩
  · exact Or.inr (so_end pre x4 0 0)
  obtain ⟨hb1, hw⟩ := bytes_cons hw
  simp only [List.length_cons] at hl
  by_cases c1 : b1 > 127
  rotate_left
  · left
    refine ⟨b1, rest, hb1.1, by omega, by rw [g4_1 b1 (by omega)]; rfl, fun r h => ?_⟩
    refine so_go pre rest x4 b1 0 0 r (by omega) hb1 (by omega) (by omega) ?_
    rw [decide_eq_false c1, show (0 : Int) * 128 + b1 % 128 = b1 by omega, show (0 : Int) + 1 = 1 by omega]
    rw [g4_1 b1 (by omega)] at h
    exact so_out _ x4 _ b1 1 r (by omega) h4 (by rw [g4_1 b1 (by omega)]; rfl) h
  rcases rest with _ | ⟨b2, rest⟩
  · right
    refine so_go pre [] x4 b1 0 0 _ (by simp only [List.length_nil]; omega) hb1 (by omega) (by omega) ?_
    rw [decide_eq_true c1]
    exact so_end _ x4 _ _
  obtain ⟨hb2, hw⟩ := bytes_cons hw
  simp only [List.length_cons] at hl
  have p1 : (pre ++ [b1]).length = pre.length + 1 := by simp
  by_cases c2 : b2 > 127
  rotate_left
  · by_cases d : (b1 - 128) * 128 + b2 > 127
    · left
      have g := g4_2 ((b1 - 128) * 128 + b2) (by omega) (by omega)
      rw [show ((b1 - 128) * 128 + b2) / 128 + 128 = b1 by omega, show ((b1 - 128) * 128 + b2) % 128 = b2 by omega] at g
      refine ⟨(b1 - 128) * 128 + b2, rest, by omega, by omega, by rw [g]; rfl, fun r h => ?_⟩
      refine so_go pre (b2 :: rest) x4 b1 0 0 r (by simp only [List.length_cons]; omega) hb1 (by omega) (by omega) ?_
      rw [decide_eq_true c1]
      refine so_go (pre ++ [b1]) rest x4 b2 _ _ r (by omega) hb2 (by omega) (by omega) ?_
      rw [decide_eq_false c2, show ((0 : Int) * 128 + b1 % 128) * 128 + b2 % 128 = (b1 - 128) * 128 + b2 by omega, show (0 : Int) + 1 + 1 = 2 by omega]
      rw [g, show pre ++ [b1, b2] = pre ++ [b1] ++ [b2] by simp] at h
      exact so_out _ x4 _ _ 2 r (by omega) h4 (by rw [g]; rfl) h
    · right
      refine so_go pre (b2 :: rest) x4 b1 0 0 _ (by simp only [List.length_cons]; omega) hb1 (by omega) (by omega) ?_
      rw [decide_eq_true c1]
      refine so_go (pre ++ [b1]) rest x4 b2 _ _ _ (by omega) hb2 (by omega) (by omega) ?_
      rw [decide_eq_false c2]
      refine so_bad _ x4 _ _ _ (by omega) ?_
      rw [g4_1 _ (by omega)]
      simp
  rcases rest with _ | ⟨b3, rest⟩
  · right
    refine so_go pre [b2] x4 b1 0 0 _ (by simp only [List.length_cons, List.length_nil]; omega) hb1 (by omega) (by omega) ?_
    rw [decide_eq_true c1]
    refine so_go (pre ++ [b1]) [] x4 b2 _ _ _ (by simp only [List.length_nil]; omega) hb2 (by omega) (by omega) ?_
    rw [decide_eq_true c2]
    exact so_end _ x4 _ _
  obtain ⟨hb3, hw⟩ := bytes_cons hw
  simp only [List.length_cons] at hl
  have p2 : (pre ++ [b1] ++ [b2]).length = pre.length + 2 := by simp
  by_cases c3 : b3 > 127
  rotate_left
  · by_cases d : ((b1 - 128) * 128 + (b2 - 128)) * 128 + b3 > 16383
    · left
      have g := g4_3 (((b1 - 128) * 128 + (b2 - 128)) * 128 + b3) (by omega) (by omega)
      rw [show (((b1 - 128) * 128 + (b2 - 128)) * 128 + b3) / 16384 + 128 = b1 by omega, show (((b1 - 128) * 128 + (b2 - 128)) * 128 + b3) / 128 % 128 + 128 = b2 by omega, show (((b1 - 128) * 128 + (b2 - 128)) * 128 + b3) % 128 = b3 by omega] at g
      refine ⟨((b1 - 128) * 128 + (b2 - 128)) * 128 + b3, rest, by omega, by omega, by rw [g]; rfl, fun r h => ?_⟩
      refine so_go pre (b2 :: b3 :: rest) x4 b1 0 0 r (by simp only [List.length_cons]; omega) hb1 (by omega) (by omega) ?_
      rw [decide_eq_true c1]
      refine so_go (pre ++ [b1]) (b3 :: rest) x4 b2 _ _ r (by simp only [List.length_cons]; omega) hb2 (by omega) (by omega) ?_
      rw [decide_eq_true c2]
      refine so_go (pre ++ [b1] ++ [b2]) rest x4 b3 _ _ r (by omega) hb3 (by omega) (by omega) ?_
      rw [decide_eq_false c3, show (((0 : Int) * 128 + b1 % 128) * 128 + b2 % 128) * 128 + b3 % 128 = ((b1 - 128) * 128 + (b2 - 128)) * 128 + b3 by omega, show (0 : Int) + 1 + 1 + 1 = 3 by omega]
      rw [g, show pre ++ [b1, b2, b3] = pre ++ [b1] ++ [b2] ++ [b3] by simp] at h
      exact so_out _ x4 _ _ 3 r (by omega) h4 (by rw [g]; rfl) h
    · right
      refine so_go pre (b2 :: b3 :: rest) x4 b1 0 0 _ (by simp only [List.length_cons]; omega) hb1 (by omega) (by omega) ?_
      rw [decide_eq_true c1]
      refine so_go (pre ++ [b1]) (b3 :: rest) x4 b2 _ _ _ (by simp only [List.length_cons]; omega) hb2 (by omega) (by omega) ?_
      rw [decide_eq_true c2]
      refine so_go (pre ++ [b1] ++ [b2]) rest x4 b3 _ _ _ (by omega) hb3 (by omega) (by omega) ?_
      rw [decide_eq_false c3]
      refine so_bad _ x4 _ _ _ (by omega) ?_
      by_cases e : (((0 : Int) * 128 + b1 % 128) * 128 + b2 % 128) * 128 + b3 % 128 ≤ 127
      · rw [g4_1 _ e]; simp
      · rw [g4_2 _ (by omega) (by omega)]; simp
  rcases rest with _ | ⟨b4, rest⟩
  · right
    refine so_go pre [b2, b3] x4 b1 0 0 _ (by simp only [List.length_cons, List.length_nil]; omega) hb1 (by omega) (by omega) ?_
    rw [decide_eq_true c1]
    refine so_go (pre ++ [b1]) [b3] x4 b2 _ _ _ (by simp only [List.length_cons, List.length_nil]; omega) hb2 (by omega) (by omega) ?_
    rw [decide_eq_true c2]
    refine so_go (pre ++ [b1] ++ [b2]) [] x4 b3 _ _ _ (by simp only [List.length_nil]; omega) hb3 (by omega) (by omega) ?_
    rw [decide_eq_true c3]
    exact so_end _ x4 _ _
  obtain ⟨hb4, hw⟩ := bytes_cons hw
  simp only [List.length_cons] at hl
  have p3 : (pre ++ [b1] ++ [b2] ++ [b3]).length = pre.length + 3 := by simp
  by_cases c4 : b4 > 127
  rotate_left
  · by_cases d : (((b1 - 128) * 128 + (b2 - 128)) * 128 + (b3 - 128)) * 128 + b4 > 2097151
    · left
      have g := g4_4 ((((b1 - 128) * 128 + (b2 - 128)) * 128 + (b3 - 128)) * 128 + b4) (by omega)
      rw [show ((((b1 - 128) * 128 + (b2 - 128)) * 128 + (b3 - 128)) * 128 + b4) / 2097152 + 128 = b1 by omega, show ((((b1 - 128) * 128 + (b2 - 128)) * 128 + (b3 - 128)) * 128 + b4) / 16384 % 128 + 128 = b2 by omega, show ((((b1 - 128) * 128 + (b2 - 128)) * 128 + (b3 - 128)) * 128 + b4) / 128 % 128 + 128 = b3 by omega, show ((((b1 - 128) * 128 + (b2 - 128)) * 128 + (b3 - 128)) * 128 + b4) % 128 = b4 by omega] at g
      refine ⟨(((b1 - 128) * 128 + (b2 - 128)) * 128 + (b3 - 128)) * 128 + b4, rest, by omega, by omega, by rw [g]; rfl, fun r h => ?_⟩
      refine so_go pre (b2 :: b3 :: b4 :: rest) x4 b1 0 0 r (by simp only [List.length_cons]; omega) hb1 (by omega) (by omega) ?_
      rw [decide_eq_true c1]
      refine so_go (pre ++ [b1]) (b3 :: b4 :: rest) x4 b2 _ _ r (by simp only [List.length_cons]; omega) hb2 (by omega) (by omega) ?_
      rw [decide_eq_true c2]
      refine so_go (pre ++ [b1] ++ [b2]) (b4 :: rest) x4 b3 _ _ r (by simp only [List.length_cons]; omega) hb3 (by omega) (by omega) ?_
      rw [decide_eq_true c3]
      refine so_go (pre ++ [b1] ++ [b2] ++ [b3]) rest x4 b4 _ _ r (by omega) hb4 (by omega) (by omega) ?_
      rw [decide_eq_false c4, show ((((0 : Int) * 128 + b1 % 128) * 128 + b2 % 128) * 128 + b3 % 128) * 128 + b4 % 128 = (((b1 - 128) * 128 + (b2 - 128)) * 128 + (b3 - 128)) * 128 + b4 by omega, show (0 : Int) + 1 + 1 + 1 + 1 = 4 by omega]
      rw [g, show pre ++ [b1, b2, b3, b4] = pre ++ [b1] ++ [b2] ++ [b3] ++ [b4] by simp] at h
      exact so_out _ x4 _ _ 4 r (by omega) h4 (by rw [g]; rfl) h
    · right
      refine so_go pre (b2 :: b3 :: b4 :: rest) x4 b1 0 0 _ (by simp only [List.length_cons]; omega) hb1 (by omega) (by omega) ?_
      rw [decide_eq_true c1]
      refine so_go (pre ++ [b1]) (b3 :: b4 :: rest) x4 b2 _ _ _ (by simp only [List.length_cons]; omega) hb2 (by omega) (by omega) ?_
      rw [decide_eq_true c2]
      refine so_go (pre ++ [b1] ++ [b2]) (b4 :: rest) x4 b3 _ _ _ (by simp only [List.length_cons]; omega) hb3 (by omega) (by omega) ?_
      rw [decide_eq_true c3]
      refine so_go (pre ++ [b1] ++ [b2] ++ [b3]) rest x4 b4 _ _ _ (by omega) hb4 (by omega) (by omega) ?_
      rw [decide_eq_false c4]
      refine so_bad _ x4 _ _ _ (by omega) ?_
      by_cases e : ((((0 : Int) * 128 + b1 % 128) * 128 + b2 % 128) * 128 + b3 % 128) * 128 + b4 % 128 ≤ 127
      · rw [g4_1 _ e]; simp
      · by_cases e2 : ((((0 : Int) * 128 + b1 % 128) * 128 + b2 % 128) * 128 + b3 % 128) * 128 + b4 % 128 ≤ 16383
        · rw [g4_2 _ (by omega) e2]; simp
        · rw [g4_3 _ (by omega) (by omega)]; simp
  · right
    refine so_go pre (b2 :: b3 :: b4 :: rest) x4 b1 0 0 _ (by simp only [List.length_cons]; omega) hb1 (by omega) (by omega) ?_
    rw [decide_eq_true c1]
    refine so_go (pre ++ [b1]) (b3 :: b4 :: rest) x4 b2 _ _ _ (by simp only [List.length_cons]; omega) hb2 (by omega) (by omega) ?_
    rw [decide_eq_true c2]
    refine so_go (pre ++ [b1] ++ [b2]) (b4 :: rest) x4 b3 _ _ _ (by simp only [List.length_cons]; omega) hb3 (by omega) (by omega) ?_
    rw [decide_eq_true c3]
    refine so_go (pre ++ [b1] ++ [b2] ++ [b3]) rest x4 b4 _ _ _ (by omega) hb4 (by omega) (by omega) ?_
    rw [decide_eq_true c4, show (0 : Int) + 1 + 1 + 1 + 1 = 4 by omega]
    exact so_full _ x4 _ _

theorem so_fwd (n : Int) (hn : 0 ≤ n ∧ n ≤ 100000) (pre rest x4 : List Int) (r : List Int × Bool) (hl : pre.length + 3 + rest.length ≤ 1048576) (h4 : x4.length ≤ 1048576)
    (h : Ev (fun k => spec_GetOid.l0 k ((pre ++ group n) ++ rest) (x4 ++ [n]) ((pre ++ group n).length : Int)) r) :
    Ev (fun k => spec_GetOid.l1 k (pre ++ (group n ++ rest)) x4 (pre.length : Int) 0 0 true) r := by
  have p1 (b : Int) : (pre ++ [b]).length = pre.length + 1 := by simp
  have p2 (b c : Int) : (pre ++ [b] ++ [c]).length = pre.length + 2 := by simp
  rw [← group4_small n hn.2] at h ⊢
  by_cases c1 : n ≤ 127
  · rw [g4_1 n c1] at h ⊢
    refine so_go pre rest x4 n 0 0 r (by omega) (by omega) (by omega) (by omega) ?_
    rw [decide_eq_false (show ¬ n > 127 by omega), show (0 : Int) * 128 + n % 128 = n by omega, show (0 : Int) + 1 = 1 by omega]
    exact so_out _ x4 _ n 1 r (by omega) h4 (by rw [g4_1 n c1]; rfl) h
  · by_cases c2 : n ≤ 16383
    · have g := g4_2 n (by omega) c2
      rw [g] at h ⊢
      refine so_go pre (n % 128 :: rest) x4 (n / 128 + 128) 0 0 r (by simp only [List.length_cons]; omega) (by omega) (by omega) (by omega) ?_
      rw [decide_eq_true (show n / 128 + 128 > 127 by omega)]
      refine so_go (pre ++ [n / 128 + 128]) rest x4 (n % 128) _ _ r (by rw [p1]; omega) (by omega) (by omega) (by omega) ?_
      rw [decide_eq_false (show ¬ n % 128 > 127 by omega), show ((0 : Int) * 128 + (n / 128 + 128) % 128) * 128 + n % 128 % 128 = n by omega, show (0 : Int) + 1 + 1 = 2 by omega]
      rw [show pre ++ [n / 128 + 128, n % 128] = pre ++ [n / 128 + 128] ++ [n % 128] by simp] at h
      exact so_out _ x4 _ n 2 r (by omega) h4 (by rw [g]; rfl) h
    · have g := g4_3 n (by omega) (by omega)
      rw [g] at h ⊢
      refine so_go pre ((n / 128 % 128 + 128) :: n % 128 :: rest) x4 (n / 16384 + 128) 0 0 r (by simp only [List.length_cons]; omega) (by omega) (by omega) (by omega) ?_
      rw [decide_eq_true (show n / 16384 + 128 > 127 by omega)]
      refine so_go (pre ++ [n / 16384 + 128]) (n % 128 :: rest) x4 (n / 128 % 128 + 128) _ _ r (by rw [p1]; simp only [List.length_cons]; omega) (by omega) (by omega) (by omega) ?_
      rw [decide_eq_true (show n / 128 % 128 + 128 > 127 by omega)]
      refine so_go (pre ++ [n / 16384 + 128] ++ [n / 128 % 128 + 128]) rest x4 (n % 128) _ _ r (by rw [p2]; omega) (by omega) (by omega) (by omega) ?_
      rw [decide_eq_false (show ¬ n % 128 > 127 by omega), show (((0 : Int) * 128 + (n / 16384 + 128) % 128) * 128 + (n / 128 % 128 + 128) % 128) * 128 + n % 128 % 128 = n by omega, show (0 : Int) + 1 + 1 + 1 = 3 by omega]
      rw [show pre ++ [n / 16384 + 128, n / 128 % 128 + 128, n % 128] = pre ++ [n / 16384 + 128] ++ [n / 128 % 128 + 128] ++ [n % 128] by simp] at h
      exact so_out _ x4 _ n 3 r (by omega) h4 (by rw [g]; rfl) h
theorem so_stop (l x4 : List Int) (hl : l.length ≤ 1048576) (h4 : x4.length ≤ 1048576) : Ev (fun k => spec_GetOid.l0 k l x4 (l.length : Int)) (if oidOk x4 = true then (x4, true) else ([], false)) := by
  refine Ev.succ ?_
  simp only [spec_GetOid.l0]
  simp only [if_neg (show ¬ (l.length : Int) < (l.length : Int) by omega)]
  refine Ev.succ ?_
  simp only [spec_GetOid.j1]
  simp only [Bool.false_eq_true, if_false, if_true]
  refine Ev.bind (sOidOk_ev x4 (by omega)) ?_
  split <;> exact Ev.now _
theorem so_goOn (pre rest x4 : List Int) (r : List Int × Bool) (hr : rest ≠ []) (h4 : x4.length ≤ 10) (h : Ev (fun k => spec_GetOid.l1 k (pre ++ rest) x4 (pre.length : Int) 0 0 true) r) :
    Ev (fun k => spec_GetOid.l0 k (pre ++ rest) x4 (pre.length : Int)) r := by
  have hp : 0 < rest.length := by cases rest with | nil => exact absurd rfl hr | cons _ _ => simp
  refine Ev.succ ?_
  simp only [spec_GetOid.l0]
  simp only [if_pos (show (pre.length : Int) < ((pre ++ rest).length : Int) by simp only [List.length_append]; omega)]
  rw [decide_eq_true (show (x4.length : Int) ≤ 10 by omega)]
  refine Ev.succ ?_
  simp only [spec_GetOid.j1]
  simp only [if_true]
  exact h
theorem so_tooMany (pre rest x4 : List Int) (hr : rest ≠ []) (h4 : ¬ x4.length ≤ 10) : Ev (fun k => spec_GetOid.l0 k (pre ++ rest) x4 (pre.length : Int)) ([], false) := by
  have hp : 0 < rest.length := by cases rest with | nil => exact absurd rfl hr | cons _ _ => simp
  refine Ev.succ ?_
  simp only [spec_GetOid.l0]
  simp only [if_pos (show (pre.length : Int) < ((pre ++ rest).length : Int) by simp only [List.length_append]; omega)]
  rw [decide_eq_false (show ¬ (x4.length : Int) ≤ 10 by omega)]
  refine Ev.succ ?_
  simp only [spec_GetOid.j1]
  simp only [Bool.false_eq_true, if_false, if_neg (show ¬ (pre.length : Int) = ((pre ++ rest).length : Int) by simp only [List.length_append]; omega)]
  exact Ev.now _
theorem group_ne (n : Int) (l : List Int) : group n ++ l ≠ [] := by
  have := group_len n
  intro h
  have := congrArg List.length h
  simp only [List.length_append, List.length_nil] at this
  omega
theorem sGetOid_yes (o : List Int) : ∀ (pre x4 : List Int), oidOk (x4 ++ o) = true → pre.length + 3 * o.length ≤ 1000 →
    Ev (fun k => spec_GetOid.l0 k (pre ++ o.flatMap group) x4 (pre.length : Int)) (x4 ++ o, true) := by
  induction o with
  | nil =>
    intro pre x4 h hl
    have e := so_stop pre x4 (by omega) (by simp only [oidOk, Bool.and_eq_true, decide_eq_true_eq, List.append_nil] at h; omega)
    rw [List.append_nil] at h
    rw [if_pos h] at e
    simpa using e
  | cons n o ih =>
    intro pre x4 h hl
    simp only [List.length_cons] at hl
    have hg := group_len n
    have hf := flat_len o
    have h' := h
    simp only [oidOk, Bool.and_eq_true, decide_eq_true_eq, List.length_append, List.length_cons] at h'
    have hn : 0 ≤ n ∧ n ≤ 100000 := by
      have := h'.1
      simp only [oidNums, List.all_append, List.all_cons, Bool.and_eq_true, decide_eq_true_eq] at this
      exact this.2.1
    simp only [List.flatMap_cons]
    refine so_goOn pre _ x4 _ (group_ne n _) (by omega) ?_
    refine so_fwd n hn pre _ x4 _ (by omega) (by omega) ?_
    have e := ih (pre ++ group n) (x4 ++ [n]) (by simpa using h) (by simp only [List.length_append]; omega)
    simpa using e
theorem flat4 (o : List Int) (h : oidNums o = true) : o.flatMap group4 = o.flatMap group := by
  induction o with
  | nil => rfl
  | cons n o ih =>
    obtain ⟨hn, ho⟩ := oidNums_cons n o h
    simp only [List.flatMap_cons, group4_small n hn.2, ih ho]
theorem sGetOid_no (m : Nat) : ∀ (rest x4 : List Int), rest.length ≤ m → bytes rest → (x4.flatMap group4).length + rest.length ≤ 1048576 → (∀ o, oidOk o = true → o.flatMap group ≠ x4.flatMap group4 ++ rest) →
    Ev (fun k => spec_GetOid.l0 k (x4.flatMap group4 ++ rest) x4 ((x4.flatMap group4).length : Int)) ([], false) := by
  induction m with
  | zero =>
    intro rest x4 hm _ hl hno
    have : rest = [] := List.eq_nil_of_length_eq_zero (by omega)
    subst this
    have h4 : x4.length ≤ (x4.flatMap group4).length := by
      clear hno hl hm
      induction x4 with
      | nil => simp
      | cons n x4 ih =>
        have := g4_len n
        simp only [List.flatMap_cons, List.length_append, List.length_cons]
        omega
    have e := so_stop (x4.flatMap group4) x4 (by omega) (by omega)
    have hx : ¬ oidOk x4 = true := by
      intro hx
      have hx' := hx
      simp only [oidOk, Bool.and_eq_true] at hx'
      exact hno x4 hx (by rw [List.append_nil, flat4 x4 hx'.1])
    rw [if_neg hx] at e
    simpa using e
  | succ m ih =>
    intro rest x4 hm hw hl hno
    by_cases hr : rest = []
    · subst hr
      exact ih [] x4 (by simp) hw hl hno
    by_cases h4 : x4.length ≤ 10
    · refine so_goOn _ rest x4 _ hr h4 ?_
      rcases so_any rest (x4.flatMap group4) x4 hw hl (by omega) with ⟨n, rest', h0, h1, e, h⟩ | h
      · refine h _ ?_
        have hg := g4_len n
        have hw' : bytes rest' := fun y hy => hw y (by rw [e]; exact List.mem_append_right _ hy)
        have hle : rest.length = (group4 n).length + rest'.length := by rw [e, List.length_append]
        have hc : (x4 ++ [n]).flatMap group4 = x4.flatMap group4 ++ group4 n := by simp
        have := ih rest' (x4 ++ [n]) (by omega) hw' (by rw [hc, List.length_append]; omega) (by
          intro o ho
          rw [hc, List.append_assoc, ← e]
          exact hno o ho)
        rw [hc] at this
        exact this
      · exact h
    · exact so_tooMany _ rest x4 hr h4
def gfin (all x4 : List Int) : List Int × Bool := if ((putOid x4).length : Int) = 0 then ([], false) else if (strOfNums (putOid x4)).toList = (strOfNums all).toList then (x4, true) else ([], false)
theorem io_fin (all x4 xs : List Int) (n m p : Int) (hp : ¬ p < m) (h4 : x4.length ≤ 1048576) : Ev (fun k => impl_GetOid.l0 k all x4 n xs m p) (gfin all x4) := by
  refine Ev.succ ?_
  simp only [impl_GetOid.l0]
  simp only [if_neg hp]
  refine Ev.bind (iPutOid_ev x4 h4) ?_
  unfold gfin
  split
  · exact Ev.now _
  · split <;> exact Ev.now _
def joinO (n b : Int) : Int := Go.bits .or .i64 (wrap64 ((mn n 1048576) * 128)) (wrap64 (Go.bits .and .u8 b 127))
theorem joinO_eq (n b : Int) (hn : 0 ≤ n ∧ n ≤ 1048576) (hb : 0 ≤ b ∧ b ≤ 255) : joinO n b = n * 128 + b % 128 := by
  unfold joinO mn
  rw [if_neg (by omega), and127b b hb.1 hb.2, w64 (by omega) (by omega), w64 (by omega) (by omega), join7 n (b % 128) hn.1 (by omega) (by omega) (by omega)]
theorem io_small (all pre rest x4 : List Int) (b n m : Int) (r : List Int × Bool) (hm : m = (pre.length : Int) + rest.length + 1) (hp : pre.length < 40) (h4 : x4.length ≤ 1048576) (hb : b < 128)
    (h : Ev (fun k => impl_GetOid.l0 k all (x4 ++ [joinO n b]) 0 ((pre ++ [b]) ++ rest) m ((pre ++ [b]).length : Int)) r) :
    Ev (fun k => impl_GetOid.l0 k all x4 n (pre ++ b :: rest) m (pre.length : Int)) r := by
  refine Ev.succ ?_
  simp only [impl_GetOid.l0]
  simp only [if_pos (show (pre.length : Int) < m by omega), if_pos (show (0 : Int) ≤ (pre.length : Int) by omega), if_pos (show (pre.length : Int) < ((pre ++ b :: rest).length : Int) by simp only [List.length_append, List.length_cons]; omega), if_neg (show ¬ (pre.length : Int) ≥ 40 by omega), rd_mid, if_pos hb, if_pos (show x4.length < 17592186044416 by omega), w64 (x := (pre.length : Int) + 1) (by omega) (by omega)]
  simp only [List.append_assoc, List.cons_append, List.nil_append] at h
  rw [show ((pre ++ [b]).length : Int) = (pre.length : Int) + 1 by simp] at h
  exact h
theorem io_big (all pre rest x4 : List Int) (b n m : Int) (r : List Int × Bool) (hm : m = (pre.length : Int) + rest.length + 1) (hp : pre.length < 40) (hb : ¬ b < 128)
    (h : Ev (fun k => impl_GetOid.l0 k all x4 (joinO n b) ((pre ++ [b]) ++ rest) m ((pre ++ [b]).length : Int)) r) :
    Ev (fun k => impl_GetOid.l0 k all x4 n (pre ++ b :: rest) m (pre.length : Int)) r := by
  refine Ev.succ ?_
  simp only [impl_GetOid.l0]
  simp only [if_pos (show (pre.length : Int) < m by omega), if_pos (show (0 : Int) ≤ (pre.length : Int) by omega), if_pos (show (pre.length : Int) < ((pre ++ b :: rest).length : Int) by simp only [List.length_append, List.length_cons]; omega), if_neg (show ¬ (pre.length : Int) ≥ 40 by omega), rd_mid, if_neg hb, w64 (x := (pre.length : Int) + 1) (by omega) (by omega)]
  simp only [List.append_assoc, List.cons_append, List.nil_append] at h
  rw [show ((pre ++ [b]).length : Int) = (pre.length : Int) + 1 by simp] at h
  exact h
theorem io_over (all pre rest x4 : List Int) (b n m : Int) (hm : m = (pre.length : Int) + rest.length + 1) (hp : ¬ pre.length < 40) :
    Ev (fun k => impl_GetOid.l0 k all x4 n (pre ++ b :: rest) m (pre.length : Int)) ([], false) := by
  refine Ev.succ ?_
  simp only [impl_GetOid.l0]
  simp only [if_pos (show (pre.length : Int) < m by omega), if_pos (show (0 : Int) ≤ (pre.length : Int) by omega), if_pos (show (pre.length : Int) < ((pre ++ b :: rest).length : Int) by simp only [List.length_append, List.length_cons]; omega), if_pos (show (pre.length : Int) ≥ 40 by omega)]
  exact Ev.now _
theorem iGetOid_any (all : List Int) (rest : List Int) : ∀ (pre x4 : List Int) (n m : Int), m = (pre.length : Int) + rest.length → x4.length ≤ pre.length → pre.length ≤ 40 →
    ∃ x, Ev (fun k => impl_GetOid.l0 k all x4 n (pre ++ rest) m (pre.length : Int)) (gfin all x) ∨ Ev (fun k => impl_GetOid.l0 k all x4 n (pre ++ rest) m (pre.length : Int)) ([], false) := by
  induction rest with
  | nil =>
    intro pre x4 n m hm h4 hp
    simp only [List.length_nil] at hm
    exact ⟨x4, Or.inl (io_fin all x4 _ n m _ (by omega) (by omega))⟩
  | cons b rest ih =>
    intro pre x4 n m hm h4 hp
    simp only [List.length_cons] at hm
    by_cases hp' : pre.length < 40
    · by_cases hb : b < 128
      · obtain ⟨x, h⟩ := ih (pre ++ [b]) (x4 ++ [joinO n b]) 0 m (by simp only [List.length_append, List.length_cons, List.length_nil]; omega) (by simp only [List.length_append, List.length_cons, List.length_nil]; omega) (by simp only [List.length_append, List.length_cons, List.length_nil]; omega)
        exact ⟨x, h.imp (io_small all pre rest x4 b n m _ (by omega) hp' (by omega) hb) (io_small all pre rest x4 b n m _ (by omega) hp' (by omega) hb)⟩
      · obtain ⟨x, h⟩ := ih (pre ++ [b]) x4 (joinO n b) m (by simp only [List.length_append, List.length_cons, List.length_nil]; omega) (by simp only [List.length_append, List.length_cons, List.length_nil]; omega) (by simp only [List.length_append, List.length_cons, List.length_nil]; omega)
        exact ⟨x, h.imp (io_big all pre rest x4 b n m _ (by omega) hp' hb) (io_big all pre rest x4 b n m _ (by omega) hp' hb)⟩
    · exact ⟨[], Or.inr (io_over all pre rest x4 b n m (by omega) hp')⟩
theorem io_fwd (all : List Int) (n : Int) (hn : 0 ≤ n ∧ n ≤ 100000) (pre rest x4 : List Int) (m : Int) (r : List Int × Bool) (hm : m = (pre.length : Int) + (group n).length + rest.length) (hp : pre.length ≤ 37) (h4 : x4.length ≤ 1048576)
    (h : Ev (fun k => impl_GetOid.l0 k all (x4 ++ [n]) 0 ((pre ++ group n) ++ rest) m ((pre ++ group n).length : Int)) r) :
    Ev (fun k => impl_GetOid.l0 k all x4 0 (pre ++ (group n ++ rest)) m (pre.length : Int)) r := by
  have p1 (b : Int) : (pre ++ [b]).length = pre.length + 1 := by simp
  have p2 (b c : Int) : (pre ++ [b] ++ [c]).length = pre.length + 2 := by simp
  rw [← group4_small n hn.2] at h hm ⊢
  by_cases c1 : n ≤ 127
  · rw [g4_1 n c1] at h hm ⊢
    simp only [List.length_cons, List.length_nil] at hm
    refine io_small all pre rest x4 n 0 m r (by omega) (by omega) h4 (by omega) ?_
    rw [joinO_eq 0 n (by omega) (by omega), show (0 : Int) * 128 + n % 128 = n by omega]
    exact h
  · by_cases c2 : n ≤ 16383
    · have g := g4_2 n (by omega) c2
      rw [g] at h hm ⊢
      simp only [List.length_cons, List.length_nil] at hm
      refine io_big all pre (n % 128 :: rest) x4 (n / 128 + 128) 0 m r (by simp only [List.length_cons]; omega) (by omega) (by omega) ?_
      refine io_small all (pre ++ [n / 128 + 128]) rest x4 (n % 128) _ m r (by rw [p1]; omega) (by rw [p1]; omega) h4 (by omega) ?_
      rw [joinO_eq 0 _ (by omega) (by omega), joinO_eq _ _ (by omega) (by omega), show ((0 : Int) * 128 + (n / 128 + 128) % 128) * 128 + n % 128 % 128 = n by omega]
      rw [show pre ++ [n / 128 + 128, n % 128] = pre ++ [n / 128 + 128] ++ [n % 128] by simp] at h
      exact h
    · have g := g4_3 n (by omega) (by omega)
      rw [g] at h hm ⊢
      simp only [List.length_cons, List.length_nil] at hm
      refine io_big all pre ((n / 128 % 128 + 128) :: n % 128 :: rest) x4 (n / 16384 + 128) 0 m r (by simp only [List.length_cons]; omega) (by omega) (by omega) ?_
      refine io_big all (pre ++ [n / 16384 + 128]) (n % 128 :: rest) x4 (n / 128 % 128 + 128) _ m r (by rw [p1]; simp only [List.length_cons]; omega) (by rw [p1]; omega) (by omega) ?_
      refine io_small all (pre ++ [n / 16384 + 128] ++ [n / 128 % 128 + 128]) rest x4 (n % 128) _ m r (by rw [p2]; omega) (by rw [p2]; omega) h4 (by omega) ?_
      rw [joinO_eq 0 _ (by omega) (by omega), joinO_eq _ (n / 128 % 128 + 128) (by omega) (by omega), joinO_eq _ _ (by omega) (by omega), show (((0 : Int) * 128 + (n / 16384 + 128) % 128) * 128 + (n / 128 % 128 + 128) % 128) * 128 + n % 128 % 128 = n by omega]
      rw [show pre ++ [n / 16384 + 128, n / 128 % 128 + 128, n % 128] = pre ++ [n / 16384 + 128] ++ [n / 128 % 128 + 128] ++ [n % 128] by simp] at h
      exact h
theorem iGetOid_loop (all : List Int) (o : List Int) : ∀ (pre x4 : List Int) (m : Int), m = (pre.length : Int) + (o.flatMap group).length → oidNums o = true → pre.length + 3 * o.length ≤ 40 → x4.length + o.length ≤ 10 →
    Ev (fun k => impl_GetOid.l0 k all x4 0 (pre ++ o.flatMap group) m (pre.length : Int)) (gfin all (x4 ++ o)) := by
  induction o with
  | nil =>
    intro pre x4 m hm _ hl h4
    simp only [List.flatMap_nil, List.length_nil] at hm
    simp only [List.length_nil] at h4
    have e := io_fin all x4 (pre ++ []) 0 m (pre.length : Int) (by omega) (by omega)
    simpa using e
  | cons n o ih =>
    intro pre x4 m hm ho hl h4
    obtain ⟨hn, ho⟩ := oidNums_cons n o ho
    have hg := group_len n
    simp only [List.length_cons] at hl h4
    simp only [List.flatMap_cons, List.length_append] at hm ⊢
    refine io_fwd all n hn pre _ x4 m _ (by omega) (by omega) (by omega) ?_
    have e := ih (pre ++ group n) (x4 ++ [n]) m (by simp only [List.length_append]; omega) ho (by simp only [List.length_append]; omega) (by simp only [List.length_append, List.length_cons, List.length_nil]; omega)
    simpa using e
theorem group_bytes (n : Int) (hn : 0 ≤ n ∧ n ≤ 100000) : ∀ y ∈ group n, 0 ≤ y ∧ y ≤ 255 := by
  unfold group
  intro y hy
  split at hy
  · simp only [List.mem_cons, List.not_mem_nil, or_false] at hy; omega
  · split at hy
    · simp only [List.mem_cons, List.not_mem_nil, or_false] at hy; omega
    · simp only [List.mem_cons, List.not_mem_nil, or_false] at hy; omega
theorem putOid_bytes (o : List Int) : ∀ y ∈ putOid o, 0 ≤ y ∧ y ≤ 255 := by
  unfold putOid
  split
  · rename_i h
    intro y hy
    simp only [List.mem_flatMap] at hy
    obtain ⟨n, hn, hy⟩ := hy
    simp only [oidOk, Bool.and_eq_true, oidNums, List.all_eq_true, decide_eq_true_eq] at h
    exact group_bytes n (h.1 n hn) y hy
  · simp
/- what both make of the bytes -/
theorem getOid_both (l : List Int) (hw : bytes l) (hl : l.length ≤ 1048576) : ∃ R, Ev (fun k => spec_GetOid.f k l) R ∧ Ev (fun k => impl_GetOid.f k l) R ∧ R.1.length ≤ 10 := by
  unfold spec_GetOid.f impl_GetOid.f
  by_cases h : ∃ o, oidOk o = true ∧ o.flatMap group = l
  · obtain ⟨o, ho, rfl⟩ := h
    have ho' := ho
    simp only [oidOk, Bool.and_eq_true, decide_eq_true_eq] at ho'
    refine ⟨(o, true), ?_, ?_, by show o.length ≤ 10; omega⟩
    · have e := sGetOid_yes o [] [] (by simpa using ho) (by simp only [List.length_nil]; omega)
      simpa using e
    · have e := iGetOid_loop (o.flatMap group) o [] [] ((o.flatMap group).length : Int) (by simp) ho'.1 (by simp only [List.length_nil]; omega) (by simp only [List.length_nil]; omega)
      have hg : gfin (o.flatMap group) o = (o, true) := by
        unfold gfin putOid
        rw [if_pos ho]
        have : 1 ≤ (o.flatMap group).length := by
          cases o with
          | nil => simp at ho'
          | cons n o =>
            have := group_len n
            simp only [List.flatMap_cons, List.length_append]
            omega
        rw [if_neg (by omega), if_pos rfl]
      simp only [List.nil_append] at e
      rw [hg] at e
      exact e
  · have hno : ∀ o, oidOk o = true → o.flatMap group ≠ l := fun o ho e => h ⟨o, ho, e⟩
    refine ⟨([], false), ?_, ?_, by simp⟩
    · have e := sGetOid_no l.length l [] (Nat.le_refl _) hw (by simpa using hl) (by simpa using hno)
      simpa using e
    · obtain ⟨x, e⟩ := iGetOid_any l l [] [] 0 (l.length : Int) (by simp) (by simp) (by simp)
      rcases e with e | e
      · have hg : gfin l x = ([], false) := by
          unfold gfin
          split
          · rfl
          · rename_i h0
            rw [if_neg]
            intro hs
            have he := strNums_inj _ _ (putOid_bytes x) hw hs
            unfold putOid at he h0
            by_cases hx : oidOk x = true
            · rw [if_pos hx] at he
              exact hno x hx he
            · rw [if_neg hx] at h0
              simp at h0
        rw [hg] at e
        simpa using e
      · simpa using e

def decB (n : Nat) : ByteArray := ⟨(Go.Lib.decDigits n).toArray⟩
def itoaB (n : Int) : ByteArray := ⟨(Go.Lib.itoa n).toArray⟩
theorem itoaB_nat (n : Nat) : itoaB (n : Int) = decB n := by
  unfold itoaB decB
  rw [Go.Lib.itoa_nonneg]
theorem decB_size (n : Nat) (h : n ≤ 1000000) : (decB n).size ≤ 21 := by
  have := Go.Lib.itoa_length_le (n : Int) (by omega) (by omega)
  rw [Go.Lib.itoa_nonneg] at this
  simpa [decB, ByteArray.size] using this
theorem itoaB_size (n : Int) (h : 0 ≤ n ∧ n ≤ 100000) : (itoaB n).size ≤ 21 := by
  obtain ⟨m, rfl⟩ : ∃ m : Nat, n = m := ⟨n.toNat, by omega⟩
  rw [itoaB_nat]
  exact decB_size m (by omega)
def oidTl (rest : List Int) : List UInt8 := Go.Lib.joinTail [46] (rest.map Go.Lib.itoa)
theorem oidTl_cons (r : Int) (rest : List Int) : oidTl (r :: rest) = 46 :: Go.Lib.itoa r ++ oidTl rest := by
  simp [oidTl, Go.Lib.joinTail]
def oidB (xs : List Int) : ByteArray := ⟨(Go.Lib.join (xs.map Go.Lib.itoa) [46]).toArray⟩
theorem oidTl_len : ∀ rest : List Int, (∀ r ∈ rest, 0 ≤ r ∧ r ≤ 100000) → (oidTl rest).length ≤ 22 * rest.length
  | [], _ => by simp [oidTl, Go.Lib.joinTail]
  | r :: rest, h => by
    have h1 := oidTl_len rest fun y hy => h y (List.mem_cons_of_mem _ hy)
    have h2 := h r List.mem_cons_self
    have h3 := Go.Lib.itoa_length_le r (by omega) (by omega)
    rw [oidTl_cons]
    simp only [List.cons_append, List.length_cons, List.length_append]
    omega
theorem joinB_len (xs : List Int) (h : ∀ r ∈ xs, 0 ≤ r ∧ r ≤ 100000) : (Go.Lib.join (xs.map Go.Lib.itoa) [46]).length ≤ 22 * xs.length := by
  cases xs with
  | nil => simp [Go.Lib.join_nil]
  | cons r rest =>
    have h1 := oidTl_len rest fun y hy => h y (List.mem_cons_of_mem _ hy)
    have h2 := h r List.mem_cons_self
    have h3 := Go.Lib.itoa_length_le r (by omega) (by omega)
    rw [List.map_cons, Go.Lib.join_cons, List.length_append]
    unfold oidTl at h1
    simp only [List.length_cons]
    omega
theorem oid_in {xs : List Int} (h : oidOk xs = true) : (∀ r ∈ xs, 0 ≤ r ∧ r ≤ 100000) ∧ 1 ≤ xs.length ∧ xs.length ≤ 10 := by
  simp only [oidOk, oidNums, Bool.and_eq_true, List.all_eq_true, decide_eq_true_eq] at h
  exact ⟨h.1, by omega, by omega⟩
def oidText (xs : List Int) : ByteArray := if oidOk xs = true then oidB xs else ⟨#[]⟩
theorem iOidText_loop (rest : List Int) : ∀ (pre : List Int) (m : Int) (k : Nat), m = (pre.length : Int) + rest.length → pre.length + rest.length ≤ 10 → (∀ r ∈ pre ++ rest, 0 ≤ r ∧ r ≤ 100000) → rest.length < k →
    impl_OidText.l0 k (pre.map itoaB) (pre ++ rest) m (pre.length : Int) = some (oidB (pre ++ rest)) := by
  induction rest with
  | nil =>
    intro pre m k hm hn hr hk
    obtain ⟨k, rfl⟩ := succ_of hk
    simp only [List.length_nil] at hm hn
    simp only [List.append_nil] at hr ⊢
    have hl := joinB_len pre hr
    simp only [impl_OidText.l0]
    rw [if_neg (by omega)]
    have e : joinB (pre.map itoaB) (⟨#[46]⟩ : ByteArray) = Go.Lib.join (pre.map Go.Lib.itoa) [46] := by
      unfold joinB itoaB
      rw [List.map_map]
      rfl
    unfold strings_Join.f
    rw [e, if_pos ⟨by omega, by rw [List.length_map]; omega⟩]
    rfl
  | cons r rest ih =>
    intro pre m k hm hn hr hk
    obtain ⟨k, rfl⟩ := succ_of hk
    simp only [List.length_cons] at hm hn hk
    have h2 := hr r (by simp)
    simp only [impl_OidText.l0]
    rw [if_pos (by omega), if_pos (by omega), if_pos (by simp only [List.length_append, List.length_cons]; omega), rd_mid]
    unfold strconv_Itoa.f
    rw [if_pos (by omega)]
    simp only [Option.bind_some]
    rw [if_pos (by rw [List.length_map]; omega), w64 (by omega) (by omega)]
    have e := ih (pre ++ [r]) m k (by simp only [List.length_append, List.length_cons, List.length_nil]; omega) (by simp only [List.length_append, List.length_cons, List.length_nil]; omega) (by simpa using hr) (by omega)
    simp only [List.append_assoc, List.cons_append, List.nil_append, List.map_append, List.map_cons, List.map_nil] at e
    rw [show (pre.length : Int) + 1 = ((pre ++ [r]).length : Int) from by simp]
    exact e
theorem iOidText_ev (xs : List Int) (h : xs.length ≤ 1099511627776) : Ev (fun k => impl_OidText.f k xs) (oidText xs) := by
  simp only [impl_OidText.f]
  refine Ev.bind (iOidOk_ev xs h) ?_
  unfold oidText
  cases ho : oidOk xs with
  | false => simp only [Bool.false_eq_true, if_false]; exact Ev.now _
  | true =>
    simp only [if_true]
    obtain ⟨hr, h1, h10⟩ := oid_in ho
    refine Ev.at_ 20 fun k hk => ?_
    have e := iOidText_loop xs [] (xs.length : Int) k (by simp) (by simpa using h10) (by simpa using hr) (by omega)
    simpa using e

theorem num_f : ∀ (k n : Nat), n < k → n ≤ 100000 → spec_l2Num.f k (n : Int) = some (decB n) := by
  intro k
  induction k with
  | zero => intro n h _; omega
  | succ k ih =>
    intro n hk hn
    simp only [spec_l2Num.f]
    rw [if_neg (by omega)]
    by_cases h : n < 10
    · rw [if_pos (by omega), w64 (by omega) (by omega)]
      unfold decB strOfNums
      rw [Go.Lib.decDigits_one h]
      simp only [List.map_cons, List.map_nil]
      rw [show ((48 + (n : Int)) % 256).toNat = 48 + n by omega]
    · have h1 : Int.tdiv (n : Int) 10 = ((n / 10 : Nat) : Int) := by rw [Int.tdiv_eq_ediv_of_nonneg (by omega)]; rfl
      have h2 : Int.tmod (n : Int) 10 = ((n % 10 : Nat) : Int) := by rw [Int.tmod_eq_emod_of_nonneg (by omega)]; rfl
      rw [if_neg (by omega), h1, h2, w64 (by omega) (by omega), w64 (by omega) (by omega), ih (n / 10) (by omega) (by omega)]
      simp only [Option.bind_some]
      have hs := decB_size (n / 10) (by omega)
      have e : strOfNums [(48 + ((n % 10 : Nat) : Int)) % 256] = ⟨#[UInt8.ofNat (48 + n % 10)]⟩ := by
        unfold strOfNums
        simp only [List.map_cons, List.map_nil]
        rw [show ((48 + ((n % 10 : Nat) : Int)) % 256).toNat = 48 + n % 10 by omega]
      rw [e, if_pos (by show _ + 1 ≤ _; omega)]
      congr 1
      apply ByteArray.ext
      rw [ByteArray.data_append]
      unfold decB
      conv => rhs; rw [Go.Lib.decDigits, dif_neg h]
      simp
theorem num_int (k : Nat) (n : Int) (h : 0 ≤ n ∧ n ≤ 100000) (hk : 100001 ≤ k) : spec_l2Num.f k n = some (itoaB n) := by
  obtain ⟨m, rfl⟩ : ∃ m : Nat, n = m := ⟨n.toNat, by omega⟩
  rw [itoaB_nat]
  exact num_f k m (by omega) (by omega)
theorem sOidText_loop (rest : List Int) : ∀ (pre : List Int) (s : ByteArray) (k : Nat), 1 ≤ pre.length → s.size ≤ 22 * pre.length → pre.length + rest.length ≤ 10 → (∀ r ∈ rest, 0 ≤ r ∧ r ≤ 100000) → 100001 + rest.length < k →
    spec_OidText.l0 k (pre ++ rest) s (pre.length : Int) = some ⟨s.data ++ (oidTl rest).toArray⟩ := by
  induction rest with
  | nil =>
    intro pre s k _ _ _ _ hk
    obtain ⟨k, rfl⟩ := succ_of hk
    simp only [spec_OidText.l0]
    rw [if_neg (by simp only [List.length_append, List.length_nil]; omega)]
    simp [oidTl, Go.Lib.joinTail]
  | cons r rest ih =>
    intro pre s k hp hs hn hr hk
    obtain ⟨k, rfl⟩ := succ_of hk
    simp only [List.length_cons] at hn hk
    have h2 := hr r List.mem_cons_self
    have h3 := itoaB_size r h2
    have h4 : (s ++ (⟨#[46]⟩ : ByteArray)).size = s.size + 1 := by rw [ByteArray.size_append]; rfl
    have h5 : ((s ++ (⟨#[46]⟩ : ByteArray)) ++ itoaB r).size = s.size + 1 + (itoaB r).size := by rw [ByteArray.size_append, h4]
    simp only [spec_OidText.l0]
    rw [if_pos (by simp only [List.length_append, List.length_cons]; omega), if_pos (by omega), if_pos (by omega), if_pos (by omega), rd_mid, num_int k r h2 (by omega), w64 (by omega) (by omega)]
    simp only [Option.bind_some]
    rw [if_pos (by omega)]
    have e := ih (pre ++ [r]) (s ++ (⟨#[46]⟩ : ByteArray) ++ itoaB r) k (by simp) (by rw [h5]; simp only [List.length_append, List.length_cons, List.length_nil]; omega) (by simp only [List.length_append, List.length_cons, List.length_nil]; omega) (fun y hy => hr y (List.mem_cons_of_mem _ hy)) (by omega)
    simp only [List.append_assoc, List.cons_append, List.nil_append] at e
    rw [show (pre.length : Int) + 1 = ((pre ++ [r]).length : Int) from by simp, e, oidTl_cons]
    congr 1
    apply ByteArray.ext
    simp only [ByteArray.data_append]
    unfold itoaB
    simp
theorem sOidText_ev (xs : List Int) (h : xs.length ≤ 1099511627776) : Ev (fun k => spec_OidText.f k xs) (oidText xs) := by
  simp only [spec_OidText.f]
  refine Ev.bind (sOidOk_ev xs h) ?_
  unfold oidText
  cases ho : oidOk xs with
  | false => simp only [Bool.false_eq_true, if_false]; exact Ev.now _
  | true =>
    simp only [if_true]
    obtain ⟨hr, h1, h10⟩ := oid_in ho
    refine Ev.at_ 100020 fun k hk => ?_
    obtain ⟨k, rfl⟩ := succ_of hk
    cases xs with
    | nil => simp at h1
    | cons r rest =>
      simp only [List.length_cons] at h1 h10
      have h2 := hr r List.mem_cons_self
      have h3 := itoaB_size r h2
      have h5 : ((⟨#[]⟩ : ByteArray) ++ itoaB r).size = (itoaB r).size := by rw [ByteArray.size_append]; show 0 + _ = _; omega
      simp only [spec_OidText.l0]
      have hrd : rd (r :: rest) 0 = r := rfl
      rw [if_pos (by simp only [List.length_cons]; omega), if_neg (by omega), if_pos (by omega), hrd, num_int k r h2 (by omega), w64 (by omega) (by omega)]
      simp only [Option.bind_some]
      rw [if_pos (by show 0 + _ ≤ _; omega)]
      have e := sOidText_loop rest [r] ((⟨#[]⟩ : ByteArray) ++ itoaB r) k (by simp) (by rw [h5]; simp only [List.length_cons, List.length_nil]; omega) (by simp only [List.length_cons, List.length_nil]; omega) (fun y hy => hr y (List.mem_cons_of_mem _ hy)) (by omega)
      simp only [List.cons_append, List.nil_append, List.length_cons, List.length_nil] at e
      rw [show ((0 : Int) + 1) = ((0 + 1 : Nat) : Int) from rfl, e]
      congr 1
      apply ByteArray.ext
      unfold itoaB oidB oidTl
      rw [List.map_cons, Go.Lib.join_cons]
      simp only [ByteArray.data_append]
      simp

def pcs : List UInt8 → List (List UInt8)
  | [] => [[]]
  | b :: l => if b = 46 then [] :: pcs l else match pcs l with
    | p :: r => (b :: p) :: r
    | [] => [[b]]
theorem pcs_split : ∀ (l : List UInt8) (k : Nat), Go.Lib.count l [46] = k → Go.Lib.splitK [46] 0 k l = pcs l
  | [], k, h => by
    have e : Go.Lib.count [] [46] = 0 := by rw [Go.Lib.count_one]; rfl
    obtain rfl := h.symm.trans e
    rfl
  | b :: l, k, h => by
    have ix : Go.Lib.index (b :: l) [46] = if ([46] : List UInt8).isPrefixOf (b :: l) then 0 else if Go.Lib.index l [46] == -1 then -1 else Go.Lib.index l [46] + 1 := rfl
    by_cases hb : b = 46
    · subst hb
      have e : Go.Lib.index (46 :: l) [46] = 0 := by rw [ix]; simp [List.isPrefixOf]
      rw [Go.Lib.count_cons_eq] at h
      subst h
      rw [Nat.add_comm, Go.Lib.splitK, e]
      have hp : pcs (46 :: l) = [] :: pcs l := by rw [pcs, if_pos rfl]
      rw [hp]
      have hr := pcs_split l (Go.Lib.count l [46]) rfl
      rw [if_neg (by decide)]
      show [] :: Go.Lib.splitK [46] 0 _ l = _
      rw [hr]
    · rw [Go.Lib.count_cons_ne _ _ _ hb] at h
      have hr := pcs_split l k h
      have hpre : ([46] : List UInt8).isPrefixOf (b :: l) = false := by
        simp only [List.isPrefixOf, Bool.and_true]
        exact beq_false_of_ne (fun e => hb e.symm)
      rw [hpre] at ix
      simp only [Bool.false_eq_true, if_false] at ix
      simp only [pcs, if_neg hb]
      cases k with
      | zero =>
        rw [Go.Lib.splitK] at hr ⊢
        rw [← hr]
      | succ k =>
        rw [Go.Lib.splitK] at hr ⊢
        rcases Go.Lib.index_spec l [46] with ⟨hi, _⟩ | ⟨i, hi, _, _, _⟩
        · rw [Go.Lib.count_miss hi] at h
          cases h
        · have hne : ¬ (Go.Lib.index l [46] == -1) = true := by rw [hi]; exact fun e => by have := beq_iff_eq.1 e; omega
          rw [if_neg hne] at ix hr
          rw [ix, hi]
          rw [hi] at hr
          rw [if_neg (fun e => by have := beq_iff_eq.1 e; omega), ← hr]
          simp only [Nat.add_zero, Int.toNat_natCast, List.length_singleton]
          rw [show ((i : Int) + 1).toNat = i + 1 by omega]
          rfl
theorem pcs_ne : ∀ l, pcs l ≠ []
  | [] => by simp [pcs]
  | b :: l => by
    unfold pcs
    split
    · simp
    · split <;> simp
theorem pcs_cons (b : UInt8) (l : List UInt8) (h : b ≠ 46) : ∃ p r, pcs l = p :: r ∧ pcs (b :: l) = (b :: p) :: r := by
  cases e : pcs l with
  | nil => exact absurd e (pcs_ne l)
  | cons p r => exact ⟨p, r, rfl, by simp [pcs, h, e]⟩
theorem pcs_app : ∀ (x l : List UInt8), (∀ b ∈ x, b ≠ 46) → ∃ p r, pcs l = p :: r ∧ pcs (x ++ l) = (x ++ p) :: r
  | [], l, _ => by
    cases e : pcs l with
    | nil => exact absurd e (pcs_ne l)
    | cons p r => exact ⟨p, r, rfl, by simpa using e⟩
  | b :: x, l, h => by
    obtain ⟨p, r, e1, e2⟩ := pcs_app x l fun y hy => h y (List.mem_cons_of_mem _ hy)
    obtain ⟨p', r', e3, e4⟩ := pcs_cons b (x ++ l) (h b List.mem_cons_self)
    rw [e2] at e3
    obtain ⟨rfl, rfl⟩ := List.cons.inj e3
    exact ⟨p, r, e1, by simpa using e4⟩
theorem pcs_plain (x : List UInt8) (h : ∀ b ∈ x, b ≠ 46) : pcs x = [x] := by
  obtain ⟨p, r, e1, e2⟩ := pcs_app x [] h
  simp only [pcs] at e1
  obtain ⟨rfl, rfl⟩ := List.cons.inj e1
  simpa using e2
theorem pcs_join : ∀ (x : List UInt8) (xs : List (List UInt8)), (∀ y ∈ x :: xs, ∀ b ∈ y, b ≠ 46) → pcs (x ++ Go.Lib.joinTail [46] xs) = x :: xs
  | x, [], h => by simpa [Go.Lib.joinTail] using pcs_plain x (h x List.mem_cons_self)
  | x, y :: ys, h => by
    have hr := pcs_join y ys fun z hz => h z (List.mem_cons_of_mem _ hz)
    have e : Go.Lib.joinTail [46] (y :: ys) = 46 :: (y ++ Go.Lib.joinTail [46] ys) := by simp [Go.Lib.joinTail]
    obtain ⟨p, r, e1, e2⟩ := pcs_app x (46 :: (y ++ Go.Lib.joinTail [46] ys)) (h x List.mem_cons_self)
    rw [e, e2]
    simp only [pcs, if_true] at e1
    obtain ⟨rfl, rfl⟩ := List.cons.inj e1
    rw [hr]
    simp
theorem join_pcs : ∀ l : List UInt8, Go.Lib.join (pcs l) [46] = l
  | [] => by simp [pcs, Go.Lib.join_one]
  | b :: l => by
    have ih := join_pcs l
    by_cases h : b = 46
    · subst h
      simp only [pcs, if_true]
      rw [Go.Lib.join_cons]
      cases e : pcs l with
      | nil => exact absurd e (pcs_ne l)
      | cons p r =>
        rw [e, Go.Lib.join_cons] at ih
        have : Go.Lib.joinTail [46] (p :: r) = 46 :: (p ++ Go.Lib.joinTail [46] r) := by simp [Go.Lib.joinTail]
        rw [this, ih]
        rfl
    · obtain ⟨p, r, e1, e2⟩ := pcs_cons b l h
      rw [e1, Go.Lib.join_cons] at ih
      rw [e2, Go.Lib.join_cons, List.cons_append, ih]
theorem pcs_len : ∀ l : List UInt8, (pcs l).length ≤ l.length + 1
  | [] => by simp [pcs]
  | b :: l => by
    have ih := pcs_len l
    by_cases h : b = 46
    · simp only [pcs, if_pos h, List.length_cons]
      omega
    · obtain ⟨p, r, e1, e2⟩ := pcs_cons b l h
      rw [e1] at ih
      rw [e2]
      simp only [List.length_cons] at ih ⊢
      omega
def digs (acc : Nat) : List UInt8 → Option Nat
  | [] => some acc
  | c :: r => if 48 ≤ c.toNat ∧ c.toNat ≤ 57 then digs (acc * 10 + (c.toNat - 48)) r else none
theorem digs_snoc : ∀ (p : List UInt8) (acc : Nat) (c : UInt8), digs acc (p ++ [c]) = (digs acc p).bind fun a => if 48 ≤ c.toNat ∧ c.toNat ≤ 57 then some (a * 10 + (c.toNat - 48)) else none
  | [], acc, c => by simp [digs]
  | d :: p, acc, c => by
    simp only [List.cons_append, digs]
    by_cases h : 48 ≤ d.toNat ∧ d.toNat ≤ 57
    · rw [if_pos h, if_pos h]
      exact digs_snoc p _ c
    · rw [if_neg h, if_neg h]
      rfl
theorem u8dig (d : Nat) (h : d < 10) : (UInt8.ofNat (48 + d)).toNat = 48 + d := by
  rw [UInt8.toNat_ofNat']
  omega
theorem digs_dec (n : Nat) : digs 0 (Go.Lib.decDigits n) = some n := by
  induction n using Nat.strongRecOn with
  | _ n ih =>
    by_cases h : n < 10
    · rw [Go.Lib.decDigits, dif_pos h]
      have e := u8dig n h
      simp only [digs]
      rw [if_pos (by omega)]
      congr 1
      omega
    · rw [Go.Lib.decDigits, dif_neg h, digs_snoc, ih (n / 10) (by omega)]
      have e := u8dig (n % 10) (by omega)
      simp only [Option.bind_some]
      rw [if_pos (by omega)]
      congr 1
      omega
theorem dec_head (n : Nat) : ∃ c r, Go.Lib.decDigits n = c :: r ∧ 48 ≤ c.toNat ∧ c.toNat ≤ 57 ∧ (1 ≤ n → c.toNat ≠ 48) := by
  induction n using Nat.strongRecOn with
  | _ n ih =>
    by_cases h : n < 10
    · rw [Go.Lib.decDigits, dif_pos h]
      have e := u8dig n h
      exact ⟨_, _, rfl, by omega, by omega, fun _ => by omega⟩
    · obtain ⟨c, r, e, h1, h2, h3⟩ := ih (n / 10) (by omega)
      rw [Go.Lib.decDigits, dif_neg h, e]
      exact ⟨c, _, rfl, h1, h2, fun _ => h3 (by omega)⟩
theorem dec_len : ∀ (k n : Nat), n < 10 ^ (k + 1) → (Go.Lib.decDigits n).length ≤ k + 1
  | 0, n, h => by
    rw [Go.Lib.decDigits, dif_pos (by simpa using h)]
    simp
  | k + 1, n, h => by
    by_cases hn : n < 10
    · rw [Go.Lib.decDigits, dif_pos hn]
      simp
    · have := dec_len k (n / 10) (by rw [Nat.div_lt_iff_lt_mul (by decide)]; rw [Nat.pow_succ] at h; exact h)
      rw [Go.Lib.decDigits, dif_neg hn, List.length_append]
      simp only [List.length_singleton]
      omega
theorem digs_range : ∀ (p : List UInt8) (acc n : Nat), digs acc p = some n → ∀ b ∈ p, 48 ≤ b.toNat ∧ b.toNat ≤ 57
  | [], _, _, _ => by simp
  | c :: r, acc, n, h => by
    simp only [digs] at h
    by_cases hc : 48 ≤ c.toNat ∧ c.toNat ≤ 57
    · rw [if_pos hc] at h
      intro b hb
      rcases List.mem_cons.1 hb with rfl | hb
      · exact hc
      · exact digs_range r _ n h b hb
    · rw [if_neg hc] at h
      cases h
theorem digs_dec_inv (p : List UInt8) (n : Nat) (hp : p ≠ []) (h0 : 1 < p.length → ∀ c, p.head? = some c → c.toNat ≠ 48) (h : digs 0 p = some n) : p = Go.Lib.decDigits n := by
  induction hk : p.length using Nat.strongRecOn generalizing p n with
  | _ k ih =>
    obtain ⟨q, c, rfl⟩ : ∃ q c, p = q ++ [c] := ⟨p.dropLast, p.getLast hp, (List.dropLast_concat_getLast hp).symm⟩
    rw [digs_snoc] at h
    cases ha : digs 0 q with
    | none => rw [ha] at h; cases h
    | some a =>
      rw [ha] at h
      simp only [Option.bind_some] at h
      by_cases hc : 48 ≤ c.toNat ∧ c.toNat ≤ 57
      · rw [if_pos hc] at h
        have hn := Option.some.inj h
        cases q with
        | nil =>
          obtain rfl : a = 0 := by simpa [digs] using ha.symm
          rw [Go.Lib.decDigits, dif_pos (by omega)]
          simp only [List.nil_append, List.cons.injEq, and_true]
          apply UInt8.toNat_inj.1
          rw [u8dig n (by omega)]
          omega
        | cons d q =>
          have hd := h0 (by simp) d (by simp)
          have e := ih (d :: q).length (by rw [← hk]; simp) (d :: q) a (by simp) (fun _ c' hc' => by simp only [List.head?_cons, Option.some.injEq] at hc'; subst hc'; exact hd) ha rfl
          have ha1 : 1 ≤ a := by
            rcases Nat.eq_zero_or_pos a with rfl | h1
            · rw [Go.Lib.decDigits, dif_pos (by decide)] at e
              have := (List.cons.inj e).1
              rw [this] at hd
              exact absurd (u8dig 0 (by decide)) hd
            · exact h1
          rw [Go.Lib.decDigits, dif_neg (by omega), e]
          rw [show n / 10 = a by omega, show n % 10 = c.toNat - 48 by omega]
          congr 1
          simp only [List.cons.injEq, and_true]
          apply UInt8.toNat_inj.1
          rw [u8dig _ (by omega)]
          omega
      · rw [if_neg hc] at h
        cases h
theorem digs_parse : ∀ (p : List UInt8) (acc n : Nat), digs acc p = some n → n ≤ 1000000000 → acc ≤ n ∧ Go.Lib.parseUint10 acc p = .ok n
  | [], acc, n, h, _ => by
    obtain rfl : acc = n := by simpa [digs] using h
    exact ⟨Nat.le_refl _, rfl⟩
  | c :: r, acc, n, h, hn => by
    simp only [digs] at h
    by_cases hc : 48 ≤ c.toNat ∧ c.toNat ≤ 57
    · rw [if_pos hc] at h
      obtain ⟨h1, h2⟩ := digs_parse r _ n h hn
      refine ⟨by omega, ?_⟩
      simp only [Go.Lib.parseUint10]
      rw [if_pos hc, if_neg (by omega), if_neg (by omega), h2]
    · rw [if_neg hc] at h
      cases h
theorem atoi_dec (n : Nat) (h : n ≤ 1000000000) : Go.Lib.atoiAll (Go.Lib.decDigits n) = .ok (n : Int) := by
  obtain ⟨c, r, e, h1, h2, _⟩ := dec_head n
  have hp := (digs_parse _ 0 n (digs_dec n) h).2
  rw [e] at hp ⊢
  have h43 : ¬ (c.toNat = 43 ∨ c.toNat = 45) := by omega
  have hm : Go.Lib.parseMag (c :: r) = .ok n := by
    unfold Go.Lib.parseMag
    rw [if_neg (by simp)]
    exact hp
  simp only [Go.Lib.atoiAll]
  rw [if_neg h43, hm]
  simp only
  rw [if_neg (by omega), if_neg (by omega), if_neg (by omega)]
theorem dec_no46 (n : Nat) : ∀ b ∈ Go.Lib.decDigits n, b ≠ 46 := by
  intro b hb e
  have := digs_range _ 0 n (digs_dec n) b hb
  subst e
  exact absurd this (by decide)

def mkB (l : List UInt8) : ByteArray := ⟨l.toArray⟩
theorem mkB_data (l : List UInt8) : (mkB l).data.toList = l := rfl
theorem mkB_of (a : ByteArray) : mkB a.data.toList = a := rfl
theorem mkB_size (l : List UInt8) : (mkB l).size = l.length := rfl
theorem bsize (a : ByteArray) : a.size = a.data.toList.length := rfl
theorem bt_mid (a : ByteArray) (pre rest : List UInt8) (b : UInt8) (h : a.data.toList = pre ++ b :: rest) : bt a (pre.length : Int) = (b.toNat : Int) := by
  obtain ⟨⟨l⟩⟩ := a
  simp only at h
  subst h
  unfold bt
  have hlt : ((pre.length : Int)).toNat < (⟨⟨pre ++ b :: rest⟩⟩ : ByteArray).size := by
    show _ < (pre ++ b :: rest).length
    simp
  rw [dif_pos hlt]
  have e : (⟨⟨pre ++ b :: rest⟩⟩ : ByteArray)[((pre.length : Int)).toNat]'hlt = b := by
    show (pre ++ b :: rest)[((pre.length : Int)).toNat]'_ = b
    simp
  rw [e]
theorem ext_mid (a : ByteArray) (pre cur rest : List UInt8) (h : a.data.toList = pre ++ cur ++ rest) : a.extract (pre.length : Int).toNat (((pre.length + cur.length : Nat) : Int)).toNat = mkB cur := by
  apply ByteArray.ext
  apply Array.ext'
  rw [Go.Lib.extract_data, h, mkB_data, Int.toNat_natCast, Int.toNat_natCast, List.append_assoc, List.drop_left, Nat.add_sub_cancel_left, List.take_left]
theorem map_mkB (xs : List ByteArray) : (xs.map (·.data.toList)).map mkB = xs := by
  rw [List.map_map]
  exact List.map_id xs
theorem splitF (a : ByteArray) (h : a.size ≤ 1048576) : strings_Split.f a (⟨#[46]⟩ : ByteArray) = some ((pcs a.data.toList).map mkB) := by
  have hc := Go.Lib.countB_le (⟨#[46]⟩ : ByteArray) (Nat.le_refl 1) a.size a (Nat.le_refl _)
  unfold strings_Split.f
  rw [if_pos ⟨by omega, Nat.le_refl 1, by omega⟩]
  have e := Go.Lib.splitB_data (⟨#[46]⟩ : ByteArray) 0 (Go.Lib.countB a (⟨#[46]⟩ : ByteArray)) a
  have e2 := pcs_split a.data.toList (Go.Lib.countB a (⟨#[46]⟩ : ByteArray)) rfl
  have e3 : (Go.Lib.splitB (⟨#[46]⟩ : ByteArray) 0 (Go.Lib.countB a (⟨#[46]⟩ : ByteArray)) a).map (·.data.toList) = pcs a.data.toList := e.trans e2
  rw [← e3, map_mkB]
def hdp (cur : List UInt8) : List (List UInt8) → List (List UInt8)
  | p :: r => (cur ++ p) :: r
  | [] => []
theorem l2Split_loop (a : ByteArray) (ha : a.size ≤ 1048576) : ∀ (rest pre cur : List UInt8) (out : List ByteArray) (k : Nat), a.data.toList = pre ++ cur ++ rest → out.length ≤ pre.length → rest.length + 1 < k →
    spec_l2Split.l0 k a 46 out (pre.length : Int) ((pre.length + cur.length : Nat) : Int) = some (out ++ (hdp cur (pcs rest)).map mkB)
  | [], pre, cur, out, k, h, ho, hk => by
    obtain ⟨k, rfl⟩ : ∃ m, k = m + 2 := ⟨k - 2, by omega⟩
    have hsz : a.size = pre.length + cur.length := by rw [bsize, h]; simp
    have hx := ext_mid a pre cur [] h
    simp only [spec_l2Split.l0]
    rw [if_pos (by omega), if_pos (by omega), if_pos (by omega), if_pos (by omega), if_pos (by omega), hx, w64 (by omega) (by omega), if_neg (by omega)]
    simp [pcs, hdp]
  | b :: rest, pre, cur, out, k, h, ho, hk => by
    obtain ⟨k, rfl⟩ : ∃ m, k = m + 1 := ⟨k - 1, by omega⟩
    have hsz : a.size = pre.length + cur.length + rest.length + 1 := by rw [bsize, h]; simp; omega
    have hx := ext_mid a pre cur (b :: rest) h
    have hb := bt_mid a (pre ++ cur) rest b h
    rw [List.length_append] at hb
    simp only [List.length_cons] at hk
    simp only [spec_l2Split.l0]
    rw [if_pos (by omega), if_neg (by omega), if_pos (by omega), if_pos (by omega), hb, w64 (by omega) (by omega)]
    by_cases h46 : b = 46
    · subst h46
      rw [if_pos (by decide), if_pos (by omega), if_pos (by omega), if_pos (by omega), hx]
      have e := l2Split_loop a ha rest (pre ++ cur ++ [46]) [] (out ++ [mkB cur]) k (by simpa using h) (by simp only [List.length_append, List.length_cons, List.length_nil]; omega) (by omega)
      simp only [List.length_append, List.length_cons, List.length_nil, Nat.add_zero, Nat.zero_add] at e
      rw [show (((pre.length + cur.length : Nat) : Int) + 1) = ((pre.length + cur.length + 1 : Nat) : Int) by omega, e]
      have hp : pcs (46 :: rest) = [] :: pcs rest := by rw [pcs, if_pos rfl]
      rw [hp]
      cases hr : pcs rest with
      | nil => exact absurd hr (pcs_ne rest)
      | cons p r => simp [hdp]
    · have hne : ¬ ((b.toNat : Int) = 46) := fun e => h46 (UInt8.toNat_inj.1 (by show b.toNat = 46; omega))
      rw [if_neg hne]
      have e := l2Split_loop a ha rest pre (cur ++ [b]) out k (by simpa using h) ho (by omega)
      simp only [List.length_append, List.length_cons, List.length_nil, Nat.zero_add] at e
      rw [show (((pre.length + cur.length : Nat) : Int) + 1) = ((pre.length + (cur.length + 1) : Nat) : Int) by omega, e]
      obtain ⟨p, r, e1, e2⟩ := pcs_cons b rest h46
      rw [e1, e2]
      simp [hdp]
theorem l2Split_ev (a : ByteArray) (ha : a.size ≤ 1048576) : Ev (fun k => spec_l2Split.f k a 46) ((pcs a.data.toList).map mkB) := by
  refine Ev.at_ (a.data.toList.length + 1) fun k hk => ?_
  have e := l2Split_loop a ha a.data.toList [] [] [] k (by simp) (by simp) hk
  unfold spec_l2Split.f
  have e' : spec_l2Split.l0 k a 46 [] 0 0 = _ := e
  rw [e']
  cases hr : pcs a.data.toList with
  | nil => exact absurd hr (pcs_ne _)
  | cons p r => simp [hdp]
def parse7 (p : List UInt8) : Int := if 1 ≤ p.length ∧ p.length ≤ 7 then (if 1 < p.length ∧ p.head? = some 48 then -1 else match digs 0 p with | some n => (n : Int) | none => -1) else -1
theorem l2Parse_loop (a : ByteArray) : ∀ (rest pre : List UInt8) (acc k : Nat), a.data.toList = pre ++ rest → acc < 10 ^ pre.length → pre.length + rest.length ≤ 7 → rest.length < k →
    spec_l2Parse.l0 k a (acc : Int) (pre.length : Int) = some (match digs acc rest with | some n => (n : Int) | none => -1)
  | [], pre, acc, k, h, _, hl, hk => by
    obtain ⟨k, rfl⟩ : ∃ m, k = m + 1 := ⟨k - 1, by omega⟩
    have hsz : a.size = pre.length := by rw [bsize, h]; simp
    simp only [spec_l2Parse.l0]
    rw [if_neg (by omega)]
    rfl
  | b :: rest, pre, acc, k, h, ha, hl, hk => by
    obtain ⟨k, rfl⟩ : ∃ m, k = m + 1 := ⟨k - 1, by omega⟩
    have hsz : a.size = pre.length + rest.length + 1 := by rw [bsize, h]; simp; omega
    have hb := bt_mid a pre rest b h
    have hb2 : b.toNat < 256 := b.toNat_lt
    simp only [List.length_cons] at hk hl
    have h10 : 10 ^ pre.length ≤ 10 ^ 6 := Nat.pow_le_pow_right (by decide) (by omega)
    have h10' : (10 : Nat) ^ 6 = 1000000 := by decide
    simp only [spec_l2Parse.l0]
    rw [if_pos (by omega), if_pos (by omega), hb, w64 (x := (b.toNat : Int)) (by omega) (by omega), l1In_eq]
    simp only [Option.bind_some, digs]
    by_cases hd : 48 ≤ b.toNat ∧ b.toNat ≤ 57
    · rw [if_pos (by simp only [decide_eq_true_eq]; omega), if_pos hd]
      rw [w64 (x := (acc : Int) * 10) (by omega) (by omega), show ((b.toNat : Int) - 48) % 256 = ((b.toNat - 48 : Nat) : Int) by omega, w64 (x := (acc : Int) * 10 + ((b.toNat - 48 : Nat) : Int)) (by omega) (by omega), w64 (x := (pre.length : Int) + 1) (by omega) (by omega)]
      have e := l2Parse_loop a rest (pre ++ [b]) (acc * 10 + (b.toNat - 48)) k (by simpa using h) (by rw [List.length_append, List.length_singleton, Nat.pow_succ]; omega) (by simp only [List.length_append, List.length_singleton]; omega) (by omega)
      simp only [List.length_append, List.length_singleton] at e
      rw [show (pre.length : Int) + 1 = ((pre.length + 1 : Nat) : Int) by omega, show (acc : Int) * 10 + ((b.toNat - 48 : Nat) : Int) = ((acc * 10 + (b.toNat - 48) : Nat) : Int) by omega, e]
    · rw [if_neg (by simp only [decide_eq_true_eq]; omega), if_neg hd]
theorem l2Parse_ev (p : List UInt8) (hp : p.length ≤ 1048576) : Ev (fun k => spec_l2Parse.f k (mkB p)) (parse7 p) := by
  have hs := mkB_size p
  refine Ev.at_ 20 fun k hk => ?_
  obtain ⟨k, rfl⟩ : ∃ m, k = m + 1 := ⟨k - 1, by omega⟩
  unfold spec_l2Parse.f parse7
  rw [hs, l1In_eq]
  simp only [Option.bind_some]
  by_cases hl : 1 ≤ p.length ∧ p.length ≤ 7
  · rw [if_pos (by simp only [decide_eq_true_eq]; omega), if_pos hl]
    have e := l2Parse_loop (mkB p) p [] 0 k rfl (by simp) (by simp only [List.length_nil]; omega) (by omega)
    have e' : spec_l2Parse.l0 k (mkB p) 0 0 = _ := e
    by_cases h1 : 1 < p.length
    · rw [if_pos (by omega), if_pos (by omega)]
      cases p with
      | nil => simp at h1
      | cons c r =>
        have hb : bt (mkB (c :: r)) 0 = (c.toNat : Int) := bt_mid (mkB (c :: r)) [] r c rfl
        rw [hb]
        simp only [spec_l2Parse.j0]
        by_cases hc : c = 48
        · subst hc
          rw [if_pos (by decide), if_pos ⟨h1, rfl⟩]
        · have hne : ¬ (((c.toNat : Int) == 48) = true) := fun e => hc (UInt8.toNat_inj.1 (by have := beq_iff_eq.1 e; show c.toNat = 48; omega))
          rw [if_neg hne, if_neg (fun e => hc (by simpa using e.2)), e']
    · rw [if_neg (by omega), if_neg (fun e => h1 e.1)]
      simp only [spec_l2Parse.j0, Bool.false_eq_true, if_false]
      rw [e']
  · rw [if_neg (by simp only [decide_eq_true_eq]; omega), if_neg hl]
    simp only [spec_l2Parse.j0, if_true]
theorem rdOf_mid {α : Type} (d : α) (pre rest : List α) (r : α) : rdOf d (pre ++ r :: rest) (pre.length : Int) = r := by
  unfold rdOf
  simp [List.getD_eq_getElem?_getD]
def specParse (l : List UInt8) : List Int × Bool := if oidOk ((pcs l).map parse7) = true then ((pcs l).map parse7, true) else ([], false)
theorem sParse_loop : ∀ (rest pre : List (List UInt8)) (out : List Int), (∀ p ∈ rest, p.length ≤ 1048576) → pre.length + rest.length ≤ 1048577 → out.length = pre.length →
    Ev (fun k => spec_ParseOid.l0 k out ((pre ++ rest).map mkB) (pre.length : Int)) (if oidOk (out ++ rest.map parse7) = true then (out ++ rest.map parse7, true) else ([], false))
  | [], pre, out, hr, hn, ho => by
    simp only [List.length_nil] at hn
    refine Ev.succ ?_
    simp only [spec_ParseOid.l0]
    have c1 : ¬ ((pre.length : Int) < ((pre.map mkB).length : Int)) := by simp only [List.length_map]; omega
    simp only [List.map_nil, List.append_nil]
    simp only [if_neg c1]
    refine Ev.bind (sOidOk_ev out (by omega)) ?_
    cases oidOk out with
    | true => simp only [if_true]; exact Ev.now _
    | false => simp only [Bool.false_eq_true, if_false]; exact Ev.now _
  | p :: rest, pre, out, hr, hn, ho => by
    simp only [List.length_cons] at hn
    refine Ev.succ ?_
    simp only [spec_ParseOid.l0]
    have hm : (pre ++ p :: rest).map mkB = pre.map mkB ++ mkB p :: rest.map mkB := by simp
    have c1 : (pre.length : Int) < (((pre ++ p :: rest).map mkB).length : Int) := by simp only [List.length_map, List.length_append, List.length_cons]; omega
    have c2 : (0 : Int) ≤ (pre.length : Int) := by omega
    have c3 : out.length < 17592186044416 := by omega
    have hd := rdOf_mid ByteArray.empty (pre.map mkB) (rest.map mkB) (mkB p)
    rw [List.length_map, ← hm] at hd
    have hw := w64 (x := (pre.length : Int) + 1) (by omega) (by omega)
    simp only [if_pos c1, if_pos c2, hd]
    refine Ev.bind (l2Parse_ev p (hr p List.mem_cons_self)) ?_
    simp only [if_pos c3, hw]
    have e := sParse_loop rest (pre ++ [p]) (out ++ [parse7 p]) (fun q hq => hr q (List.mem_cons_of_mem _ hq)) (by simp only [List.length_append, List.length_singleton]; omega) (by simp only [List.length_append, List.length_singleton]; omega)
    simp only [List.append_assoc, List.cons_append, List.nil_append, List.length_append, List.length_singleton] at e
    rw [show (pre.length : Int) + 1 = ((pre.length + 1 : Nat) : Int) by omega]
    simpa only [List.map_cons] using e
theorem pcs_mem_len : ∀ (l : List UInt8), ∀ p ∈ pcs l, p.length ≤ l.length
  | [] => by simp [pcs]
  | b :: l => by
    have ih := pcs_mem_len l
    intro p hp
    by_cases h : b = 46
    · simp only [pcs, if_pos h, List.mem_cons] at hp
      rcases hp with rfl | hp
      · simp
      · have := ih p hp
        simp only [List.length_cons]
        omega
    · obtain ⟨q, r, e1, e2⟩ := pcs_cons b l h
      rw [e2] at hp
      rw [e1] at ih
      rcases List.mem_cons.1 hp with rfl | hp
      · have := ih q List.mem_cons_self
        simp only [List.length_cons]
        omega
      · have := ih p (List.mem_cons_of_mem _ hp)
        simp only [List.length_cons]
        omega
theorem sParseOid_ev (a : ByteArray) (h : a.size ≤ 1048576) : Ev (fun k => spec_ParseOid.f k a) (specParse a.data.toList) := by
  simp only [spec_ParseOid.f]
  refine Ev.bind (l2Split_ev a h) ?_
  have hl := pcs_len a.data.toList
  have hs := bsize a
  have e := sParse_loop (pcs a.data.toList) [] [] (fun p hp => by have := pcs_mem_len _ p hp; omega) (by simp only [List.length_nil]; omega) rfl
  unfold specParse
  simpa using e
def atois (out : List Int) : List (List UInt8) → Option (List Int)
  | [] => some out
  | p :: r => match Go.Lib.atoiAll p with
    | .ok v => if 10 ≤ out.length then none else atois (out ++ [v]) r
    | _ => none
def implParse (l : List UInt8) : List Int × Bool := match atois [] (pcs l) with
  | some vs => if (oidText vs).data.toList = l then (vs, true) else ([], false)
  | none => ([], false)
theorem iParse_loop (a : ByteArray) : ∀ (rest pre : List (List UInt8)) (out : List Int), (∀ p ∈ rest, p.length ≤ 1048576) → pre.length + rest.length ≤ 1048577 → out.length = pre.length →
    Ev (fun k => impl_ParseOid.l0 k a out ((pre ++ rest).map mkB) (((pre ++ rest).map mkB).length : Int) (pre.length : Int)) (match atois out rest with | some vs => if (oidText vs).data.toList = a.data.toList then (vs, true) else ([], false) | none => ([], false))
  | [], pre, out, hr, hn, ho => by
    simp only [List.length_nil] at hn
    refine Ev.succ ?_
    simp only [impl_ParseOid.l0]
    have c1 : ¬ ((pre.length : Int) < (((pre ++ []).map mkB).length : Int)) := by simp only [List.length_map, List.length_append, List.length_nil]; omega
    simp only [if_neg c1]
    refine Ev.bind (iOidText_ev out (by omega)) ?_
    simp only [Go.Lib.toList_data, atois]
    by_cases h : (oidText out).data.toList = a.data.toList
    · simp only [if_pos h]; exact Ev.now _
    · simp only [if_neg h]; exact Ev.now _
  | p :: rest, pre, out, hr, hn, ho => by
    simp only [List.length_cons] at hn
    refine Ev.succ ?_
    simp only [impl_ParseOid.l0]
    have hm : (pre ++ p :: rest).map mkB = pre.map mkB ++ mkB p :: rest.map mkB := by simp
    have hpl := hr p List.mem_cons_self
    have hps := mkB_size p
    have c1 : (pre.length : Int) < (((pre ++ p :: rest).map mkB).length : Int) := by simp only [List.length_map, List.length_append, List.length_cons]; omega
    have c2 : (0 : Int) ≤ (pre.length : Int) := by omega
    have hd := rdOf_mid ByteArray.empty (pre.map mkB) (rest.map mkB) (mkB p)
    rw [List.length_map, ← hm] at hd
    have hw := w64 (x := (pre.length : Int) + 1) (by omega) (by omega)
    have hat : strconv_Atoi.f (mkB p) = some (match Go.Lib.atoiAll p with | .ok v => (v, none) | .range => (Go.Lib.atoiSat p, some 1) | _ => (0, some 0)) := by
      unfold strconv_Atoi.f
      rw [if_pos (by omega), mkB_data]
      cases Go.Lib.atoiAll p <;> rfl
    simp only [if_pos c1, if_pos c2, hd, hat, hw, Option.bind_some, atois]
    cases ha : Go.Lib.atoiAll p with
    | ok v =>
      simp only [Option.isNone_none, if_true]
      by_cases h10 : 10 ≤ out.length
      · have g1 : (out.length : Int) ≥ 10 := by omega
        simp only [if_pos g1, if_pos h10]
        exact Ev.now _
      · have g1 : ¬ ((out.length : Int) ≥ 10) := by omega
        have g2 : out.length < 17592186044416 := by omega
        simp only [if_neg g1, if_pos g2, if_neg h10]
        have e := iParse_loop a rest (pre ++ [p]) (out ++ [v]) (fun q hq => hr q (List.mem_cons_of_mem _ hq)) (by simp only [List.length_append, List.length_singleton]; omega) (by simp only [List.length_append, List.length_singleton]; omega)
        have hpp : pre ++ [p] ++ rest = pre ++ p :: rest := by simp
        rw [hpp] at e
        simp only [List.length_append, List.length_singleton] at e
        rw [show (pre.length : Int) + 1 = ((pre.length + 1 : Nat) : Int) by omega]
        simpa only [List.length_map, List.length_append, List.length_cons] using e
    | _ =>
      simp only [Option.isNone_some, Bool.false_eq_true, if_false]
      exact Ev.now _
theorem iParseOid_ev' (a : ByteArray) (h : a.size ≤ 1048576) : Ev (fun k => impl_ParseOid.f k a) (implParse a.data.toList) := by
  simp only [impl_ParseOid.f]
  rw [splitF a h]
  simp only [Option.bind_some]
  have hl := pcs_len a.data.toList
  have hs := bsize a
  have e := iParse_loop a (pcs a.data.toList) [] [] (fun p hp => by have := pcs_mem_len _ p hp; omega) (by simp only [List.length_nil]; omega) rfl
  unfold implParse
  simpa using e
theorem parse7_dec (n : Nat) (h : n ≤ 100000) : parse7 (Go.Lib.decDigits n) = (n : Int) := by
  have hl := dec_len 6 n (by omega)
  obtain ⟨c, r, e, h1, h2, h3⟩ := dec_head n
  have hd := digs_dec n
  unfold parse7
  rw [if_pos ⟨by rw [e]; simp, hl⟩, hd, if_neg]
  rintro ⟨g1, g2⟩
  rw [e] at g2
  have hc : c = 48 := by simpa using g2
  subst hc
  rcases Nat.eq_zero_or_pos n with rfl | hn
  · rw [Go.Lib.decDigits, dif_pos (by decide)] at g1
    simp at g1
  · exact h3 hn rfl
theorem parse7_inv (p : List UInt8) (h : 0 ≤ parse7 p) : ∃ n : Nat, parse7 p = (n : Int) ∧ p = Go.Lib.decDigits n := by
  unfold parse7 at h ⊢
  by_cases hl : 1 ≤ p.length ∧ p.length ≤ 7
  · rw [if_pos hl] at h ⊢
    by_cases h0 : 1 < p.length ∧ p.head? = some 48
    · rw [if_pos h0] at h
      omega
    · rw [if_neg h0] at h ⊢
      cases hd : digs 0 p with
      | none =>
        rw [hd] at h
        simp only at h
        omega
      | some n =>
        refine ⟨n, rfl, digs_dec_inv p n (fun e => by rw [e] at hl; simp at hl) (fun g c hc e => h0 ⟨g, ?_⟩) hd⟩
        rw [hc]
        congr 1
        exact UInt8.toNat_inj.1 e
  · rw [if_neg hl] at h
    omega
theorem itoa_of_parse7 (p : List UInt8) (h : 0 ≤ parse7 p ∧ parse7 p ≤ 100000) : Go.Lib.itoa (parse7 p) = p ∧ Go.Lib.atoiAll p = .ok (parse7 p) := by
  obtain ⟨n, e1, e2⟩ := parse7_inv p h.1
  rw [e1]
  refine ⟨by rw [Go.Lib.itoa_nonneg, ← e2], ?_⟩
  have := atoi_dec n (by omega)
  rw [← e2] at this
  exact this
theorem atois_ok : ∀ (ps : List (List UInt8)) (out : List Int), (∀ p ∈ ps, 0 ≤ parse7 p ∧ parse7 p ≤ 100000) → out.length + ps.length ≤ 10 → atois out ps = some (out ++ ps.map parse7)
  | [], out, _, _ => by simp [atois]
  | p :: ps, out, h, hl => by
    simp only [List.length_cons] at hl
    have e := (itoa_of_parse7 p (h p List.mem_cons_self)).2
    have ih := atois_ok ps (out ++ [parse7 p]) (fun q hq => h q (List.mem_cons_of_mem _ hq)) (by simp only [List.length_append, List.length_singleton]; omega)
    simp only [atois, e]
    rw [if_neg (by omega), ih]
    simp
theorem itoa_no46 (v : Int) (h : 0 ≤ v) : ∀ b ∈ Go.Lib.itoa v, b ≠ 46 := by
  obtain ⟨n, rfl⟩ : ∃ n : Nat, v = n := ⟨v.toNat, by omega⟩
  rw [Go.Lib.itoa_nonneg]
  exact dec_no46 n
theorem parse7_itoa (v : Int) (h : 0 ≤ v ∧ v ≤ 100000) : parse7 (Go.Lib.itoa v) = v := by
  obtain ⟨n, rfl⟩ : ∃ n : Nat, v = n := ⟨v.toNat, by omega⟩
  rw [Go.Lib.itoa_nonneg]
  exact parse7_dec n (by omega)
theorem pcs_text (vs : List Int) (h : oidOk vs = true) : pcs (oidB vs).data.toList = vs.map Go.Lib.itoa ∧ (vs.map Go.Lib.itoa).map parse7 = vs := by
  obtain ⟨hr, h1, _⟩ := oid_in h
  constructor
  · cases vs with
    | nil => simp at h1
    | cons v vs =>
      show pcs (Go.Lib.join ((v :: vs).map Go.Lib.itoa) [46]) = _
      rw [List.map_cons, Go.Lib.join_cons]
      exact pcs_join _ _ fun y hy => by
        rw [← List.map_cons (f := Go.Lib.itoa)] at hy
        obtain ⟨x, hx, rfl⟩ := List.mem_map.1 hy
        exact itoa_no46 x (hr x hx).1
  · rw [List.map_map]
    conv => rhs; rw [← List.map_id vs]
    exact List.map_congr_left fun x hx => parse7_itoa x (hr x hx)
theorem parse_same (l : List UInt8) : implParse l = specParse l := by
  unfold implParse specParse
  cases ho : oidOk ((pcs l).map parse7) with
  | true =>
    obtain ⟨hr, h1, h10⟩ := oid_in ho
    have hr' : ∀ p ∈ pcs l, 0 ≤ parse7 p ∧ parse7 p ≤ 100000 := fun p hp => hr _ (List.mem_map_of_mem hp)
    have e := atois_ok (pcs l) [] hr' (by rw [List.length_map] at h10; simpa using h10)
    rw [e]
    simp only [List.nil_append, if_true]
    have e2 : ((pcs l).map parse7).map Go.Lib.itoa = pcs l := by
      rw [List.map_map]
      conv => rhs; rw [← List.map_id (pcs l)]
      exact List.map_congr_left fun p hp => (itoa_of_parse7 p (hr' p hp)).1
    have e3 : (oidText ((pcs l).map parse7)).data.toList = l := by
      unfold oidText
      rw [if_pos ho]
      show Go.Lib.join (((pcs l).map parse7).map Go.Lib.itoa) [46] = l
      rw [e2, join_pcs]
    rw [if_pos e3]
  | false =>
    simp only [Bool.false_eq_true, if_false]
    cases ha : atois [] (pcs l) with
    | none => rfl
    | some vs =>
      simp only
      by_cases ht : (oidText vs).data.toList = l
      · exfalso
        cases hv : oidOk vs with
        | true =>
          have e : oidText vs = oidB vs := by unfold oidText; rw [if_pos hv]
          rw [e] at ht
          obtain ⟨p1, p2⟩ := pcs_text vs hv
          rw [ht] at p1
          rw [p1, p2, hv] at ho
          cases ho
        | false =>
          have e : oidText vs = ⟨#[]⟩ := by unfold oidText; rw [hv]; rfl
          rw [e] at ht
          have hl : l = [] := ht.symm
          subst hl
          simp [pcs, atois, Go.Lib.atoiAll] at ha
      · rw [if_neg ht]
theorem iParseOid_ev (a : ByteArray) (h : a.size ≤ 1048576) : Ev (fun k => impl_ParseOid.f k a) (specParse a.data.toList) := parse_same _ ▸ iParseOid_ev' a h
theorem specParse_len (l : List UInt8) : (specParse l).1.length ≤ 10 := by
  unfold specParse
  cases ho : oidOk ((pcs l).map parse7) with
  | true => simpa using (oid_in ho).2.2
  | false => simp

theorem getOid_back (o : List Int) (ho : oidOk o = true) : Ev (fun k => impl_GetOid.f k (putOid o)) (o, true) ∧ ∀ y, y ∈ putOid o → 0 ≤ y ∧ y ≤ 255 := by
  refine ⟨?_, putOid_bytes o⟩
  have hl := putOid_len o
  obtain ⟨R, hs, hi, _⟩ := getOid_both (putOid o) (putOid_bytes o) (by omega)
  have ho' := ho
  simp only [oidOk, Bool.and_eq_true, decide_eq_true_eq] at ho'
  have e := sGetOid_yes o [] [] (by simpa using ho) (by simp only [List.length_nil]; omega)
  have hp : putOid o = o.flatMap group := by unfold putOid; rw [if_pos ho]
  have e2 : Ev (fun k => spec_GetOid.f k (putOid o)) (o, true) := by
    unfold spec_GetOid.f
    rw [hp]
    simpa using e
  rw [← Ev.uniq hs e2]
  exact hi
theorem getOid_read (l : List Int) (hw : bytes l) (hl : l.length ≤ 1048576) (R : List Int × Bool) (hi : Ev (fun k => impl_GetOid.f k l) R) (h : R.2 = true) : putOid R.1 = l := by
  by_cases c : ∃ o, oidOk o = true ∧ o.flatMap group = l
  · obtain ⟨o, ho, rfl⟩ := c
    have hp : putOid o = o.flatMap group := by unfold putOid; rw [if_pos ho]
    have e := (getOid_back o ho).1
    rw [hp] at e
    rw [Ev.uniq hi e]
    exact hp
  · have hno : ∀ o, oidOk o = true → o.flatMap group ≠ l := fun o ho e => c ⟨o, ho, e⟩
    obtain ⟨R2, hs, hi2, _⟩ := getOid_both l hw hl
    have e := sGetOid_no l.length l [] (Nat.le_refl _) hw (by simpa using hl) (by simpa using hno)
    have e2 : Ev (fun k => spec_GetOid.f k l) ([], false) := by
      unfold spec_GetOid.f
      simpa using e
    rw [Ev.uniq hi hi2, Ev.uniq hs e2] at h
    simp at h

/- a draw's state: the bytes, a place in them, a seed -/
def atOk (l : List Int) (p : Int) : Prop := 0 ≤ p ∧ p ≤ (l.length : Int)
theorem and_low (x : Int) (m : Nat) (hm : m < 9223372036854775808) : 0 ≤ Go.bits .and .i64 x (m : Int) ∧ Go.bits .and .i64 x (m : Int) ≤ m := by
  have e : m % 2 ^ IntKind.i64.bits = m := Nat.mod_eq_of_lt (show m < 2 ^ 64 by omega)
  simp only [Go.bits, BitVec.ofInt_natCast, BitVec.toNat_and, BitVec.toNat_ofNat, e]
  have h := Nat.and_le_right (n := (BitVec.ofInt IntKind.i64.bits x).toNat) (m := m)
  generalize (BitVec.ofInt IntKind.i64.bits x).toNat &&& m = q at h ⊢
  rw [IntKind.wrap_i64]
  omega
theorem and255 (x : Int) : 0 ≤ Go.bits .and .i64 x 255 ∧ Go.bits .and .i64 x 255 ≤ 255 := and_low x 255 (by decide)
theorem l1Byte_ok (l : List Int) (p s : Int) (hl : l.length ≤ 1048576) (h : atOk l p) : ∃ v p' s', spec_l1Byte.f l p s = some (v, p', s') ∧ (0 ≤ v ∧ v ≤ 255) ∧ atOk l p' := by
  unfold atOk at h
  unfold spec_l1Byte.f atOk
  by_cases c : p < (l.length : Int)
  · refine ⟨_, _, _, if_pos c |>.trans (if_pos h.1), and255 _, ?_⟩
    rw [w64 (by omega) (by omega)]
    omega
  · exact ⟨_, _, _, if_neg c, and255 _, h⟩
theorem l1Below_ok (l : List Int) (p s n : Int) (hl : l.length ≤ 1048576) (h : atOk l p) (hn : 0 < n) : ∃ v p' s', spec_l1Below.f l p s n = some (v, p', s') ∧ (0 ≤ v ∧ v < n) ∧ atOk l p' := by
  unfold spec_l1Below.f
  rw [if_neg (by omega)]
  obtain ⟨v1, p1, s1, e1, b1, h1⟩ := l1Byte_ok l p s hl h
  rw [e1]
  simp only [Option.bind_some, if_neg (show ¬ n = 0 by omega)]
  by_cases c : n ≤ 256
  · simp only [if_pos c]
    exact ⟨_, _, _, rfl, ⟨Int.tmod_nonneg _ b1.1, Int.tmod_lt_of_pos _ hn⟩, h1⟩
  · simp only [if_neg c]
    obtain ⟨v2, p2, s2, e2, b2, h2⟩ := l1Byte_ok l p1 s1 hl h1
    rw [e2]
    simp only [Option.bind_some]
    obtain ⟨v3, p3, s3, e3, b3, h3⟩ := l1Byte_ok l p2 s2 hl h2
    rw [e3]
    simp only [Option.bind_some]
    rw [w64 (x := v1 * 65536) (by omega) (by omega), w64 (x := v2 * 256) (by omega) (by omega), w64 (x := v1 * 65536 + v2 * 256) (by omega) (by omega), w64 (by omega) (by omega)]
    exact ⟨_, _, _, rfl, ⟨Int.tmod_nonneg _ (by omega), Int.tmod_lt_of_pos _ hn⟩, h3⟩
theorem rd_mem (xs : List Int) (i : Int) (h0 : 0 ≤ i) (h1 : i < (xs.length : Int)) : rd xs i ∈ xs := by
  unfold rd
  rw [List.getD_eq_getElem?_getD]
  have hi : i.toNat < xs.length := by omega
  rw [List.getElem?_eq_getElem hi]
  exact List.getElem_mem hi
theorem l1New_loop (l : List Int) (rest : List Int) : ∀ (pre : List Int) (s : Int), pre.length + rest.length ≤ 1048576 → ∃ s', Ev (fun k => spec_l1New.l0 k (pre ++ rest) s (pre.length : Int)) (pre ++ rest, 0, s') := by
  induction rest with
  | nil =>
    intro pre s _
    refine ⟨s, Ev.succ ?_⟩
    simp only [spec_l1New.l0]
    simp only [List.append_nil, if_neg (show ¬ (pre.length : Int) < (pre.length : Int) by omega)]
    exact Ev.now _
  | cons r rest ih =>
    intro pre s hn
    simp only [List.length_cons] at hn
    by_cases c : (pre.length : Int) < 4000
    · obtain ⟨s', h⟩ := ih (pre ++ [r]) (Go.bits .and .i64 (wrap64 ((wrap64 ((wrap64 (s * 137)) + (wrap64 r))) + 11)) 1073741823) (by simp only [List.length_append, List.length_cons, List.length_nil]; omega)
      simp only [List.append_assoc, List.cons_append, List.nil_append] at h
      rw [show ((pre ++ [r]).length : Int) = (pre.length : Int) + 1 by simp] at h
      refine ⟨s', Ev.succ ?_⟩
      simp only [spec_l1New.l0]
      simp only [if_pos (show (pre.length : Int) < ((pre ++ r :: rest).length : Int) by simp only [List.length_append, List.length_cons]; omega), if_pos c, if_pos (show (0 : Int) ≤ (pre.length : Int) by omega), rd_mid, w64 (x := (pre.length : Int) + 1) (by omega) (by omega)]
      exact h
    · refine ⟨s, Ev.succ ?_⟩
      simp only [spec_l1New.l0]
      simp only [if_pos (show (pre.length : Int) < ((pre ++ r :: rest).length : Int) by simp only [List.length_append, List.length_cons]; omega), if_neg c]
      exact Ev.now _
theorem l1New_ok (l : List Int) (hl : l.length ≤ 1048576) : ∃ s', Ev (fun k => spec_l1New.f k l) (l, 0, s') := by
  unfold spec_l1New.f
  have h := l1New_loop l l [] (wrap64 (762762 + (l.length : Int))) (by simp only [List.length_nil]; omega)
  simpa using h
theorem at0 (l : List Int) : atOk l 0 := ⟨by omega, by omega⟩

theorem l1Int_ok (l : List Int) (p s : Int) (xs : List Int) (hl : l.length ≤ 1048576) (h : atOk l p) (hx : 0 < xs.length) : ∃ v p' s', spec_l1Int.f l p s xs = some (v, p', s') ∧ v ∈ xs ∧ atOk l p' := by
  unfold spec_l1Int.f
  obtain ⟨v1, p1, s1, e1, b1, h1⟩ := l1Below_ok l p s (xs.length : Int) hl h (by omega)
  rw [e1]
  simp only [Option.bind_some, if_pos b1.1, if_pos b1.2]
  exact ⟨_, _, _, rfl, rd_mem xs v1 b1.1 b1.2, h1⟩

theorem l1Bend_ok (l : List Int) (p s : Int) (xs : List Int) (hl : l.length ≤ 1048576) (h : atOk l p) (hx : bys xs) (hn : xs.length ≤ 1048576) : ∃ o p' s', spec_l1Bend.f l p s xs = some (o, p', s') ∧ bys o ∧ o.length ≤ xs.length + 1 ∧ atOk l p' := by
  unfold spec_l1Bend.f
  by_cases c : (xs.length : Int) = 0
  · simp only [if_pos c]
    exact ⟨_, _, _, rfl, hx, by omega, h⟩
  simp only [if_neg c]
  obtain ⟨v1, p1, s1, e1, b1, h1⟩ := l1Below_ok l p s 5 hl h (by omega)
  simp only [e1, Option.bind_some]
  by_cases c0 : v1 = 0
  · obtain ⟨v2, p2, s2, e2, b2, h2⟩ := l1Below_ok l p1 s1 (xs.length : Int) hl h1 (by omega)
    obtain ⟨v3, p3, s3, e3, b3, h3⟩ := l1Int_ok l p2 s2 [0, 1, 2, 4, 5, 6, 48, 127, 128, 129, 160, 255] hl h2 (by decide)
    simp only [if_pos c0, e2, e3, Option.bind_some, if_pos b2.1, if_pos b2.2]
    exact ⟨_, _, _, rfl, bys_set hx _ (by omega), by rw [List.length_set]; omega, h3⟩
  by_cases c1 : v1 = 1
  · simp only [if_neg c0, if_pos c1, if_pos (show xs.length < 140737488355328 by omega)]
    exact ⟨_, _, _, rfl, bys_app hx (bys_one (by omega)), by simp, h1⟩
  by_cases c2 : v1 = 2
  · obtain ⟨v2, p2, s2, e2, b2, h2⟩ := l1Below_ok l p1 s1 (xs.length : Int) hl h1 (by omega)
    simp only [if_neg c0, if_neg c1, if_pos c2, e2, Option.bind_some, if_pos b2.1, if_pos (show v2 ≤ (xs.length : Int) by omega)]
    exact ⟨_, _, _, rfl, bys_take hx _, by rw [List.length_take]; omega, h2⟩
  · simp only [if_neg c0, if_neg c1, if_neg c2]
    exact ⟨_, _, _, rfl, hx, by omega, h1⟩

def oids : List Int := [0, 1, 2, 3, 127, 128, 16384, 100000]
theorem l2Draw_loop (l : List Int) (hl : l.length ≤ 1048576) (n : Nat) : ∀ (x : List Int) (p s : Int), n ≤ 10 → x.length + n ≤ 1000 → atOk l p →
    ∃ o p' s', Ev (fun k => spec_l2Draw.l0 k x (n : Int) l p s) (o, p', s') ∧ o.length = x.length + n ∧ atOk l p' := by
  induction n with
  | zero =>
    intro x p s _ _ h
    refine ⟨x, p, s, Ev.succ ?_, by omega, h⟩
    simp only [spec_l2Draw.l0]
    simp only [if_neg (show ¬ ((0 : Nat) : Int) > 0 by omega)]
    exact Ev.now _
  | succ n ih =>
    intro x p s hn hx h
    obtain ⟨v1, p1, s1, e1, b1, h1⟩ := l1Int_ok l p s oids hl h (by decide)
    obtain ⟨o, p', s', e, ho, hp⟩ := ih (x ++ [v1]) p1 s1 (by omega) (by simp only [List.length_append, List.length_cons, List.length_nil]; omega) h1
    refine ⟨o, p', s', Ev.succ ?_, by simp only [List.length_append, List.length_cons, List.length_nil] at ho; omega, hp⟩
    unfold oids at e1
    simp only [spec_l2Draw.l0]
    simp only [if_pos (show ((n + 1 : Nat) : Int) > 0 by omega), e1, Option.bind_some, if_pos (show x.length < 17592186044416 by omega), show ((n + 1 : Nat) : Int) - 1 = (n : Int) by omega, w64 (x := (n : Int)) (by omega) (by omega)]
    exact e
theorem l2Draw_ok (l : List Int) (p s : Int) (hl : l.length ≤ 1048576) (h : atOk l p) : ∃ o p' s', Ev (fun k => spec_l2Draw.f k l p s) (o, p', s') ∧ (1 ≤ o.length ∧ o.length ≤ 6) ∧ atOk l p' := by
  unfold spec_l2Draw.f
  obtain ⟨v1, p1, s1, e1, b1, h1⟩ := l1Below_ok l p s 6 hl h (by omega)
  rw [e1]
  simp only [Option.bind_some]
  obtain ⟨n, hn⟩ := Int.eq_ofNat_of_zero_le (show 0 ≤ 1 + v1 by omega)
  obtain ⟨o, p', s', e, ho, hp⟩ := l2Draw_loop l hl n [] p1 s1 (by omega) (by simp only [List.length_nil]; omega) h1
  rw [w64 (by omega) (by omega), hn]
  exact ⟨o, p', s', e, by simp only [List.length_nil] at ho; omega, hp⟩
theorem l2Any_loop (l : List Int) (hl : l.length ≤ 1048576) (n : Nat) : ∀ (x : List Int) (p s : Int), 11 - x.length ≤ n → x.length ≤ 11 → atOk l p →
    ∃ o p' s', Ev (fun k => spec_l2Any.l0 k x l p s) (o, p', s') ∧ o.length ≤ 11 ∧ atOk l p' := by
  induction n with
  | zero =>
    intro x p s hn hx h
    obtain ⟨v1, p1, s1, e1, b1, h1⟩ := l1Below_ok l p s 2 hl h (by omega)
    refine ⟨x, p1, s1, Ev.succ ?_, hx, h1⟩
    simp only [spec_l2Any.l0]
    simp only [e1, Option.bind_some, w64 (x := 10 + v1) (by omega) (by omega), if_neg (show ¬ (x.length : Int) < 10 + v1 by omega)]
    exact Ev.now _
  | succ n ih =>
    intro x p s hn hx h
    obtain ⟨v1, p1, s1, e1, b1, h1⟩ := l1Below_ok l p s 2 hl h (by omega)
    by_cases c : (x.length : Int) < 10 + v1
    · obtain ⟨o, p', s', e, ho, hp⟩ := ih (x ++ [1]) p1 s1 (by simp only [List.length_append, List.length_cons, List.length_nil]; omega) (by simp only [List.length_append, List.length_cons, List.length_nil]; omega) h1
      refine ⟨o, p', s', Ev.succ ?_, ho, hp⟩
      simp only [spec_l2Any.l0]
      simp only [e1, Option.bind_some, w64 (x := 10 + v1) (by omega) (by omega), if_pos c, if_pos (show x.length < 17592186044416 by omega)]
      exact e
    · refine ⟨x, p1, s1, Ev.succ ?_, hx, h1⟩
      simp only [spec_l2Any.l0]
      simp only [e1, Option.bind_some, w64 (x := 10 + v1) (by omega) (by omega), if_neg c]
      exact Ev.now _
theorem l2Any_ok (l : List Int) (p s : Int) (hl : l.length ≤ 1048576) (h : atOk l p) : ∃ o p' s', Ev (fun k => spec_l2Any.f k l p s) (o, p', s') ∧ o.length ≤ 11 ∧ atOk l p' := by
  unfold spec_l2Any.f
  obtain ⟨o1, p1, s1, e1, b1, h1⟩ := l2Draw_ok l p s hl h
  obtain ⟨v2, p2, s2, e2, b2, h2⟩ := l1Below_ok l p1 s1 10 hl h1 (by omega)
  by_cases c0 : v2 = 0
  · refine ⟨[], p2, s2, Ev.bind e1 ?_, by simp, h2⟩
    simp only [e2, Option.bind_some, if_pos c0]
    exact Ev.now _
  by_cases c1 : v2 = 1
  · obtain ⟨v3, p3, s3, e3, b3, h3⟩ := l1Int_ok l p2 s2 [-1, 100001] hl h2 (by decide)
    refine ⟨o1.set (0 : Int).toNat v3, p3, s3, Ev.bind e1 ?_, by rw [List.length_set]; omega, h3⟩
    simp only [e2, Option.bind_some, if_neg c0, if_pos c1, e3, if_pos (show 0 < (o1.length : Int) by omega)]
    exact Ev.now _
  by_cases c2 : v2 = 2
  · obtain ⟨o, p', s', e, ho, hp⟩ := l2Any_loop l hl 11 o1 p2 s2 (by omega) (by omega) h2
    refine ⟨o, p', s', Ev.bind e1 ?_, ho, hp⟩
    simp only [e2, Option.bind_some, if_neg c0, if_neg c1, if_pos c2]
    exact e
  · refine ⟨o1, p2, s2, Ev.bind e1 ?_, by omega, h2⟩
    simp only [e2, Option.bind_some, if_neg c0, if_neg c1, if_neg c2]
    exact Ev.now _

theorem emptyStr : (⟨#[]⟩ : ByteArray).toList = ([] : List UInt8) := by decide +kernel

theorem l1Str_mem (l : List Int) (p s : Int) (xs : List ByteArray) (hl : l.length ≤ 1048576) (h : atOk l p) (hx : 0 < xs.length) (hx2 : xs.length ≤ 1000) : ∃ v p' s', spec_l1Str.f l p s xs = some (v, p', s') ∧ v ∈ xs ∧ atOk l p' := by
  unfold spec_l1Str.f
  obtain ⟨v1, p1, s1, e1, b1, h1⟩ := l1Below_ok l p s (xs.length : Int) hl h (by omega)
  simp only [e1, Option.bind_some, if_pos b1.1, if_pos b1.2]
  refine ⟨_, _, _, rfl, ?_, h1⟩
  unfold rdOf
  rw [List.getD_eq_getElem?_getD, List.getElem?_eq_getElem (by omega)]
  exact List.getElem_mem _
theorem oidText_size (o : List Int) : (oidText o).size ≤ 220 := by
  unfold oidText
  by_cases c : oidOk o = true
  · rw [if_pos c]
    obtain ⟨hr, _, h10⟩ := oid_in c
    have := joinB_len o hr
    show (Go.Lib.join (o.map Go.Lib.itoa) [46]).toArray.size ≤ 220
    rw [List.size_toArray]
    omega
  · rw [if_neg c]
    decide
theorem drawPutOid_ok (l : List Int) (hl : l.length ≤ 1048576) : ∃ o, Ev (fun k => spec_DrawPutOid.f k l) o ∧ o.length ≤ 11 := by
  unfold spec_DrawPutOid.f
  obtain ⟨s0, e0⟩ := l1New_ok l hl
  obtain ⟨o, p2, s2, e2, n2, h2⟩ := l2Any_ok l 0 s0 hl (at0 l)
  exact ⟨o, Ev.bind e0 (Ev.bind e2 (Ev.now _)), n2⟩
theorem drawGetOid_ok (l : List Int) (hl : l.length ≤ 1048576) : ∃ c, Ev (fun k => spec_DrawGetOid.f k l) c ∧ bys c ∧ c.length ≤ 100 := by
  unfold spec_DrawGetOid.f
  obtain ⟨s0, e0⟩ := l1New_ok l hl
  obtain ⟨o, p2, s2, e2, n2, h2⟩ := l2Draw_ok l 0 s0 hl (at0 l)
  have hp := putOid_len o
  obtain ⟨c, p3, s3, e3, b3, n3, h3⟩ := l1Bend_ok l p2 s2 (putOid o) hl h2 (putOid_bytes o) (by omega)
  exact ⟨c, Ev.bind e0 (Ev.bind e2 (Ev.bind (sPutOid_ev o (by omega)) (Ev.bind (Ev.some_ e3) (Ev.now _)))), b3, by omega⟩
theorem drawParseOid_ok (l : List Int) (hl : l.length ≤ 1048576) : ∃ t, Ev (fun k => spec_DrawParseOid.f k l) t ∧ t.size ≤ 1000 := by
  unfold spec_DrawParseOid.f
  obtain ⟨s0, e0⟩ := l1New_ok l hl
  obtain ⟨o, p2, s2, e2, n2, h2⟩ := l2Draw_ok l 0 s0 hl (at0 l)
  have ht := oidText_size o
  obtain ⟨v, p3, s3, e3, b3, h3⟩ := l1Below_ok l p2 s2 4 hl h2 (by omega)
  have e4 := sOidText_ev o (by omega)
  by_cases c0 : v = 0
  · obtain ⟨t, p5, s5, e5, m5, _⟩ := l1Str_mem l p3 s3 (([(⟨#[]⟩ : ByteArray), (⟨#[46]⟩ : ByteArray), (⟨#[49, 46]⟩ : ByteArray), (⟨#[48, 49, 46, 50]⟩ : ByteArray), (⟨#[49, 46, 46, 50]⟩ : ByteArray), (⟨#[49, 48, 48, 48, 48, 49]⟩ : ByteArray), (⟨#[120]⟩ : ByteArray), (⟨#[49, 46, 50, 46, 51, 46, 52, 46, 53, 46, 54, 46, 55, 46, 56, 46, 57, 46, 49, 48, 46, 49, 49]⟩ : ByteArray), (⟨#[57, 57, 57, 57, 57, 57, 57, 57]⟩ : ByteArray)] : List ByteArray)) hl h3 (by decide) (by decide)
    refine ⟨t, Ev.bind e0 (Ev.bind e2 (Ev.bind e4 (Ev.bind (Ev.some_ e3) ?_))), ?_⟩
    · simp only [if_pos c0]
      exact Ev.bind (Ev.some_ e5) (Ev.now _)
    · have hall : ∀ x ∈ ([(⟨#[]⟩ : ByteArray), (⟨#[46]⟩ : ByteArray), (⟨#[49, 46]⟩ : ByteArray), (⟨#[48, 49, 46, 50]⟩ : ByteArray), (⟨#[49, 46, 46, 50]⟩ : ByteArray), (⟨#[49, 48, 48, 48, 48, 49]⟩ : ByteArray), (⟨#[120]⟩ : ByteArray), (⟨#[49, 46, 50, 46, 51, 46, 52, 46, 53, 46, 54, 46, 55, 46, 56, 46, 57, 46, 49, 48, 46, 49, 49]⟩ : ByteArray), (⟨#[57, 57, 57, 57, 57, 57, 57, 57]⟩ : ByteArray)] : List ByteArray), x.size ≤ 1000 := by
        intro x hx
        simp only [List.mem_cons, List.not_mem_nil, or_false] at hx
        rcases hx with rfl | rfl | rfl | rfl | rfl | rfl | rfl | rfl | rfl <;> decide
      exact hall t m5
  · by_cases c1 : v = 1
    · obtain ⟨t, p5, s5, e5, m5, _⟩ := l1Str_mem l p3 s3 (([(⟨#[46]⟩ : ByteArray), (⟨#[48]⟩ : ByteArray), (⟨#[46, 120]⟩ : ByteArray), (⟨#[46, 48]⟩ : ByteArray)] : List ByteArray)) hl h3 (by decide) (by decide)
      have hall : ∀ x ∈ ([(⟨#[46]⟩ : ByteArray), (⟨#[48]⟩ : ByteArray), (⟨#[46, 120]⟩ : ByteArray), (⟨#[46, 48]⟩ : ByteArray)] : List ByteArray), x.size ≤ 2 := by
        intro x hx
        simp only [List.mem_cons, List.not_mem_nil, or_false] at hx
        rcases hx with rfl | rfl | rfl | rfl <;> decide
      have h5 := hall t m5
      refine ⟨oidText o ++ t, Ev.bind e0 (Ev.bind e2 (Ev.bind e4 (Ev.bind (Ev.some_ e3) ?_))), ?_⟩
      · simp only [if_neg c0, if_pos c1]
        refine Ev.bind (Ev.some_ e5) ?_
        simp only [if_pos (show (oidText o).size + t.size ≤ 9223372036854775807 by omega)]
        exact Ev.now _
      · rw [ByteArray.size_append]
        omega
    · refine ⟨oidText o, Ev.bind e0 (Ev.bind e2 (Ev.bind e4 (Ev.bind (Ev.some_ e3) ?_))), by omega⟩
      simp only [if_neg c0, if_neg c1]
      exact Ev.now _
theorem parse_back (a : ByteArray) (h : (specParse a.data.toList).2 = true) : oidText (specParse a.data.toList).1 = a := by
  unfold specParse at h ⊢
  by_cases c : oidOk ((pcs a.data.toList).map parse7) = true
  · rw [if_pos c]
    obtain ⟨hr, _, _⟩ := oid_in c
    show oidText ((pcs a.data.toList).map parse7) = a
    unfold oidText oidB
    rw [if_pos c, List.map_map]
    have e : (pcs a.data.toList).map (Go.Lib.itoa ∘ parse7) = pcs a.data.toList := by
      conv => rhs; rw [← List.map_id (pcs a.data.toList)]
      exact List.map_congr_left fun p hp => (itoa_of_parse7 p (hr _ (List.mem_map_of_mem hp))).1
    rw [e, join_pcs]
  · rw [if_neg c] at h
    simp at h
theorem parse_text (o : List Int) (h : oidOk o = true) : specParse (oidText o).data.toList = (o, true) := by
  obtain ⟨h1, h2⟩ := pcs_text o h
  unfold specParse oidText
  rw [if_pos h, h1, h2, if_pos h]
theorem oids_j0 (o : List Int) (h : o.length ≤ 11) : Ev (fun k => laws_FnOids.j0 k o (putOid o) (oidText o) false) true := by
  refine Ev.succ ?_
  simp only [laws_FnOids.j0, Bool.false_eq_true, if_false]
  refine Ev.bind (sOidOk_ev o (by omega)) ?_
  have hi := iOidOk_ev o (by omega)
  by_cases c : oidOk o = true
  · simp only [if_pos c]
    refine Ev.bind (getOid_back o c).1 ?_
    have hp := iParseOid_ev (oidText o) (by have := oidText_size o; omega)
    rw [parse_text o c] at hp
    refine Ev.bind hp ?_
    simp only [if_true]
    refine Ev.bind (iSameOid_ev o o (by omega)) ?_
    simp only [decide_true, if_true]
    refine Ev.bind (iSameOid_ev o o (by omega)) ?_
    simp only [decide_true, if_true]
    rw [c] at hi
    exact Ev.bind hi (Ev.now _)
  · simp only [if_neg c]
    have e1 : putOid o = [] := by unfold putOid; rw [if_neg c]
    have e2 : oidText o = ⟨#[]⟩ := by unfold oidText; rw [if_neg c]
    rw [e1, e2]
    simp only [Bool.not_eq_true] at c
    rw [c] at hi
    simp only [List.length_nil, Int.natCast_zero, if_true, show (⟨#[]⟩ : ByteArray).toList = ([] : List UInt8) from emptyStr]
    exact Ev.bind hi (Ev.now _)

theorem FnOids : laws_FnOids.Pure := by
  intro l0 _ _
  refine Ev.rounds ?_
  unfold laws_FnOids.f
  unfold laws_big.f
  simp only [Option.bind_some]
  by_cases hbig : (l0.length : Int) > 1048576
  · simp only [decide_eq_true hbig, if_true]
    exact Ev.now _
  have hsm : l0.length ≤ 1048576 := by omega
  simp only [decide_eq_false hbig, Bool.false_eq_true, if_false]
  obtain ⟨o, hD, no⟩ := drawPutOid_ok l0 hsm
  obtain ⟨c, hG, hc, nc⟩ := drawGetOid_ok l0 hsm
  obtain ⟨t, hT, nt⟩ := drawParseOid_ok l0 hsm
  obtain ⟨R, hs, hi, nR⟩ := getOid_both c hc (by omega)
  have hr := getOid_read c hc (by omega) R hi
  have hpi := iParseOid_ev t (by omega)
  have hps := sParseOid_ev t (by omega)
  have hS := parse_back t
  have nS := specParse_len t.data.toList
  generalize specParse t.data.toList = S at hpi hps hS nS
  refine Ev.bind hD (Ev.bind (iPutOid_ev o (by omega)) (Ev.bind (iOidText_ev o (by omega)) (Ev.bind hG (Ev.bind hT (Ev.bind hi (Ev.bind hs (Ev.bind hpi (Ev.bind hps ?_))))))))
  have hj := oids_j0 o no
  simp only [bne_self_eq_false, Bool.false_eq_true, if_false]
  have hend : Ev (fun k => if S.2 = true then (impl_OidText.f k S.1).bind fun z => laws_FnOids.j0 k o (putOid o) (oidText o) (z.toList != t.toList) else laws_FnOids.j0 k o (putOid o) (oidText o) false) true := by
    by_cases q : S.2 = true
    · simp only [if_pos q]
      refine Ev.bind (iOidText_ev S.1 (by omega)) ?_
      rw [hS q, bne_self_eq_false]
      exact hj
    · simp only [if_neg q]
      exact hj
  by_cases q : R.2 = true
  · simp only [if_pos q]
    refine Ev.bind (iPutOid_ev R.1 (by omega)) ?_
    rw [hr q]
    refine Ev.bind (sameBytes_ev c c (by omega)) ?_
    simp only [decide_true, if_true]
    exact hend
  · simp only [if_neg q]
    exact hend

end Go.Proofs.YtgjhmbneikpiaaaDoor.Pure
