/- The pure side of FnOidOrder: the order of the OIDs is a strict one, and what lies below a head comes behind it. No conditions but those of the given statement. -/
import Derived.Test.YtndfokcnogpeiaaXFnOidOrderx3
namespace Go.Proofs.Ytndfokcnogpeiaa.Pure
open Go.RowKit Go.Proofs.Ytndfokcnogpeiaa.XFnOidOrder Go.Proofs.YtndfokcnogpeiaaW.PrintWords Go.Proofs.YtndfokcnogpeiaaW.PrintLast Go.Proofs.YtndfokcnogpeiaaW.PrintMore
set_option linter.unusedVariables false
set_option linter.unusedSimpArgs false

theorem w64 {x : Int} (h0 : -9223372036854775808 ≤ x) (h1 : x ≤ 9223372036854775807) : wrap64 x = x := by
  unfold wrap64
  omega
theorem wf64 {x : Int} (h : (Lit.int .i64 x).wf = true) : -9223372036854775808 ≤ x ∧ x ≤ 9223372036854775807 := by
  simp only [Lit.wf, Bool.and_eq_true, decide_eq_true_eq] at h
  exact h
theorem wf8 {x : Int} (h : (Lit.int .u8 x).wf = true) : 0 ≤ x ∧ x ≤ 255 := by
  simp only [Lit.wf, Bool.and_eq_true, decide_eq_true_eq] at h
  exact h
theorem rd_mid (pre rest : List Int) (r : Int) : rd (pre ++ r :: rest) (pre.length : Int) = r := by
  unfold rd
  simp [List.getD_eq_getElem?_getD]
theorem set_mid {α : Type} (pre rest : List α) (r v : α) : (pre ++ r :: rest).set (pre.length : Int).toNat v = pre ++ v :: rest := by
  rw [Int.toNat_natCast, List.set_append_right _ _ (Nat.le_refl _)]
  simp
theorem succ_of {d k : Nat} (h : d < k) : ∃ m, k = m + 1 := ⟨k - 1, by omega⟩
theorem Ev.at_ {α : Type} {g : Nat → Option α} {r : α} (n : Nat) (h : ∀ k, n < k → g k = some r) : Ev g r := ⟨n + 1, fun k hk => h k (by omega)⟩
theorem Ev.some_ {α : Type} {v : Option α} {r : α} (h : v = some r) : Ev (fun _ => v) r := ⟨0, fun _ _ => h⟩
theorem Ev.succ {α : Type} {g : Nat → Option α} {r : α} (h : Ev (fun k => g (k + 1)) r) : Ev g r := by
  obtain ⟨K, h⟩ := h
  refine ⟨K + 1, fun n hn => ?_⟩
  obtain ⟨m, rfl⟩ : ∃ m, n = m + 1 := ⟨n - 1, by omega⟩
  exact h m (by omega)
theorem Ev.some_const {α : Type} {g : Nat → Option α} {r : α} (h : ∀ k, g k = some r) : Ev g r := ⟨0, fun k _ => h k⟩

def lessOid : List Int → List Int → Bool
  | [], [] => false
  | [], _ :: _ => true
  | _ :: _, [] => false
  | r :: a, s :: b => if r = s then lessOid a b else decide (r < s)

theorem iLessOid_loop (a : List Int) : ∀ (b pre pre' : List Int) (k : Nat), pre.length = pre'.length → pre.length + a.length ≤ 1099511627776 → 2 * a.length + 1 < k →
    impl_LessOid.l0 k (pre ++ a) (pre' ++ b) (pre.length : Int) = some (lessOid a b) := by
  induction a with
  | nil =>
    intro b pre pre' k hp hn hk
    obtain ⟨k, rfl⟩ := succ_of hk
    obtain ⟨k, rfl⟩ : ∃ m, k = m + 1 := ⟨k - 1, by omega⟩
    simp only [impl_LessOid.l0]
    rw [if_neg (by simp only [List.length_append, List.length_nil]; omega)]
    simp only [impl_LessOid.j1]
    rw [if_neg (by simp)]
    cases b with
    | nil => simp [lessOid, hp]
    | cons s b => simp only [lessOid, List.length_append, List.length_nil, List.length_cons, Option.some.injEq, decide_eq_true_eq]; omega
  | cons r a ih =>
    intro b pre pre' k hp hn hk
    simp only [List.length_cons] at hn hk
    obtain ⟨k, rfl⟩ := succ_of hk
    obtain ⟨k, rfl⟩ : ∃ m, k = m + 1 := ⟨k - 1, by omega⟩
    simp only [impl_LessOid.l0]
    rw [if_pos (by simp only [List.length_append, List.length_cons]; omega)]
    simp only [impl_LessOid.j1]
    cases b with
    | nil =>
      rw [if_neg (by simp only [decide_eq_true_eq, List.length_append, List.length_nil]; omega)]
      simp only [lessOid, List.length_append, List.length_nil, List.length_cons, Option.some.injEq, decide_eq_false_iff_not]; omega
    | cons s b =>
      have e : rd (pre' ++ s :: b) (pre.length : Int) = s := by rw [hp, rd_mid]
      rw [if_pos (by simp only [decide_eq_true_eq, List.length_append, List.length_cons]; omega), if_pos (by omega), if_pos (by simp only [List.length_append, List.length_cons]; omega), if_pos (by simp only [List.length_append, List.length_cons]; omega), rd_mid, e]
      simp only [lessOid]
      by_cases hrs : r = s
      · subst hrs
        rw [if_pos rfl, if_pos rfl, w64 (by omega) (by omega)]
        have h := ih b (pre ++ [r]) (pre' ++ [r]) k (by simp [hp]) (by simp only [List.length_append, List.length_cons, List.length_nil]; omega) (by omega)
        simpa using h
      · rw [if_neg hrs, if_neg hrs]
theorem iLessOid_ev (a b : List Int) (h : a.length ≤ 1099511627776) : Ev (fun k => impl_LessOid.f k a b) (lessOid a b) := by
  refine Ev.at_ (2 * a.length + 1) fun k hk => ?_
  simp only [impl_LessOid.f]
  have h := iLessOid_loop a b [] [] k rfl (by simp only [List.length_nil]; omega) hk
  simpa using h

theorem sSameOid_loop (a : List Int) : ∀ (b pre pre' : List Int) (k : Nat), pre.length = pre'.length → a.length = b.length → pre.length + a.length ≤ 1099511627776 → a.length < k →
    spec_SameOid.l0 k (pre ++ a) (pre' ++ b) (pre.length : Int) = some (decide (a = b)) := by
  induction a with
  | nil =>
    intro b pre pre' k hp hab hn hk
    obtain ⟨k, rfl⟩ := succ_of hk
    obtain rfl : b = [] := List.eq_nil_of_length_eq_zero hab.symm
    simp only [spec_SameOid.l0]
    rw [if_neg (by simp only [List.length_append, List.length_nil] at *; omega)]
    simp
  | cons r a ih =>
    intro b pre pre' k hp hab hn hk
    obtain ⟨k, rfl⟩ := succ_of hk
    cases b with
    | nil => simp at hab
    | cons s b =>
      simp only [List.length_cons] at hab hn hk
      simp only [spec_SameOid.l0]
      have e : rd (pre' ++ s :: b) (pre.length : Int) = s := by rw [hp, rd_mid]
      rw [if_pos (by simp only [List.length_append, List.length_cons]; omega), if_pos (by omega), if_pos (by simp only [List.length_append, List.length_cons]; omega), rd_mid, e]
      by_cases hrs : r = s
      · subst hrs
        rw [if_pos rfl, w64 (by omega) (by omega)]
        have h := ih b (pre ++ [r]) (pre' ++ [r]) k (by simp [hp]) (by omega) (by simp only [List.length_append, List.length_cons, List.length_nil]; omega) (by omega)
        simpa using h
      · rw [if_neg hrs]
        simp [hrs]
theorem sSameOid_ev (a b : List Int) (h : a.length ≤ 1099511627776) : Ev (fun k => spec_SameOid.f k a b) (decide (a = b)) := by
  refine Ev.at_ a.length fun k hk => ?_
  simp only [spec_SameOid.f]
  by_cases e : a.length = b.length
  · rw [if_pos (by omega)]
    have h := sSameOid_loop a b [] [] k rfl e (by simp only [List.length_nil]; omega) hk
    simpa using h
  · rw [if_neg (by omega)]
    have hne : ¬ a = b := fun h => e (by rw [h])
    simp [hne]

theorem iSameOid_loop (a : List Int) : ∀ (b pre pre' : List Int) (m : Int) (k : Nat), pre.length = pre'.length → a.length = b.length → pre.length + a.length ≤ 1099511627776 → m = (pre.length : Int) + (a.length : Int) → a.length < k →
    impl_SameOid.l0 k (pre ++ a) (pre' ++ b) m (pre.length : Int) = some (decide (a = b)) := by
  induction a with
  | nil =>
    intro b pre pre' m k hp hab hn hm hk
    obtain ⟨k, rfl⟩ := succ_of hk
    obtain rfl : b = [] := List.eq_nil_of_length_eq_zero hab.symm
    simp only [impl_SameOid.l0]
    rw [if_neg (by simp only [List.length_append, List.length_nil] at *; omega)]
    simp
  | cons r a ih =>
    intro b pre pre' m k hp hab hn hm hk
    obtain ⟨k, rfl⟩ := succ_of hk
    cases b with
    | nil => simp at hab
    | cons s b =>
      simp only [List.length_cons] at hab hn hk hm
      simp only [impl_SameOid.l0]
      have e : rd (pre' ++ s :: b) (pre.length : Int) = s := by rw [hp, rd_mid]
      rw [if_pos (by omega), if_pos (by omega), if_pos (by simp only [List.length_append, List.length_cons]; omega), if_pos (by simp only [List.length_append, List.length_cons]; omega), rd_mid, e]
      by_cases hrs : r = s
      · subst hrs
        rw [if_pos rfl, w64 (by omega) (by omega)]
        have h := ih b (pre ++ [r]) (pre' ++ [r]) m k (by simp [hp]) (by omega) (by simp only [List.length_append, List.length_cons, List.length_nil]; omega) (by simp only [List.length_append, List.length_cons, List.length_nil]; omega) (by omega)
        simpa using h
      · rw [if_neg hrs]
        simp [hrs]
theorem iSameOid_ev (a b : List Int) (h : a.length ≤ 1099511627776) : Ev (fun k => impl_SameOid.f k a b) (decide (a = b)) := by
  refine Ev.at_ a.length fun k hk => ?_
  simp only [impl_SameOid.f]
  by_cases e : a.length = b.length
  · rw [if_pos (by omega)]
    have h := iSameOid_loop a b [] [] (a.length : Int) k rfl e (by simp only [List.length_nil]; omega) (by simp) hk
    simpa using h
  · rw [if_neg (by omega)]
    have hne : ¬ a = b := fun h => e (by rw [h])
    simp [hne]

theorem sameInts_loop (a : List Int) : ∀ (b pre pre' : List Int) (k : Nat), pre.length = pre'.length → a.length = b.length → pre.length + a.length ≤ 1099511627776 → a.length < k →
    laws_sameInts.l0 k (pre ++ a) (pre' ++ b) (pre.length : Int) = some (decide (a = b)) := by
  induction a with
  | nil =>
    intro b pre pre' k hp hab hn hk
    obtain ⟨k, rfl⟩ := succ_of hk
    obtain rfl : b = [] := List.eq_nil_of_length_eq_zero hab.symm
    simp only [laws_sameInts.l0]
    rw [if_neg (by simp only [List.length_append, List.length_nil] at *; omega)]
    simp
  | cons r a ih =>
    intro b pre pre' k hp hab hn hk
    obtain ⟨k, rfl⟩ := succ_of hk
    cases b with
    | nil => simp at hab
    | cons s b =>
      simp only [List.length_cons] at hab hn hk
      simp only [laws_sameInts.l0]
      have e : rd (pre' ++ s :: b) (pre.length : Int) = s := by rw [hp, rd_mid]
      rw [if_pos (by simp only [List.length_append, List.length_cons]; omega), if_pos (by omega), if_pos (by simp only [List.length_append, List.length_cons]; omega), rd_mid, e]
      by_cases hrs : r = s
      · subst hrs
        rw [if_pos rfl, w64 (by omega) (by omega)]
        have h := ih b (pre ++ [r]) (pre' ++ [r]) k (by simp [hp]) (by omega) (by simp only [List.length_append, List.length_cons, List.length_nil]; omega) (by omega)
        simpa using h
      · rw [if_neg hrs]
        simp [hrs]
theorem sameInts_ev (a b : List Int) (h : a.length ≤ 1099511627776) : Ev (fun k => laws_sameInts.f k a b) (decide (a = b)) := by
  refine Ev.at_ a.length fun k hk => ?_
  simp only [laws_sameInts.f]
  by_cases e : a.length = b.length
  · rw [if_pos (by omega)]
    have h := sameInts_loop a b [] [] k rfl e (by simp only [List.length_nil]; omega) hk
    simpa using h
  · rw [if_neg (by omega)]
    have hne : ¬ a = b := fun h => e (by rw [h])
    simp [hne]

def below (o head : List Int) : Bool := decide (o.length > head.length) && decide (o.take head.length = head)
theorem sBelow_ev (o head : List Int) (h : o.length ≤ 1048576) : Ev (fun k => spec_Below.f k o head) (below o head) := by
  unfold spec_Below.f below
  by_cases e : (o.length : Int) > (head.length : Int)
  · simp only [if_pos e, Int.toNat_natCast]
    rw [decide_eq_true (p := o.length > head.length) (by omega), Bool.true_and]
    simp only [if_pos (show (0 : Int) ≤ (head.length : Int) by omega), if_pos (show (head.length : Int) ≤ (o.length : Int) by omega)]
    refine Ev.bind (sSameOid_ev _ _ (by simp only [List.length_take]; omega)) ?_
    exact Ev.now _
  · simp only [if_neg e]
    rw [decide_eq_false (p := o.length > head.length) (by omega), Bool.false_and]
    exact Ev.now _
theorem iBelow_ev (o head : List Int) (h : o.length ≤ 1048576) : Ev (fun k => impl_Below.f k o head) (below o head) := by
  unfold impl_Below.f below
  by_cases e : (o.length : Int) > (head.length : Int)
  · simp only [if_pos e, Int.toNat_natCast]
    rw [decide_eq_true (p := o.length > head.length) (by omega), Bool.true_and]
    simp only [if_pos (show (0 : Int) ≤ (head.length : Int) by omega), if_pos (show (head.length : Int) ≤ (o.length : Int) by omega)]
    refine Ev.bind (iSameOid_ev _ _ (by simp only [List.length_take]; omega)) ?_
    exact Ev.now _
  · simp only [if_neg e]
    rw [decide_eq_false (p := o.length > head.length) (by omega), Bool.false_and]
    exact Ev.now _

theorem less_self (a : List Int) : lessOid a a = false := by
  induction a with
  | nil => rfl
  | cons r a ih => simp only [lessOid, if_true, ih]
theorem less_asym : ∀ a b : List Int, lessOid a b = true → lessOid b a = false
  | [], [], h => by simp [lessOid] at h
  | [], _ :: _, _ => rfl
  | _ :: _, [], h => by simp [lessOid] at h
  | r :: a, s :: b, h => by
    simp only [lessOid] at h ⊢
    by_cases e : r = s
    · subst e
      simp only [if_true] at h ⊢
      exact less_asym a b h
    · rw [if_neg e] at h
      rw [if_neg (fun x => e x.symm)]
      simp only [decide_eq_true_eq] at h
      exact decide_eq_false (by omega)
theorem less_or : ∀ a b : List Int, lessOid a b = false → lessOid b a = false → a = b
  | [], [], _, _ => rfl
  | [], _ :: _, h, _ => by simp [lessOid] at h
  | _ :: _, [], _, h => by simp [lessOid] at h
  | r :: a, s :: b, h, h' => by
    simp only [lessOid] at h h'
    by_cases e : r = s
    · subst e
      simp only [if_true] at h h'
      rw [less_or a b h h']
    · rw [if_neg e] at h
      rw [if_neg (fun x => e x.symm)] at h'
      simp only [decide_eq_false_iff_not] at h h'
      omega
theorem less_pre : ∀ (a b : List Int), b ≠ [] → lessOid a (a ++ b) = true
  | [], [], h => absurd rfl h
  | [], _ :: _, _ => rfl
  | r :: a, b, h => by
    simp only [List.cons_append, lessOid, if_true]
    exact less_pre a b h
theorem below_less (o h : List Int) (e : below o h = true) : lessOid h o = true := by
  unfold below at e
  simp only [Bool.and_eq_true, decide_eq_true_eq] at e
  have ho : o = h ++ o.drop h.length := by
    conv => lhs; rw [← List.take_append_drop h.length o, e.2]
  rw [ho]
  refine less_pre h _ ?_
  intro z
  have := congrArg List.length z
  simp only [List.length_drop, List.length_nil] at this
  omega

/- a draw's state: the bytes, a place in them, a seed -/
def atOk (l : List Int) (p : Int) : Prop := 0 ≤ p ∧ p ≤ (l.length : Int)
theorem and_low (x : Int) (m : Nat) (hm : m < 9223372036854775808) : 0 ≤ Go.bits .and .i64 x (m : Int) ∧ Go.bits .and .i64 x (m : Int) ≤ m := by
  have e : m % 2 ^ IntKind.i64.bits = m := Nat.mod_eq_of_lt (show m < 2 ^ 64 by omega)
  simp only [Go.bits, BitVec.ofInt_natCast, BitVec.toNat_and, BitVec.toNat_ofNat, e]
  have h := Nat.and_le_right (n := (BitVec.ofInt IntKind.i64.bits x).toNat) (m := m)
  generalize (BitVec.ofInt IntKind.i64.bits x).toNat &&& m = q at h ⊢
  rw [IntKind.wrap_i64]
  omega
theorem and255 (x : Int) : 0 ≤ Go.bits .and .i64 x 255 ∧ Go.bits .and .i64 x 255 ≤ 255 := and_low x 255 (by decide)
theorem l1Byte_ok (l : List Int) (p s : Int) (hl : l.length ≤ 1048576) (h : atOk l p) : ∃ v p' s', spec_l1Byte.f l p s = some (v, p', s') ∧ (0 ≤ v ∧ v ≤ 255) ∧ atOk l p' := by
  unfold atOk at h
  unfold spec_l1Byte.f atOk
  by_cases c : p < (l.length : Int)
  · refine ⟨_, _, _, if_pos c |>.trans (if_pos h.1), and255 _, ?_⟩
    rw [w64 (by omega) (by omega)]
    omega
  · exact ⟨_, _, _, if_neg c, and255 _, h⟩
theorem l1Below_ok (l : List Int) (p s n : Int) (hl : l.length ≤ 1048576) (h : atOk l p) (hn : 0 < n) : ∃ v p' s', spec_l1Below.f l p s n = some (v, p', s') ∧ (0 ≤ v ∧ v < n) ∧ atOk l p' := by
  unfold spec_l1Below.f
  rw [if_neg (by omega)]
  obtain ⟨v1, p1, s1, e1, b1, h1⟩ := l1Byte_ok l p s hl h
  rw [e1]
  simp only [Option.bind_some, if_neg (show ¬ n = 0 by omega)]
  by_cases c : n ≤ 256
  · simp only [if_pos c]
    exact ⟨_, _, _, rfl, ⟨Int.tmod_nonneg _ b1.1, Int.tmod_lt_of_pos _ hn⟩, h1⟩
  · simp only [if_neg c]
    obtain ⟨v2, p2, s2, e2, b2, h2⟩ := l1Byte_ok l p1 s1 hl h1
    rw [e2]
    simp only [Option.bind_some]
    obtain ⟨v3, p3, s3, e3, b3, h3⟩ := l1Byte_ok l p2 s2 hl h2
    rw [e3]
    simp only [Option.bind_some]
    rw [w64 (x := v1 * 65536) (by omega) (by omega), w64 (x := v2 * 256) (by omega) (by omega), w64 (x := v1 * 65536 + v2 * 256) (by omega) (by omega), w64 (by omega) (by omega)]
    exact ⟨_, _, _, rfl, ⟨Int.tmod_nonneg _ (by omega), Int.tmod_lt_of_pos _ hn⟩, h3⟩
theorem rd_mem (xs : List Int) (i : Int) (h0 : 0 ≤ i) (h1 : i < (xs.length : Int)) : rd xs i ∈ xs := by
  unfold rd
  rw [List.getD_eq_getElem?_getD]
  have hi : i.toNat < xs.length := by omega
  rw [List.getElem?_eq_getElem hi]
  exact List.getElem_mem hi
theorem l1New_loop (l : List Int) (rest : List Int) : ∀ (pre : List Int) (s : Int), pre.length + rest.length ≤ 1048576 → ∃ s', Ev (fun k => spec_l1New.l0 k (pre ++ rest) s (pre.length : Int)) (pre ++ rest, 0, s') := by
  induction rest with
  | nil =>
    intro pre s _
    refine ⟨s, Ev.succ ?_⟩
    simp only [spec_l1New.l0]
    simp only [List.append_nil, if_neg (show ¬ (pre.length : Int) < (pre.length : Int) by omega)]
    exact Ev.now _
  | cons r rest ih =>
    intro pre s hn
    simp only [List.length_cons] at hn
    by_cases c : (pre.length : Int) < 4000
    · obtain ⟨s', h⟩ := ih (pre ++ [r]) (Go.bits .and .i64 (wrap64 ((wrap64 ((wrap64 (s * 137)) + (wrap64 r))) + 11)) 1073741823) (by simp only [List.length_append, List.length_cons, List.length_nil]; omega)
      simp only [List.append_assoc, List.cons_append, List.nil_append] at h
      rw [show ((pre ++ [r]).length : Int) = (pre.length : Int) + 1 by simp] at h
      refine ⟨s', Ev.succ ?_⟩
      simp only [spec_l1New.l0]
      simp only [if_pos (show (pre.length : Int) < ((pre ++ r :: rest).length : Int) by simp only [List.length_append, List.length_cons]; omega), if_pos c, if_pos (show (0 : Int) ≤ (pre.length : Int) by omega), rd_mid, w64 (x := (pre.length : Int) + 1) (by omega) (by omega)]
      exact h
    · refine ⟨s, Ev.succ ?_⟩
      simp only [spec_l1New.l0]
      simp only [if_pos (show (pre.length : Int) < ((pre ++ r :: rest).length : Int) by simp only [List.length_append, List.length_cons]; omega), if_neg c]
      exact Ev.now _
theorem l1New_ok (l : List Int) (hl : l.length ≤ 1048576) : ∃ s', Ev (fun k => spec_l1New.f k l) (l, 0, s') := by
  unfold spec_l1New.f
  have h := l1New_loop l l [] (wrap64 (762762 + (l.length : Int))) (by simp only [List.length_nil]; omega)
  simpa using h
theorem at0 (l : List Int) : atOk l 0 := ⟨by omega, by omega⟩

theorem l1Int_ok (l : List Int) (p s : Int) (xs : List Int) (hl : l.length ≤ 1048576) (h : atOk l p) (hx : 0 < xs.length) : ∃ v p' s', spec_l1Int.f l p s xs = some (v, p', s') ∧ v ∈ xs ∧ atOk l p' := by
  unfold spec_l1Int.f
  obtain ⟨v1, p1, s1, e1, b1, h1⟩ := l1Below_ok l p s (xs.length : Int) hl h (by omega)
  rw [e1]
  simp only [Option.bind_some, if_pos b1.1, if_pos b1.2]
  exact ⟨_, _, _, rfl, rd_mem xs v1 b1.1 b1.2, h1⟩

def oids : List Int := [0, 1, 2, 3, 127, 128, 16384, 100000]
theorem l2Draw_loop (l : List Int) (hl : l.length ≤ 1048576) (n : Nat) : ∀ (x : List Int) (p s : Int), n ≤ 10 → x.length + n ≤ 1000 → atOk l p →
    ∃ o p' s', Ev (fun k => spec_l2Draw.l0 k x (n : Int) l p s) (o, p', s') ∧ o.length = x.length + n ∧ atOk l p' := by
  induction n with
  | zero =>
    intro x p s _ _ h
    refine ⟨x, p, s, Ev.succ ?_, by omega, h⟩
    simp only [spec_l2Draw.l0]
    simp only [if_neg (show ¬ ((0 : Nat) : Int) > 0 by omega)]
    exact Ev.now _
  | succ n ih =>
    intro x p s hn hx h
    obtain ⟨v1, p1, s1, e1, b1, h1⟩ := l1Int_ok l p s oids hl h (by decide)
    obtain ⟨o, p', s', e, ho, hp⟩ := ih (x ++ [v1]) p1 s1 (by omega) (by simp only [List.length_append, List.length_cons, List.length_nil]; omega) h1
    refine ⟨o, p', s', Ev.succ ?_, by simp only [List.length_append, List.length_cons, List.length_nil] at ho; omega, hp⟩
    unfold oids at e1
    simp only [spec_l2Draw.l0]
    simp only [if_pos (show ((n + 1 : Nat) : Int) > 0 by omega), e1, Option.bind_some, if_pos (show x.length < 17592186044416 by omega), show ((n + 1 : Nat) : Int) - 1 = (n : Int) by omega, w64 (x := (n : Int)) (by omega) (by omega)]
    exact e
theorem l2Draw_ok (l : List Int) (p s : Int) (hl : l.length ≤ 1048576) (h : atOk l p) : ∃ o p' s', Ev (fun k => spec_l2Draw.f k l p s) (o, p', s') ∧ (1 ≤ o.length ∧ o.length ≤ 6) ∧ atOk l p' := by
  unfold spec_l2Draw.f
  obtain ⟨v1, p1, s1, e1, b1, h1⟩ := l1Below_ok l p s 6 hl h (by omega)
  rw [e1]
  simp only [Option.bind_some]
  obtain ⟨n, hn⟩ := Int.eq_ofNat_of_zero_le (show 0 ≤ 1 + v1 by omega)
  obtain ⟨o, p', s', e, ho, hp⟩ := l2Draw_loop l hl n [] p1 s1 (by omega) (by simp only [List.length_nil]; omega) h1
  rw [w64 (by omega) (by omega), hn]
  exact ⟨o, p', s', e, by simp only [List.length_nil] at ho; omega, hp⟩
theorem l2Any_loop (l : List Int) (hl : l.length ≤ 1048576) (n : Nat) : ∀ (x : List Int) (p s : Int), 11 - x.length ≤ n → x.length ≤ 11 → atOk l p →
    ∃ o p' s', Ev (fun k => spec_l2Any.l0 k x l p s) (o, p', s') ∧ o.length ≤ 11 ∧ atOk l p' := by
  induction n with
  | zero =>
    intro x p s hn hx h
    obtain ⟨v1, p1, s1, e1, b1, h1⟩ := l1Below_ok l p s 2 hl h (by omega)
    refine ⟨x, p1, s1, Ev.succ ?_, hx, h1⟩
    simp only [spec_l2Any.l0]
    simp only [e1, Option.bind_some, w64 (x := 10 + v1) (by omega) (by omega), if_neg (show ¬ (x.length : Int) < 10 + v1 by omega)]
    exact Ev.now _
  | succ n ih =>
    intro x p s hn hx h
    obtain ⟨v1, p1, s1, e1, b1, h1⟩ := l1Below_ok l p s 2 hl h (by omega)
    by_cases c : (x.length : Int) < 10 + v1
    · obtain ⟨o, p', s', e, ho, hp⟩ := ih (x ++ [1]) p1 s1 (by simp only [List.length_append, List.length_cons, List.length_nil]; omega) (by simp only [List.length_append, List.length_cons, List.length_nil]; omega) h1
      refine ⟨o, p', s', Ev.succ ?_, ho, hp⟩
      simp only [spec_l2Any.l0]
      simp only [e1, Option.bind_some, w64 (x := 10 + v1) (by omega) (by omega), if_pos c, if_pos (show x.length < 17592186044416 by omega)]
      exact e
    · refine ⟨x, p1, s1, Ev.succ ?_, hx, h1⟩
      simp only [spec_l2Any.l0]
      simp only [e1, Option.bind_some, w64 (x := 10 + v1) (by omega) (by omega), if_neg c]
      exact Ev.now _
theorem l2Any_ok (l : List Int) (p s : Int) (hl : l.length ≤ 1048576) (h : atOk l p) : ∃ o p' s', Ev (fun k => spec_l2Any.f k l p s) (o, p', s') ∧ o.length ≤ 11 ∧ atOk l p' := by
  unfold spec_l2Any.f
  obtain ⟨o1, p1, s1, e1, b1, h1⟩ := l2Draw_ok l p s hl h
  obtain ⟨v2, p2, s2, e2, b2, h2⟩ := l1Below_ok l p1 s1 10 hl h1 (by omega)
  by_cases c0 : v2 = 0
  · refine ⟨[], p2, s2, Ev.bind e1 ?_, by simp, h2⟩
    simp only [e2, Option.bind_some, if_pos c0]
    exact Ev.now _
  by_cases c1 : v2 = 1
  · obtain ⟨v3, p3, s3, e3, b3, h3⟩ := l1Int_ok l p2 s2 [-1, 100001] hl h2 (by decide)
    refine ⟨o1.set (0 : Int).toNat v3, p3, s3, Ev.bind e1 ?_, by rw [List.length_set]; omega, h3⟩
    simp only [e2, Option.bind_some, if_neg c0, if_pos c1, e3, if_pos (show 0 < (o1.length : Int) by omega)]
    exact Ev.now _
  by_cases c2 : v2 = 2
  · obtain ⟨o, p', s', e, ho, hp⟩ := l2Any_loop l hl 11 o1 p2 s2 (by omega) (by omega) h2
    refine ⟨o, p', s', Ev.bind e1 ?_, ho, hp⟩
    simp only [e2, Option.bind_some, if_neg c0, if_neg c1, if_pos c2]
    exact e
  · refine ⟨o1, p2, s2, Ev.bind e1 ?_, by omega, h2⟩
    simp only [e2, Option.bind_some, if_neg c0, if_neg c1, if_neg c2]
    exact Ev.now _
theorem drawSameOid_ok (l : List Int) (hl : l.length ≤ 1048576) : ∃ a b, Ev (fun k => spec_DrawSameOid.f k l) (a, b) ∧ a.length ≤ 11 ∧ b.length ≤ 12 := by
  unfold spec_DrawSameOid.f
  obtain ⟨s0, e0⟩ := l1New_ok l hl
  obtain ⟨o1, p1, s1, e1, b1, h1⟩ := l2Any_ok l 0 s0 hl (at0 l)
  obtain ⟨v2, p2, s2, e2, b2, h2⟩ := l1Below_ok l p1 s1 3 hl h1 (by omega)
  by_cases c0 : v2 = 0
  · refine ⟨o1, o1, Ev.bind e0 (Ev.bind e1 ?_), b1, by omega⟩
    simp only [e2, Option.bind_some, if_pos c0, List.length_nil, List.nil_append, if_pos (show 0 + o1.length < 17592186044416 by omega)]
    exact Ev.now _
  by_cases c1 : v2 = 1
  · obtain ⟨v3, p3, s3, e3, b3, h3⟩ := l1Below_ok l p2 s2 3 hl h2 (by omega)
    refine ⟨o1, o1 ++ [v3], Ev.bind e0 (Ev.bind e1 ?_), b1, by simp only [List.length_append, List.length_cons, List.length_nil]; omega⟩
    simp only [e2, Option.bind_some, if_neg c0, if_pos c1, List.length_nil, List.nil_append, if_pos (show 0 + o1.length < 17592186044416 by omega), e3, if_pos (show o1.length < 17592186044416 by omega)]
    exact Ev.now _
  · obtain ⟨o3, p3, s3, e3, b3, h3⟩ := l2Any_ok l p2 s2 hl h2
    refine ⟨o1, o3, Ev.bind e0 (Ev.bind e1 ?_), b1, by omega⟩
    simp only [e2, Option.bind_some, if_neg c0, if_neg c1]
    refine Ev.bind e3 ?_
    exact Ev.now _

theorem FnOidOrder : laws_FnOidOrder.Pure := by
  intro l0 _ _
  refine Ev.rounds ?_
  unfold laws_FnOidOrder.f
  unfold laws_big.f
  simp only [Option.bind_some]
  by_cases hbig : (l0.length : Int) > 1048576
  · simp only [decide_eq_true hbig, if_true]
    exact Ev.now _
  have hsm : l0.length ≤ 1048576 := by omega
  simp only [decide_eq_false hbig, Bool.false_eq_true, if_false]
  obtain ⟨a, b, hd, la, lb⟩ := drawSameOid_ok l0 hsm
  have hL : Ev (fun k => spec_DrawLessOid.f k l0) (a, b) := by
    unfold spec_DrawLessOid.f
    exact Ev.bind hd (Ev.now _)
  have hB : Ev (fun k => spec_DrawBelow.f k l0) (b, a) := by
    unfold spec_DrawBelow.f
    exact Ev.bind hd (Ev.now _)
  refine Ev.bind hL ?_
  refine Ev.bind (iLessOid_ev a b (by omega)) ?_
  refine Ev.bind (iLessOid_ev b a (by omega)) ?_
  refine Ev.bind (iSameOid_ev a b (by omega)) ?_
  refine Ev.bind hB ?_
  refine Ev.bind (iBelow_ev b a (by omega)) ?_
  have hend : Ev (fun k => (laws_sameInts.f k a b).bind fun t => if (decide (a = b) == t) = true then ((spec_Below.f k b a).bind fun u => if (below b a == u) = true then (if below b a = true then (impl_LessOid.f k a b).bind fun v => some v else some true) else some false) else some false) true := by
    refine Ev.bind (sameInts_ev a b (by omega)) ?_
    simp only [beq_self_eq_true, if_true]
    refine Ev.bind (sBelow_ev b a (by omega)) ?_
    simp only [beq_self_eq_true, if_true]
    by_cases c : below b a = true
    · simp only [if_pos c]
      refine Ev.bind (iLessOid_ev a b (by omega)) ?_
      rw [below_less b a c]
      exact Ev.now _
    · simp only [if_neg c]
      exact Ev.now _
  by_cases h1 : lessOid a b = true
  · have hne : decide (a = b) = false := by
      refine decide_eq_false ?_
      rintro rfl
      rw [less_self] at h1
      exact absurd h1 (by decide)
    simp only [if_pos h1, less_asym a b h1, Bool.false_eq_true, if_false, hne, if_pos (show (true != false) = true by decide)]
    rw [hne] at hend
    exact hend
  · simp only [Bool.not_eq_true] at h1
    have hx : (lessOid b a != decide (a = b)) = true := by
      by_cases h2 : lessOid b a = true
      · have hne : decide (a = b) = false := by
          refine decide_eq_false ?_
          rintro rfl
          rw [less_self] at h2
          exact absurd h2 (by decide)
        rw [h2, hne]
        rfl
      · simp only [Bool.not_eq_true] at h2
        rw [h2, decide_eq_true (less_or a b h1 h2)]
        rfl
    simp only [h1, Bool.false_eq_true, if_false, if_pos hx]
    exact hend

end Go.Proofs.Ytndfokcnogpeiaa.Pure
