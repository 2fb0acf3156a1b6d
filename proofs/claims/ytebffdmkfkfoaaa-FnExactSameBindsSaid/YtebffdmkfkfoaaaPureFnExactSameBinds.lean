/- The pure side of FnExactSameBinds: the program's SameBinds and the reference's agree at all arguments. No conditions but those of the given statement. -/
import Derived.Test.YtebffdmkfkfoaaaXFnExactSameBindsx6
namespace Go.Proofs.Ytebffdmkfkfoaaa.Pure
open Go.RowKit Go.Proofs.Ytebffdmkfkfoaaa.XFnExactSameBinds Go.Proofs.YtebffdmkfkfoaaaW.PrintWords Go.Proofs.YtebffdmkfkfoaaaW.PrintLast Go.Proofs.YtebffdmkfkfoaaaW.PrintMore
set_option linter.unusedVariables false
set_option linter.unusedSimpArgs false

theorem w64 {x : Int} (h0 : -9223372036854775808 ≤ x) (h1 : x ≤ 9223372036854775807) : wrap64 x = x := by
  unfold wrap64
  omega
theorem wf64 {x : Int} (h : (Lit.int .i64 x).wf = true) : -9223372036854775808 ≤ x ∧ x ≤ 9223372036854775807 := by
  simp only [Lit.wf, Bool.and_eq_true, decide_eq_true_eq] at h
  exact h
theorem wf8 {x : Int} (h : (Lit.int .u8 x).wf = true) : 0 ≤ x ∧ x ≤ 255 := by
  simp only [Lit.wf, Bool.and_eq_true, decide_eq_true_eq] at h
  exact h
theorem rd_mid (pre rest : List Int) (r : Int) : rd (pre ++ r :: rest) (pre.length : Int) = r := by
  unfold rd
  simp [List.getD_eq_getElem?_getD]
theorem set_mid {α : Type} (pre rest : List α) (r v : α) : (pre ++ r :: rest).set (pre.length : Int).toNat v = pre ++ v :: rest := by
  rw [Int.toNat_natCast, List.set_append_right _ _ (Nat.le_refl _)]
  simp
theorem succ_of {d k : Nat} (h : d < k) : ∃ m, k = m + 1 := ⟨k - 1, by omega⟩
theorem Ev.at_ {α : Type} {g : Nat → Option α} {r : α} (n : Nat) (h : ∀ k, n < k → g k = some r) : Ev g r := ⟨n + 1, fun k hk => h k (by omega)⟩
theorem Ev.some_ {α : Type} {v : Option α} {r : α} (h : v = some r) : Ev (fun _ => v) r := ⟨0, fun _ _ => h⟩
theorem Ev.succ {α : Type} {g : Nat → Option α} {r : α} (h : Ev (fun k => g (k + 1)) r) : Ev g r := by
  obtain ⟨K, h⟩ := h
  refine ⟨K + 1, fun n hn => ?_⟩
  obtain ⟨m, rfl⟩ : ∃ m, n = m + 1 := ⟨n - 1, by omega⟩
  exact h m (by omega)
theorem Ev.some_const {α : Type} {g : Nat → Option α} {r : α} (h : ∀ k, g k = some r) : Ev g r := ⟨0, fun k _ => h k⟩

theorem toIntS_loop (rest : List Int) : ∀ (pre : List Int) (k : Nat), pre.length + rest.length ≤ 1099511627776 → rest.length < k →
    laws_toIntS.l0 k (pre ++ rest) (pre ++ List.replicate rest.length 0) (pre.length : Int) = some (pre ++ rest) := by
  induction rest with
  | nil =>
    intro pre k _ hk
    obtain ⟨k, rfl⟩ := succ_of hk
    simp only [laws_toIntS.l0]
    rw [if_neg (by simp only [List.length_append, List.length_nil]; omega)]
    simp
  | cons r rest ih =>
    intro pre k hn hk
    obtain ⟨k, rfl⟩ := succ_of hk
    simp only [List.length_cons] at hn hk
    simp only [laws_toIntS.l0]
    rw [if_pos (by simp only [List.length_append, List.length_cons]; omega), if_pos (by omega), if_pos (by simp only [List.length_append, List.length_cons, List.length_replicate]; omega), rd_mid, List.length_cons, List.replicate_succ, set_mid, w64 (by omega) (by omega)]
    have h := ih (pre ++ [r]) k (by simp only [List.length_append, List.length_cons, List.length_nil]; omega) (by omega)
    simpa using h
theorem toIntS_ev (xs : List Int) (h : xs.length ≤ 1048576) : Ev (fun k => laws_toIntS.f k xs) xs := by
  refine Ev.at_ xs.length fun k hk => ?_
  simp only [laws_toIntS.f]
  rw [if_pos (by omega), if_pos (by omega)]
  have h := toIntS_loop xs [] k (by simp only [List.length_nil]; omega) hk
  simpa using h

theorem eqIntS_loop (a : List Int) : ∀ (b pre pre' : List Int) (k : Nat), pre.length = pre'.length → a.length = b.length → pre.length + a.length ≤ 1099511627776 → a.length < k →
    laws_eqIntS.l0 k (pre ++ a) (pre' ++ b) (pre.length : Int) = some (decide (a = b)) := by
  induction a with
  | nil =>
    intro b pre pre' k hp hab hn hk
    obtain ⟨k, rfl⟩ := succ_of hk
    obtain rfl : b = [] := List.eq_nil_of_length_eq_zero hab.symm
    simp only [laws_eqIntS.l0]
    rw [if_neg (by simp only [List.length_append, List.length_nil] at *; omega)]
    simp
  | cons r a ih =>
    intro b pre pre' k hp hab hn hk
    obtain ⟨k, rfl⟩ := succ_of hk
    cases b with
    | nil => simp at hab
    | cons s b =>
      simp only [List.length_cons] at hab hn hk
      simp only [laws_eqIntS.l0]
      have e : rd (pre' ++ s :: b) (pre.length : Int) = s := by rw [hp, rd_mid]
      rw [if_pos (by simp only [List.length_append, List.length_cons]; omega), if_pos (by omega), if_pos (by simp only [List.length_append, List.length_cons]; omega), rd_mid, e]
      by_cases hrs : r = s
      · subst hrs
        rw [if_pos rfl, w64 (by omega) (by omega)]
        have h := ih b (pre ++ [r]) (pre' ++ [r]) k (by simp [hp]) (by omega) (by simp only [List.length_append, List.length_cons, List.length_nil]; omega) (by omega)
        simpa using h
      · rw [if_neg hrs]
        simp [hrs]
theorem eqIntS_ev (a b : List Int) (h : a.length ≤ 1099511627776) : Ev (fun k => laws_eqIntS.f k a b) (decide (a = b)) := by
  refine Ev.at_ a.length fun k hk => ?_
  simp only [laws_eqIntS.f]
  by_cases e : a.length = b.length
  · rw [if_pos (by omega)]
    have h := eqIntS_loop a b [] [] k rfl e (by simp only [List.length_nil]; omega) hk
    simpa using h
  · rw [if_neg (by omega)]
    have hne : ¬ a = b := fun h => e (by rw [h])
    simp [hne]

theorem Ev.ite {α : Type} {c : Prop} [Decidable c] {g1 g2 : Nat → Option α} {r1 r2 : α} (h1 : c → Ev g1 r1) (h2 : ¬ c → Ev g2 r2) : Ev (fun k => if c then g1 k else g2 k) (if c then r1 else r2) := by
  by_cases h : c
  · simp only [if_pos h]; exact h1 h
  · simp only [if_neg h]; exact h2 h

theorem sSameOid_loop (a : List Int) : ∀ (b pre pre' : List Int) (k : Nat), pre.length = pre'.length → a.length = b.length → pre.length + a.length ≤ 1099511627776 → a.length < k →
    spec_SameOid.l0 k (pre ++ a) (pre' ++ b) (pre.length : Int) = some (decide (a = b)) := by
  induction a with
  | nil =>
    intro b pre pre' k hp hab hn hk
    obtain ⟨k, rfl⟩ := succ_of hk
    obtain rfl : b = [] := List.eq_nil_of_length_eq_zero hab.symm
    simp only [spec_SameOid.l0]
    rw [if_neg (by simp only [List.length_append, List.length_nil] at *; omega)]
    simp
  | cons r a ih =>
    intro b pre pre' k hp hab hn hk
    obtain ⟨k, rfl⟩ := succ_of hk
    cases b with
    | nil => simp at hab
    | cons s b =>
      simp only [List.length_cons] at hab hn hk
      simp only [spec_SameOid.l0]
      have e : rd (pre' ++ s :: b) (pre.length : Int) = s := by rw [hp, rd_mid]
      rw [if_pos (by simp only [List.length_append, List.length_cons]; omega), if_pos (by omega), if_pos (by simp only [List.length_append, List.length_cons]; omega), rd_mid, e]
      by_cases hrs : r = s
      · subst hrs
        rw [if_pos rfl, w64 (by omega) (by omega)]
        have h := ih b (pre ++ [r]) (pre' ++ [r]) k (by simp [hp]) (by omega) (by simp only [List.length_append, List.length_cons, List.length_nil]; omega) (by omega)
        simpa using h
      · rw [if_neg hrs]
        simp [hrs]
theorem sSameOid_ev (a b : List Int) (h : a.length ≤ 1099511627776) : Ev (fun k => spec_SameOid.f k a b) (decide (a = b)) := by
  refine Ev.at_ a.length fun k hk => ?_
  simp only [spec_SameOid.f]
  by_cases e : a.length = b.length
  · rw [if_pos (by omega)]
    have h := sSameOid_loop a b [] [] k rfl e (by simp only [List.length_nil]; omega) hk
    simpa using h
  · rw [if_neg (by omega)]
    have hne : ¬ a = b := fun h => e (by rw [h])
    simp [hne]

theorem iSameOid_loop (a : List Int) : ∀ (b pre pre' : List Int) (m : Int) (k : Nat), pre.length = pre'.length → a.length = b.length → pre.length + a.length ≤ 1099511627776 → m = (pre.length : Int) + (a.length : Int) → a.length < k →
    impl_SameOid.l0 k (pre ++ a) (pre' ++ b) m (pre.length : Int) = some (decide (a = b)) := by
  induction a with
  | nil =>
    intro b pre pre' m k hp hab hn hm hk
    obtain ⟨k, rfl⟩ := succ_of hk
    obtain rfl : b = [] := List.eq_nil_of_length_eq_zero hab.symm
    simp only [impl_SameOid.l0]
    rw [if_neg (by simp only [List.length_append, List.length_nil] at *; omega)]
    simp
  | cons r a ih =>
    intro b pre pre' m k hp hab hn hm hk
    obtain ⟨k, rfl⟩ := succ_of hk
    cases b with
    | nil => simp at hab
    | cons s b =>
      simp only [List.length_cons] at hab hn hk hm
      simp only [impl_SameOid.l0]
      have e : rd (pre' ++ s :: b) (pre.length : Int) = s := by rw [hp, rd_mid]
      rw [if_pos (by omega), if_pos (by omega), if_pos (by simp only [List.length_append, List.length_cons]; omega), if_pos (by simp only [List.length_append, List.length_cons]; omega), rd_mid, e]
      by_cases hrs : r = s
      · subst hrs
        rw [if_pos rfl, w64 (by omega) (by omega)]
        have h := ih b (pre ++ [r]) (pre' ++ [r]) m k (by simp [hp]) (by omega) (by simp only [List.length_append, List.length_cons, List.length_nil]; omega) (by simp only [List.length_append, List.length_cons, List.length_nil]; omega) (by omega)
        simpa using h
      · rw [if_neg hrs]
        simp [hrs]
theorem iSameOid_ev (a b : List Int) (h : a.length ≤ 1099511627776) : Ev (fun k => impl_SameOid.f k a b) (decide (a = b)) := by
  refine Ev.at_ a.length fun k hk => ?_
  simp only [impl_SameOid.f]
  by_cases e : a.length = b.length
  · rw [if_pos (by omega)]
    have h := iSameOid_loop a b [] [] (a.length : Int) k rfl e (by simp only [List.length_nil]; omega) (by simp) hk
    simpa using h
  · rw [if_neg (by omega)]
    have hne : ¬ a = b := fun h => e (by rw [h])
    simp [hne]

theorem szIntS_eq (l : List Int) (a : Int) (h0 : 0 ≤ a) (h1 : a ≤ 1099511627776) (hl : l.length ≤ maxLen) : laws_szIntS.f l a = some (if a - (l.length : Int) < 0 then -1 else a - (l.length : Int)) := by
  have hl' : l.length ≤ 9223372036854775807 := hl
  unfold laws_szIntS.f
  rw [w64 (by omega) (by omega)]
  split <;> rfl
theorem szVal_eq (a b : Int) (s : ByteArray) (l : List Int) (n : Int) (h0 : 0 ≤ n) (h1 : n ≤ 1099511627776) (hs : s.size ≤ maxLen) (hl : l.length ≤ maxLen) :
    ∃ m : Int, laws_szVal.f a b s l n = some m ∧ (m < 0 ∨ (m = n - s.size - l.length ∧ 0 ≤ m)) := by
  have hs' : s.size ≤ 9223372036854775807 := hs
  have hl' : l.length ≤ 9223372036854775807 := hl
  unfold laws_szVal.f
  rw [w64 (by omega) (by omega)]
  by_cases h : n - (s.size : Int) < 0
  · exact ⟨-1, by rw [if_pos h], Or.inl (by omega)⟩
  · rw [if_neg h, szIntS_eq l _ (by omega) (by omega) hl]
    simp only [Option.bind_some]
    by_cases h' : n - (s.size : Int) - (l.length : Int) < 0
    · exact ⟨-1, by simp only [if_pos h']; rfl, Or.inl (by omega)⟩
    · exact ⟨n - (s.size : Int) - (l.length : Int), by simp only [if_neg h'], Or.inr ⟨rfl, by omega⟩⟩
theorem toVal_ev (a b : Int) (s : ByteArray) (l : List Int) (h : l.length ≤ 1048576) : Ev (fun k => laws_toVal.f k a b s l) (a, b, s, l) := by
  unfold laws_toVal.f
  refine Ev.bind (toIntS_ev l h) ?_
  exact Ev.now _
theorem eqVal_ev (a b : Int) (s : ByteArray) (l : List Int) (h : l.length ≤ 1099511627776) : Ev (fun k => laws_eqVal.f k a b s l a b s l) true := by
  unfold laws_eqVal.f
  simp only [↓reduceIte]
  refine Ev.bind (eqIntS_ev l l h) ?_
  simp only [decide_true, ↓reduceIte]
  exact Ev.now _

def sameVal (a b : Int) (s : ByteArray) (l : List Int) (a' b' : Int) (s' : ByteArray) (l' : List Int) : Bool :=
  if a = a' then (if b = b' then (if s.toList = s'.toList then decide (l = l') else false) else false) else false

theorem sSameVal_ev (a b : Int) (s : ByteArray) (l : List Int) (a' b' : Int) (s' : ByteArray) (l' : List Int) (h : l.length ≤ 1099511627776) : Ev (fun k => spec_SameVal.f k a b s l a' b' s' l') (sameVal a b s l a' b' s' l') := by
  unfold spec_SameVal.f sameVal
  refine Ev.ite (fun _ => ?_) (fun _ => Ev.now _)
  refine Ev.ite (fun _ => ?_) (fun _ => Ev.now _)
  refine Ev.ite (fun _ => ?_) (fun _ => Ev.now _)
  refine Ev.bind (sSameOid_ev l l' h) ?_
  exact Ev.now _

theorem iSameVal_ev (a b : Int) (s : ByteArray) (l : List Int) (a' b' : Int) (s' : ByteArray) (l' : List Int) (h : l.length ≤ 1099511627776) : Ev (fun k => impl_SameVal.f k a b s l a' b' s' l') (sameVal a b s l a' b' s' l') := by
  unfold impl_SameVal.f sameVal
  refine Ev.ite (fun _ => ?_) (fun _ => Ev.now _)
  refine Ev.ite (fun _ => ?_) (fun _ => Ev.now _)
  refine Ev.ite (fun _ => ?_) (fun _ => Ev.now _)
  refine Ev.bind (iSameOid_ev l l' h) ?_
  exact Ev.now _

def cvB (x : S84) : S88 := ⟨x.f0, ⟨x.f1.f0, x.f1.f1, x.f1.f2, x.f1.f3⟩⟩
theorem rdLB_mid (pre rest : List S84) (r : S84) : rd_T84 (pre ++ r :: rest) (pre.length : Int) = r := by
  unfold rd_T84
  simp [List.getD_eq_getElem?_getD]
theorem rdIB_mid (pre rest : List S88) (r : S88) : rd_T88 (pre ++ r :: rest) (pre.length : Int) = r := by
  unfold rd_T88
  simp [List.getD_eq_getElem?_getD]
theorem rdIB_mid' (pre rest : List S88) (r : S88) (n : Nat) (h : pre.length = n) : rd_T88 (pre ++ r :: rest) (n : Int) = r := by
  subst h
  exact rdIB_mid pre rest r
theorem set_atB {α : Type} (pre rest : List α) (r v : α) (n : Nat) (h : pre.length = n) : (pre ++ r :: rest).set (n : Int).toNat v = pre ++ v :: rest := by
  subst h
  exact set_mid pre rest r v
def smallB (x : S84) : Prop := x.f0.length ≤ 1048576 ∧ x.f1.f3.length ≤ 1048576 ∧ x.f1.f2.size ≤ 1048576
def smallI (x : S88) : Prop := x.f0.length ≤ 1048576 ∧ x.f1.f3.length ≤ 1048576
theorem szBind_eq (x : S84) (n : Int) (h0 : 0 ≤ n) (h1 : n ≤ 1048576) (hx : wfS84 x) :
    ∃ m : Int, laws_szBind.f x.f0 x.f1.f0 x.f1.f1 x.f1.f2 x.f1.f3 n = some m ∧ (m < 0 ∨ (m ≤ n ∧ 0 ≤ m ∧ smallB x)) := by
  unfold laws_szBind.f
  rw [szIntS_eq _ _ h0 (by omega) hx.1]
  simp only [Option.bind_some]
  by_cases h : n - (x.f0.length : Int) < 0
  · exact ⟨-1, by simp only [if_pos h]; rfl, Or.inl (by omega)⟩
  · simp only [if_neg h]
    obtain ⟨m, e, hm⟩ := szVal_eq x.f1.f0 x.f1.f1 x.f1.f2 x.f1.f3 (n - (x.f0.length : Int)) (by omega) (by omega) hx.2.2.2.2.1 hx.2.2.2.2.2.1
    rw [e]
    simp only [Option.bind_some]
    by_cases h' : m < 0
    · exact ⟨-1, by simp only [if_pos h'], Or.inl (by omega)⟩
    · have hm := hm.resolve_left h'
      exact ⟨m, by simp only [if_neg h'], Or.inr ⟨by omega, by omega, by unfold smallB; omega⟩⟩
theorem szBindS_loop (rest : List S84) : ∀ (pre : List S84) (n : Int), 0 ≤ n → n ≤ 1048576 → pre.length + rest.length ≤ 1048576 → (∀ y ∈ rest, wfS84 y) →
    ∃ m : Int, Ev (fun k => laws_szBindS.l0 k (pre ++ rest) n (pre.length : Int)) m ∧ (m < 0 ∨ (m ≤ n ∧ 0 ≤ m ∧ ∀ y ∈ rest, smallB y)) := by
  induction rest with
  | nil =>
    intro pre n h0 h1 _ _
    refine ⟨n, Ev.succ ?_, Or.inr ⟨by omega, by omega, by simp⟩⟩
    simp only [laws_szBindS.l0]
    simp only [List.append_nil, if_neg (show ¬ (pre.length : Int) < (pre.length : Int) by omega)]
    exact Ev.now _
  | cons r rest ih =>
    intro pre n h0 h1 hn hw
    simp only [List.length_cons] at hn
    obtain ⟨m, e, hm⟩ := szBind_eq r n h0 h1 (hw r List.mem_cons_self)
    by_cases c : m < 0
    · refine ⟨-1, Ev.succ ?_, Or.inl (by omega)⟩
      simp only [laws_szBindS.l0]
      simp only [if_pos (show (pre.length : Int) < ((pre ++ r :: rest).length : Int) by simp only [List.length_append, List.length_cons]; omega), if_pos (show (0 : Int) ≤ (pre.length : Int) by omega), rdLB_mid, e, Option.bind_some, if_pos c]
      exact Ev.now _
    · have hm := hm.resolve_left c
      obtain ⟨m', e', hm'⟩ := ih (pre ++ [r]) m (by omega) (by omega) (by simp only [List.length_append, List.length_cons, List.length_nil]; omega) (fun y hy => hw y (List.mem_cons_of_mem _ hy))
      simp only [List.append_assoc, List.cons_append, List.nil_append] at e'
      rw [show ((pre ++ [r]).length : Int) = (pre.length : Int) + 1 by simp] at e'
      refine ⟨m', Ev.succ ?_, ?_⟩
      · simp only [laws_szBindS.l0]
        simp only [if_pos (show (pre.length : Int) < ((pre ++ r :: rest).length : Int) by simp only [List.length_append, List.length_cons]; omega), if_pos (show (0 : Int) ≤ (pre.length : Int) by omega), rdLB_mid, e, Option.bind_some, if_neg c, w64 (x := (pre.length : Int) + 1) (by omega) (by omega)]
        exact e'
      · rcases hm' with h | h
        · exact Or.inl h
        · refine Or.inr ⟨by omega, by omega, fun y hy => ?_⟩
          rcases List.mem_cons.1 hy with rfl | hy
          · exact hm.2.2
          · exact h.2.2 y hy
theorem szBindS_ev (l : List S84) (n : Int) (h0 : 0 ≤ n) (h1 : n ≤ 1048576) (hl : l.length ≤ maxLen) (hw : ∀ y ∈ l, wfS84 y) :
    ∃ m : Int, Ev (fun k => laws_szBindS.f k l n) m ∧ (m < 0 ∨ (m ≤ n ∧ 0 ≤ m ∧ l.length ≤ 1048576 ∧ ∀ y ∈ l, smallB y)) := by
  have hl' : l.length ≤ 9223372036854775807 := hl
  unfold laws_szBindS.f
  rw [w64 (by omega) (by omega)]
  by_cases h : n - (l.length : Int) < 0
  · refine ⟨-1, ?_, Or.inl (by omega)⟩
    simp only [if_pos h]
    exact Ev.now _
  · simp only [if_neg h]
    obtain ⟨m, e, hm⟩ := szBindS_loop l [] (n - (l.length : Int)) (by omega) (by omega) (by simp only [List.length_nil]; omega) hw
    refine ⟨m, by simpa using e, ?_⟩
    rcases hm with hm | hm
    · exact Or.inl hm
    · exact Or.inr ⟨by omega, by omega, by omega, hm.2.2⟩
theorem toBind_ev (x : S84) (h : smallB x) : Ev (fun k => laws_toBind.f k x.f0 x.f1.f0 x.f1.f1 x.f1.f2 x.f1.f3) (x.f0, x.f1.f0, x.f1.f1, x.f1.f2, x.f1.f3) := by
  unfold laws_toBind.f
  refine Ev.bind (toIntS_ev _ h.1) ?_
  refine Ev.bind (toVal_ev _ _ _ _ h.2.1) ?_
  exact Ev.now _
theorem toBindS_loop (rest : List S84) : ∀ (pre : List S84), pre.length + rest.length ≤ 1048576 → (∀ y ∈ rest, smallB y) →
    Ev (fun k => laws_toBindS.l0 k (pre ++ rest) (pre.map cvB ++ List.replicate rest.length z88) (pre.length : Int)) ((pre ++ rest).map cvB) := by
  induction rest with
  | nil =>
    intro pre _ _
    refine Ev.succ ?_
    simp only [laws_toBindS.l0]
    simp only [List.append_nil, if_neg (show ¬ (pre.length : Int) < (pre.length : Int) by omega), List.length_nil, List.replicate_zero]
    exact Ev.now _
  | cons r rest ih =>
    intro pre hn hw
    simp only [List.length_cons] at hn
    have h := ih (pre ++ [r]) (by simp only [List.length_append, List.length_cons, List.length_nil]; omega) (fun y hy => hw y (List.mem_cons_of_mem _ hy))
    simp only [List.append_assoc, List.cons_append, List.nil_append, List.map_append, List.map_cons, List.map_nil] at h
    rw [show ((pre ++ [r]).length : Int) = (pre.length : Int) + 1 by simp] at h
    refine Ev.succ ?_
    simp only [laws_toBindS.l0]
    simp only [if_pos (show (pre.length : Int) < ((pre ++ r :: rest).length : Int) by simp only [List.length_append, List.length_cons]; omega), if_pos (show (0 : Int) ≤ (pre.length : Int) by omega), rdLB_mid]
    refine Ev.bind (toBind_ev r (hw r List.mem_cons_self)) ?_
    simp only [List.length_cons, List.replicate_succ]
    simp only [if_pos (show (pre.length : Int) < ((pre.map cvB ++ z88 :: List.replicate rest.length z88).length : Int) by simp only [List.length_append, List.length_map, List.length_replicate, List.length_cons]; omega), set_atB _ _ _ _ _ (show (pre.map cvB).length = pre.length from List.length_map _), w64 (x := (pre.length : Int) + 1) (by omega) (by omega), List.map_append, List.map_cons]
    exact h
theorem toBindS_ev (xs : List S84) (h : xs.length ≤ 1048576) (hw : ∀ y ∈ xs, smallB y) : Ev (fun k => laws_toBindS.f k xs) (xs.map cvB) := by
  unfold laws_toBindS.f
  simp only [if_pos (show (0 : Int) ≤ (xs.length : Int) by omega), Int.toNat_natCast, if_pos (show xs.length ≤ 3518437208883 by omega)]
  have h := toBindS_loop xs [] (by simp only [List.length_nil]; omega) hw
  simpa using h
theorem eqBind_ev (r : S88) (h : smallI r) : Ev (fun k => laws_eqBind.f k r.f0 r.f1.f0 r.f1.f1 r.f1.f2 r.f1.f3 r.f0 r.f1.f0 r.f1.f1 r.f1.f2 r.f1.f3) true := by
  unfold laws_eqBind.f
  have h1 := h.1
  have h2 := h.2
  refine Ev.bind (eqIntS_ev _ _ (by omega)) ?_
  simp only [decide_true, ↓reduceIte]
  refine Ev.bind (eqVal_ev _ _ _ _ (by omega)) ?_
  simp only [↓reduceIte]
  exact Ev.now _
theorem eqBindS_loop (a : List S88) : ∀ (pre : List S88), pre.length + a.length ≤ 1048576 → (∀ y ∈ a, smallI y) →
    Ev (fun k => laws_eqBindS.l0 k (pre ++ a) (pre ++ a) (pre.length : Int)) true := by
  induction a with
  | nil =>
    intro pre hn _
    refine Ev.succ ?_
    simp only [laws_eqBindS.l0]
    simp only [List.append_nil, if_neg (show ¬ (pre.length : Int) < (pre.length : Int) by omega)]
    exact Ev.now _
  | cons r a ih =>
    intro pre hn hw
    simp only [List.length_cons] at hn
    have h := ih (pre ++ [r]) (by simp only [List.length_append, List.length_cons, List.length_nil]; omega) (fun y hy => hw y (List.mem_cons_of_mem _ hy))
    simp only [List.append_assoc, List.cons_append, List.nil_append] at h
    rw [show ((pre ++ [r]).length : Int) = (pre.length : Int) + 1 by simp] at h
    refine Ev.succ ?_
    simp only [laws_eqBindS.l0]
    simp only [if_pos (show (pre.length : Int) < ((pre ++ r :: a).length : Int) by simp only [List.length_append, List.length_cons]; omega), if_pos (show (0 : Int) ≤ (pre.length : Int) by omega), rdIB_mid, w64 (x := (pre.length : Int) + 1) (by omega) (by omega)]
    refine Ev.bind (eqBind_ev r (hw r List.mem_cons_self)) ?_
    simp only [↓reduceIte]
    exact h
theorem eqBindS_ev (a : List S88) (h : a.length ≤ 1048576) (hw : ∀ y ∈ a, smallI y) : Ev (fun k => laws_eqBindS.f k a a) true := by
  unfold laws_eqBindS.f
  simp only [↓reduceIte]
  have h := eqBindS_loop a [] (by simp only [List.length_nil]; omega) hw
  simpa using h
theorem small_map (l : List S84) (h : ∀ y ∈ l, smallB y) : ∀ y ∈ l.map cvB, smallI y := by
  intro y hy
  obtain ⟨x, hx, rfl⟩ := List.mem_map.1 hy
  exact ⟨(h x hx).1, (h x hx).2.1⟩

def sameBs : List S88 → List S88 → Bool
  | r :: a, r' :: b => if decide (r.f0 = r'.f0) = true then (if sameVal r.f1.f0 r.f1.f1 r.f1.f2 r.f1.f3 r'.f1.f0 r'.f1.f1 r'.f1.f2 r'.f1.f3 = true then sameBs a b else false) else false
  | _, _ => true
theorem sSameBinds_loop (a : List S88) : ∀ (b pre pre' : List S88), a.length = b.length → pre.length = pre'.length → pre.length + a.length ≤ 1048576 → (∀ y ∈ a, smallI y) →
    Ev (fun k => spec_SameBinds.l0 k (pre ++ a) (pre' ++ b) (pre.length : Int)) (sameBs a b) := by
  induction a with
  | nil =>
    intro b pre pre' _ _ _ _
    refine Ev.succ ?_
    simp only [spec_SameBinds.l0]
    simp only [List.append_nil, if_neg (show ¬ (pre.length : Int) < (pre.length : Int) by omega), sameBs]
    exact Ev.now _
  | cons r a ih =>
    intro b pre pre' hb hp hn hw
    rcases b with _ | ⟨r', b⟩
    · simp at hb
    simp only [List.length_cons] at hn hb
    have hr := hw r List.mem_cons_self
    have h1 := hr.1
    have h2 := hr.2
    have h := ih b (pre ++ [r]) (pre' ++ [r']) (by omega) (by simp only [List.length_append, List.length_cons, List.length_nil]; omega) (by simp only [List.length_append, List.length_cons, List.length_nil]; omega) (fun y hy => hw y (List.mem_cons_of_mem _ hy))
    simp only [List.append_assoc, List.cons_append, List.nil_append] at h
    rw [show ((pre ++ [r]).length : Int) = (pre.length : Int) + 1 by simp] at h
    refine Ev.succ ?_
    simp only [spec_SameBinds.l0]
    simp only [if_pos (show (pre.length : Int) < ((pre ++ r :: a).length : Int) by simp only [List.length_append, List.length_cons]; omega), if_pos (show (0 : Int) ≤ (pre.length : Int) by omega), if_pos (show (pre.length : Int) < ((pre' ++ r' :: b).length : Int) by simp only [List.length_append, List.length_cons]; omega), rdIB_mid, rdIB_mid' pre' b r' pre.length hp.symm, w64 (x := (pre.length : Int) + 1) (by omega) (by omega), sameBs]
    refine Ev.bind (sSameOid_ev _ _ (by omega)) ?_
    refine Ev.ite (fun _ => ?_) (fun _ => Ev.now _)
    refine Ev.bind (sSameVal_ev _ _ _ _ _ _ _ _ (by omega)) ?_
    refine Ev.ite (fun _ => ?_) (fun _ => Ev.now _)
    exact h
theorem sSameBinds_ev (a b : List S88) (h : a.length ≤ 1048576) (hw : ∀ y ∈ a, smallI y) : Ev (fun k => spec_SameBinds.f k a b) (if (a.length : Int) = (b.length : Int) then sameBs a b else false) := by
  unfold spec_SameBinds.f
  refine Ev.ite (fun e => ?_) (fun _ => Ev.now _)
  have h := sSameBinds_loop a b [] [] (by omega) rfl (by simp only [List.length_nil]; omega) hw
  simpa using h
theorem iSameBinds_loop (a : List S88) : ∀ (b pre pre' : List S88) (m : Int), m = (pre.length : Int) + a.length → a.length = b.length → pre.length = pre'.length → pre.length + a.length ≤ 1048576 → (∀ y ∈ a, smallI y) →
    Ev (fun k => impl_SameBinds.l0 k (pre ++ a) (pre' ++ b) m (pre.length : Int)) (sameBs a b) := by
  induction a with
  | nil =>
    intro b pre pre' m hm _ _ _ _
    simp only [List.length_nil] at hm
    refine Ev.succ ?_
    simp only [impl_SameBinds.l0]
    simp only [if_neg (show ¬ (pre.length : Int) < m by omega), sameBs]
    exact Ev.now _
  | cons r a ih =>
    intro b pre pre' m hm hb hp hn hw
    rcases b with _ | ⟨r', b⟩
    · simp at hb
    simp only [List.length_cons] at hn hb hm
    have hr := hw r List.mem_cons_self
    have h1 := hr.1
    have h2 := hr.2
    have h := ih b (pre ++ [r]) (pre' ++ [r']) m (by simp only [List.length_append, List.length_cons, List.length_nil]; omega) (by omega) (by simp only [List.length_append, List.length_cons, List.length_nil]; omega) (by simp only [List.length_append, List.length_cons, List.length_nil]; omega) (fun y hy => hw y (List.mem_cons_of_mem _ hy))
    simp only [List.append_assoc, List.cons_append, List.nil_append] at h
    rw [show ((pre ++ [r]).length : Int) = (pre.length : Int) + 1 by simp] at h
    refine Ev.succ ?_
    simp only [impl_SameBinds.l0]
    simp only [if_pos (show (pre.length : Int) < m by omega), if_pos (show (pre.length : Int) < ((pre ++ r :: a).length : Int) by simp only [List.length_append, List.length_cons]; omega), if_pos (show (0 : Int) ≤ (pre.length : Int) by omega), if_pos (show (pre.length : Int) < ((pre' ++ r' :: b).length : Int) by simp only [List.length_append, List.length_cons]; omega), rdIB_mid, rdIB_mid' pre' b r' pre.length hp.symm, w64 (x := (pre.length : Int) + 1) (by omega) (by omega), sameBs]
    refine Ev.bind (iSameOid_ev _ _ (by omega)) ?_
    refine Ev.ite (fun _ => ?_) (fun _ => Ev.now _)
    refine Ev.bind (iSameVal_ev _ _ _ _ _ _ _ _ (by omega)) ?_
    refine Ev.ite (fun _ => ?_) (fun _ => Ev.now _)
    exact h
theorem iSameBinds_ev (a b : List S88) (h : a.length ≤ 1048576) (hw : ∀ y ∈ a, smallI y) : Ev (fun k => impl_SameBinds.f k a b) (if (a.length : Int) = (b.length : Int) then sameBs a b else false) := by
  unfold impl_SameBinds.f
  refine Ev.ite (fun e => ?_) (fun _ => Ev.now _)
  have h := iSameBinds_loop a b [] [] (a.length : Int) (by simp) (by omega) rfl (by simp only [List.length_nil]; omega) hw
  simpa using h

theorem FnExactSameBinds : laws_FnExactSameBinds.Pure := by
  intro l l' hl hw hl' hw'
  refine Ev.rounds ?_
  unfold laws_FnExactSameBinds.f
  obtain ⟨m, em, hm⟩ := szBindS_ev l 1048576 (by omega) (by omega) hl hw
  refine Ev.bind em ?_
  by_cases cm : m < 0
  · simp only [if_pos cm]
    exact Ev.now _
  have hm := hm.resolve_left cm
  obtain ⟨gm1, gm2, gm3, gm4⟩ := hm
  have fm : (l.map cvB).length ≤ 1048576 := by rw [List.length_map]; exact gm3
  have sm := small_map l gm4
  simp only [if_neg cm]
  obtain ⟨n, en, hn⟩ := szBindS_ev l' m (by omega) (by omega) hl' hw'
  refine Ev.bind en ?_
  by_cases cn : n < 0
  · simp only [if_pos cn]
    exact Ev.now _
  have hn := hn.resolve_left cn
  obtain ⟨gn1, gn2, gn3, gn4⟩ := hn
  have fn : (l'.map cvB).length ≤ 1048576 := by rw [List.length_map]; exact gn3
  have sn := small_map l' gn4
  simp only [if_neg cn]
  repeat' first
    | exact Ev.now _
    | ((with_reducible refine Ev.bind (toBindS_ev _ ?s0 ?s1) ?_); (case s0 => first | omega | assumption); (case s1 => first | omega | assumption))
    | ((with_reducible refine Ev.bind (sSameBinds_ev _ _ ?s0 ?s1) ?_); (case s0 => first | omega | assumption); (case s1 => first | omega | assumption))
    | ((with_reducible refine Ev.bind (iSameBinds_ev _ _ ?s0 ?s1) ?_); (case s0 => first | omega | assumption); (case s1 => first | omega | assumption))
    | ((with_reducible refine Ev.bind (eqBindS_ev _ ?s0 ?s1) ?_); (case s0 => first | omega | assumption); (case s1 => first | omega | assumption))
    | simp only [bne_self_eq_false, Bool.false_eq_true, Bool.not_true, Bool.not_false, decide_true, Option.bind_some, ↓reduceIte]

end Go.Proofs.Ytebffdmkfkfoaaa.Pure
