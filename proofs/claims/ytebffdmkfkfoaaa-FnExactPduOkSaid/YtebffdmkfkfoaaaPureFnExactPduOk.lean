/- The pure side of FnExactPduOk: the program's PduOk and the reference's agree at all arguments. No conditions but those of the given statement. -/
import Derived.Test.YtebffdmkfkfoaaaXFnExactPduOkx7
namespace Go.Proofs.Ytebffdmkfkfoaaa.Pure
open Go.RowKit Go.Proofs.Ytebffdmkfkfoaaa.XFnExactPduOk Go.Proofs.YtebffdmkfkfoaaaW.PrintWords Go.Proofs.YtebffdmkfkfoaaaW.PrintLast Go.Proofs.YtebffdmkfkfoaaaW.PrintMore
set_option linter.unusedVariables false
set_option linter.unusedSimpArgs false

theorem w64 {x : Int} (h0 : -9223372036854775808 ≤ x) (h1 : x ≤ 9223372036854775807) : wrap64 x = x := by
  unfold wrap64
  omega
theorem wf64 {x : Int} (h : (Lit.int .i64 x).wf = true) : -9223372036854775808 ≤ x ∧ x ≤ 9223372036854775807 := by
  simp only [Lit.wf, Bool.and_eq_true, decide_eq_true_eq] at h
  exact h
theorem wf8 {x : Int} (h : (Lit.int .u8 x).wf = true) : 0 ≤ x ∧ x ≤ 255 := by
  simp only [Lit.wf, Bool.and_eq_true, decide_eq_true_eq] at h
  exact h
theorem rd_mid (pre rest : List Int) (r : Int) : rd (pre ++ r :: rest) (pre.length : Int) = r := by
  unfold rd
  simp [List.getD_eq_getElem?_getD]
theorem set_mid {α : Type} (pre rest : List α) (r v : α) : (pre ++ r :: rest).set (pre.length : Int).toNat v = pre ++ v :: rest := by
  rw [Int.toNat_natCast, List.set_append_right _ _ (Nat.le_refl _)]
  simp
theorem succ_of {d k : Nat} (h : d < k) : ∃ m, k = m + 1 := ⟨k - 1, by omega⟩
theorem Ev.at_ {α : Type} {g : Nat → Option α} {r : α} (n : Nat) (h : ∀ k, n < k → g k = some r) : Ev g r := ⟨n + 1, fun k hk => h k (by omega)⟩
theorem Ev.some_ {α : Type} {v : Option α} {r : α} (h : v = some r) : Ev (fun _ => v) r := ⟨0, fun _ _ => h⟩
theorem Ev.succ {α : Type} {g : Nat → Option α} {r : α} (h : Ev (fun k => g (k + 1)) r) : Ev g r := by
  obtain ⟨K, h⟩ := h
  refine ⟨K + 1, fun n hn => ?_⟩
  obtain ⟨m, rfl⟩ : ∃ m, n = m + 1 := ⟨n - 1, by omega⟩
  exact h m (by omega)
theorem Ev.some_const {α : Type} {g : Nat → Option α} {r : α} (h : ∀ k, g k = some r) : Ev g r := ⟨0, fun k _ => h k⟩

theorem l1In_eq (a b c : Int) : spec_l1In.f a b c = some (decide (b ≤ a ∧ a ≤ c)) := by
  unfold spec_l1In.f
  by_cases h : b ≤ a
  · rw [if_pos h]; simp [h]
  · rw [if_neg h]; simp [h]

theorem in_eq (a b c : Int) : impl_in.f a b c = some (decide (b ≤ a ∧ a ≤ c)) := by
  unfold impl_in.f
  by_cases h : b ≤ a
  · rw [if_pos h]; simp [h]
  · rw [if_neg h]; simp [h]

theorem toIntS_loop (rest : List Int) : ∀ (pre : List Int) (k : Nat), pre.length + rest.length ≤ 1099511627776 → rest.length < k →
    laws_toIntS.l0 k (pre ++ rest) (pre ++ List.replicate rest.length 0) (pre.length : Int) = some (pre ++ rest) := by
  induction rest with
  | nil =>
    intro pre k _ hk
    obtain ⟨k, rfl⟩ := succ_of hk
    simp only [laws_toIntS.l0]
    rw [if_neg (by simp only [List.length_append, List.length_nil]; omega)]
    simp
  | cons r rest ih =>
    intro pre k hn hk
    obtain ⟨k, rfl⟩ := succ_of hk
    simp only [List.length_cons] at hn hk
    simp only [laws_toIntS.l0]
    rw [if_pos (by simp only [List.length_append, List.length_cons]; omega), if_pos (by omega), if_pos (by simp only [List.length_append, List.length_cons, List.length_replicate]; omega), rd_mid, List.length_cons, List.replicate_succ, set_mid, w64 (by omega) (by omega)]
    have h := ih (pre ++ [r]) k (by simp only [List.length_append, List.length_cons, List.length_nil]; omega) (by omega)
    simpa using h
theorem toIntS_ev (xs : List Int) (h : xs.length ≤ 1048576) : Ev (fun k => laws_toIntS.f k xs) xs := by
  refine Ev.at_ xs.length fun k hk => ?_
  simp only [laws_toIntS.f]
  rw [if_pos (by omega), if_pos (by omega)]
  have h := toIntS_loop xs [] k (by simp only [List.length_nil]; omega) hk
  simpa using h

theorem eqIntS_loop (a : List Int) : ∀ (b pre pre' : List Int) (k : Nat), pre.length = pre'.length → a.length = b.length → pre.length + a.length ≤ 1099511627776 → a.length < k →
    laws_eqIntS.l0 k (pre ++ a) (pre' ++ b) (pre.length : Int) = some (decide (a = b)) := by
  induction a with
  | nil =>
    intro b pre pre' k hp hab hn hk
    obtain ⟨k, rfl⟩ := succ_of hk
    obtain rfl : b = [] := List.eq_nil_of_length_eq_zero hab.symm
    simp only [laws_eqIntS.l0]
    rw [if_neg (by simp only [List.length_append, List.length_nil] at *; omega)]
    simp
  | cons r a ih =>
    intro b pre pre' k hp hab hn hk
    obtain ⟨k, rfl⟩ := succ_of hk
    cases b with
    | nil => simp at hab
    | cons s b =>
      simp only [List.length_cons] at hab hn hk
      simp only [laws_eqIntS.l0]
      have e : rd (pre' ++ s :: b) (pre.length : Int) = s := by rw [hp, rd_mid]
      rw [if_pos (by simp only [List.length_append, List.length_cons]; omega), if_pos (by omega), if_pos (by simp only [List.length_append, List.length_cons]; omega), rd_mid, e]
      by_cases hrs : r = s
      · subst hrs
        rw [if_pos rfl, w64 (by omega) (by omega)]
        have h := ih b (pre ++ [r]) (pre' ++ [r]) k (by simp [hp]) (by omega) (by simp only [List.length_append, List.length_cons, List.length_nil]; omega) (by omega)
        simpa using h
      · rw [if_neg hrs]
        simp [hrs]
theorem eqIntS_ev (a b : List Int) (h : a.length ≤ 1099511627776) : Ev (fun k => laws_eqIntS.f k a b) (decide (a = b)) := by
  refine Ev.at_ a.length fun k hk => ?_
  simp only [laws_eqIntS.f]
  by_cases e : a.length = b.length
  · rw [if_pos (by omega)]
    have h := eqIntS_loop a b [] [] k rfl e (by simp only [List.length_nil]; omega) hk
    simpa using h
  · rw [if_neg (by omega)]
    have hne : ¬ a = b := fun h => e (by rw [h])
    simp [hne]

theorem Ev.ite {α : Type} {c : Prop} [Decidable c] {g1 g2 : Nat → Option α} {r1 r2 : α} (h1 : c → Ev g1 r1) (h2 : ¬ c → Ev g2 r2) : Ev (fun k => if c then g1 k else g2 k) (if c then r1 else r2) := by
  by_cases h : c
  · simp only [if_pos h]; exact h1 h
  · simp only [if_neg h]; exact h2 h

theorem iSameOid_loop (a : List Int) : ∀ (b pre pre' : List Int) (m : Int) (k : Nat), pre.length = pre'.length → a.length = b.length → pre.length + a.length ≤ 1099511627776 → m = (pre.length : Int) + (a.length : Int) → a.length < k →
    impl_SameOid.l0 k (pre ++ a) (pre' ++ b) m (pre.length : Int) = some (decide (a = b)) := by
  induction a with
  | nil =>
    intro b pre pre' m k hp hab hn hm hk
    obtain ⟨k, rfl⟩ := succ_of hk
    obtain rfl : b = [] := List.eq_nil_of_length_eq_zero hab.symm
    simp only [impl_SameOid.l0]
    rw [if_neg (by simp only [List.length_append, List.length_nil] at *; omega)]
    simp
  | cons r a ih =>
    intro b pre pre' m k hp hab hn hm hk
    obtain ⟨k, rfl⟩ := succ_of hk
    cases b with
    | nil => simp at hab
    | cons s b =>
      simp only [List.length_cons] at hab hn hk hm
      simp only [impl_SameOid.l0]
      have e : rd (pre' ++ s :: b) (pre.length : Int) = s := by rw [hp, rd_mid]
      rw [if_pos (by omega), if_pos (by omega), if_pos (by simp only [List.length_append, List.length_cons]; omega), if_pos (by simp only [List.length_append, List.length_cons]; omega), rd_mid, e]
      by_cases hrs : r = s
      · subst hrs
        rw [if_pos rfl, w64 (by omega) (by omega)]
        have h := ih b (pre ++ [r]) (pre' ++ [r]) m k (by simp [hp]) (by omega) (by simp only [List.length_append, List.length_cons, List.length_nil]; omega) (by simp only [List.length_append, List.length_cons, List.length_nil]; omega) (by omega)
        simpa using h
      · rw [if_neg hrs]
        simp [hrs]
theorem iSameOid_ev (a b : List Int) (h : a.length ≤ 1099511627776) : Ev (fun k => impl_SameOid.f k a b) (decide (a = b)) := by
  refine Ev.at_ a.length fun k hk => ?_
  simp only [impl_SameOid.f]
  by_cases e : a.length = b.length
  · rw [if_pos (by omega)]
    have h := iSameOid_loop a b [] [] (a.length : Int) k rfl e (by simp only [List.length_nil]; omega) (by simp) hk
    simpa using h
  · rw [if_neg (by omega)]
    have hne : ¬ a = b := fun h => e (by rw [h])
    simp [hne]

def oidNums (xs : List Int) : Bool := xs.all fun n => decide (0 ≤ n ∧ n ≤ 100000)
def oidOk (xs : List Int) : Bool := oidNums xs && decide (1 ≤ (xs.length : Int) ∧ (xs.length : Int) ≤ 10)

theorem sOidOk_loop (rest : List Int) : ∀ (pre : List Int) (k : Nat), pre.length + rest.length ≤ 1099511627776 → rest.length < k →
    spec_OidOk.l0 k (pre ++ rest) (pre.length : Int) = some (oidNums rest && decide (1 ≤ ((pre ++ rest).length : Int) ∧ ((pre ++ rest).length : Int) ≤ 10)) := by
  induction rest with
  | nil =>
    intro pre k _ hk
    obtain ⟨k, rfl⟩ := succ_of hk
    simp only [spec_OidOk.l0]
    rw [if_neg (by simp only [List.length_append, List.length_nil]; omega), l1In_eq]
    simp [oidNums]
  | cons r rest ih =>
    intro pre k hn hk
    obtain ⟨k, rfl⟩ := succ_of hk
    simp only [List.length_cons] at hn hk
    simp only [spec_OidOk.l0]
    rw [if_pos (by simp only [List.length_append, List.length_cons]; omega), if_pos (by omega), rd_mid, l1In_eq, w64 (by omega) (by omega)]
    simp only [Option.bind_some]
    by_cases h : 0 ≤ r ∧ r ≤ 100000
    · rw [if_pos (by simpa using h)]
      have e := ih (pre ++ [r]) k (by simp only [List.length_append, List.length_cons, List.length_nil]; omega) (by omega)
      simp only [List.append_assoc, List.cons_append, List.nil_append] at e
      rw [show (pre.length : Int) + 1 = ((pre ++ [r]).length : Int) from by simp, e]
      simp [oidNums, h]
    · rw [if_neg (by simpa using h)]
      simp only [oidNums, List.all_cons, decide_eq_false h, Bool.false_and]
theorem sOidOk_ev (xs : List Int) (h : xs.length ≤ 1099511627776) : Ev (fun k => spec_OidOk.f k xs) (oidOk xs) := by
  refine Ev.at_ xs.length fun k hk => ?_
  simp only [spec_OidOk.f]
  have e := sOidOk_loop xs [] k (by simp only [List.length_nil]; omega) hk
  simpa [oidOk] using e

theorem iOidOk_loop (rest : List Int) : ∀ (pre all : List Int) (m : Int) (k : Nat), m = (pre.length : Int) + rest.length → pre.length + rest.length ≤ 1099511627776 → rest.length < k →
    impl_OidOk.l0 k all (pre ++ rest) m (pre.length : Int) = some (oidNums rest && decide (1 ≤ (all.length : Int) ∧ (all.length : Int) ≤ 10)) := by
  induction rest with
  | nil =>
    intro pre all m k hm _ hk
    obtain ⟨k, rfl⟩ := succ_of hk
    simp only [List.length_nil] at hm
    simp only [impl_OidOk.l0]
    rw [if_neg (by omega), in_eq]
    simp [oidNums]
  | cons r rest ih =>
    intro pre all m k hm hn hk
    obtain ⟨k, rfl⟩ := succ_of hk
    simp only [List.length_cons] at hm hn hk
    simp only [impl_OidOk.l0]
    rw [if_pos (by omega), if_pos (by omega), if_pos (by simp only [List.length_append, List.length_cons]; omega), rd_mid, in_eq, w64 (by omega) (by omega)]
    simp only [Option.bind_some]
    by_cases h : 0 ≤ r ∧ r ≤ 100000
    · rw [if_pos (by simpa using h)]
      have e := ih (pre ++ [r]) all m k (by simp only [List.length_append, List.length_cons, List.length_nil]; omega) (by simp only [List.length_append, List.length_cons, List.length_nil]; omega) (by omega)
      simp only [List.append_assoc, List.cons_append, List.nil_append] at e
      rw [show (pre.length : Int) + 1 = ((pre ++ [r]).length : Int) from by simp, e]
      simp [oidNums, h]
    · rw [if_neg (by simpa using h)]
      simp only [oidNums, List.all_cons, decide_eq_false h, Bool.false_and]
theorem iOidOk_ev (xs : List Int) (h : xs.length ≤ 1099511627776) : Ev (fun k => impl_OidOk.f k xs) (oidOk xs) := by
  refine Ev.at_ xs.length fun k hk => ?_
  simp only [impl_OidOk.f]
  have e := iOidOk_loop xs [] xs (xs.length : Int) k (by simp) (by simp only [List.length_nil]; omega) hk
  simpa [oidOk] using e

def clip (n : Int) : Int := if n > 2147483647 then 2147483647 else if n < -2147483648 then -2147483648 else n
theorem clip_bd (n : Int) : -2147483648 ≤ clip n ∧ clip n ≤ 2147483647 := by
  unfold clip
  split
  · omega
  · split <;> omega
def putInt (n : Int) : List Int :=
  if -128 ≤ n ∧ n ≤ 127 then [n % 256]
  else if -32768 ≤ n ∧ n ≤ 32767 then [n / 256 % 256, n % 256]
  else if -8388608 ≤ n ∧ n ≤ 8388607 then [n / 65536 % 256, n / 256 % 256, n % 256]
  else [n / 16777216 % 256, n / 65536 % 256, n / 256 % 256, n % 256]
theorem putInt_len (n : Int) : (putInt n).length ≤ 4 := by
  unfold putInt
  split
  · simp
  · split
    · simp
    · split <;> simp

theorem sClip_eq (n : Int) : spec_l1Clip.f n = some (clip n) := by
  unfold spec_l1Clip.f clip
  split
  · rfl
  · split <;> rfl

theorem szIntS_eq (l : List Int) (a : Int) (h0 : 0 ≤ a) (h1 : a ≤ 1099511627776) (hl : l.length ≤ maxLen) : laws_szIntS.f l a = some (if a - (l.length : Int) < 0 then -1 else a - (l.length : Int)) := by
  have hl' : l.length ≤ 9223372036854775807 := hl
  unfold laws_szIntS.f
  rw [w64 (by omega) (by omega)]
  split <;> rfl
theorem szVal_eq (a b : Int) (s : ByteArray) (l : List Int) (n : Int) (h0 : 0 ≤ n) (h1 : n ≤ 1099511627776) (hs : s.size ≤ maxLen) (hl : l.length ≤ maxLen) :
    ∃ m : Int, laws_szVal.f a b s l n = some m ∧ (m < 0 ∨ (m = n - s.size - l.length ∧ 0 ≤ m)) := by
  have hs' : s.size ≤ 9223372036854775807 := hs
  have hl' : l.length ≤ 9223372036854775807 := hl
  unfold laws_szVal.f
  rw [w64 (by omega) (by omega)]
  by_cases h : n - (s.size : Int) < 0
  · exact ⟨-1, by rw [if_pos h], Or.inl (by omega)⟩
  · rw [if_neg h, szIntS_eq l _ (by omega) (by omega) hl]
    simp only [Option.bind_some]
    by_cases h' : n - (s.size : Int) - (l.length : Int) < 0
    · exact ⟨-1, by simp only [if_pos h']; rfl, Or.inl (by omega)⟩
    · exact ⟨n - (s.size : Int) - (l.length : Int), by simp only [if_neg h'], Or.inr ⟨rfl, by omega⟩⟩
theorem toVal_ev (a b : Int) (s : ByteArray) (l : List Int) (h : l.length ≤ 1048576) : Ev (fun k => laws_toVal.f k a b s l) (a, b, s, l) := by
  unfold laws_toVal.f
  refine Ev.bind (toIntS_ev l h) ?_
  exact Ev.now _
theorem eqVal_ev (a b : Int) (s : ByteArray) (l : List Int) (h : l.length ≤ 1099511627776) : Ev (fun k => laws_eqVal.f k a b s l a b s l) true := by
  unfold laws_eqVal.f
  simp only [↓reduceIte]
  refine Ev.bind (eqIntS_ev l l h) ?_
  simp only [decide_true, ↓reduceIte]
  exact Ev.now _

def sameVal (a b : Int) (s : ByteArray) (l : List Int) (a' b' : Int) (s' : ByteArray) (l' : List Int) : Bool :=
  if a = a' then (if b = b' then (if s.toList = s'.toList then decide (l = l') else false) else false) else false

theorem iSameVal_ev (a b : Int) (s : ByteArray) (l : List Int) (a' b' : Int) (s' : ByteArray) (l' : List Int) (h : l.length ≤ 1099511627776) : Ev (fun k => impl_SameVal.f k a b s l a' b' s' l') (sameVal a b s l a' b' s' l') := by
  unfold impl_SameVal.f sameVal
  refine Ev.ite (fun _ => ?_) (fun _ => Ev.now _)
  refine Ev.ite (fun _ => ?_) (fun _ => Ev.now _)
  refine Ev.ite (fun _ => ?_) (fun _ => Ev.now _)
  refine Ev.bind (iSameOid_ev l l' h) ?_
  exact Ev.now _

def valNil (b : Int) (s : ByteArray) (l : List Int) : Bool := if b = 0 then (if s.toList = ([] : List UInt8) then ((l.length : Int) == 0) else false) else false
def valOk (a b : Int) (s : ByteArray) (l : List Int) : Bool :=
  if a = 5 ∨ a = 128 ∨ a = 130 then valNil b s l
  else if a = 2 then (if clip b = b then (if s.toList = ([] : List UInt8) then ((l.length : Int) == 0) else false) else false)
  else if a = 4 then (if (s.size : Int) ≤ 20 then (if b = 0 then ((l.length : Int) == 0) else false) else false)
  else if a = 6 then (if oidOk l = true then (if b = 0 then (s.toList == ([] : List UInt8)) else false) else false)
  else false
theorem decEmpty (l : List Int) : decide (l = []) = ((l.length : Int) == 0) := by
  cases l with
  | nil => rfl
  | cons x l => simp; omega
theorem emptyStr : (⟨#[]⟩ : ByteArray).toList = ([] : List UInt8) := by decide +kernel
theorem valNil_same (a b : Int) (s : ByteArray) (l : List Int) : sameVal a b s l a 0 ⟨#[]⟩ [] = valNil b s l := by
  unfold sameVal valNil
  rw [if_pos rfl, emptyStr, decEmpty]

theorem sValOk_j (a b : Int) (s : ByteArray) (l : List Int) (q : Bool) (h : l.length ≤ 1048576) (hq : q = true ↔ (a = 5 ∨ a = 128 ∨ a = 130)) : Ev (fun k => spec_ValOk.j0 k a q a b s l) (valOk a b s l) := by
  refine Ev.succ ?_
  simp only [spec_ValOk.j0]
  unfold valOk valNil
  by_cases c : a = 5 ∨ a = 128 ∨ a = 130
  · simp only [if_pos c, if_pos (hq.2 c)]
    refine Ev.ite (fun _ => ?_) (fun _ => Ev.now _)
    refine Ev.ite (fun _ => Ev.now _) (fun _ => Ev.now _)
  · have hq' : ¬ q = true := fun e => c (hq.1 e)
    simp only [if_neg c, if_neg hq', sClip_eq, Option.bind_some]
    refine Ev.ite (fun _ => ?_) (fun _ => ?_)
    · refine Ev.ite (fun _ => ?_) (fun _ => Ev.now _)
      refine Ev.ite (fun _ => Ev.now _) (fun _ => Ev.now _)
    refine Ev.ite (fun _ => ?_) (fun _ => ?_)
    · refine Ev.ite (fun _ => ?_) (fun _ => Ev.now _)
      refine Ev.ite (fun _ => Ev.now _) (fun _ => Ev.now _)
    refine Ev.ite (fun _ => ?_) (fun _ => Ev.now _)
    refine Ev.bind (sOidOk_ev l (by omega)) ?_
    refine Ev.ite (fun _ => ?_) (fun _ => Ev.now _)
    refine Ev.ite (fun _ => Ev.now _) (fun _ => Ev.now _)
theorem sValOk_ev (a b : Int) (s : ByteArray) (l : List Int) (h : l.length ≤ 1048576) : Ev (fun k => spec_ValOk.f k a b s l) (valOk a b s l) := by
  unfold spec_ValOk.f
  by_cases c1 : a = 5
  · simp only [if_pos c1]
    exact sValOk_j a b s l _ h (by simp [c1])
  · simp only [if_neg c1]
    by_cases c2 : a = 128
    · simp only [if_pos c2]
      exact sValOk_j a b s l _ h (by simp [c2])
    · simp only [if_neg c2]
      exact sValOk_j a b s l _ h (by simp [c1, c2])

theorem iIsInt_eq (b : Int) : impl_isInt.f b = some (decide (-2147483648 ≤ b ∧ b ≤ 2147483647)) := by
  unfold impl_isInt.f
  rw [in_eq]
  rfl
theorem clip_same (b : Int) : decide (-2147483648 ≤ b ∧ b ≤ 2147483647) = decide (clip b = b) := by
  unfold clip
  refine decide_eq_decide.2 ⟨fun h => ?_, fun h => ?_⟩
  · rw [if_neg (by omega), if_neg (by omega)]
  · split at h
    · omega
    · split at h <;> omega
theorem iValOk_ev (a b : Int) (s : ByteArray) (l : List Int) (h : l.length ≤ 1048576) : Ev (fun k => impl_ValOk.f k a b s l) (valOk a b s l) := by
  unfold impl_ValOk.f valOk
  by_cases c2 : a = 2
  · simp only [if_pos c2, if_neg (show ¬ (a = 5 ∨ a = 128 ∨ a = 130) by omega), iIsInt_eq, Option.bind_some, clip_same, decide_eq_true_eq]
    refine Ev.ite (fun _ => ?_) (fun _ => Ev.now _)
    refine Ev.bind (iSameVal_ev a b s l a b _ _ (by omega)) ?_
    unfold sameVal
    rw [if_pos rfl, if_pos rfl, emptyStr, decEmpty]
    exact Ev.now _
  simp only [if_neg c2]
  by_cases c4 : a = 4
  · simp only [if_pos c4, if_neg (show ¬ (a = 5 ∨ a = 128 ∨ a = 130) by omega)]
    refine Ev.ite (fun _ => ?_) (fun _ => Ev.now _)
    refine Ev.bind (iSameVal_ev a b s l a 0 s _ (by omega)) ?_
    unfold sameVal
    rw [if_pos rfl, if_pos rfl, decEmpty]
    exact Ev.now _
  simp only [if_neg c4]
  by_cases c6 : a = 6
  · simp only [if_pos c6, if_neg (show ¬ (a = 5 ∨ a = 128 ∨ a = 130) by omega)]
    refine Ev.bind (iOidOk_ev l (by omega)) ?_
    refine Ev.ite (fun _ => ?_) (fun _ => Ev.now _)
    refine Ev.bind (iSameVal_ev a b s l a 0 _ l (by omega)) ?_
    unfold sameVal
    rw [if_pos rfl, emptyStr]
    have e : (if b = 0 then (if s.toList = ([] : List UInt8) then decide (l = l) else false) else false) = (if b = 0 then (s.toList == ([] : List UInt8)) else false) := by
      split
      · by_cases z : s.toList = ([] : List UInt8)
        · simp [z]
        · rw [if_neg z]
          exact (beq_eq_false_iff_ne.2 z).symm
      · rfl
    rw [e]
    exact Ev.now _
  simp only [if_neg c6]
  by_cases c5 : a = 5
  · simp only [if_pos c5, if_pos (show (a = 5 ∨ a = 128 ∨ a = 130) by omega)]
    refine Ev.bind (iSameVal_ev a b s l a 0 _ _ (by omega)) ?_
    rw [valNil_same]
    exact Ev.now _
  simp only [if_neg c5]
  by_cases c8 : a = 128
  · simp only [if_pos c8, if_pos (show (a = 5 ∨ a = 128 ∨ a = 130) by omega)]
    refine Ev.bind (iSameVal_ev a b s l a 0 _ _ (by omega)) ?_
    rw [valNil_same]
    exact Ev.now _
  simp only [if_neg c8]
  by_cases c3 : a = 130
  · simp only [if_pos c3, if_pos (show (a = 5 ∨ a = 128 ∨ a = 130) by omega)]
    refine Ev.bind (iSameVal_ev a b s l a 0 _ _ (by omega)) ?_
    rw [valNil_same]
    exact Ev.now _
  simp only [if_neg c3, if_neg (show ¬ (a = 5 ∨ a = 128 ∨ a = 130) by omega)]
  exact Ev.now _

def cvB (x : S84) : S88 := ⟨x.f0, ⟨x.f1.f0, x.f1.f1, x.f1.f2, x.f1.f3⟩⟩
theorem rdLB_mid (pre rest : List S84) (r : S84) : rd_T84 (pre ++ r :: rest) (pre.length : Int) = r := by
  unfold rd_T84
  simp [List.getD_eq_getElem?_getD]
theorem rdIB_mid (pre rest : List S88) (r : S88) : rd_T88 (pre ++ r :: rest) (pre.length : Int) = r := by
  unfold rd_T88
  simp [List.getD_eq_getElem?_getD]
theorem rdIB_mid' (pre rest : List S88) (r : S88) (n : Nat) (h : pre.length = n) : rd_T88 (pre ++ r :: rest) (n : Int) = r := by
  subst h
  exact rdIB_mid pre rest r
theorem set_atB {α : Type} (pre rest : List α) (r v : α) (n : Nat) (h : pre.length = n) : (pre ++ r :: rest).set (n : Int).toNat v = pre ++ v :: rest := by
  subst h
  exact set_mid pre rest r v
def smallB (x : S84) : Prop := x.f0.length ≤ 1048576 ∧ x.f1.f3.length ≤ 1048576 ∧ x.f1.f2.size ≤ 1048576
def smallI (x : S88) : Prop := x.f0.length ≤ 1048576 ∧ x.f1.f3.length ≤ 1048576
theorem szBind_eq (x : S84) (n : Int) (h0 : 0 ≤ n) (h1 : n ≤ 1048576) (hx : wfS84 x) :
    ∃ m : Int, laws_szBind.f x.f0 x.f1.f0 x.f1.f1 x.f1.f2 x.f1.f3 n = some m ∧ (m < 0 ∨ (m ≤ n ∧ 0 ≤ m ∧ smallB x)) := by
  unfold laws_szBind.f
  rw [szIntS_eq _ _ h0 (by omega) hx.1]
  simp only [Option.bind_some]
  by_cases h : n - (x.f0.length : Int) < 0
  · exact ⟨-1, by simp only [if_pos h]; rfl, Or.inl (by omega)⟩
  · simp only [if_neg h]
    obtain ⟨m, e, hm⟩ := szVal_eq x.f1.f0 x.f1.f1 x.f1.f2 x.f1.f3 (n - (x.f0.length : Int)) (by omega) (by omega) hx.2.2.2.2.1 hx.2.2.2.2.2.1
    rw [e]
    simp only [Option.bind_some]
    by_cases h' : m < 0
    · exact ⟨-1, by simp only [if_pos h'], Or.inl (by omega)⟩
    · have hm := hm.resolve_left h'
      exact ⟨m, by simp only [if_neg h'], Or.inr ⟨by omega, by omega, by unfold smallB; omega⟩⟩
theorem szBindS_loop (rest : List S84) : ∀ (pre : List S84) (n : Int), 0 ≤ n → n ≤ 1048576 → pre.length + rest.length ≤ 1048576 → (∀ y ∈ rest, wfS84 y) →
    ∃ m : Int, Ev (fun k => laws_szBindS.l0 k (pre ++ rest) n (pre.length : Int)) m ∧ (m < 0 ∨ (m ≤ n ∧ 0 ≤ m ∧ ∀ y ∈ rest, smallB y)) := by
  induction rest with
  | nil =>
    intro pre n h0 h1 _ _
    refine ⟨n, Ev.succ ?_, Or.inr ⟨by omega, by omega, by simp⟩⟩
    simp only [laws_szBindS.l0]
    simp only [List.append_nil, if_neg (show ¬ (pre.length : Int) < (pre.length : Int) by omega)]
    exact Ev.now _
  | cons r rest ih =>
    intro pre n h0 h1 hn hw
    simp only [List.length_cons] at hn
    obtain ⟨m, e, hm⟩ := szBind_eq r n h0 h1 (hw r List.mem_cons_self)
    by_cases c : m < 0
    · refine ⟨-1, Ev.succ ?_, Or.inl (by omega)⟩
      simp only [laws_szBindS.l0]
      simp only [if_pos (show (pre.length : Int) < ((pre ++ r :: rest).length : Int) by simp only [List.length_append, List.length_cons]; omega), if_pos (show (0 : Int) ≤ (pre.length : Int) by omega), rdLB_mid, e, Option.bind_some, if_pos c]
      exact Ev.now _
    · have hm := hm.resolve_left c
      obtain ⟨m', e', hm'⟩ := ih (pre ++ [r]) m (by omega) (by omega) (by simp only [List.length_append, List.length_cons, List.length_nil]; omega) (fun y hy => hw y (List.mem_cons_of_mem _ hy))
      simp only [List.append_assoc, List.cons_append, List.nil_append] at e'
      rw [show ((pre ++ [r]).length : Int) = (pre.length : Int) + 1 by simp] at e'
      refine ⟨m', Ev.succ ?_, ?_⟩
      · simp only [laws_szBindS.l0]
        simp only [if_pos (show (pre.length : Int) < ((pre ++ r :: rest).length : Int) by simp only [List.length_append, List.length_cons]; omega), if_pos (show (0 : Int) ≤ (pre.length : Int) by omega), rdLB_mid, e, Option.bind_some, if_neg c, w64 (x := (pre.length : Int) + 1) (by omega) (by omega)]
        exact e'
      · rcases hm' with h | h
        · exact Or.inl h
        · refine Or.inr ⟨by omega, by omega, fun y hy => ?_⟩
          rcases List.mem_cons.1 hy with rfl | hy
          · exact hm.2.2
          · exact h.2.2 y hy
theorem szBindS_ev (l : List S84) (n : Int) (h0 : 0 ≤ n) (h1 : n ≤ 1048576) (hl : l.length ≤ maxLen) (hw : ∀ y ∈ l, wfS84 y) :
    ∃ m : Int, Ev (fun k => laws_szBindS.f k l n) m ∧ (m < 0 ∨ (m ≤ n ∧ 0 ≤ m ∧ l.length ≤ 1048576 ∧ ∀ y ∈ l, smallB y)) := by
  have hl' : l.length ≤ 9223372036854775807 := hl
  unfold laws_szBindS.f
  rw [w64 (by omega) (by omega)]
  by_cases h : n - (l.length : Int) < 0
  · refine ⟨-1, ?_, Or.inl (by omega)⟩
    simp only [if_pos h]
    exact Ev.now _
  · simp only [if_neg h]
    obtain ⟨m, e, hm⟩ := szBindS_loop l [] (n - (l.length : Int)) (by omega) (by omega) (by simp only [List.length_nil]; omega) hw
    refine ⟨m, by simpa using e, ?_⟩
    rcases hm with hm | hm
    · exact Or.inl hm
    · exact Or.inr ⟨by omega, by omega, by omega, hm.2.2⟩
theorem toBind_ev (x : S84) (h : smallB x) : Ev (fun k => laws_toBind.f k x.f0 x.f1.f0 x.f1.f1 x.f1.f2 x.f1.f3) (x.f0, x.f1.f0, x.f1.f1, x.f1.f2, x.f1.f3) := by
  unfold laws_toBind.f
  refine Ev.bind (toIntS_ev _ h.1) ?_
  refine Ev.bind (toVal_ev _ _ _ _ h.2.1) ?_
  exact Ev.now _
theorem toBindS_loop (rest : List S84) : ∀ (pre : List S84), pre.length + rest.length ≤ 1048576 → (∀ y ∈ rest, smallB y) →
    Ev (fun k => laws_toBindS.l0 k (pre ++ rest) (pre.map cvB ++ List.replicate rest.length z88) (pre.length : Int)) ((pre ++ rest).map cvB) := by
  induction rest with
  | nil =>
    intro pre _ _
    refine Ev.succ ?_
    simp only [laws_toBindS.l0]
    simp only [List.append_nil, if_neg (show ¬ (pre.length : Int) < (pre.length : Int) by omega), List.length_nil, List.replicate_zero]
    exact Ev.now _
  | cons r rest ih =>
    intro pre hn hw
    simp only [List.length_cons] at hn
    have h := ih (pre ++ [r]) (by simp only [List.length_append, List.length_cons, List.length_nil]; omega) (fun y hy => hw y (List.mem_cons_of_mem _ hy))
    simp only [List.append_assoc, List.cons_append, List.nil_append, List.map_append, List.map_cons, List.map_nil] at h
    rw [show ((pre ++ [r]).length : Int) = (pre.length : Int) + 1 by simp] at h
    refine Ev.succ ?_
    simp only [laws_toBindS.l0]
    simp only [if_pos (show (pre.length : Int) < ((pre ++ r :: rest).length : Int) by simp only [List.length_append, List.length_cons]; omega), if_pos (show (0 : Int) ≤ (pre.length : Int) by omega), rdLB_mid]
    refine Ev.bind (toBind_ev r (hw r List.mem_cons_self)) ?_
    simp only [List.length_cons, List.replicate_succ]
    simp only [if_pos (show (pre.length : Int) < ((pre.map cvB ++ z88 :: List.replicate rest.length z88).length : Int) by simp only [List.length_append, List.length_map, List.length_replicate, List.length_cons]; omega), set_atB _ _ _ _ _ (show (pre.map cvB).length = pre.length from List.length_map _), w64 (x := (pre.length : Int) + 1) (by omega) (by omega), List.map_append, List.map_cons]
    exact h
theorem toBindS_ev (xs : List S84) (h : xs.length ≤ 1048576) (hw : ∀ y ∈ xs, smallB y) : Ev (fun k => laws_toBindS.f k xs) (xs.map cvB) := by
  unfold laws_toBindS.f
  simp only [if_pos (show (0 : Int) ≤ (xs.length : Int) by omega), Int.toNat_natCast, if_pos (show xs.length ≤ 3518437208883 by omega)]
  have h := toBindS_loop xs [] (by simp only [List.length_nil]; omega) hw
  simpa using h
theorem eqBind_ev (r : S88) (h : smallI r) : Ev (fun k => laws_eqBind.f k r.f0 r.f1.f0 r.f1.f1 r.f1.f2 r.f1.f3 r.f0 r.f1.f0 r.f1.f1 r.f1.f2 r.f1.f3) true := by
  unfold laws_eqBind.f
  have h1 := h.1
  have h2 := h.2
  refine Ev.bind (eqIntS_ev _ _ (by omega)) ?_
  simp only [decide_true, ↓reduceIte]
  refine Ev.bind (eqVal_ev _ _ _ _ (by omega)) ?_
  simp only [↓reduceIte]
  exact Ev.now _
theorem eqBindS_loop (a : List S88) : ∀ (pre : List S88), pre.length + a.length ≤ 1048576 → (∀ y ∈ a, smallI y) →
    Ev (fun k => laws_eqBindS.l0 k (pre ++ a) (pre ++ a) (pre.length : Int)) true := by
  induction a with
  | nil =>
    intro pre hn _
    refine Ev.succ ?_
    simp only [laws_eqBindS.l0]
    simp only [List.append_nil, if_neg (show ¬ (pre.length : Int) < (pre.length : Int) by omega)]
    exact Ev.now _
  | cons r a ih =>
    intro pre hn hw
    simp only [List.length_cons] at hn
    have h := ih (pre ++ [r]) (by simp only [List.length_append, List.length_cons, List.length_nil]; omega) (fun y hy => hw y (List.mem_cons_of_mem _ hy))
    simp only [List.append_assoc, List.cons_append, List.nil_append] at h
    rw [show ((pre ++ [r]).length : Int) = (pre.length : Int) + 1 by simp] at h
    refine Ev.succ ?_
    simp only [laws_eqBindS.l0]
    simp only [if_pos (show (pre.length : Int) < ((pre ++ r :: a).length : Int) by simp only [List.length_append, List.length_cons]; omega), if_pos (show (0 : Int) ≤ (pre.length : Int) by omega), rdIB_mid, w64 (x := (pre.length : Int) + 1) (by omega) (by omega)]
    refine Ev.bind (eqBind_ev r (hw r List.mem_cons_self)) ?_
    simp only [↓reduceIte]
    exact h
theorem eqBindS_ev (a : List S88) (h : a.length ≤ 1048576) (hw : ∀ y ∈ a, smallI y) : Ev (fun k => laws_eqBindS.f k a a) true := by
  unfold laws_eqBindS.f
  simp only [↓reduceIte]
  have h := eqBindS_loop a [] (by simp only [List.length_nil]; omega) hw
  simpa using h
theorem small_map (l : List S84) (h : ∀ y ∈ l, smallB y) : ∀ y ∈ l.map cvB, smallI y := by
  intro y hy
  obtain ⟨x, hx, rfl⟩ := List.mem_map.1 hy
  exact ⟨(h x hx).1, (h x hx).2.1⟩

theorem szPdu_ev (t id es ei : Int) (l : List S84) (n : Int) (h0 : 0 ≤ n) (h1 : n ≤ 1048576) (hl : l.length ≤ maxLen) (hw : ∀ y ∈ l, wfS84 y) :
    ∃ m : Int, Ev (fun k => laws_szPdu.f k t id es ei l n) m ∧ (m < 0 ∨ (m ≤ n ∧ 0 ≤ m ∧ l.length ≤ 1048576 ∧ ∀ y ∈ l, smallB y)) := by
  unfold laws_szPdu.f
  obtain ⟨m, e, hm⟩ := szBindS_ev l n h0 h1 hl hw
  by_cases c : m < 0
  · refine ⟨-1, Ev.bind e ?_, Or.inl (by omega)⟩
    simp only [if_pos c]
    exact Ev.now _
  · refine ⟨m, Ev.bind e ?_, hm⟩
    simp only [if_neg c]
    exact Ev.now _
theorem toPdu_ev (t id es ei : Int) (l : List S84) (h : l.length ≤ 1048576) (hw : ∀ y ∈ l, smallB y) : Ev (fun k => laws_toPdu.f k t id es ei l) (t, id, es, ei, l.map cvB) := by
  unfold laws_toPdu.f
  refine Ev.bind (toBindS_ev l h hw) ?_
  exact Ev.now _
theorem eqPdu_ev (t id es ei : Int) (l : List S88) (h : l.length ≤ 1048576) (hw : ∀ y ∈ l, smallI y) : Ev (fun k => laws_eqPdu.f k t id es ei l t id es ei l) true := by
  unfold laws_eqPdu.f
  simp only [↓reduceIte]
  refine Ev.bind (eqBindS_ev l h hw) ?_
  simp only [↓reduceIte]
  exact Ev.now _

def bindsOk : List S88 → Bool → Bool
  | [], z => z
  | r :: a, z => if oidOk r.f0 = true then (if valOk r.f1.f0 r.f1.f1 r.f1.f2 r.f1.f3 = true then bindsOk a z else false) else false
theorem bindsOk_false (l : List S88) : bindsOk l false = false := by
  induction l with
  | nil => rfl
  | cons r l ih => simp only [bindsOk, ih, ite_self]
def pduHd (t es ei : Int) : Bool := if t = 160 ∨ t = 161 ∨ t = 163 then decide (es = 0 ∧ ei = 0) else if t = 162 ∨ t = 165 then decide ((0 ≤ es ∧ es ≤ 1000) ∧ (0 ≤ ei ∧ ei ≤ 1000)) else false
def pduOk (t id es ei : Int) (l : List S88) : Bool := if pduHd t es ei = true then (if (l.length : Int) ≤ 10 then bindsOk l (decide (clip id = id)) else false) else false
theorem sKind_eq (t : Int) : spec_l4Kind.f t = some (decide (t = 160 ∨ t = 161 ∨ t = 162 ∨ t = 163 ∨ t = 165)) := by
  unfold spec_l4Kind.f
  by_cases h0 : t = 160
  · simp [h0]
  by_cases h1 : t = 161
  · simp [h1]
  by_cases h2 : t = 162
  · simp [h2]
  by_cases h3 : t = 163
  · simp [h3]
  by_cases h4 : t = 165
  · simp [h4]
  rw [if_neg h0, if_neg h1, if_neg h2, if_neg h3, decide_eq_false (by omega)]
  exact congrArg some (beq_eq_false_iff_ne.2 h4)
def sHd (q : Bool) (t id es ei : Int) (l : List S88) : Bool :=
  if q = true then false else if decide (t = 160 ∨ t = 161 ∨ t = 162 ∨ t = 163 ∨ t = 165) = true then (if clip id = id then (if decide (0 ≤ es ∧ es ≤ 1000) = true then (if decide (0 ≤ ei ∧ ei ≤ 1000) = true then decide ((l.length : Int) ≤ 10) else false) else false) else false) else false
theorem sPdu_j1 (q : Bool) (t id es ei : Int) (l : List S88) : Ev (fun k => spec_PduOk.j1 k q t id es ei l) (sHd q t id es ei l) := by
  refine Ev.succ ?_
  simp only [spec_PduOk.j1]
  unfold sHd
  simp only [sKind_eq, sClip_eq, l1In_eq, Option.bind_some]
  refine Ev.ite (fun _ => Ev.now _) (fun _ => ?_)
  refine Ev.ite (fun _ => ?_) (fun _ => Ev.now _)
  refine Ev.ite (fun _ => ?_) (fun _ => Ev.now _)
  refine Ev.ite (fun _ => ?_) (fun _ => Ev.now _)
  refine Ev.ite (fun _ => Ev.now _) (fun _ => Ev.now _)
def sEnd (t id es ei : Int) (l : List S88) : Bool := if t = 162 then sHd false t id es ei l else if t = 165 then sHd false t id es ei l else if es = 0 then sHd (ei != 0) t id es ei l else sHd true t id es ei l
theorem sEnd_eq (t id es ei : Int) (l : List S88) : sEnd t id es ei l = (if pduHd t es ei = true then (if (l.length : Int) ≤ 10 then decide (clip id = id) else false) else false) := by
  unfold sEnd sHd pduHd
  rw [Bool.eq_iff_iff]
  by_cases h2 : t = 162
  · simp [h2]
    by_cases a1 : 0 ≤ es ∧ es ≤ 1000 <;> by_cases a2 : 0 ≤ ei ∧ ei ≤ 1000 <;> simp [a1, a2]
    exact and_comm
  by_cases h5 : t = 165
  · simp [h5]
    by_cases a1 : 0 ≤ es ∧ es ≤ 1000 <;> by_cases a2 : 0 ≤ ei ∧ ei ≤ 1000 <;> simp [a1, a2]
    exact and_comm
  by_cases hk : t = 160 ∨ t = 161 ∨ t = 163
  · have hk' : t = 160 ∨ t = 161 ∨ t = 162 ∨ t = 163 ∨ t = 165 := by omega
    by_cases e1 : es = 0
    · by_cases e2 : ei = 0
      · simp [h2, h5, hk, hk', e1, e2]
        exact and_comm
      · simp [h2, h5, hk, e1, e2]
    · simp [h2, h5, hk, e1]
  · have hk' : ¬ (t = 160 ∨ t = 161 ∨ t = 162 ∨ t = 163 ∨ t = 165) := by omega
    have hk2 : ¬ (t = 162 ∨ t = 165) := by omega
    rw [if_neg hk, if_neg hk2, decide_eq_false hk']
    simp [h2, h5]
theorem sPduOk_loop (t id es ei : Int) (rest : List S88) : ∀ (pre : List S88), pre.length + rest.length ≤ 1048576 → (∀ y ∈ rest, smallI y) →
    Ev (fun k => spec_PduOk.l0 k (pre.length : Int) t id es ei (pre ++ rest)) (bindsOk rest (sEnd t id es ei (pre ++ rest))) := by
  induction rest with
  | nil =>
    intro pre _ _
    refine Ev.succ ?_
    simp only [spec_PduOk.l0]
    simp only [List.append_nil, if_neg (show ¬ (pre.length : Int) < (pre.length : Int) by omega), bindsOk]
    unfold sEnd
    refine Ev.ite (fun _ => sPdu_j1 _ _ _ _ _ _) (fun _ => ?_)
    refine Ev.ite (fun _ => sPdu_j1 _ _ _ _ _ _) (fun _ => ?_)
    exact Ev.ite (fun _ => sPdu_j1 _ _ _ _ _ _) (fun _ => sPdu_j1 _ _ _ _ _ _)
  | cons r rest ih =>
    intro pre hn hw
    simp only [List.length_cons] at hn
    have hr := hw r List.mem_cons_self
    have h1 := hr.1
    have h2 := hr.2
    have h := ih (pre ++ [r]) (by simp only [List.length_append, List.length_cons, List.length_nil]; omega) (fun y hy => hw y (List.mem_cons_of_mem _ hy))
    simp only [List.append_assoc, List.cons_append, List.nil_append] at h
    rw [show ((pre ++ [r]).length : Int) = (pre.length : Int) + 1 by simp] at h
    refine Ev.succ ?_
    simp only [spec_PduOk.l0]
    simp only [if_pos (show (pre.length : Int) < ((pre ++ r :: rest).length : Int) by simp only [List.length_append, List.length_cons]; omega), if_pos (show (0 : Int) ≤ (pre.length : Int) by omega), rdIB_mid, w64 (x := (pre.length : Int) + 1) (by omega) (by omega), bindsOk]
    refine Ev.bind (sOidOk_ev _ (by omega)) ?_
    refine Ev.ite (fun _ => ?_) (fun _ => Ev.now _)
    refine Ev.bind (sValOk_ev _ _ _ _ h2) ?_
    exact Ev.ite (fun _ => h) (fun _ => Ev.now _)
theorem sPduOk_ev (t id es ei : Int) (l : List S88) (h : l.length ≤ 1048576) (hw : ∀ y ∈ l, smallI y) : Ev (fun k => spec_PduOk.f k t id es ei l) (pduOk t id es ei l) := by
  unfold spec_PduOk.f
  have e := sPduOk_loop t id es ei l [] (by simp only [List.length_nil]; omega) hw
  have hv : bindsOk l (sEnd t id es ei l) = pduOk t id es ei l := by
    rw [sEnd_eq]
    unfold pduOk
    by_cases c : pduHd t es ei = true
    · simp only [if_pos c]
      by_cases d : (l.length : Int) ≤ 10
      · simp only [if_pos d]
      · simp only [if_neg d, bindsOk_false]
    · simp only [if_neg c, bindsOk_false]
  simp only [List.nil_append] at e
  rw [hv] at e
  exact e
theorem iPduOk_loop (t id es ei : Int) (L : List S88) (rest : List S88) : ∀ (pre : List S88) (m : Int), m = (pre.length : Int) + rest.length → pre.length ≤ 10 → (∀ y ∈ rest, smallI y) →
    Ev (fun k => impl_PduOk.l0 k (pre ++ rest) m (pre.length : Int) t id es ei L) (if (pre.length : Int) + rest.length ≤ 10 then bindsOk rest (decide (clip id = id)) else false) := by
  induction rest with
  | nil =>
    intro pre m hm hp _
    simp only [List.length_nil] at hm
    refine Ev.succ ?_
    simp only [impl_PduOk.l0]
    simp only [if_neg (show ¬ (pre.length : Int) < m by omega), iIsInt_eq, clip_same, Option.bind_some, List.length_nil, if_pos (show (pre.length : Int) + ((0 : Nat) : Int) ≤ 10 by omega), bindsOk]
    exact Ev.now _
  | cons r rest ih =>
    intro pre m hm hp hw
    simp only [List.length_cons] at hm
    have hr := hw r List.mem_cons_self
    have h1 := hr.1
    have h2 := hr.2
    refine Ev.succ ?_
    simp only [impl_PduOk.l0]
    simp only [if_pos (show (pre.length : Int) < m by omega), if_pos (show (pre.length : Int) < ((pre ++ r :: rest).length : Int) by simp only [List.length_append, List.length_cons]; omega), if_pos (show (0 : Int) ≤ (pre.length : Int) by omega), rdIB_mid, w64 (x := (pre.length : Int) + 1) (by omega) (by omega)]
    by_cases c : (pre.length : Int) ≥ 10
    · simp only [if_pos c, if_neg (show ¬ (pre.length : Int) + ((r :: rest).length : Int) ≤ 10 by simp only [List.length_cons]; omega)]
      exact Ev.now _
    · have h := ih (pre ++ [r]) m (by simp only [List.length_append, List.length_cons, List.length_nil]; omega) (by simp only [List.length_append, List.length_cons, List.length_nil]; omega) (fun y hy => hw y (List.mem_cons_of_mem _ hy))
      simp only [List.append_assoc, List.cons_append, List.nil_append] at h
      rw [show ((pre ++ [r]).length : Int) = (pre.length : Int) + 1 by simp] at h
      simp only [if_neg c]
      have hv : (if (pre.length : Int) + ((r :: rest).length : Int) ≤ 10 then bindsOk (r :: rest) (decide (clip id = id)) else false) = (if oidOk r.f0 = true then (if valOk r.f1.f0 r.f1.f1 r.f1.f2 r.f1.f3 = true then (if (pre.length : Int) + 1 + rest.length ≤ 10 then bindsOk rest (decide (clip id = id)) else false) else false) else false) := by
        by_cases d : (pre.length : Int) + 1 + rest.length ≤ 10
        · simp only [if_pos (show (pre.length : Int) + ((r :: rest).length : Int) ≤ 10 by simp only [List.length_cons]; omega), if_pos d, bindsOk]
        · simp only [if_neg (show ¬ (pre.length : Int) + ((r :: rest).length : Int) ≤ 10 by simp only [List.length_cons]; omega), if_neg d, ite_self]
      rw [hv]
      refine Ev.bind (iOidOk_ev _ (by omega)) ?_
      refine Ev.ite (fun _ => ?_) (fun _ => Ev.now _)
      refine Ev.bind (iValOk_ev _ _ _ _ h2) ?_
      exact Ev.ite (fun _ => h) (fun _ => Ev.now _)
theorem iPdu_j2 (t id es ei : Int) (l : List S88) (hw : ∀ y ∈ l, smallI y) : Ev (fun k => impl_PduOk.j2 k t id es ei l) (if (l.length : Int) ≤ 10 then bindsOk l (decide (clip id = id)) else false) := by
  refine Ev.succ ?_
  simp only [impl_PduOk.j2]
  have h := iPduOk_loop t id es ei l l [] (l.length : Int) (by simp) (by simp) hw
  simpa using h
theorem iPdu_j1 (q : Bool) (t id es ei : Int) (l : List S88) (hw : ∀ y ∈ l, smallI y) : Ev (fun k => impl_PduOk.j1 k q t id es ei l) (if q = true then (if decide (0 ≤ es ∧ es ≤ 1000) = true then (if decide (0 ≤ ei ∧ ei ≤ 1000) = true then (if (l.length : Int) ≤ 10 then bindsOk l (decide (clip id = id)) else false) else false) else false) else false) := by
  refine Ev.succ ?_
  simp only [impl_PduOk.j1]
  simp only [in_eq, Option.bind_some]
  refine Ev.ite (fun _ => ?_) (fun _ => Ev.now _)
  refine Ev.ite (fun _ => ?_) (fun _ => Ev.now _)
  refine Ev.ite (fun _ => ?_) (fun _ => Ev.now _)
  exact iPdu_j2 t id es ei l hw
theorem iPdu_j0 (q : Bool) (t id es ei : Int) (l : List S88) (hw : ∀ y ∈ l, smallI y) (hq : q = true ↔ (t = 160 ∨ t = 161 ∨ t = 163)) : Ev (fun k => impl_PduOk.j0 k t q t id es ei l) (pduOk t id es ei l) := by
  refine Ev.succ ?_
  simp only [impl_PduOk.j0]
  unfold pduOk pduHd
  by_cases c : t = 160 ∨ t = 161 ∨ t = 163
  · simp only [if_pos c, if_pos (hq.2 c)]
    by_cases e1 : es = 0
    · by_cases e2 : ei = 0
      · simp only [if_pos e1, if_pos e2, decide_eq_true (show es = 0 ∧ ei = 0 from ⟨e1, e2⟩), if_true]
        exact iPdu_j2 t id es ei l hw
      · simp only [if_pos e1, if_neg e2, decide_eq_false (show ¬ (es = 0 ∧ ei = 0) from fun h => e2 h.2), Bool.false_eq_true, if_false]
        exact Ev.now _
    · simp only [if_neg e1, decide_eq_false (show ¬ (es = 0 ∧ ei = 0) from fun h => e1 h.1), Bool.false_eq_true, if_false]
      exact Ev.now _
  · have hq' : ¬ q = true := fun e => c (hq.1 e)
    simp only [if_neg c, if_neg hq']
    by_cases d : t = 162 ∨ t = 165
    · have hb : (t == 162) = true ∨ (t == 165) = true := by rcases d with rfl | rfl <;> simp
      have hgo : ∀ q' : Bool, q' = true → Ev (fun k => impl_PduOk.j1 k q' t id es ei l) (if (if t = 162 ∨ t = 165 then decide ((0 ≤ es ∧ es ≤ 1000) ∧ (0 ≤ ei ∧ ei ≤ 1000)) else false) = true then (if (l.length : Int) ≤ 10 then bindsOk l (decide (clip id = id)) else false) else false) := by
        intro q' h'
        have e := iPdu_j1 q' t id es ei l hw
        rw [if_pos h'] at e
        rw [if_pos d]
        by_cases a1 : 0 ≤ es ∧ es ≤ 1000
        · by_cases a2 : 0 ≤ ei ∧ ei ≤ 1000
          · rw [decide_eq_true a1, decide_eq_true a2, if_pos rfl, if_pos rfl] at e
            rw [decide_eq_true (show (0 ≤ es ∧ es ≤ 1000) ∧ (0 ≤ ei ∧ ei ≤ 1000) from ⟨a1, a2⟩), if_pos rfl]
            exact e
          · rw [decide_eq_true a1, decide_eq_false a2, if_pos rfl, if_neg (by decide)] at e
            rw [decide_eq_false (show ¬ ((0 ≤ es ∧ es ≤ 1000) ∧ (0 ≤ ei ∧ ei ≤ 1000)) from fun h => a2 h.2), if_neg (by decide)]
            exact e
        · rw [decide_eq_false a1, if_neg (by decide)] at e
          rw [decide_eq_false (show ¬ ((0 ≤ es ∧ es ≤ 1000) ∧ (0 ≤ ei ∧ ei ≤ 1000)) from fun h => a1 h.1), if_neg (by decide)]
          exact e
      by_cases d2 : t = 162
      · simp only [if_pos d2]
        exact hgo _ (beq_iff_eq.2 d2)
      · simp only [if_neg d2]
        exact hgo _ (beq_iff_eq.2 (d.resolve_left d2))
    · have hf : ∀ q' : Bool, q' = false → Ev (fun k => impl_PduOk.j1 k q' t id es ei l) false := by
        intro q' h'
        have e := iPdu_j1 q' t id es ei l hw
        rw [h', if_neg (by decide)] at e
        rw [h']
        exact e
      simp only [if_neg d, Bool.false_eq_true, if_false, if_neg (show ¬ t = 162 from fun e => d (Or.inl e))]
      exact hf _ (beq_eq_false_iff_ne.2 fun e => d (Or.inr e))
theorem iPduOk_ev (t id es ei : Int) (l : List S88) (_h : l.length ≤ 1048576) (hw : ∀ y ∈ l, smallI y) : Ev (fun k => impl_PduOk.f k t id es ei l) (pduOk t id es ei l) := by
  unfold impl_PduOk.f
  by_cases c1 : t = 160
  · simp only [if_pos c1]
    exact iPdu_j0 _ t id es ei l hw (by simp [c1])
  · simp only [if_neg c1]
    by_cases c2 : t = 161
    · simp only [if_pos c2]
      exact iPdu_j0 _ t id es ei l hw (by simp [c2])
    · simp only [if_neg c2]
      exact iPdu_j0 _ t id es ei l hw (by simp [c1, c2])

theorem FnExactPduOk : laws_FnExactPduOk.Pure := by
  intro t id es ei l _ _ _ _ hl hw
  refine Ev.rounds ?_
  unfold laws_FnExactPduOk.f
  obtain ⟨m, em, hm⟩ := szPdu_ev t id es ei l 1048576 (by omega) (by omega) hl hw
  refine Ev.bind em ?_
  by_cases cm : m < 0
  · simp only [if_pos cm]
    exact Ev.now _
  have hm := hm.resolve_left cm
  obtain ⟨gm1, gm2, gm3, gm4⟩ := hm
  have fm : (l.map cvB).length ≤ 1048576 := by rw [List.length_map]; exact gm3
  have sm := small_map l gm4
  simp only [if_neg cm]
  repeat' first
    | exact Ev.now _
    | ((with_reducible refine Ev.bind (toPdu_ev _ _ _ _ _ ?s0 ?s1) ?_); (case s0 => first | omega | assumption); (case s1 => first | omega | assumption))
    | ((with_reducible refine Ev.bind (sPduOk_ev _ _ _ _ _ ?s0 ?s1) ?_); (case s0 => first | omega | assumption); (case s1 => first | omega | assumption))
    | ((with_reducible refine Ev.bind (iPduOk_ev _ _ _ _ _ ?s0 ?s1) ?_); (case s0 => first | omega | assumption); (case s1 => first | omega | assumption))
    | ((with_reducible refine Ev.bind (eqPdu_ev _ _ _ _ _ ?s0 ?s1) ?_); (case s0 => first | omega | assumption); (case s1 => first | omega | assumption))
    | simp only [bne_self_eq_false, Bool.false_eq_true, Bool.not_true, Bool.not_false, decide_true, Option.bind_some, ↓reduceIte]

end Go.Proofs.Ytebffdmkfkfoaaa.Pure
