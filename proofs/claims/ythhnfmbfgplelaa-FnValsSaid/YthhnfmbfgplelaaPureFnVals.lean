/- The pure side of FnVals: a value's bytes read back, and what reads as a value has these bytes. No conditions but those of the given statement. -/
import Derived.Test.YthhnfmbfgplelaaXFnValsx12
namespace Go.Proofs.Ythhnfmbfgplelaa.Pure
open Go.RowKit Go.Proofs.Ythhnfmbfgplelaa.XFnVals Go.Proofs.YthhnfmbfgplelaaW.PrintWords Go.Proofs.YthhnfmbfgplelaaW.PrintLast Go.Proofs.YthhnfmbfgplelaaW.PrintMore
set_option linter.unusedVariables false
set_option linter.unusedSimpArgs false

theorem w64 {x : Int} (h0 : -9223372036854775808 ≤ x) (h1 : x ≤ 9223372036854775807) : wrap64 x = x := by
  unfold wrap64
  omega
theorem rd_mid (pre rest : List Int) (r : Int) : rd (pre ++ r :: rest) (pre.length : Int) = r := by
  unfold rd
  simp [List.getD_eq_getElem?_getD]
theorem succ_of {d k : Nat} (h : d < k) : ∃ m, k = m + 1 := ⟨k - 1, by omega⟩
theorem Ev.at_ {α : Type} {g : Nat → Option α} {r : α} (n : Nat) (h : ∀ k, n < k → g k = some r) : Ev g r := ⟨n + 1, fun k hk => h k (by omega)⟩
theorem Ev.some_ {α : Type} {v : Option α} {r : α} (h : v = some r) : Ev (fun _ => v) r := ⟨0, fun _ _ => h⟩
theorem Ev.succ {α : Type} {g : Nat → Option α} {r : α} (h : Ev (fun k => g (k + 1)) r) : Ev g r := by
  obtain ⟨K, h⟩ := h
  refine ⟨K + 1, fun n hn => ?_⟩
  obtain ⟨m, rfl⟩ : ∃ m, n = m + 1 := ⟨n - 1, by omega⟩
  exact h m (by omega)
theorem Ev.some_const {α : Type} {g : Nat → Option α} {r : α} (h : ∀ k, g k = some r) : Ev g r := ⟨0, fun k _ => h k⟩

theorem l1In_eq (a b c : Int) : spec_l1In.f a b c = some (decide (b ≤ a ∧ a ≤ c)) := by
  unfold spec_l1In.f
  by_cases h : b ≤ a
  · rw [if_pos h]; simp [h]
  · rw [if_neg h]; simp [h]

theorem in_eq (a b c : Int) : impl_in.f a b c = some (decide (b ≤ a ∧ a ≤ c)) := by
  unfold impl_in.f
  by_cases h : b ≤ a
  · rw [if_pos h]; simp [h]
  · rw [if_neg h]; simp [h]

theorem sameBytes_loop (a : List Int) : ∀ (b pre pre' : List Int) (k : Nat), pre.length = pre'.length → a.length = b.length → pre.length + a.length ≤ 1099511627776 → a.length < k →
    laws_sameBytes.l0 k (pre ++ a) (pre' ++ b) (pre.length : Int) = some (decide (a = b)) := by
  induction a with
  | nil =>
    intro b pre pre' k hp hab hn hk
    obtain ⟨k, rfl⟩ := succ_of hk
    obtain rfl : b = [] := List.eq_nil_of_length_eq_zero hab.symm
    simp only [laws_sameBytes.l0]
    rw [if_neg (by simp only [List.length_append, List.length_nil] at *; omega)]
    simp
  | cons r a ih =>
    intro b pre pre' k hp hab hn hk
    obtain ⟨k, rfl⟩ := succ_of hk
    cases b with
    | nil => simp at hab
    | cons s b =>
      simp only [List.length_cons] at hab hn hk
      simp only [laws_sameBytes.l0]
      have e : rd (pre' ++ s :: b) (pre.length : Int) = s := by rw [hp, rd_mid]
      rw [if_pos (by simp only [List.length_append, List.length_cons]; omega), if_pos (by omega), if_pos (by simp only [List.length_append, List.length_cons]; omega), rd_mid, e]
      by_cases hrs : r = s
      · subst hrs
        rw [if_pos rfl, w64 (by omega) (by omega)]
        have h := ih b (pre ++ [r]) (pre' ++ [r]) k (by simp [hp]) (by omega) (by simp only [List.length_append, List.length_cons, List.length_nil]; omega) (by omega)
        simpa using h
      · rw [if_neg hrs]
        simp [hrs]
theorem sameBytes_ev (a b : List Int) (h : a.length ≤ 1099511627776) : Ev (fun k => laws_sameBytes.f k a b) (decide (a = b)) := by
  refine Ev.at_ a.length fun k hk => ?_
  simp only [laws_sameBytes.f]
  by_cases e : a.length = b.length
  · rw [if_pos (by omega)]
    have h := sameBytes_loop a b [] [] k rfl e (by simp only [List.length_nil]; omega) hk
    simpa using h
  · rw [if_neg (by omega)]
    have hne : ¬ a = b := fun h => e (by rw [h])
    simp [hne]

theorem Ev.ite {α : Type} {c : Prop} [Decidable c] {g1 g2 : Nat → Option α} {r1 r2 : α} (h1 : c → Ev g1 r1) (h2 : ¬ c → Ev g2 r2) : Ev (fun k => if c then g1 k else g2 k) (if c then r1 else r2) := by
  by_cases h : c
  · simp only [if_pos h]; exact h1 h
  · simp only [if_neg h]; exact h2 h

theorem Ev.uniq {α : Type} {g : Nat → Option α} {r1 r2 : α} (h1 : Ev g r1) (h2 : Ev g r2) : r1 = r2 := by
  obtain ⟨a, ha⟩ := h1
  obtain ⟨b, hb⟩ := h2
  exact Option.some.inj ((ha (max a b) (Nat.le_max_left a b)).symm.trans (hb (max a b) (Nat.le_max_right a b)))

def bys (l : List Int) : Prop := ∀ y ∈ l, 0 ≤ y ∧ y ≤ 255
theorem bys_app {a b : List Int} (ha : bys a) (hb : bys b) : bys (a ++ b) := by
  intro y hy
  rcases List.mem_append.1 hy with h | h
  · exact ha y h
  · exact hb y h
theorem bys_one {b : Int} (h : 0 ≤ b ∧ b ≤ 255) : bys [b] := by
  intro y hy
  rw [List.mem_singleton.1 hy]
  exact h
theorem bys_take {a : List Int} (ha : bys a) (n : Nat) : bys (a.take n) := fun y hy => ha y (List.mem_of_mem_take hy)
theorem bys_set {a : List Int} (ha : bys a) (n : Nat) {v : Int} (hv : 0 ≤ v ∧ v ≤ 255) : bys (a.set n v) := by
  intro y hy
  rcases List.mem_or_eq_of_mem_set hy with h | h
  · exact ha y h
  · rw [h]; exact hv

theorem sSameOid_loop (a : List Int) : ∀ (b pre pre' : List Int) (k : Nat), pre.length = pre'.length → a.length = b.length → pre.length + a.length ≤ 1099511627776 → a.length < k →
    spec_SameOid.l0 k (pre ++ a) (pre' ++ b) (pre.length : Int) = some (decide (a = b)) := by
  induction a with
  | nil =>
    intro b pre pre' k hp hab hn hk
    obtain ⟨k, rfl⟩ := succ_of hk
    obtain rfl : b = [] := List.eq_nil_of_length_eq_zero hab.symm
    simp only [spec_SameOid.l0]
    rw [if_neg (by simp only [List.length_append, List.length_nil] at *; omega)]
    simp
  | cons r a ih =>
    intro b pre pre' k hp hab hn hk
    obtain ⟨k, rfl⟩ := succ_of hk
    cases b with
    | nil => simp at hab
    | cons s b =>
      simp only [List.length_cons] at hab hn hk
      simp only [spec_SameOid.l0]
      have e : rd (pre' ++ s :: b) (pre.length : Int) = s := by rw [hp, rd_mid]
      rw [if_pos (by simp only [List.length_append, List.length_cons]; omega), if_pos (by omega), if_pos (by simp only [List.length_append, List.length_cons]; omega), rd_mid, e]
      by_cases hrs : r = s
      · subst hrs
        rw [if_pos rfl, w64 (by omega) (by omega)]
        have h := ih b (pre ++ [r]) (pre' ++ [r]) k (by simp [hp]) (by omega) (by simp only [List.length_append, List.length_cons, List.length_nil]; omega) (by omega)
        simpa using h
      · rw [if_neg hrs]
        simp [hrs]
theorem sSameOid_ev (a b : List Int) (h : a.length ≤ 1099511627776) : Ev (fun k => spec_SameOid.f k a b) (decide (a = b)) := by
  refine Ev.at_ a.length fun k hk => ?_
  simp only [spec_SameOid.f]
  by_cases e : a.length = b.length
  · rw [if_pos (by omega)]
    have h := sSameOid_loop a b [] [] k rfl e (by simp only [List.length_nil]; omega) hk
    simpa using h
  · rw [if_neg (by omega)]
    have hne : ¬ a = b := fun h => e (by rw [h])
    simp [hne]

theorem iSameOid_loop (a : List Int) : ∀ (b pre pre' : List Int) (m : Int) (k : Nat), pre.length = pre'.length → a.length = b.length → pre.length + a.length ≤ 1099511627776 → m = (pre.length : Int) + (a.length : Int) → a.length < k →
    impl_SameOid.l0 k (pre ++ a) (pre' ++ b) m (pre.length : Int) = some (decide (a = b)) := by
  induction a with
  | nil =>
    intro b pre pre' m k hp hab hn hm hk
    obtain ⟨k, rfl⟩ := succ_of hk
    obtain rfl : b = [] := List.eq_nil_of_length_eq_zero hab.symm
    simp only [impl_SameOid.l0]
    rw [if_neg (by simp only [List.length_append, List.length_nil] at *; omega)]
    simp
  | cons r a ih =>
    intro b pre pre' m k hp hab hn hm hk
    obtain ⟨k, rfl⟩ := succ_of hk
    cases b with
    | nil => simp at hab
    | cons s b =>
      simp only [List.length_cons] at hab hn hk hm
      simp only [impl_SameOid.l0]
      have e : rd (pre' ++ s :: b) (pre.length : Int) = s := by rw [hp, rd_mid]
      rw [if_pos (by omega), if_pos (by omega), if_pos (by simp only [List.length_append, List.length_cons]; omega), if_pos (by simp only [List.length_append, List.length_cons]; omega), rd_mid, e]
      by_cases hrs : r = s
      · subst hrs
        rw [if_pos rfl, w64 (by omega) (by omega)]
        have h := ih b (pre ++ [r]) (pre' ++ [r]) m k (by simp [hp]) (by omega) (by simp only [List.length_append, List.length_cons, List.length_nil]; omega) (by simp only [List.length_append, List.length_cons, List.length_nil]; omega) (by omega)
        simpa using h
      · rw [if_neg hrs]
        simp [hrs]
theorem iSameOid_ev (a b : List Int) (h : a.length ≤ 1099511627776) : Ev (fun k => impl_SameOid.f k a b) (decide (a = b)) := by
  refine Ev.at_ a.length fun k hk => ?_
  simp only [impl_SameOid.f]
  by_cases e : a.length = b.length
  · rw [if_pos (by omega)]
    have h := iSameOid_loop a b [] [] (a.length : Int) k rfl e (by simp only [List.length_nil]; omega) (by simp) hk
    simpa using h
  · rw [if_neg (by omega)]
    have hne : ¬ a = b := fun h => e (by rw [h])
    simp [hne]

def oidNums (xs : List Int) : Bool := xs.all fun n => decide (0 ≤ n ∧ n ≤ 100000)
def oidOk (xs : List Int) : Bool := oidNums xs && decide (1 ≤ (xs.length : Int) ∧ (xs.length : Int) ≤ 10)

theorem sOidOk_loop (rest : List Int) : ∀ (pre : List Int) (k : Nat), pre.length + rest.length ≤ 1099511627776 → rest.length < k →
    spec_OidOk.l0 k (pre ++ rest) (pre.length : Int) = some (oidNums rest && decide (1 ≤ ((pre ++ rest).length : Int) ∧ ((pre ++ rest).length : Int) ≤ 10)) := by
  induction rest with
  | nil =>
    intro pre k _ hk
    obtain ⟨k, rfl⟩ := succ_of hk
    simp only [spec_OidOk.l0]
    rw [if_neg (by simp only [List.length_append, List.length_nil]; omega), l1In_eq]
    simp [oidNums]
  | cons r rest ih =>
    intro pre k hn hk
    obtain ⟨k, rfl⟩ := succ_of hk
    simp only [List.length_cons] at hn hk
    simp only [spec_OidOk.l0]
    rw [if_pos (by simp only [List.length_append, List.length_cons]; omega), if_pos (by omega), rd_mid, l1In_eq, w64 (by omega) (by omega)]
    simp only [Option.bind_some]
    by_cases h : 0 ≤ r ∧ r ≤ 100000
    · rw [if_pos (by simpa using h)]
      have e := ih (pre ++ [r]) k (by simp only [List.length_append, List.length_cons, List.length_nil]; omega) (by omega)
      simp only [List.append_assoc, List.cons_append, List.nil_append] at e
      rw [show (pre.length : Int) + 1 = ((pre ++ [r]).length : Int) from by simp, e]
      simp [oidNums, h]
    · rw [if_neg (by simpa using h)]
      simp only [oidNums, List.all_cons, decide_eq_false h, Bool.false_and]
theorem sOidOk_ev (xs : List Int) (h : xs.length ≤ 1099511627776) : Ev (fun k => spec_OidOk.f k xs) (oidOk xs) := by
  refine Ev.at_ xs.length fun k hk => ?_
  simp only [spec_OidOk.f]
  have e := sOidOk_loop xs [] k (by simp only [List.length_nil]; omega) hk
  simpa [oidOk] using e

theorem iOidOk_loop (rest : List Int) : ∀ (pre all : List Int) (m : Int) (k : Nat), m = (pre.length : Int) + rest.length → pre.length + rest.length ≤ 1099511627776 → rest.length < k →
    impl_OidOk.l0 k all (pre ++ rest) m (pre.length : Int) = some (oidNums rest && decide (1 ≤ (all.length : Int) ∧ (all.length : Int) ≤ 10)) := by
  induction rest with
  | nil =>
    intro pre all m k hm _ hk
    obtain ⟨k, rfl⟩ := succ_of hk
    simp only [List.length_nil] at hm
    simp only [impl_OidOk.l0]
    rw [if_neg (by omega), in_eq]
    simp [oidNums]
  | cons r rest ih =>
    intro pre all m k hm hn hk
    obtain ⟨k, rfl⟩ := succ_of hk
    simp only [List.length_cons] at hm hn hk
    simp only [impl_OidOk.l0]
    rw [if_pos (by omega), if_pos (by omega), if_pos (by simp only [List.length_append, List.length_cons]; omega), rd_mid, in_eq, w64 (by omega) (by omega)]
    simp only [Option.bind_some]
    by_cases h : 0 ≤ r ∧ r ≤ 100000
    · rw [if_pos (by simpa using h)]
      have e := ih (pre ++ [r]) all m k (by simp only [List.length_append, List.length_cons, List.length_nil]; omega) (by simp only [List.length_append, List.length_cons, List.length_nil]; omega) (by omega)
      simp only [List.append_assoc, List.cons_append, List.nil_append] at e
      rw [show (pre.length : Int) + 1 = ((pre ++ [r]).length : Int) from by simp, e]
      simp [oidNums, h]
    · rw [if_neg (by simpa using h)]
      simp only [oidNums, List.all_cons, decide_eq_false h, Bool.false_and]
theorem iOidOk_ev (xs : List Int) (h : xs.length ≤ 1099511627776) : Ev (fun k => impl_OidOk.f k xs) (oidOk xs) := by
  refine Ev.at_ xs.length fun k hk => ?_
  simp only [impl_OidOk.f]
  have e := iOidOk_loop xs [] xs (xs.length : Int) k (by simp) (by simp only [List.length_nil]; omega) hk
  simpa [oidOk] using e

def clip (n : Int) : Int := if n > 2147483647 then 2147483647 else if n < -2147483648 then -2147483648 else n
theorem clip_bd (n : Int) : -2147483648 ≤ clip n ∧ clip n ≤ 2147483647 := by
  unfold clip
  split
  · omega
  · split <;> omega
def putInt (n : Int) : List Int :=
  if -128 ≤ n ∧ n ≤ 127 then [n % 256]
  else if -32768 ≤ n ∧ n ≤ 32767 then [n / 256 % 256, n % 256]
  else if -8388608 ≤ n ∧ n ≤ 8388607 then [n / 65536 % 256, n / 256 % 256, n % 256]
  else [n / 16777216 % 256, n / 65536 % 256, n / 256 % 256, n % 256]
theorem putInt_len (n : Int) : (putInt n).length ≤ 4 := by
  unfold putInt
  split
  · simp
  · split
    · simp
    · split <;> simp

theorem sClip_eq (n : Int) : spec_l1Clip.f n = some (clip n) := by
  unfold spec_l1Clip.f clip
  split
  · rfl
  · split <;> rfl
theorem sPutInt_stop (k : Nat) (n : Int) (out : List Int) (h0 : -128 ≤ n) (h1 : n ≤ 127) : spec_PutInt.l0 (k + 1) n out = some out := by
  simp only [spec_PutInt.l0]
  rw [if_neg (by omega), if_neg (by omega)]
theorem sPutInt_go (k : Nat) (n : Int) (out : List Int) (h : n < -128 ∨ n > 127) (ho : out.length < 1000) : spec_PutInt.l0 (k + 1) n out = spec_PutInt.l0 k (n / 256) ([n / 256 % 256] ++ out) := by
  simp only [spec_PutInt.l0]
  by_cases h0 : n < -128
  · rw [if_pos h0]
    simp only [Option.bind_some]
    rw [if_pos (by simp only [List.length_cons, List.length_nil]; omega)]
  · rw [if_neg h0, if_pos (by omega)]
    simp only [Option.bind_some]
    rw [if_pos (by simp only [List.length_cons, List.length_nil]; omega)]
theorem sPutInt_at (m : Nat) (n : Int) (h0 : -2147483648 ≤ n) (h1 : n ≤ 2147483647) : spec_PutInt.l0 (m + 4) n [n % 256] = some (putInt n) := by
  unfold putInt
  by_cases c1 : -128 ≤ n ∧ n ≤ 127
  · rw [if_pos c1, sPutInt_stop _ _ _ c1.1 c1.2]
  · rw [if_neg c1, sPutInt_go _ _ _ (by omega) (by simp)]
    by_cases c2 : -32768 ≤ n ∧ n ≤ 32767
    · rw [if_pos c2, sPutInt_stop _ _ _ (by omega) (by omega)]
      rfl
    · rw [if_neg c2, sPutInt_go _ _ _ (by omega) (by simp), show n / 256 / 256 = n / 65536 by omega]
      by_cases c3 : -8388608 ≤ n ∧ n ≤ 8388607
      · rw [if_pos c3, sPutInt_stop _ _ _ (by omega) (by omega)]
        rfl
      · rw [if_neg c3, sPutInt_go _ _ _ (by omega) (by simp), show n / 65536 / 256 = n / 16777216 by omega, sPutInt_stop _ _ _ (by omega) (by omega)]
        rfl
theorem sPutInt_ev (n : Int) : Ev (fun k => spec_PutInt.f k n) (putInt (clip n)) := by
  refine Ev.at_ 4 fun k hk => ?_
  obtain ⟨m, rfl⟩ : ∃ m, k = m + 4 := ⟨k - 4, by omega⟩
  simp only [spec_PutInt.f, sClip_eq, Option.bind_some]
  exact sPutInt_at m _ (clip_bd n).1 (clip_bd n).2

theorem iClip_eq (n : Int) : mx (-2147483648) (mn n 2147483647) = clip n := by
  unfold mx mn clip
  split <;> split <;> (try split) <;> omega
theorem iPutInt_l1 (k : Nat) (n i : Int) (out : List Int) (s q : Int) (h0 : 0 ≤ i) (hi : wrap64 (8 * i) = s) (hs : 0 ≤ s) (hq : shr .i64 n s = q) (ho : out.length < 1000) :
    impl_PutInt.l1 (k + 1) n out i = impl_PutInt.l1 k n (out ++ [q % 256]) (wrap64 (i - 1)) := by
  simp only [impl_PutInt.l1]
  rw [if_pos h0, hi, if_pos hs, if_pos (by omega), hq]
theorem iPutInt_l1_end (k : Nat) (n : Int) (out : List Int) : impl_PutInt.l1 (k + 1) n out (-1) = some out := by
  simp only [impl_PutInt.l1]
  rw [if_neg (by omega)]
theorem shr0 (n : Int) : shr .i64 n 0 = n := by
  show n / 1 = n
  omega
theorem shr8 (n : Int) : shr .i64 n 8 = n / 256 := rfl
theorem shr16 (n : Int) : shr .i64 n 16 = n / 65536 := rfl
theorem shr24 (n : Int) : shr .i64 n 24 = n / 16777216 := rfl
theorem iPutInt_j1 (m : Nat) (n : Int) : impl_PutInt.j1 (m + 3) n 1 = some [n % 256] ∧ impl_PutInt.j1 (m + 4) n 2 = some [n / 256 % 256, n % 256] ∧
    impl_PutInt.j1 (m + 5) n 3 = some [n / 65536 % 256, n / 256 % 256, n % 256] ∧ impl_PutInt.j1 (m + 6) n 4 = some [n / 16777216 % 256, n / 65536 % 256, n / 256 % 256, n % 256] := by
  have t1 : wrap64 (1 - 1) = 0 := by decide +kernel
  have t2 : wrap64 (2 - 1) = 1 := by decide +kernel
  have t3 : wrap64 (3 - 1) = 2 := by decide +kernel
  have t4 : wrap64 (4 - 1) = 3 := by decide +kernel
  have s0 : wrap64 (0 - 1) = -1 := by decide +kernel
  have e0 : ∀ k out, out.length < 1000 → impl_PutInt.l1 (k + 2) n out 0 = some (out ++ [n % 256]) := fun k out ho => by
    rw [iPutInt_l1 (k + 1) n 0 out 0 n (by decide +kernel) (by decide +kernel) (by decide +kernel) (shr0 n) ho, s0, iPutInt_l1_end]
  have e1 : ∀ k out, out.length < 900 → impl_PutInt.l1 (k + 3) n out 1 = some (out ++ [n / 256 % 256] ++ [n % 256]) := fun k out ho => by
    rw [iPutInt_l1 (k + 2) n 1 out 8 _ (by decide +kernel) (by decide +kernel) (by decide +kernel) (shr8 n) (by omega), t1, e0 _ _ (by simp only [List.length_append, List.length_cons, List.length_nil]; omega)]
  have e2 : ∀ k out, out.length < 800 → impl_PutInt.l1 (k + 4) n out 2 = some (out ++ [n / 65536 % 256] ++ [n / 256 % 256] ++ [n % 256]) := fun k out ho => by
    rw [iPutInt_l1 (k + 3) n 2 out 16 _ (by decide +kernel) (by decide +kernel) (by decide +kernel) (shr16 n) (by omega), t2, e1 _ _ (by simp only [List.length_append, List.length_cons, List.length_nil]; omega)]
  have e3 : ∀ k out, out.length < 700 → impl_PutInt.l1 (k + 5) n out 3 = some (out ++ [n / 16777216 % 256] ++ [n / 65536 % 256] ++ [n / 256 % 256] ++ [n % 256]) := fun k out ho => by
    rw [iPutInt_l1 (k + 4) n 3 out 24 _ (by decide +kernel) (by decide +kernel) (by decide +kernel) (shr24 n) (by omega), t3, e2 _ _ (by simp only [List.length_append, List.length_cons, List.length_nil]; omega)]
  refine ⟨?_, ?_, ?_, ?_⟩
  · simp only [impl_PutInt.j1]
    rw [t1, e0 _ _ (by simp)]
    rfl
  · simp only [impl_PutInt.j1]
    rw [t2, e1 _ _ (by simp)]
    rfl
  · simp only [impl_PutInt.j1]
    rw [t3, e2 _ _ (by simp)]
    rfl
  · simp only [impl_PutInt.j1]
    rw [t4, e3 _ _ (by simp)]
    rfl
theorem iPutInt_l0 (k : Nat) (n j s lo hi : Int) (h4 : j < 4) (hs : wrap64 (wrap64 (8 * j) - 1) = s) (h0 : 0 ≤ s) (hl : shl .i64 (-1) s = lo) (hh : wrap64 (shl .i64 1 s - 1) = hi) :
    impl_PutInt.l0 (k + 1) n j = if lo ≤ n ∧ n ≤ hi then impl_PutInt.j1 k n j else impl_PutInt.l0 k n (wrap64 (j + 1)) := by
  simp only [impl_PutInt.l0]
  rw [if_pos h4, hs, if_pos h0, hl, hh, in_eq]
  simp only [Option.bind_some, decide_eq_true_eq]
theorem iPutInt_ev (n : Int) : Ev (fun k => impl_PutInt.f k n) (putInt (clip n)) := by
  refine Ev.at_ 12 fun k hk => ?_
  obtain ⟨m, rfl⟩ : ∃ m, k = m + 12 := ⟨k - 12, by omega⟩
  simp only [impl_PutInt.f]
  rw [iClip_eq]
  generalize clip n = c
  unfold putInt
  rw [iPutInt_l0 (m + 11) c 1 7 (-128) 127 (by decide +kernel) (by decide +kernel) (by decide +kernel) (by decide +kernel) (by decide +kernel)]
  by_cases c1 : -128 ≤ c ∧ c ≤ 127
  · rw [if_pos c1, if_pos c1]
    exact (iPutInt_j1 (m + 8) c).1
  · rw [if_neg c1, if_neg c1, show wrap64 (1 + 1) = 2 by decide +kernel, iPutInt_l0 (m + 10) c 2 15 (-32768) 32767 (by decide +kernel) (by decide +kernel) (by decide +kernel) (by decide +kernel) (by decide +kernel)]
    by_cases c2 : -32768 ≤ c ∧ c ≤ 32767
    · rw [if_pos c2, if_pos c2]
      exact (iPutInt_j1 (m + 6) c).2.1
    · rw [if_neg c2, if_neg c2, show wrap64 (2 + 1) = 3 by decide +kernel, iPutInt_l0 (m + 9) c 3 23 (-8388608) 8388607 (by decide +kernel) (by decide +kernel) (by decide +kernel) (by decide +kernel) (by decide +kernel)]
      by_cases c3 : -8388608 ≤ c ∧ c ≤ 8388607
      · rw [if_pos c3, if_pos c3]
        exact (iPutInt_j1 (m + 4) c).2.2.1
      · rw [if_neg c3, if_neg c3, show wrap64 (3 + 1) = 4 by decide +kernel]
        simp only [impl_PutInt.l0]
        rw [if_neg (by omega)]
        exact (iPutInt_j1 (m + 2) c).2.2.2

def joinI (n x : Int) : Int := Go.bits .or .i64 (wrap64 (n * 256)) (wrap64 x)
def rawInt : List Int → Int
  | [] => 0
  | b :: rest => rest.foldl joinI (if b > 127 then b - 256 else b)
def getInt (l : List Int) : Int × Bool := if (1 ≤ (l.length : Int) ∧ (l.length : Int) ≤ 4) then (if ((putInt (clip (rawInt l))).length : Int) = (l.length : Int) then (rawInt l, true) else (0, false)) else (0, false)
theorem sGetInt_loop (rest : List Int) : ∀ (pre : List Int) (n : Int), pre.length + rest.length ≤ 1099511627776 →
    Ev (fun k => spec_GetInt.l0 k (pre ++ rest) n (pre.length : Int)) (if ((putInt (clip (rest.foldl joinI n))).length : Int) = ((pre ++ rest).length : Int) then (rest.foldl joinI n, true) else (0, false)) := by
  induction rest with
  | nil =>
    intro pre n _
    refine Ev.succ ?_
    simp only [spec_GetInt.l0]
    simp only [List.append_nil, if_neg (show ¬ (pre.length : Int) < (pre.length : Int) by omega), List.foldl_nil]
    refine Ev.bind (sPutInt_ev n) ?_
    split <;> exact Ev.now _
  | cons r rest ih =>
    intro pre n hn
    simp only [List.length_cons] at hn
    have h := ih (pre ++ [r]) (joinI n r) (by simp only [List.length_append, List.length_cons, List.length_nil]; omega)
    simp only [List.append_assoc, List.cons_append, List.nil_append] at h
    refine Ev.succ ?_
    simp only [spec_GetInt.l0]
    simp only [if_pos (show (pre.length : Int) < ((pre ++ r :: rest).length : Int) by simp only [List.length_append, List.length_cons]; omega), if_pos (show (0 : Int) ≤ (pre.length : Int) by omega), rd_mid, w64 (x := (pre.length : Int) + 1) (by omega) (by omega), List.foldl_cons]
    rw [show ((pre ++ [r]).length : Int) = (pre.length : Int) + 1 by simp] at h
    exact h
theorem iGetInt_loop (all : List Int) (rest : List Int) : ∀ (pre : List Int) (n m : Int), m = (pre.length : Int) + rest.length → pre.length + rest.length ≤ 1099511627776 →
    Ev (fun k => impl_GetInt.l0 k all n (pre ++ rest) m (pre.length : Int)) (if ((putInt (clip (rest.foldl joinI n))).length : Int) = (all.length : Int) then (rest.foldl joinI n, true) else (0, false)) := by
  induction rest with
  | nil =>
    intro pre n m hm _
    simp only [List.length_nil] at hm
    show Ev _ (if ((putInt (clip n)).length : Int) = (all.length : Int) then (n, true) else (0, false))
    refine Ev.succ ?_
    simp only [impl_GetInt.l0]
    simp only [if_neg (show ¬ (pre.length : Int) < m by omega)]
    refine Ev.bind (iPutInt_ev n) ?_
    by_cases e : ((putInt (clip n)).length : Int) = (all.length : Int)
    · simp only [if_pos e]
      exact Ev.now _
    · simp only [if_neg e]
      exact Ev.now _
  | cons r rest ih =>
    intro pre n m hm hn
    simp only [List.length_cons] at hm hn
    have h := ih (pre ++ [r]) (joinI n r) m (by simp only [List.length_append, List.length_cons, List.length_nil]; omega) (by simp only [List.length_append, List.length_cons, List.length_nil]; omega)
    simp only [List.append_assoc, List.cons_append, List.nil_append] at h
    refine Ev.succ ?_
    simp only [impl_GetInt.l0]
    simp only [if_pos (show (pre.length : Int) < m by omega), if_pos (show (0 : Int) ≤ (pre.length : Int) by omega), if_pos (show (pre.length : Int) < ((pre ++ r :: rest).length : Int) by simp only [List.length_append, List.length_cons]; omega), rd_mid, w64 (x := (pre.length : Int) + 1) (by omega) (by omega), List.foldl_cons]
    rw [show ((pre ++ [r]).length : Int) = (pre.length : Int) + 1 by simp] at h
    exact h
theorem wrap8 {b : Int} (h0 : 0 ≤ b) (h1 : b ≤ 255) : IntKind.i8.wrap b = if b > 127 then b - 256 else b := by
  simp only [IntKind.wrap, IntKind.bits, IntKind.signed, Bool.true_and]
  split <;> split <;> simp_all <;> omega
theorem sGetInt_ev (l : List Int) (hb : ∀ y ∈ l, 0 ≤ y ∧ y ≤ 255) (h : l.length ≤ 1048576) : Ev (fun k => spec_GetInt.f k l) (getInt l) := by
  unfold spec_GetInt.f getInt
  simp only [l1In_eq, Option.bind_some, decide_eq_true_eq]
  by_cases c : 1 ≤ (l.length : Int) ∧ (l.length : Int) ≤ 4
  · simp only [if_pos c, if_pos (show 0 < (l.length : Int) by omega)]
    cases l with
    | nil => simp at c
    | cons b rest =>
      obtain ⟨h0, h1⟩ := hb b List.mem_cons_self
      have e1 : rd (b :: rest) 0 = b := rd_mid [] rest b
      simp only [List.length_cons] at h
      simp only [e1, w64 (x := b) (by omega) (by omega), w64 (x := b - 256) (by omega) (by omega), rawInt]
      by_cases d : b > 127
      · simp only [if_pos d]
        refine Ev.succ ?_
        simp only [spec_GetInt.j0]
        have e := sGetInt_loop rest [b] (b - 256) (by simp only [List.length_cons, List.length_nil]; omega)
        simpa using e
      · simp only [if_neg d]
        refine Ev.succ ?_
        simp only [spec_GetInt.j0]
        have e := sGetInt_loop rest [b] b (by simp only [List.length_cons, List.length_nil]; omega)
        simpa using e
  · simp only [if_neg c]
    exact Ev.now _
theorem iGetInt_ev (l : List Int) (hb : ∀ y ∈ l, 0 ≤ y ∧ y ≤ 255) (h : l.length ≤ 1048576) : Ev (fun k => impl_GetInt.f k l) (getInt l) := by
  unfold impl_GetInt.f getInt
  simp only [in_eq, Option.bind_some, decide_eq_true_eq]
  by_cases c : 1 ≤ (l.length : Int) ∧ (l.length : Int) ≤ 4
  · simp only [if_pos c, if_pos (show 0 < (l.length : Int) by omega), if_pos (show 1 ≤ (l.length : Int) by omega)]
    cases l with
    | nil => simp at c
    | cons b rest =>
      obtain ⟨h0, h1⟩ := hb b List.mem_cons_self
      have e1 : rd (b :: rest) 0 = b := rd_mid [] rest b
      simp only [List.length_cons] at h
      have hw : wrap64 (if b > 127 then b - 256 else b) = if b > 127 then b - 256 else b := by split <;> exact w64 (by omega) (by omega)
      simp only [e1, wrap8 h0 h1, hw, rawInt, List.drop_succ_cons, List.drop_zero]
      have e := iGetInt_loop (b :: rest) rest [] (if b > 127 then b - 256 else b) (rest.length : Int) (by simp) (by simp only [List.length_nil]; omega)
      simpa using e
  · simp only [if_neg c]
    exact Ev.now _

theorem wraps_i64 (n : Int) (h0 : 0 ≤ n) (h1 : n < 2 ^ 63) : IntKind.i64.wrap n = n := by rw [IntKind.wrap_i64]; omega
theorem and127 (x : Int) (h0 : 0 ≤ x) (h1 : x < 9223372036854775808) : Go.bits .and .i64 x 127 = x % 128 :=
  Go.bits_mask .i64 63 (by decide) wraps_i64 7 (by decide) x h0 h1
theorem or128 (y : Int) (h0 : 0 ≤ y) (h1 : y < 128) : Go.bits .or .i64 y 128 = y + 128 := by
  obtain ⟨b, rfl⟩ := Int.eq_ofNat_of_zero_le h0
  have hb : b < 2 ^ 7 := by omega
  have e := (Go.bits_nat .i64 63 (by decide) wraps_i64 b 128 (by omega) (by decide)).2
  rw [show (128 : Int) = ((128 : Nat) : Int) from rfl, e, Nat.or_comm]
  have h := Nat.two_pow_add_eq_or_of_lt hb 1
  rw [show (2 : Nat) ^ 7 * 1 = 128 from rfl] at h
  rw [← h]
  omega
def group (n : Int) : List Int :=
  if n ≤ 127 then [n] else if n ≤ 16383 then [n / 128 + 128, n % 128] else [n / 16384 + 128, n / 128 % 128 + 128, n % 128]
theorem group_len (n : Int) : 1 ≤ (group n).length ∧ (group n).length ≤ 3 := by
  unfold group
  split
  · simp
  · split <;> simp
def putOid (o : List Int) : List Int := if oidOk o = true then o.flatMap group else []
theorem flat_len (o : List Int) : (o.flatMap group).length ≤ 3 * o.length := by
  induction o with
  | nil => simp
  | cons n o ih =>
    have := group_len n
    simp only [List.flatMap_cons, List.length_append, List.length_cons]
    omega
theorem putOid_len (o : List Int) : (putOid o).length ≤ 30 := by
  unfold putOid
  split
  · rename_i h
    have h1 := flat_len o
    simp only [oidOk, Bool.and_eq_true, decide_eq_true_eq] at h
    omega
  · simp
theorem oidNums_cons (n : Int) (o : List Int) (h : oidNums (n :: o) = true) : (0 ≤ n ∧ n ≤ 100000) ∧ oidNums o = true := by
  simp only [oidNums, List.all_cons, Bool.and_eq_true, decide_eq_true_eq] at h
  exact h

theorem sGroup_ev (n : Int) (h0 : 0 ≤ n) (h1 : n ≤ 100000) : Ev (fun k => spec_l2Group.f k n) (group n) := by
  unfold spec_l2Group.f
  simp only [and127 n h0 (by omega), show n % 128 % 256 = n % 128 by omega]
  refine Ev.succ ?_
  simp only [spec_l2Group.l0]
  unfold group
  by_cases c1 : n ≤ 127
  · simp only [if_neg (show ¬ n > 127 by omega), if_pos c1, show n % 128 = n by omega]
    exact Ev.now _
  · simp only [if_pos (show n > 127 by omega), if_neg c1, Option.bind_some, List.length_cons, List.length_nil, and127 (n / 128) (by omega) (by omega), or128 (n / 128 % 128) (by omega) (by omega), show (n / 128 % 128 + 128) % 256 = n / 128 % 128 + 128 by omega]
    simp only [if_pos (show 0 + 1 + (0 + 1) < 140737488355328 by omega)]
    refine Ev.succ ?_
    simp only [spec_l2Group.l0]
    by_cases c2 : n ≤ 16383
    · simp only [if_neg (show ¬ n / 128 > 127 by omega), if_pos c2, show n / 128 % 128 = n / 128 by omega]
      exact Ev.now _
    · simp only [if_pos (show n / 128 > 127 by omega), if_neg c2, Option.bind_some, List.length_cons, List.length_nil, List.length_append, show n / 128 / 128 = n / 16384 by omega, and127 (n / 16384) (by omega) (by omega), or128 (n / 16384 % 128) (by omega) (by omega), show (n / 16384 % 128 + 128) % 256 = n / 16384 + 128 by omega]
      simp only [if_pos (show 0 + 1 + (0 + 1 + (0 + 1)) < 140737488355328 by omega)]
      refine Ev.succ ?_
      simp only [spec_l2Group.l0]
      simp only [if_neg (show ¬ n / 16384 > 127 by omega)]
      exact Ev.now _
theorem sPutOid_loop (rest : List Int) : ∀ (pre out : List Int), pre.length + rest.length ≤ 1048576 → out.length ≤ 3 * pre.length → oidNums rest = true →
    Ev (fun k => spec_PutOid.l0 k (pre ++ rest) out (pre.length : Int)) (out ++ rest.flatMap group) := by
  induction rest with
  | nil =>
    intro pre out _ _ _
    refine Ev.succ ?_
    simp only [spec_PutOid.l0]
    simp only [List.append_nil, if_neg (show ¬ (pre.length : Int) < (pre.length : Int) by omega), List.flatMap_nil]
    exact Ev.now _
  | cons r rest ih =>
    intro pre out hn ho hw
    simp only [List.length_cons] at hn
    obtain ⟨hr, hw⟩ := oidNums_cons r rest hw
    have hg := group_len r
    have h := ih (pre ++ [r]) (out ++ group r) (by simp only [List.length_append, List.length_cons, List.length_nil]; omega) (by simp only [List.length_append, List.length_cons, List.length_nil]; omega) hw
    simp only [List.append_assoc, List.cons_append, List.nil_append] at h
    rw [show ((pre ++ [r]).length : Int) = (pre.length : Int) + 1 by simp] at h
    refine Ev.succ ?_
    simp only [spec_PutOid.l0]
    simp only [if_pos (show (pre.length : Int) < ((pre ++ r :: rest).length : Int) by simp only [List.length_append, List.length_cons]; omega), if_pos (show (0 : Int) ≤ (pre.length : Int) by omega), rd_mid, w64 (x := (pre.length : Int) + 1) (by omega) (by omega)]
    refine Ev.bind (sGroup_ev r hr.1 hr.2) ?_
    simp only [if_pos (show out.length + (group r).length < 140737488355328 by omega), List.flatMap_cons]
    exact h
theorem sPutOid_ev (o : List Int) (h : o.length ≤ 1048576) : Ev (fun k => spec_PutOid.f k o) (putOid o) := by
  unfold spec_PutOid.f putOid
  simp only [Option.bind_some]
  refine Ev.bind (sOidOk_ev o (by omega)) ?_
  by_cases c : oidOk o = true
  · simp only [if_pos c]
    have c' := c
    simp only [oidOk, Bool.and_eq_true] at c'
    have e := sPutOid_loop o [] [] (by simp only [List.length_nil]; omega) (by simp) c'.1
    simpa using e
  · simp only [if_neg c]
    exact Ev.now _

theorem shr7 (n : Int) : shr .i64 n 7 = n / 128 := rfl
theorem shr14 (n : Int) : shr .i64 n 14 = n / 16384 := rfl
theorem shrz (n : Int) : shr .i64 n 0 = n := by
  show n / 1 = n
  omega
theorem iGroup_ev (n : Int) (h0 : 0 ≤ n) (h1 : n ≤ 100000) (out xs : List Int) (m i : Int) (r : List Int) (ho : out.length ≤ 100000000) (h : Ev (fun k => impl_PutOid.l0 k (out ++ group n) xs m (wrap64 (i + 1))) r) :
    Ev (fun k => impl_PutOid.l1 k out n 0 xs m i) r := by
  have a0 : wrap64 (7 * 0) = 0 := by decide +kernel
  have a1 : wrap64 (7 * 1) = 7 := by decide +kernel
  have a2 : wrap64 (7 * 2) = 14 := by decide +kernel
  have b1 : wrap64 (0 + 1) = 1 := by decide +kernel
  have b2 : wrap64 (1 + 1) = 2 := by decide +kernel
  have d1 : wrap64 (1 - 1) = 0 := by decide +kernel
  have d2 : wrap64 (2 - 1) = 1 := by decide +kernel
  have z : (0 : Int) ≤ 0 := by decide
  have z7 : (0 : Int) ≤ 7 := by decide
  have z14 : (0 : Int) ≤ 14 := by decide
  unfold group at h
  refine Ev.succ ?_
  simp only [impl_PutOid.l1]
  simp only [a0, shrz, if_pos z, b1]
  by_cases c1 : n ≤ 127
  · simp only [if_neg (show ¬ n > 127 by omega)]
    simp only [if_pos c1] at h
    refine Ev.succ ?_
    simp only [impl_PutOid.l2]
    simp only [if_neg (show ¬ (0 : Int) > 0 by omega), if_pos (show out.length < 140737488355328 by omega), and127 n h0 (by omega), show n % 128 % 256 = n by omega]
    exact h
  · simp only [if_pos (show n > 127 by omega)]
    simp only [if_neg c1] at h
    refine Ev.succ ?_
    simp only [impl_PutOid.l1]
    simp only [a1, shr7, if_pos z7, b2]
    by_cases c2 : n ≤ 16383
    · simp only [if_neg (show ¬ n / 128 > 127 by omega)]
      simp only [if_pos c2] at h
      refine Ev.succ ?_
      simp only [impl_PutOid.l2]
      simp only [if_pos (show (1 : Int) > 0 by omega), a1, if_pos z7, shr7, if_pos (show out.length < 140737488355328 by omega), d1, and127 (n / 128) (by omega) (by omega)]
      rw [w64 (by omega) (by omega), show (n / 128 % 128 + 128) % 256 = n / 128 + 128 by omega]
      refine Ev.succ ?_
      simp only [impl_PutOid.l2]
      simp only [if_neg (show ¬ (0 : Int) > 0 by omega), List.length_append, List.length_cons, List.length_nil, if_pos (show out.length + (0 + 1) < 140737488355328 by omega), and127 n h0 (by omega), show n % 128 % 256 = n % 128 by omega, List.append_assoc, List.cons_append, List.nil_append]
      exact h
    · simp only [if_pos (show n / 128 > 127 by omega)]
      simp only [if_neg c2] at h
      refine Ev.succ ?_
      simp only [impl_PutOid.l1]
      simp only [a2, shr14, if_pos z14, if_neg (show ¬ n / 16384 > 127 by omega)]
      refine Ev.succ ?_
      simp only [impl_PutOid.l2]
      simp only [if_pos (show (2 : Int) > 0 by omega), a2, if_pos z14, shr14, if_pos (show out.length < 140737488355328 by omega), d2, and127 (n / 16384) (by omega) (by omega)]
      rw [w64 (by omega) (by omega), show (n / 16384 % 128 + 128) % 256 = n / 16384 + 128 by omega]
      refine Ev.succ ?_
      simp only [impl_PutOid.l2]
      simp only [if_pos (show (1 : Int) > 0 by omega), a1, if_pos z7, shr7, List.length_append, List.length_cons, List.length_nil, if_pos (show out.length + (0 + 1) < 140737488355328 by omega), d1, and127 (n / 128) (by omega) (by omega)]
      rw [w64 (by omega) (by omega), show (n / 128 % 128 + 128) % 256 = n / 128 % 128 + 128 by omega]
      refine Ev.succ ?_
      simp only [impl_PutOid.l2]
      simp only [if_neg (show ¬ (0 : Int) > 0 by omega), List.length_append, List.length_cons, List.length_nil, if_pos (show out.length + (0 + 1) + (0 + 1) < 140737488355328 by omega), and127 n h0 (by omega), show n % 128 % 256 = n % 128 by omega, List.append_assoc, List.cons_append, List.nil_append]
      exact h
theorem iPutOid_loop (rest : List Int) : ∀ (pre out : List Int) (m : Int), m = (pre.length : Int) + rest.length → pre.length + rest.length ≤ 1048576 → out.length ≤ 3 * pre.length → oidNums rest = true →
    Ev (fun k => impl_PutOid.l0 k out (pre ++ rest) m (pre.length : Int)) (out ++ rest.flatMap group) := by
  induction rest with
  | nil =>
    intro pre out m hm _ _ _
    simp only [List.length_nil] at hm
    refine Ev.succ ?_
    simp only [impl_PutOid.l0]
    simp only [if_neg (show ¬ (pre.length : Int) < m by omega), List.flatMap_nil, List.append_nil]
    exact Ev.now _
  | cons r rest ih =>
    intro pre out m hm hn ho hw
    simp only [List.length_cons] at hm hn
    obtain ⟨hr, hw⟩ := oidNums_cons r rest hw
    have hg := group_len r
    have h := ih (pre ++ [r]) (out ++ group r) m (by simp only [List.length_append, List.length_cons, List.length_nil]; omega) (by simp only [List.length_append, List.length_cons, List.length_nil]; omega) (by simp only [List.length_append, List.length_cons, List.length_nil]; omega) hw
    simp only [List.append_assoc, List.cons_append, List.nil_append] at h
    rw [show ((pre ++ [r]).length : Int) = (pre.length : Int) + 1 by simp] at h
    refine Ev.succ ?_
    simp only [impl_PutOid.l0]
    simp only [if_pos (show (pre.length : Int) < m by omega), if_pos (show (0 : Int) ≤ (pre.length : Int) by omega), if_pos (show (pre.length : Int) < ((pre ++ r :: rest).length : Int) by simp only [List.length_append, List.length_cons]; omega), rd_mid]
    refine iGroup_ev r hr.1 hr.2 out _ m _ _ (by omega) ?_
    rw [w64 (by omega) (by omega), List.flatMap_cons]
    exact h
theorem iPutOid_ev (o : List Int) (h : o.length ≤ 1048576) : Ev (fun k => impl_PutOid.f k o) (putOid o) := by
  unfold impl_PutOid.f putOid
  refine Ev.bind (iOidOk_ev o (by omega)) ?_
  by_cases c : oidOk o = true
  · simp only [if_pos c]
    have c' := c
    simp only [oidOk, Bool.and_eq_true] at c'
    have e := iPutOid_loop o [] [] (o.length : Int) (by simp) (by simp only [List.length_nil]; omega) (by simp) c'.1
    simpa using e
  · simp only [if_neg c]
    exact Ev.now _

theorem strNums_toList (a : List Int) : (strOfNums a).toList = a.map fun n => UInt8.ofNat n.toNat := by
  unfold strOfNums
  exact ByteArray.toList_mk _
theorem byte_inj (a b : Int) (ha : 0 ≤ a ∧ a ≤ 255) (hb : 0 ≤ b ∧ b ≤ 255) (h : UInt8.ofNat a.toNat = UInt8.ofNat b.toNat) : a = b := by
  have e := congrArg UInt8.toNat h
  simp only [UInt8.toNat_ofNat'] at e
  omega
theorem map_byte_inj : ∀ (a b : List Int), (∀ y ∈ a, 0 ≤ y ∧ y ≤ 255) → (∀ y ∈ b, 0 ≤ y ∧ y ≤ 255) → (a.map fun n => UInt8.ofNat n.toNat) = (b.map fun n => UInt8.ofNat n.toNat) → a = b
  | [], [], _, _, _ => rfl
  | [], _ :: _, _, _, h => by simp at h
  | _ :: _, [], _, _, h => by simp at h
  | x :: a, y :: b, ha, hb, h => by
    simp only [List.map_cons, List.cons.injEq] at h
    rw [byte_inj x y (ha x List.mem_cons_self) (hb y List.mem_cons_self) h.1, map_byte_inj a b (fun z hz => ha z (List.mem_cons_of_mem _ hz)) (fun z hz => hb z (List.mem_cons_of_mem _ hz)) h.2]
theorem strNums_inj (a b : List Int) (ha : ∀ y ∈ a, 0 ≤ y ∧ y ≤ 255) (hb : ∀ y ∈ b, 0 ≤ y ∧ y ≤ 255) (h : (strOfNums a).toList = (strOfNums b).toList) : a = b := by
  rw [strNums_toList, strNums_toList] at h
  exact map_byte_inj a b ha hb h

theorem wraps_u8 (n : Int) (h0 : 0 ≤ n) (h1 : n < 2 ^ 8) : IntKind.u8.wrap n = n := by
  simp only [IntKind.wrap, IntKind.bits, IntKind.signed, Bool.false_and]
  simp
  omega
theorem and127b (x : Int) (h0 : 0 ≤ x) (h1 : x ≤ 255) : Go.bits .and .u8 x 127 = x % 128 :=
  Go.bits_mask .u8 8 (by decide) wraps_u8 7 (by decide) x h0 (by omega)
theorem join7 (n b : Int) (h0 : 0 ≤ n) (h1 : n < 4398046511104) (hb : 0 ≤ b) (hb1 : b < 128) : Go.bits .or .i64 (n * 128) b = n * 128 + b :=
  Go.bits_join .i64 63 (by decide) wraps_i64 7 (n * 128) b (by omega) (by omega) (by omega) hb (by omega) (by omega)
def bytes (l : List Int) : Prop := ∀ y ∈ l, 0 ≤ y ∧ y ≤ 255
theorem bytes_cons {b : Int} {l : List Int} (h : bytes (b :: l)) : (0 ≤ b ∧ b ≤ 255) ∧ bytes l :=
  ⟨h b List.mem_cons_self, fun y hy => h y (List.mem_cons_of_mem _ hy)⟩
def group4 (n : Int) : List Int :=
  if n ≤ 127 then [n] else if n ≤ 16383 then [n / 128 + 128, n % 128] else if n ≤ 2097151 then [n / 16384 + 128, n / 128 % 128 + 128, n % 128] else [n / 2097152 + 128, n / 16384 % 128 + 128, n / 128 % 128 + 128, n % 128]
theorem group4_small (n : Int) (h : n ≤ 100000) : group4 n = group n := by
  unfold group4 group
  by_cases c1 : n ≤ 127
  · simp only [if_pos c1]
  · simp only [if_neg c1]
    by_cases c2 : n ≤ 16383
    · simp only [if_pos c2]
    · simp only [if_neg c2, if_pos (show n ≤ 2097151 by omega)]
theorem sGroup4_ev (n : Int) (h0 : 0 ≤ n) (h1 : n < 268435456) : Ev (fun k => spec_l2Group.f k n) (group4 n) := by
  unfold spec_l2Group.f
  simp only [and127 n h0 (by omega), show n % 128 % 256 = n % 128 by omega]
  refine Ev.succ ?_
  simp only [spec_l2Group.l0]
  unfold group4
  by_cases c1 : n ≤ 127
  · simp only [if_neg (show ¬ n > 127 by omega), if_pos c1, show n % 128 = n by omega]
    exact Ev.now _
  · simp only [if_pos (show n > 127 by omega), if_neg c1, Option.bind_some, List.length_cons, List.length_nil, and127 (n / 128) (by omega) (by omega), or128 (n / 128 % 128) (by omega) (by omega), show (n / 128 % 128 + 128) % 256 = n / 128 % 128 + 128 by omega]
    simp only [if_pos (show 0 + 1 + (0 + 1) < 140737488355328 by omega)]
    refine Ev.succ ?_
    simp only [spec_l2Group.l0]
    by_cases c2 : n ≤ 16383
    · simp only [if_neg (show ¬ n / 128 > 127 by omega), if_pos c2, show n / 128 % 128 = n / 128 by omega]
      exact Ev.now _
    · simp only [if_pos (show n / 128 > 127 by omega), if_neg c2, Option.bind_some, List.length_cons, List.length_nil, List.length_append, show n / 128 / 128 = n / 16384 by omega, and127 (n / 16384) (by omega) (by omega), or128 (n / 16384 % 128) (by omega) (by omega), show (n / 16384 % 128 + 128) % 256 = n / 16384 % 128 + 128 by omega]
      simp only [if_pos (show 0 + 1 + (0 + 1 + (0 + 1)) < 140737488355328 by omega)]
      refine Ev.succ ?_
      simp only [spec_l2Group.l0]
      by_cases c3 : n ≤ 2097151
      · simp only [if_neg (show ¬ n / 16384 > 127 by omega), if_pos c3, show n / 16384 % 128 = n / 16384 by omega]
        exact Ev.now _
      · simp only [if_pos (show n / 16384 > 127 by omega), if_neg c3, Option.bind_some, List.length_cons, List.length_nil, List.length_append, show n / 16384 / 128 = n / 2097152 by omega, and127 (n / 2097152) (by omega) (by omega), or128 (n / 2097152 % 128) (by omega) (by omega), show (n / 2097152 % 128 + 128) % 256 = n / 2097152 + 128 by omega]
        simp only [if_pos (show 0 + 1 + (0 + 1 + (0 + 1 + (0 + 1))) < 140737488355328 by omega)]
        refine Ev.succ ?_
        simp only [spec_l2Group.l0]
        simp only [if_neg (show ¬ n / 2097152 > 127 by omega)]
        exact Ev.now _
theorem g4_len (n : Int) : 1 ≤ (group4 n).length := by
  unfold group4
  split
  · simp
  · split
    · simp
    · split <;> simp
theorem so_go (pre rest x4 : List Int) (b n c : Int) (r : List Int × Bool) (hp : pre.length + rest.length ≤ 1048576) (hb : 0 ≤ b ∧ b ≤ 255) (hn : 0 ≤ n ∧ n < 2097152) (hc : 0 ≤ c ∧ c < 4)
    (h : Ev (fun k => spec_GetOid.l1 k ((pre ++ [b]) ++ rest) x4 ((pre ++ [b]).length : Int) (n * 128 + b % 128) (c + 1) (decide (b > 127))) r) :
    Ev (fun k => spec_GetOid.l1 k (pre ++ b :: rest) x4 (pre.length : Int) n c true) r := by
  refine Ev.succ ?_
  simp only [spec_GetOid.l1]
  simp only [if_true, if_pos (show (pre.length : Int) < ((pre ++ b :: rest).length : Int) by simp only [List.length_append, List.length_cons]; omega), if_pos hc.2, if_pos (show (0 : Int) ≤ (pre.length : Int) by omega), rd_mid, and127b b hb.1 hb.2, w64 (x := b % 128) (by omega) (by omega), w64 (x := n * 128) (by omega) (by omega), join7 n (b % 128) hn.1 (by omega) (by omega) (by omega), w64 (x := (pre.length : Int) + 1) (by omega) (by omega), w64 (x := c + 1) (by omega) (by omega)]
  simp only [List.append_assoc, List.cons_append, List.nil_append] at h
  rw [show ((pre ++ [b]).length : Int) = (pre.length : Int) + 1 by simp] at h
  exact h
theorem so_end (pre x4 : List Int) (n c : Int) : Ev (fun k => spec_GetOid.l1 k (pre ++ []) x4 (pre.length : Int) n c true) ([], false) := by
  refine Ev.succ ?_
  simp only [spec_GetOid.l1]
  simp only [if_true, List.append_nil, if_neg (show ¬ (pre.length : Int) < (pre.length : Int) by omega)]
  exact Ev.now _
theorem so_full (l x4 : List Int) (p n : Int) : Ev (fun k => spec_GetOid.l1 k l x4 p n 4 true) ([], false) := by
  refine Ev.succ ?_
  simp only [spec_GetOid.l1]
  simp only [if_true, if_neg (show ¬ (4 : Int) < 4 by omega), ite_self]
  exact Ev.now _
theorem so_out (l x4 : List Int) (p n c : Int) (r : List Int × Bool) (hn : 0 ≤ n ∧ n < 268435456) (h4 : x4.length ≤ 1048576) (hc : ((group4 n).length : Int) = c) (h : Ev (fun k => spec_GetOid.l0 k l (x4 ++ [n]) p) r) :
    Ev (fun k => spec_GetOid.l1 k l x4 p n c false) r := by
  refine Ev.succ ?_
  simp only [spec_GetOid.l1]
  simp only [Bool.false_eq_true, if_false]
  refine Ev.bind (sGroup4_ev n hn.1 hn.2) ?_
  simp only [if_pos hc, if_pos (show x4.length < 17592186044416 by omega)]
  exact h
theorem so_bad (l x4 : List Int) (p n c : Int) (hn : 0 ≤ n ∧ n < 268435456) (hc : ¬ ((group4 n).length : Int) = c) :
    Ev (fun k => spec_GetOid.l1 k l x4 p n c false) ([], false) := by
  refine Ev.succ ?_
  simp only [spec_GetOid.l1]
  simp only [Bool.false_eq_true, if_false]
  refine Ev.bind (sGroup4_ev n hn.1 hn.2) ?_
  simp only [if_neg hc]
  exact Ev.now _
theorem g4_1 (n : Int) (h : n ≤ 127) : group4 n = [n] := by unfold group4; rw [if_pos h]
theorem g4_2 (n : Int) (h0 : 127 < n) (h : n ≤ 16383) : group4 n = [n / 128 + 128, n % 128] := by unfold group4; rw [if_neg (by omega), if_pos h]
theorem g4_3 (n : Int) (h0 : 16383 < n) (h : n ≤ 2097151) : group4 n = [n / 16384 + 128, n / 128 % 128 + 128, n % 128] := by unfold group4; rw [if_neg (by omega), if_neg (by omega), if_pos h]
theorem g4_4 (n : Int) (h0 : 2097151 < n) : group4 n = [n / 2097152 + 128, n / 16384 % 128 + 128, n / 128 % 128 + 128, n % 128] := by unfold group4; rw [if_neg (by omega), if_neg (by omega), if_neg (by omega)]
/- one arc out of what is left: either the bytes are an arc's shortest form and the loop goes on behind them, or the answer is no -/
theorem so_any (rest pre x4 : List Int) (hw : bytes rest) (hl : pre.length + rest.length ≤ 1048576) (h4 : x4.length ≤ 1048576) :
    (∃ n rest', 0 ≤ n ∧ n < 268435456 ∧ rest = group4 n ++ rest' ∧ ∀ r, Ev (fun k => spec_GetOid.l0 k ((pre ++ group4 n) ++ rest') (x4 ++ [n]) ((pre ++ group4 n).length : Int)) r → Ev (fun k => spec_GetOid.l1 k (pre ++ rest) x4 (pre.length : Int) 0 0 true) r) ∨
    Ev (fun k => spec_GetOid.l1 k (pre ++ rest) x4 (pre.length : Int) 0 0 true) ([], false) := by
  rcases rest with _ | ⟨b1, rest⟩
  · exact Or.inr (so_end pre x4 0 0)
  obtain ⟨hb1, hw⟩ := bytes_cons hw
  simp only [List.length_cons] at hl
  by_cases c1 : b1 > 127
  rotate_left
  · left
    refine ⟨b1, rest, hb1.1, by omega, by rw [g4_1 b1 (by omega)]; rfl, fun r h => ?_⟩
    refine so_go pre rest x4 b1 0 0 r (by omega) hb1 (by omega) (by omega) ?_
    rw [decide_eq_false c1, show (0 : Int) * 128 + b1 % 128 = b1 by omega, show (0 : Int) + 1 = 1 by omega]
    rw [g4_1 b1 (by omega)] at h
    exact so_out _ x4 _ b1 1 r (by omega) h4 (by rw [g4_1 b1 (by omega)]; rfl) h
  rcases rest with _ | ⟨b2, rest⟩
  · right
    refine so_go pre [] x4 b1 0 0 _ (by simp only [List.length_nil]; omega) hb1 (by omega) (by omega) ?_
    rw [decide_eq_true c1]
    exact so_end _ x4 _ _
  obtain ⟨hb2, hw⟩ := bytes_cons hw
  simp only [List.length_cons] at hl
  have p1 : (pre ++ [b1]).length = pre.length + 1 := by simp
  by_cases c2 : b2 > 127
  rotate_left
  · by_cases d : (b1 - 128) * 128 + b2 > 127
    · left
      have g := g4_2 ((b1 - 128) * 128 + b2) (by omega) (by omega)
      rw [show ((b1 - 128) * 128 + b2) / 128 + 128 = b1 by omega, show ((b1 - 128) * 128 + b2) % 128 = b2 by omega] at g
      refine ⟨(b1 - 128) * 128 + b2, rest, by omega, by omega, by rw [g]; rfl, fun r h => ?_⟩
      refine so_go pre (b2 :: rest) x4 b1 0 0 r (by simp only [List.length_cons]; omega) hb1 (by omega) (by omega) ?_
      rw [decide_eq_true c1]
      refine so_go (pre ++ [b1]) rest x4 b2 _ _ r (by omega) hb2 (by omega) (by omega) ?_
      rw [decide_eq_false c2, show ((0 : Int) * 128 + b1 % 128) * 128 + b2 % 128 = (b1 - 128) * 128 + b2 by omega, show (0 : Int) + 1 + 1 = 2 by omega]
      rw [g, show pre ++ [b1, b2] = pre ++ [b1] ++ [b2] by simp] at h
      exact so_out _ x4 _ _ 2 r (by omega) h4 (by rw [g]; rfl) h
    · right
      refine so_go pre (b2 :: rest) x4 b1 0 0 _ (by simp only [List.length_cons]; omega) hb1 (by omega) (by omega) ?_
      rw [decide_eq_true c1]
      refine so_go (pre ++ [b1]) rest x4 b2 _ _ _ (by omega) hb2 (by omega) (by omega) ?_
      rw [decide_eq_false c2]
      refine so_bad _ x4 _ _ _ (by omega) ?_
      rw [g4_1 _ (by omega)]
      simp
  rcases rest with _ | ⟨b3, rest⟩
  · right
    refine so_go pre [b2] x4 b1 0 0 _ (by simp only [List.length_cons, List.length_nil]; omega) hb1 (by omega) (by omega) ?_
    rw [decide_eq_true c1]
    refine so_go (pre ++ [b1]) [] x4 b2 _ _ _ (by simp only [List.length_nil]; omega) hb2 (by omega) (by omega) ?_
    rw [decide_eq_true c2]
    exact so_end _ x4 _ _
  obtain ⟨hb3, hw⟩ := bytes_cons hw
  simp only [List.length_cons] at hl
  have p2 : (pre ++ [b1] ++ [b2]).length = pre.length + 2 := by simp
  by_cases c3 : b3 > 127
  rotate_left
  · by_cases d : ((b1 - 128) * 128 + (b2 - 128)) * 128 + b3 > 16383
    · left
      have g := g4_3 (((b1 - 128) * 128 + (b2 - 128)) * 128 + b3) (by omega) (by omega)
      rw [show (((b1 - 128) * 128 + (b2 - 128)) * 128 + b3) / 16384 + 128 = b1 by omega, show (((b1 - 128) * 128 + (b2 - 128)) * 128 + b3) / 128 % 128 + 128 = b2 by omega, show (((b1 - 128) * 128 + (b2 - 128)) * 128 + b3) % 128 = b3 by omega] at g
      refine ⟨((b1 - 128) * 128 + (b2 - 128)) * 128 + b3, rest, by omega, by omega, by rw [g]; rfl, fun r h => ?_⟩
      refine so_go pre (b2 :: b3 :: rest) x4 b1 0 0 r (by simp only [List.length_cons]; omega) hb1 (by omega) (by omega) ?_
      rw [decide_eq_true c1]
      refine so_go (pre ++ [b1]) (b3 :: rest) x4 b2 _ _ r (by simp only [List.length_cons]; omega) hb2 (by omega) (by omega) ?_
      rw [decide_eq_true c2]
      refine so_go (pre ++ [b1] ++ [b2]) rest x4 b3 _ _ r (by omega) hb3 (by omega) (by omega) ?_
      rw [decide_eq_false c3, show (((0 : Int) * 128 + b1 % 128) * 128 + b2 % 128) * 128 + b3 % 128 = ((b1 - 128) * 128 + (b2 - 128)) * 128 + b3 by omega, show (0 : Int) + 1 + 1 + 1 = 3 by omega]
      rw [g, show pre ++ [b1, b2, b3] = pre ++ [b1] ++ [b2] ++ [b3] by simp] at h
      exact so_out _ x4 _ _ 3 r (by omega) h4 (by rw [g]; rfl) h
    · right
      refine so_go pre (b2 :: b3 :: rest) x4 b1 0 0 _ (by simp only [List.length_cons]; omega) hb1 (by omega) (by omega) ?_
      rw [decide_eq_true c1]
      refine so_go (pre ++ [b1]) (b3 :: rest) x4 b2 _ _ _ (by simp only [List.length_cons]; omega) hb2 (by omega) (by omega) ?_
      rw [decide_eq_true c2]
      refine so_go (pre ++ [b1] ++ [b2]) rest x4 b3 _ _ _ (by omega) hb3 (by omega) (by omega) ?_
      rw [decide_eq_false c3]
      refine so_bad _ x4 _ _ _ (by omega) ?_
      by_cases e : (((0 : Int) * 128 + b1 % 128) * 128 + b2 % 128) * 128 + b3 % 128 ≤ 127
      · rw [g4_1 _ e]; simp
      · rw [g4_2 _ (by omega) (by omega)]; simp
  rcases rest with _ | ⟨b4, rest⟩
  · right
    refine so_go pre [b2, b3] x4 b1 0 0 _ (by simp only [List.length_cons, List.length_nil]; omega) hb1 (by omega) (by omega) ?_
    rw [decide_eq_true c1]
    refine so_go (pre ++ [b1]) [b3] x4 b2 _ _ _ (by simp only [List.length_cons, List.length_nil]; omega) hb2 (by omega) (by omega) ?_
    rw [decide_eq_true c2]
    refine so_go (pre ++ [b1] ++ [b2]) [] x4 b3 _ _ _ (by simp only [List.length_nil]; omega) hb3 (by omega) (by omega) ?_
    rw [decide_eq_true c3]
    exact so_end _ x4 _ _
  obtain ⟨hb4, hw⟩ := bytes_cons hw
  simp only [List.length_cons] at hl
  have p3 : (pre ++ [b1] ++ [b2] ++ [b3]).length = pre.length + 3 := by simp
  by_cases c4 : b4 > 127
  rotate_left
  · by_cases d : (((b1 - 128) * 128 + (b2 - 128)) * 128 + (b3 - 128)) * 128 + b4 > 2097151
    · left
      have g := g4_4 ((((b1 - 128) * 128 + (b2 - 128)) * 128 + (b3 - 128)) * 128 + b4) (by omega)
      rw [show ((((b1 - 128) * 128 + (b2 - 128)) * 128 + (b3 - 128)) * 128 + b4) / 2097152 + 128 = b1 by omega, show ((((b1 - 128) * 128 + (b2 - 128)) * 128 + (b3 - 128)) * 128 + b4) / 16384 % 128 + 128 = b2 by omega, show ((((b1 - 128) * 128 + (b2 - 128)) * 128 + (b3 - 128)) * 128 + b4) / 128 % 128 + 128 = b3 by omega, show ((((b1 - 128) * 128 + (b2 - 128)) * 128 + (b3 - 128)) * 128 + b4) % 128 = b4 by omega] at g
      refine ⟨(((b1 - 128) * 128 + (b2 - 128)) * 128 + (b3 - 128)) * 128 + b4, rest, by omega, by omega, by rw [g]; rfl, fun r h => ?_⟩
      refine so_go pre (b2 :: b3 :: b4 :: rest) x4 b1 0 0 r (by simp only [List.length_cons]; omega) hb1 (by omega) (by omega) ?_
      rw [decide_eq_true c1]
      refine so_go (pre ++ [b1]) (b3 :: b4 :: rest) x4 b2 _ _ r (by simp only [List.length_cons]; omega) hb2 (by omega) (by omega) ?_
      rw [decide_eq_true c2]
      refine so_go (pre ++ [b1] ++ [b2]) (b4 :: rest) x4 b3 _ _ r (by simp only [List.length_cons]; omega) hb3 (by omega) (by omega) ?_
      rw [decide_eq_true c3]
      refine so_go (pre ++ [b1] ++ [b2] ++ [b3]) rest x4 b4 _ _ r (by omega) hb4 (by omega) (by omega) ?_
      rw [decide_eq_false c4, show ((((0 : Int) * 128 + b1 % 128) * 128 + b2 % 128) * 128 + b3 % 128) * 128 + b4 % 128 = (((b1 - 128) * 128 + (b2 - 128)) * 128 + (b3 - 128)) * 128 + b4 by omega, show (0 : Int) + 1 + 1 + 1 + 1 = 4 by omega]
      rw [g, show pre ++ [b1, b2, b3, b4] = pre ++ [b1] ++ [b2] ++ [b3] ++ [b4] by simp] at h
      exact so_out _ x4 _ _ 4 r (by omega) h4 (by rw [g]; rfl) h
    · right
      refine so_go pre (b2 :: b3 :: b4 :: rest) x4 b1 0 0 _ (by simp only [List.length_cons]; omega) hb1 (by omega) (by omega) ?_
      rw [decide_eq_true c1]
      refine so_go (pre ++ [b1]) (b3 :: b4 :: rest) x4 b2 _ _ _ (by simp only [List.length_cons]; omega) hb2 (by omega) (by omega) ?_
      rw [decide_eq_true c2]
      refine so_go (pre ++ [b1] ++ [b2]) (b4 :: rest) x4 b3 _ _ _ (by simp only [List.length_cons]; omega) hb3 (by omega) (by omega) ?_
      rw [decide_eq_true c3]
      refine so_go (pre ++ [b1] ++ [b2] ++ [b3]) rest x4 b4 _ _ _ (by omega) hb4 (by omega) (by omega) ?_
      rw [decide_eq_false c4]
      refine so_bad _ x4 _ _ _ (by omega) ?_
      by_cases e : ((((0 : Int) * 128 + b1 % 128) * 128 + b2 % 128) * 128 + b3 % 128) * 128 + b4 % 128 ≤ 127
      · rw [g4_1 _ e]; simp
      · by_cases e2 : ((((0 : Int) * 128 + b1 % 128) * 128 + b2 % 128) * 128 + b3 % 128) * 128 + b4 % 128 ≤ 16383
        · rw [g4_2 _ (by omega) e2]; simp
        · rw [g4_3 _ (by omega) (by omega)]; simp
  · right
    refine so_go pre (b2 :: b3 :: b4 :: rest) x4 b1 0 0 _ (by simp only [List.length_cons]; omega) hb1 (by omega) (by omega) ?_
    rw [decide_eq_true c1]
    refine so_go (pre ++ [b1]) (b3 :: b4 :: rest) x4 b2 _ _ _ (by simp only [List.length_cons]; omega) hb2 (by omega) (by omega) ?_
    rw [decide_eq_true c2]
    refine so_go (pre ++ [b1] ++ [b2]) (b4 :: rest) x4 b3 _ _ _ (by simp only [List.length_cons]; omega) hb3 (by omega) (by omega) ?_
    rw [decide_eq_true c3]
    refine so_go (pre ++ [b1] ++ [b2] ++ [b3]) rest x4 b4 _ _ _ (by omega) hb4 (by omega) (by omega) ?_
    rw [decide_eq_true c4, show (0 : Int) + 1 + 1 + 1 + 1 = 4 by omega]
    exact so_full _ x4 _ _

theorem so_fwd (n : Int) (hn : 0 ≤ n ∧ n ≤ 100000) (pre rest x4 : List Int) (r : List Int × Bool) (hl : pre.length + 3 + rest.length ≤ 1048576) (h4 : x4.length ≤ 1048576)
    (h : Ev (fun k => spec_GetOid.l0 k ((pre ++ group n) ++ rest) (x4 ++ [n]) ((pre ++ group n).length : Int)) r) :
    Ev (fun k => spec_GetOid.l1 k (pre ++ (group n ++ rest)) x4 (pre.length : Int) 0 0 true) r := by
  have p1 (b : Int) : (pre ++ [b]).length = pre.length + 1 := by simp
  have p2 (b c : Int) : (pre ++ [b] ++ [c]).length = pre.length + 2 := by simp
  rw [← group4_small n hn.2] at h ⊢
  by_cases c1 : n ≤ 127
  · rw [g4_1 n c1] at h ⊢
    refine so_go pre rest x4 n 0 0 r (by omega) (by omega) (by omega) (by omega) ?_
    rw [decide_eq_false (show ¬ n > 127 by omega), show (0 : Int) * 128 + n % 128 = n by omega, show (0 : Int) + 1 = 1 by omega]
    exact so_out _ x4 _ n 1 r (by omega) h4 (by rw [g4_1 n c1]; rfl) h
  · by_cases c2 : n ≤ 16383
    · have g := g4_2 n (by omega) c2
      rw [g] at h ⊢
      refine so_go pre (n % 128 :: rest) x4 (n / 128 + 128) 0 0 r (by simp only [List.length_cons]; omega) (by omega) (by omega) (by omega) ?_
      rw [decide_eq_true (show n / 128 + 128 > 127 by omega)]
      refine so_go (pre ++ [n / 128 + 128]) rest x4 (n % 128) _ _ r (by rw [p1]; omega) (by omega) (by omega) (by omega) ?_
      rw [decide_eq_false (show ¬ n % 128 > 127 by omega), show ((0 : Int) * 128 + (n / 128 + 128) % 128) * 128 + n % 128 % 128 = n by omega, show (0 : Int) + 1 + 1 = 2 by omega]
      rw [show pre ++ [n / 128 + 128, n % 128] = pre ++ [n / 128 + 128] ++ [n % 128] by simp] at h
      exact so_out _ x4 _ n 2 r (by omega) h4 (by rw [g]; rfl) h
    · have g := g4_3 n (by omega) (by omega)
      rw [g] at h ⊢
      refine so_go pre ((n / 128 % 128 + 128) :: n % 128 :: rest) x4 (n / 16384 + 128) 0 0 r (by simp only [List.length_cons]; omega) (by omega) (by omega) (by omega) ?_
      rw [decide_eq_true (show n / 16384 + 128 > 127 by omega)]
      refine so_go (pre ++ [n / 16384 + 128]) (n % 128 :: rest) x4 (n / 128 % 128 + 128) _ _ r (by rw [p1]; simp only [List.length_cons]; omega) (by omega) (by omega) (by omega) ?_
      rw [decide_eq_true (show n / 128 % 128 + 128 > 127 by omega)]
      refine so_go (pre ++ [n / 16384 + 128] ++ [n / 128 % 128 + 128]) rest x4 (n % 128) _ _ r (by rw [p2]; omega) (by omega) (by omega) (by omega) ?_
      rw [decide_eq_false (show ¬ n % 128 > 127 by omega), show (((0 : Int) * 128 + (n / 16384 + 128) % 128) * 128 + (n / 128 % 128 + 128) % 128) * 128 + n % 128 % 128 = n by omega, show (0 : Int) + 1 + 1 + 1 = 3 by omega]
      rw [show pre ++ [n / 16384 + 128, n / 128 % 128 + 128, n % 128] = pre ++ [n / 16384 + 128] ++ [n / 128 % 128 + 128] ++ [n % 128] by simp] at h
      exact so_out _ x4 _ n 3 r (by omega) h4 (by rw [g]; rfl) h
theorem so_stop (l x4 : List Int) (hl : l.length ≤ 1048576) (h4 : x4.length ≤ 1048576) : Ev (fun k => spec_GetOid.l0 k l x4 (l.length : Int)) (if oidOk x4 = true then (x4, true) else ([], false)) := by
  refine Ev.succ ?_
  simp only [spec_GetOid.l0]
  simp only [if_neg (show ¬ (l.length : Int) < (l.length : Int) by omega)]
  refine Ev.succ ?_
  simp only [spec_GetOid.j1]
  simp only [Bool.false_eq_true, if_false, if_true]
  refine Ev.bind (sOidOk_ev x4 (by omega)) ?_
  split <;> exact Ev.now _
theorem so_goOn (pre rest x4 : List Int) (r : List Int × Bool) (hr : rest ≠ []) (h4 : x4.length ≤ 10) (h : Ev (fun k => spec_GetOid.l1 k (pre ++ rest) x4 (pre.length : Int) 0 0 true) r) :
    Ev (fun k => spec_GetOid.l0 k (pre ++ rest) x4 (pre.length : Int)) r := by
  have hp : 0 < rest.length := by cases rest with | nil => exact absurd rfl hr | cons _ _ => simp
  refine Ev.succ ?_
  simp only [spec_GetOid.l0]
  simp only [if_pos (show (pre.length : Int) < ((pre ++ rest).length : Int) by simp only [List.length_append]; omega)]
  rw [decide_eq_true (show (x4.length : Int) ≤ 10 by omega)]
  refine Ev.succ ?_
  simp only [spec_GetOid.j1]
  simp only [if_true]
  exact h
theorem so_tooMany (pre rest x4 : List Int) (hr : rest ≠ []) (h4 : ¬ x4.length ≤ 10) : Ev (fun k => spec_GetOid.l0 k (pre ++ rest) x4 (pre.length : Int)) ([], false) := by
  have hp : 0 < rest.length := by cases rest with | nil => exact absurd rfl hr | cons _ _ => simp
  refine Ev.succ ?_
  simp only [spec_GetOid.l0]
  simp only [if_pos (show (pre.length : Int) < ((pre ++ rest).length : Int) by simp only [List.length_append]; omega)]
  rw [decide_eq_false (show ¬ (x4.length : Int) ≤ 10 by omega)]
  refine Ev.succ ?_
  simp only [spec_GetOid.j1]
  simp only [Bool.false_eq_true, if_false, if_neg (show ¬ (pre.length : Int) = ((pre ++ rest).length : Int) by simp only [List.length_append]; omega)]
  exact Ev.now _
theorem group_ne (n : Int) (l : List Int) : group n ++ l ≠ [] := by
  have := group_len n
  intro h
  have := congrArg List.length h
  simp only [List.length_append, List.length_nil] at this
  omega
theorem sGetOid_yes (o : List Int) : ∀ (pre x4 : List Int), oidOk (x4 ++ o) = true → pre.length + 3 * o.length ≤ 1000 →
    Ev (fun k => spec_GetOid.l0 k (pre ++ o.flatMap group) x4 (pre.length : Int)) (x4 ++ o, true) := by
  induction o with
  | nil =>
    intro pre x4 h hl
    have e := so_stop pre x4 (by omega) (by simp only [oidOk, Bool.and_eq_true, decide_eq_true_eq, List.append_nil] at h; omega)
    rw [List.append_nil] at h
    rw [if_pos h] at e
    simpa using e
  | cons n o ih =>
    intro pre x4 h hl
    simp only [List.length_cons] at hl
    have hg := group_len n
    have hf := flat_len o
    have h' := h
    simp only [oidOk, Bool.and_eq_true, decide_eq_true_eq, List.length_append, List.length_cons] at h'
    have hn : 0 ≤ n ∧ n ≤ 100000 := by
      have := h'.1
      simp only [oidNums, List.all_append, List.all_cons, Bool.and_eq_true, decide_eq_true_eq] at this
      exact this.2.1
    simp only [List.flatMap_cons]
    refine so_goOn pre _ x4 _ (group_ne n _) (by omega) ?_
    refine so_fwd n hn pre _ x4 _ (by omega) (by omega) ?_
    have e := ih (pre ++ group n) (x4 ++ [n]) (by simpa using h) (by simp only [List.length_append]; omega)
    simpa using e
theorem flat4 (o : List Int) (h : oidNums o = true) : o.flatMap group4 = o.flatMap group := by
  induction o with
  | nil => rfl
  | cons n o ih =>
    obtain ⟨hn, ho⟩ := oidNums_cons n o h
    simp only [List.flatMap_cons, group4_small n hn.2, ih ho]
theorem sGetOid_no (m : Nat) : ∀ (rest x4 : List Int), rest.length ≤ m → bytes rest → (x4.flatMap group4).length + rest.length ≤ 1048576 → (∀ o, oidOk o = true → o.flatMap group ≠ x4.flatMap group4 ++ rest) →
    Ev (fun k => spec_GetOid.l0 k (x4.flatMap group4 ++ rest) x4 ((x4.flatMap group4).length : Int)) ([], false) := by
  induction m with
  | zero =>
    intro rest x4 hm _ hl hno
    have : rest = [] := List.eq_nil_of_length_eq_zero (by omega)
    subst this
    have h4 : x4.length ≤ (x4.flatMap group4).length := by
      clear hno hl hm
      induction x4 with
      | nil => simp
      | cons n x4 ih =>
        have := g4_len n
        simp only [List.flatMap_cons, List.length_append, List.length_cons]
        omega
    have e := so_stop (x4.flatMap group4) x4 (by omega) (by omega)
    have hx : ¬ oidOk x4 = true := by
      intro hx
      have hx' := hx
      simp only [oidOk, Bool.and_eq_true] at hx'
      exact hno x4 hx (by rw [List.append_nil, flat4 x4 hx'.1])
    rw [if_neg hx] at e
    simpa using e
  | succ m ih =>
    intro rest x4 hm hw hl hno
    by_cases hr : rest = []
    · subst hr
      exact ih [] x4 (by simp) hw hl hno
    by_cases h4 : x4.length ≤ 10
    · refine so_goOn _ rest x4 _ hr h4 ?_
      rcases so_any rest (x4.flatMap group4) x4 hw hl (by omega) with ⟨n, rest', h0, h1, e, h⟩ | h
      · refine h _ ?_
        have hg := g4_len n
        have hw' : bytes rest' := fun y hy => hw y (by rw [e]; exact List.mem_append_right _ hy)
        have hle : rest.length = (group4 n).length + rest'.length := by rw [e, List.length_append]
        have hc : (x4 ++ [n]).flatMap group4 = x4.flatMap group4 ++ group4 n := by simp
        have := ih rest' (x4 ++ [n]) (by omega) hw' (by rw [hc, List.length_append]; omega) (by
          intro o ho
          rw [hc, List.append_assoc, ← e]
          exact hno o ho)
        rw [hc] at this
        exact this
      · exact h
    · exact so_tooMany _ rest x4 hr h4
def gfin (all x4 : List Int) : List Int × Bool := if ((putOid x4).length : Int) = 0 then ([], false) else if (strOfNums (putOid x4)).toList = (strOfNums all).toList then (x4, true) else ([], false)
theorem io_fin (all x4 xs : List Int) (n m p : Int) (hp : ¬ p < m) (h4 : x4.length ≤ 1048576) : Ev (fun k => impl_GetOid.l0 k all x4 n xs m p) (gfin all x4) := by
  refine Ev.succ ?_
  simp only [impl_GetOid.l0]
  simp only [if_neg hp]
  refine Ev.bind (iPutOid_ev x4 h4) ?_
  unfold gfin
  split
  · exact Ev.now _
  · split <;> exact Ev.now _
def joinO (n b : Int) : Int := Go.bits .or .i64 (wrap64 ((mn n 1048576) * 128)) (wrap64 (Go.bits .and .u8 b 127))
theorem joinO_eq (n b : Int) (hn : 0 ≤ n ∧ n ≤ 1048576) (hb : 0 ≤ b ∧ b ≤ 255) : joinO n b = n * 128 + b % 128 := by
  unfold joinO mn
  rw [if_neg (by omega), and127b b hb.1 hb.2, w64 (by omega) (by omega), w64 (by omega) (by omega), join7 n (b % 128) hn.1 (by omega) (by omega) (by omega)]
theorem io_small (all pre rest x4 : List Int) (b n m : Int) (r : List Int × Bool) (hm : m = (pre.length : Int) + rest.length + 1) (hp : pre.length < 40) (h4 : x4.length ≤ 1048576) (hb : b < 128)
    (h : Ev (fun k => impl_GetOid.l0 k all (x4 ++ [joinO n b]) 0 ((pre ++ [b]) ++ rest) m ((pre ++ [b]).length : Int)) r) :
    Ev (fun k => impl_GetOid.l0 k all x4 n (pre ++ b :: rest) m (pre.length : Int)) r := by
  refine Ev.succ ?_
  simp only [impl_GetOid.l0]
  simp only [if_pos (show (pre.length : Int) < m by omega), if_pos (show (0 : Int) ≤ (pre.length : Int) by omega), if_pos (show (pre.length : Int) < ((pre ++ b :: rest).length : Int) by simp only [List.length_append, List.length_cons]; omega), if_neg (show ¬ (pre.length : Int) ≥ 40 by omega), rd_mid, if_pos hb, if_pos (show x4.length < 17592186044416 by omega), w64 (x := (pre.length : Int) + 1) (by omega) (by omega)]
  simp only [List.append_assoc, List.cons_append, List.nil_append] at h
  rw [show ((pre ++ [b]).length : Int) = (pre.length : Int) + 1 by simp] at h
  exact h
theorem io_big (all pre rest x4 : List Int) (b n m : Int) (r : List Int × Bool) (hm : m = (pre.length : Int) + rest.length + 1) (hp : pre.length < 40) (hb : ¬ b < 128)
    (h : Ev (fun k => impl_GetOid.l0 k all x4 (joinO n b) ((pre ++ [b]) ++ rest) m ((pre ++ [b]).length : Int)) r) :
    Ev (fun k => impl_GetOid.l0 k all x4 n (pre ++ b :: rest) m (pre.length : Int)) r := by
  refine Ev.succ ?_
  simp only [impl_GetOid.l0]
  simp only [if_pos (show (pre.length : Int) < m by omega), if_pos (show (0 : Int) ≤ (pre.length : Int) by omega), if_pos (show (pre.length : Int) < ((pre ++ b :: rest).length : Int) by simp only [List.length_append, List.length_cons]; omega), if_neg (show ¬ (pre.length : Int) ≥ 40 by omega), rd_mid, if_neg hb, w64 (x := (pre.length : Int) + 1) (by omega) (by omega)]
  simp only [List.append_assoc, List.cons_append, List.nil_append] at h
  rw [show ((pre ++ [b]).length : Int) = (pre.length : Int) + 1 by simp] at h
  exact h
theorem io_over (all pre rest x4 : List Int) (b n m : Int) (hm : m = (pre.length : Int) + rest.length + 1) (hp : ¬ pre.length < 40) :
    Ev (fun k => impl_GetOid.l0 k all x4 n (pre ++ b :: rest) m (pre.length : Int)) ([], false) := by
  refine Ev.succ ?_
  simp only [impl_GetOid.l0]
  simp only [if_pos (show (pre.length : Int) < m by omega), if_pos (show (0 : Int) ≤ (pre.length : Int) by omega), if_pos (show (pre.length : Int) < ((pre ++ b :: rest).length : Int) by simp only [List.length_append, List.length_cons]; omega), if_pos (show (pre.length : Int) ≥ 40 by omega)]
  exact Ev.now _
theorem iGetOid_any (all : List Int) (rest : List Int) : ∀ (pre x4 : List Int) (n m : Int), m = (pre.length : Int) + rest.length → x4.length ≤ pre.length → pre.length ≤ 40 →
    ∃ x, Ev (fun k => impl_GetOid.l0 k all x4 n (pre ++ rest) m (pre.length : Int)) (gfin all x) ∨ Ev (fun k => impl_GetOid.l0 k all x4 n (pre ++ rest) m (pre.length : Int)) ([], false) := by
  induction rest with
  | nil =>
    intro pre x4 n m hm h4 hp
    simp only [List.length_nil] at hm
    exact ⟨x4, Or.inl (io_fin all x4 _ n m _ (by omega) (by omega))⟩
  | cons b rest ih =>
    intro pre x4 n m hm h4 hp
    simp only [List.length_cons] at hm
    by_cases hp' : pre.length < 40
    · by_cases hb : b < 128
      · obtain ⟨x, h⟩ := ih (pre ++ [b]) (x4 ++ [joinO n b]) 0 m (by simp only [List.length_append, List.length_cons, List.length_nil]; omega) (by simp only [List.length_append, List.length_cons, List.length_nil]; omega) (by simp only [List.length_append, List.length_cons, List.length_nil]; omega)
        exact ⟨x, h.imp (io_small all pre rest x4 b n m _ (by omega) hp' (by omega) hb) (io_small all pre rest x4 b n m _ (by omega) hp' (by omega) hb)⟩
      · obtain ⟨x, h⟩ := ih (pre ++ [b]) x4 (joinO n b) m (by simp only [List.length_append, List.length_cons, List.length_nil]; omega) (by simp only [List.length_append, List.length_cons, List.length_nil]; omega) (by simp only [List.length_append, List.length_cons, List.length_nil]; omega)
        exact ⟨x, h.imp (io_big all pre rest x4 b n m _ (by omega) hp' hb) (io_big all pre rest x4 b n m _ (by omega) hp' hb)⟩
    · exact ⟨[], Or.inr (io_over all pre rest x4 b n m (by omega) hp')⟩
theorem io_fwd (all : List Int) (n : Int) (hn : 0 ≤ n ∧ n ≤ 100000) (pre rest x4 : List Int) (m : Int) (r : List Int × Bool) (hm : m = (pre.length : Int) + (group n).length + rest.length) (hp : pre.length ≤ 37) (h4 : x4.length ≤ 1048576)
    (h : Ev (fun k => impl_GetOid.l0 k all (x4 ++ [n]) 0 ((pre ++ group n) ++ rest) m ((pre ++ group n).length : Int)) r) :
    Ev (fun k => impl_GetOid.l0 k all x4 0 (pre ++ (group n ++ rest)) m (pre.length : Int)) r := by
  have p1 (b : Int) : (pre ++ [b]).length = pre.length + 1 := by simp
  have p2 (b c : Int) : (pre ++ [b] ++ [c]).length = pre.length + 2 := by simp
  rw [← group4_small n hn.2] at h hm ⊢
  by_cases c1 : n ≤ 127
  · rw [g4_1 n c1] at h hm ⊢
    simp only [List.length_cons, List.length_nil] at hm
    refine io_small all pre rest x4 n 0 m r (by omega) (by omega) h4 (by omega) ?_
    rw [joinO_eq 0 n (by omega) (by omega), show (0 : Int) * 128 + n % 128 = n by omega]
    exact h
  · by_cases c2 : n ≤ 16383
    · have g := g4_2 n (by omega) c2
      rw [g] at h hm ⊢
      simp only [List.length_cons, List.length_nil] at hm
      refine io_big all pre (n % 128 :: rest) x4 (n / 128 + 128) 0 m r (by simp only [List.length_cons]; omega) (by omega) (by omega) ?_
      refine io_small all (pre ++ [n / 128 + 128]) rest x4 (n % 128) _ m r (by rw [p1]; omega) (by rw [p1]; omega) h4 (by omega) ?_
      rw [joinO_eq 0 _ (by omega) (by omega), joinO_eq _ _ (by omega) (by omega), show ((0 : Int) * 128 + (n / 128 + 128) % 128) * 128 + n % 128 % 128 = n by omega]
      rw [show pre ++ [n / 128 + 128, n % 128] = pre ++ [n / 128 + 128] ++ [n % 128] by simp] at h
      exact h
    · have g := g4_3 n (by omega) (by omega)
      rw [g] at h hm ⊢
      simp only [List.length_cons, List.length_nil] at hm
      refine io_big all pre ((n / 128 % 128 + 128) :: n % 128 :: rest) x4 (n / 16384 + 128) 0 m r (by simp only [List.length_cons]; omega) (by omega) (by omega) ?_
      refine io_big all (pre ++ [n / 16384 + 128]) (n % 128 :: rest) x4 (n / 128 % 128 + 128) _ m r (by rw [p1]; simp only [List.length_cons]; omega) (by rw [p1]; omega) (by omega) ?_
      refine io_small all (pre ++ [n / 16384 + 128] ++ [n / 128 % 128 + 128]) rest x4 (n % 128) _ m r (by rw [p2]; omega) (by rw [p2]; omega) h4 (by omega) ?_
      rw [joinO_eq 0 _ (by omega) (by omega), joinO_eq _ (n / 128 % 128 + 128) (by omega) (by omega), joinO_eq _ _ (by omega) (by omega), show (((0 : Int) * 128 + (n / 16384 + 128) % 128) * 128 + (n / 128 % 128 + 128) % 128) * 128 + n % 128 % 128 = n by omega]
      rw [show pre ++ [n / 16384 + 128, n / 128 % 128 + 128, n % 128] = pre ++ [n / 16384 + 128] ++ [n / 128 % 128 + 128] ++ [n % 128] by simp] at h
      exact h
theorem iGetOid_loop (all : List Int) (o : List Int) : ∀ (pre x4 : List Int) (m : Int), m = (pre.length : Int) + (o.flatMap group).length → oidNums o = true → pre.length + 3 * o.length ≤ 40 → x4.length + o.length ≤ 10 →
    Ev (fun k => impl_GetOid.l0 k all x4 0 (pre ++ o.flatMap group) m (pre.length : Int)) (gfin all (x4 ++ o)) := by
  induction o with
  | nil =>
    intro pre x4 m hm _ hl h4
    simp only [List.flatMap_nil, List.length_nil] at hm
    simp only [List.length_nil] at h4
    have e := io_fin all x4 (pre ++ []) 0 m (pre.length : Int) (by omega) (by omega)
    simpa using e
  | cons n o ih =>
    intro pre x4 m hm ho hl h4
    obtain ⟨hn, ho⟩ := oidNums_cons n o ho
    have hg := group_len n
    simp only [List.length_cons] at hl h4
    simp only [List.flatMap_cons, List.length_append] at hm ⊢
    refine io_fwd all n hn pre _ x4 m _ (by omega) (by omega) (by omega) ?_
    have e := ih (pre ++ group n) (x4 ++ [n]) m (by simp only [List.length_append]; omega) ho (by simp only [List.length_append]; omega) (by simp only [List.length_append, List.length_cons, List.length_nil]; omega)
    simpa using e
theorem group_bytes (n : Int) (hn : 0 ≤ n ∧ n ≤ 100000) : ∀ y ∈ group n, 0 ≤ y ∧ y ≤ 255 := by
  unfold group
  intro y hy
  split at hy
  · simp only [List.mem_cons, List.not_mem_nil, or_false] at hy; omega
  · split at hy
    · simp only [List.mem_cons, List.not_mem_nil, or_false] at hy; omega
    · simp only [List.mem_cons, List.not_mem_nil, or_false] at hy; omega
theorem putOid_bytes (o : List Int) : ∀ y ∈ putOid o, 0 ≤ y ∧ y ≤ 255 := by
  unfold putOid
  split
  · rename_i h
    intro y hy
    simp only [List.mem_flatMap] at hy
    obtain ⟨n, hn, hy⟩ := hy
    simp only [oidOk, Bool.and_eq_true, oidNums, List.all_eq_true, decide_eq_true_eq] at h
    exact group_bytes n (h.1 n hn) y hy
  · simp
/- what both make of the bytes -/
theorem getOid_both (l : List Int) (hw : bytes l) (hl : l.length ≤ 1048576) : ∃ R, Ev (fun k => spec_GetOid.f k l) R ∧ Ev (fun k => impl_GetOid.f k l) R ∧ R.1.length ≤ 10 := by
  unfold spec_GetOid.f impl_GetOid.f
  by_cases h : ∃ o, oidOk o = true ∧ o.flatMap group = l
  · obtain ⟨o, ho, rfl⟩ := h
    have ho' := ho
    simp only [oidOk, Bool.and_eq_true, decide_eq_true_eq] at ho'
    refine ⟨(o, true), ?_, ?_, by show o.length ≤ 10; omega⟩
    · have e := sGetOid_yes o [] [] (by simpa using ho) (by simp only [List.length_nil]; omega)
      simpa using e
    · have e := iGetOid_loop (o.flatMap group) o [] [] ((o.flatMap group).length : Int) (by simp) ho'.1 (by simp only [List.length_nil]; omega) (by simp only [List.length_nil]; omega)
      have hg : gfin (o.flatMap group) o = (o, true) := by
        unfold gfin putOid
        rw [if_pos ho]
        have : 1 ≤ (o.flatMap group).length := by
          cases o with
          | nil => simp at ho'
          | cons n o =>
            have := group_len n
            simp only [List.flatMap_cons, List.length_append]
            omega
        rw [if_neg (by omega), if_pos rfl]
      simp only [List.nil_append] at e
      rw [hg] at e
      exact e
  · have hno : ∀ o, oidOk o = true → o.flatMap group ≠ l := fun o ho e => h ⟨o, ho, e⟩
    refine ⟨([], false), ?_, ?_, by simp⟩
    · have e := sGetOid_no l.length l [] (Nat.le_refl _) hw (by simpa using hl) (by simpa using hno)
      simpa using e
    · obtain ⟨x, e⟩ := iGetOid_any l l [] [] 0 (l.length : Int) (by simp) (by simp) (by simp)
      rcases e with e | e
      · have hg : gfin l x = ([], false) := by
          unfold gfin
          split
          · rfl
          · rename_i h0
            rw [if_neg]
            intro hs
            have he := strNums_inj _ _ (putOid_bytes x) hw hs
            unfold putOid at he h0
            by_cases hx : oidOk x = true
            · rw [if_pos hx] at he
              exact hno x hx he
            · rw [if_neg hx] at h0
              simp at h0
        rw [hg] at e
        simpa using e
      · simpa using e

def sameVal (a b : Int) (s : ByteArray) (l : List Int) (a' b' : Int) (s' : ByteArray) (l' : List Int) : Bool :=
  if a = a' then (if b = b' then (if s.toList = s'.toList then decide (l = l') else false) else false) else false

theorem sSameVal_ev (a b : Int) (s : ByteArray) (l : List Int) (a' b' : Int) (s' : ByteArray) (l' : List Int) (h : l.length ≤ 1099511627776) : Ev (fun k => spec_SameVal.f k a b s l a' b' s' l') (sameVal a b s l a' b' s' l') := by
  unfold spec_SameVal.f sameVal
  refine Ev.ite (fun _ => ?_) (fun _ => Ev.now _)
  refine Ev.ite (fun _ => ?_) (fun _ => Ev.now _)
  refine Ev.ite (fun _ => ?_) (fun _ => Ev.now _)
  refine Ev.bind (sSameOid_ev l l' h) ?_
  exact Ev.now _

theorem iSameVal_ev (a b : Int) (s : ByteArray) (l : List Int) (a' b' : Int) (s' : ByteArray) (l' : List Int) (h : l.length ≤ 1099511627776) : Ev (fun k => impl_SameVal.f k a b s l a' b' s' l') (sameVal a b s l a' b' s' l') := by
  unfold impl_SameVal.f sameVal
  refine Ev.ite (fun _ => ?_) (fun _ => Ev.now _)
  refine Ev.ite (fun _ => ?_) (fun _ => Ev.now _)
  refine Ev.ite (fun _ => ?_) (fun _ => Ev.now _)
  refine Ev.bind (iSameOid_ev l l' h) ?_
  exact Ev.now _

def valNil (b : Int) (s : ByteArray) (l : List Int) : Bool := if b = 0 then (if s.toList = ([] : List UInt8) then ((l.length : Int) == 0) else false) else false
def valOk (a b : Int) (s : ByteArray) (l : List Int) : Bool :=
  if a = 5 ∨ a = 128 ∨ a = 130 then valNil b s l
  else if a = 2 then (if clip b = b then (if s.toList = ([] : List UInt8) then ((l.length : Int) == 0) else false) else false)
  else if a = 4 then (if (s.size : Int) ≤ 20 then (if b = 0 then ((l.length : Int) == 0) else false) else false)
  else if a = 6 then (if oidOk l = true then (if b = 0 then (s.toList == ([] : List UInt8)) else false) else false)
  else false
theorem decEmpty (l : List Int) : decide (l = []) = ((l.length : Int) == 0) := by
  cases l with
  | nil => rfl
  | cons x l => simp; omega
theorem emptyStr : (⟨#[]⟩ : ByteArray).toList = ([] : List UInt8) := by decide +kernel
theorem valNil_same (a b : Int) (s : ByteArray) (l : List Int) : sameVal a b s l a 0 ⟨#[]⟩ [] = valNil b s l := by
  unfold sameVal valNil
  rw [if_pos rfl, emptyStr, decEmpty]

theorem sValOk_j (a b : Int) (s : ByteArray) (l : List Int) (q : Bool) (h : l.length ≤ 1048576) (hq : q = true ↔ (a = 5 ∨ a = 128 ∨ a = 130)) : Ev (fun k => spec_ValOk.j0 k a q a b s l) (valOk a b s l) := by
  refine Ev.succ ?_
  simp only [spec_ValOk.j0]
  unfold valOk valNil
  by_cases c : a = 5 ∨ a = 128 ∨ a = 130
  · simp only [if_pos c, if_pos (hq.2 c)]
    refine Ev.ite (fun _ => ?_) (fun _ => Ev.now _)
    refine Ev.ite (fun _ => Ev.now _) (fun _ => Ev.now _)
  · have hq' : ¬ q = true := fun e => c (hq.1 e)
    simp only [if_neg c, if_neg hq', sClip_eq, Option.bind_some]
    refine Ev.ite (fun _ => ?_) (fun _ => ?_)
    · refine Ev.ite (fun _ => ?_) (fun _ => Ev.now _)
      refine Ev.ite (fun _ => Ev.now _) (fun _ => Ev.now _)
    refine Ev.ite (fun _ => ?_) (fun _ => ?_)
    · refine Ev.ite (fun _ => ?_) (fun _ => Ev.now _)
      refine Ev.ite (fun _ => Ev.now _) (fun _ => Ev.now _)
    refine Ev.ite (fun _ => ?_) (fun _ => Ev.now _)
    refine Ev.bind (sOidOk_ev l (by omega)) ?_
    refine Ev.ite (fun _ => ?_) (fun _ => Ev.now _)
    refine Ev.ite (fun _ => Ev.now _) (fun _ => Ev.now _)
theorem sValOk_ev (a b : Int) (s : ByteArray) (l : List Int) (h : l.length ≤ 1048576) : Ev (fun k => spec_ValOk.f k a b s l) (valOk a b s l) := by
  unfold spec_ValOk.f
  by_cases c1 : a = 5
  · simp only [if_pos c1]
    exact sValOk_j a b s l _ h (by simp [c1])
  · simp only [if_neg c1]
    by_cases c2 : a = 128
    · simp only [if_pos c2]
      exact sValOk_j a b s l _ h (by simp [c2])
    · simp only [if_neg c2]
      exact sValOk_j a b s l _ h (by simp [c1, c2])

theorem iIsInt_eq (b : Int) : impl_isInt.f b = some (decide (-2147483648 ≤ b ∧ b ≤ 2147483647)) := by
  unfold impl_isInt.f
  rw [in_eq]
  rfl
theorem clip_same (b : Int) : decide (-2147483648 ≤ b ∧ b ≤ 2147483647) = decide (clip b = b) := by
  unfold clip
  refine decide_eq_decide.2 ⟨fun h => ?_, fun h => ?_⟩
  · rw [if_neg (by omega), if_neg (by omega)]
  · split at h
    · omega
    · split at h <;> omega
theorem iValOk_ev (a b : Int) (s : ByteArray) (l : List Int) (h : l.length ≤ 1048576) : Ev (fun k => impl_ValOk.f k a b s l) (valOk a b s l) := by
  unfold impl_ValOk.f valOk
  by_cases c2 : a = 2
  · simp only [if_pos c2, if_neg (show ¬ (a = 5 ∨ a = 128 ∨ a = 130) by omega), iIsInt_eq, Option.bind_some, clip_same, decide_eq_true_eq]
    refine Ev.ite (fun _ => ?_) (fun _ => Ev.now _)
    refine Ev.bind (iSameVal_ev a b s l a b _ _ (by omega)) ?_
    unfold sameVal
    rw [if_pos rfl, if_pos rfl, emptyStr, decEmpty]
    exact Ev.now _
  simp only [if_neg c2]
  by_cases c4 : a = 4
  · simp only [if_pos c4, if_neg (show ¬ (a = 5 ∨ a = 128 ∨ a = 130) by omega)]
    refine Ev.ite (fun _ => ?_) (fun _ => Ev.now _)
    refine Ev.bind (iSameVal_ev a b s l a 0 s _ (by omega)) ?_
    unfold sameVal
    rw [if_pos rfl, if_pos rfl, decEmpty]
    exact Ev.now _
  simp only [if_neg c4]
  by_cases c6 : a = 6
  · simp only [if_pos c6, if_neg (show ¬ (a = 5 ∨ a = 128 ∨ a = 130) by omega)]
    refine Ev.bind (iOidOk_ev l (by omega)) ?_
    refine Ev.ite (fun _ => ?_) (fun _ => Ev.now _)
    refine Ev.bind (iSameVal_ev a b s l a 0 _ l (by omega)) ?_
    unfold sameVal
    rw [if_pos rfl, emptyStr]
    have e : (if b = 0 then (if s.toList = ([] : List UInt8) then decide (l = l) else false) else false) = (if b = 0 then (s.toList == ([] : List UInt8)) else false) := by
      split
      · by_cases z : s.toList = ([] : List UInt8)
        · simp [z]
        · rw [if_neg z]
          exact (beq_eq_false_iff_ne.2 z).symm
      · rfl
    rw [e]
    exact Ev.now _
  simp only [if_neg c6]
  by_cases c5 : a = 5
  · simp only [if_pos c5, if_pos (show (a = 5 ∨ a = 128 ∨ a = 130) by omega)]
    refine Ev.bind (iSameVal_ev a b s l a 0 _ _ (by omega)) ?_
    rw [valNil_same]
    exact Ev.now _
  simp only [if_neg c5]
  by_cases c8 : a = 128
  · simp only [if_pos c8, if_pos (show (a = 5 ∨ a = 128 ∨ a = 130) by omega)]
    refine Ev.bind (iSameVal_ev a b s l a 0 _ _ (by omega)) ?_
    rw [valNil_same]
    exact Ev.now _
  simp only [if_neg c8]
  by_cases c3 : a = 130
  · simp only [if_pos c3, if_pos (show (a = 5 ∨ a = 128 ∨ a = 130) by omega)]
    refine Ev.bind (iSameVal_ev a b s l a 0 _ _ (by omega)) ?_
    rw [valNil_same]
    exact Ev.now _
  simp only [if_neg c3, if_neg (show ¬ (a = 5 ∨ a = 128 ∨ a = 130) by omega)]
  exact Ev.now _

def tlvOk (tag : Int) (body : List Int) : Bool := decide (0 ≤ tag ∧ tag ≤ 255) && decide ((body.length : Int) ≤ 250)
def tlvBytes (tag : Int) (body : List Int) : List Int := [tag % 256] ++ ((if (body.length : Int) > 127 then [129] else []) ++ ([(body.length : Int) % 256] ++ body))
def putTlv (b : List Int) (tag : Int) (body : List Int) : List Int := if tlvOk tag body = true then b ++ tlvBytes tag body else b
theorem tlvBytes_len (tag : Int) (body : List Int) : (tlvBytes tag body).length ≤ body.length + 3 := by
  unfold tlvBytes
  split <;> simp <;> omega
theorem putTlv_len (b : List Int) (tag : Int) (body : List Int) : (putTlv b tag body).length ≤ b.length + 253 := by
  unfold putTlv
  split
  · rename_i h
    have := tlvBytes_len tag body
    simp only [tlvOk, Bool.and_eq_true, decide_eq_true_eq] at h
    simp only [List.length_append]
    omega
  · omega

theorem sPutTlv_ev (b : List Int) (tag : Int) (body : List Int) (hb : b.length ≤ 1099511627776) (hy : body.length ≤ 1099511627776) : Ev (fun k => spec_PutTlv.f k b tag body) (putTlv b tag body) := by
  refine Ev.succ ?_
  refine Ev.some_const (fun k => ?_)
  simp only [spec_PutTlv.f, spec_PutTlv.j0, Option.bind_some, l1In_eq, List.nil_append]
  rw [if_pos (by simp only [List.length_nil]; omega)]
  unfold putTlv tlvOk tlvBytes
  by_cases h1 : 0 ≤ tag ∧ tag ≤ 255
  · simp only [decide_eq_true h1, if_true, Bool.true_and]
    by_cases h2 : (body.length : Int) > 250
    · simp only [decide_eq_true h2, if_true, decide_eq_false (show ¬ (body.length : Int) ≤ 250 by omega), Bool.false_eq_true, if_false]
    · simp only [decide_eq_false h2, Bool.false_eq_true, if_false, decide_eq_true (show (body.length : Int) ≤ 250 by omega), if_true]
      rw [if_pos (by omega)]
      by_cases h3 : (body.length : Int) > 127
      · simp only [if_pos h3]
        rw [if_pos (by simp only [List.length_append, List.length_cons, List.length_nil]; omega), if_pos (by simp only [List.length_append, List.length_cons, List.length_nil]; omega), if_pos (by simp only [List.length_append, List.length_cons, List.length_nil]; omega)]
        simp
      · simp only [if_neg h3]
        rw [if_pos (by simp only [List.length_append, List.length_cons, List.length_nil]; omega), if_pos (by simp only [List.length_append, List.length_cons, List.length_nil]; omega)]
        simp
  · simp only [decide_eq_false h1, Bool.false_and, Bool.false_eq_true, if_false, if_true]

theorem iCopyBytes_eq (b : List Int) (hb : b.length ≤ 1099511627776) : impl_copyBytes.f b = some b := by
  unfold impl_copyBytes.f
  rw [if_pos (by simp only [List.length_nil]; omega)]
  simp
theorem iTlv_ev (tag : Int) (body : List Int) (hy : body.length ≤ 1099511627776) : Ev (fun k => impl_tlv.f k tag body) (if tlvOk tag body = true then (tlvBytes tag body, true) else ([], false)) := by
  refine Ev.succ ?_
  refine Ev.some_const (fun k => ?_)
  simp only [impl_tlv.f, impl_tlv.j0, Option.bind_some, in_eq]
  unfold tlvOk tlvBytes
  by_cases h1 : 0 ≤ tag ∧ tag ≤ 255
  · simp only [decide_eq_true h1, if_true, Bool.true_and]
    by_cases h2 : (body.length : Int) > 250
    · simp only [decide_eq_true h2, if_true, decide_eq_false (show ¬ (body.length : Int) ≤ 250 by omega), Bool.false_eq_true, if_false]
    · simp only [decide_eq_false h2, Bool.false_eq_true, if_false, decide_eq_true (show (body.length : Int) ≤ 250 by omega), if_true]
      by_cases h3 : (body.length : Int) > 127
      · rw [if_pos (show (body.length : Int) ≥ 128 by omega), if_pos (by simp only [List.length_cons, List.length_nil]; omega), if_pos (by simp only [List.length_append, List.length_cons, List.length_nil]; omega), if_pos (by simp only [List.length_append, List.length_cons, List.length_nil]; omega)]
        simp [h3]
      · rw [if_neg (show ¬ (body.length : Int) ≥ 128 by omega), if_pos (by simp only [List.length_cons, List.length_nil]; omega), if_pos (by simp only [List.length_append, List.length_cons, List.length_nil]; omega)]
        simp [h3]
  · simp only [decide_eq_false h1, Bool.false_and, Bool.false_eq_true, if_false, if_true]
theorem iPutTlv_ev (b : List Int) (tag : Int) (body : List Int) (hb : b.length ≤ 1099511627776) (hy : body.length ≤ 1099511627776) : Ev (fun k => impl_PutTlv.f k b tag body) (putTlv b tag body) := by
  unfold impl_PutTlv.f putTlv
  refine Ev.bind (iTlv_ev tag body hy) ?_
  simp only [iCopyBytes_eq b hb, Option.bind_some]
  by_cases h : tlvOk tag body = true
  · have hl := tlvBytes_len tag body
    simp only [if_pos h]
    rw [if_pos (by omega)]
    exact Ev.now _
  · simp only [if_neg h, List.length_nil, List.append_nil]
    rw [if_pos (by omega)]
    exact Ev.now _

theorem tlvBytes_short (t : Int) (body : List Int) (ht : 0 ≤ t ∧ t ≤ 255) (h : body.length ≤ 127) : tlvBytes t body = t :: (body.length : Int) :: body := by
  unfold tlvBytes
  rw [if_neg (by omega), show t % 256 = t by omega, show (body.length : Int) % 256 = (body.length : Int) by omega]
  rfl
theorem tlvBytes_long (t : Int) (body : List Int) (ht : 0 ≤ t ∧ t ≤ 255) (h : 127 < body.length) (h' : body.length ≤ 250) : tlvBytes t body = t :: 129 :: (body.length : Int) :: body := by
  unfold tlvBytes
  rw [if_pos (by omega), show t % 256 = t by omega, show (body.length : Int) % 256 = (body.length : Int) by omega]
  rfl

theorem tlvBytes_bys (t : Int) (body : List Int) (ht : 0 ≤ t ∧ t ≤ 255) (hb : bys body) (h : body.length ≤ 250) : bys (tlvBytes t body) := by
  by_cases c : body.length ≤ 127
  · rw [tlvBytes_short t body ht c]
    exact bys_app (bys_one ht) (bys_app (bys_one (b := (body.length : Int)) (by omega)) hb)
  · rw [tlvBytes_long t body ht (by omega) h]
    exact bys_app (bys_one ht) (bys_app (bys_one (b := 129) (by omega)) (bys_app (bys_one (b := (body.length : Int)) (by omega)) hb))

def no4 : Int × List Int × Int × Bool := (0, [], 0, false)
def tlvTail (b : List Int) (a x : Int) : Int × List Int × Int × Bool :=
  if rd b x > 250 then no4 else if rd b x > (b.length : Int) - (x + 1) then no4 else (rd b a, (b.take (x + 1 + rd b x).toNat).drop (x + 1).toNat, x + 1 + rd b x, true)
def getTlv (b : List Int) (a : Int) : Int × List Int × Int × Bool :=
  if a < 0 ∨ a + 1 ≥ (b.length : Int) then no4
  else if rd b (a + 1) > 127 then (if rd b (a + 1) = 129 then (if a + 2 ≥ (b.length : Int) then no4 else if rd b (a + 2) < 128 then no4 else tlvTail b a (a + 2)) else no4)
  else tlvTail b a (a + 1)
theorem getTlv_len (b : List Int) (a : Int) : (getTlv b a).2.1.length ≤ b.length := by
  have ht : ∀ x, (tlvTail b a x).2.1.length ≤ b.length := by
    intro x
    unfold tlvTail no4
    split
    · simp
    · split
      · simp
      · simp only [List.length_drop, List.length_take]
        omega
  have hz : (no4).2.1.length ≤ b.length := by simp [no4]
  unfold getTlv
  split
  · exact hz
  · split
    · split
      · split
        · exact hz
        · split
          · exact hz
          · exact ht _
      · exact hz
    · exact ht _
theorem rd_bd (b : List Int) (hb : ∀ y ∈ b, 0 ≤ y ∧ y ≤ 255) (x : Int) : 0 ≤ rd b x ∧ rd b x ≤ 255 := by
  unfold rd
  rw [List.getD_eq_getElem?_getD]
  cases h : b[x.toNat]? with
  | none => simp
  | some v =>
    have := hb v (List.mem_of_getElem? h)
    simpa using this
theorem cut_le (b : List Int) (p q : Nat) : ((b.take p).drop q).length ≤ b.length := by
  simp only [List.length_drop, List.length_take]
  omega

theorem spec_GetTlv_j1_ev (b : List Int) (a x : Int) (hb : ∀ y ∈ b, 0 ≤ y ∧ y ≤ 255) (hl : b.length ≤ 1048576) (ha : 0 ≤ a ∧ a < (b.length : Int)) (hx : 0 ≤ x ∧ x < (b.length : Int)) : Ev (fun k => spec_GetTlv.j1 k b a x false) (tlvTail b a x) := by
  obtain ⟨n0, n1⟩ := rd_bd b hb x
  obtain ⟨m0, m1⟩ := rd_bd b hb a
  refine Ev.succ ?_
  simp only [spec_GetTlv.j1]
  simp only [Bool.false_eq_true, if_false, if_pos hx.1, if_pos hx.2, if_pos ha.1, if_pos ha.2, w64 (x := rd b x) (by omega) (by omega), w64 (x := rd b a) (by omega) (by omega), w64 (x := x + 1) (by omega) (by omega), w64 (x := (b.length : Int) - (x + 1)) (by omega) (by omega), w64 (x := x + 1 + rd b x) (by omega) (by omega)]
  unfold tlvTail no4
  by_cases c1 : rd b x > 250
  · simp only [if_pos c1]
    exact Ev.now _
  by_cases c2 : rd b x > (b.length : Int) - (x + 1)
  · simp only [if_neg c1, if_pos c2]
    exact Ev.now _
  have hc := cut_le b (x + 1 + rd b x).toNat (x + 1).toNat
  simp only [if_neg c1, if_neg c2, if_pos (show 0 ≤ x + 1 by omega), if_pos (show x + 1 ≤ x + 1 + rd b x by omega), if_pos (show x + 1 + rd b x ≤ (b.length : Int) by omega), Option.bind_some, List.length_nil, List.nil_append, if_pos (show 0 + ((b.take (x + 1 + rd b x).toNat).drop (x + 1).toNat).length < 140737488355328 by omega)]
  exact Ev.now _
theorem spec_GetTlv_j1_no (b : List Int) (a x : Int) : Ev (fun k => spec_GetTlv.j1 k b a x true) no4 := by
  refine Ev.succ ?_
  simp only [spec_GetTlv.j1]
  simp only [if_true]
  exact Ev.now _
theorem spec_GetTlv_j0_no (b : List Int) (a : Int) : Ev (fun k => spec_GetTlv.j0 k b a true) no4 := by
  refine Ev.succ ?_
  simp only [spec_GetTlv.j0]
  simp only [if_true]
  exact Ev.now _
theorem spec_GetTlv_j0_ev (b : List Int) (a : Int) (hb : ∀ y ∈ b, 0 ≤ y ∧ y ≤ 255) (hl : b.length ≤ 1048576) (ha : ¬ (a < 0 ∨ a + 1 ≥ (b.length : Int))) : Ev (fun k => spec_GetTlv.j0 k b a false) (getTlv b a) := by
  obtain ⟨n0, n1⟩ := rd_bd b hb (a + 1)
  obtain ⟨m0, m1⟩ := rd_bd b hb a
  refine Ev.succ ?_
  simp only [spec_GetTlv.j0]
  simp only [Bool.false_eq_true, if_false, w64 (x := a + 1) (by omega) (by omega), w64 (x := a + 2) (by omega) (by omega), if_pos (show 0 ≤ a + 1 by omega), if_pos (show a + 1 < (b.length : Int) by omega), w64 (x := rd b (a + 1)) (by omega) (by omega)]
  unfold getTlv
  simp only [if_neg ha]
  by_cases c : rd b (a + 1) > 127
  · simp only [if_pos c, if_pos (show rd b (a + 1) > 127 by omega)]
    refine Ev.ite (fun _ => ?_) (fun _ => spec_GetTlv_j1_no _ _ _)
    refine Ev.ite (fun _ => spec_GetTlv_j1_no _ _ _) (fun d => ?_)
    simp only [if_pos (show 0 ≤ a + 2 by omega), if_pos (show a + 2 < (b.length : Int) by omega)]
    by_cases e : rd b (a + 2) < 128
    · rw [decide_eq_true e, if_pos e]
      exact spec_GetTlv_j1_no _ _ _
    · rw [decide_eq_false e, if_neg e]
      exact spec_GetTlv_j1_ev b a (a + 2) hb hl (by omega) (by omega)
  · simp only [if_neg c, if_neg (show ¬ rd b (a + 1) > 127 by omega)]
    unfold tlvTail no4
    simp only [show a + 1 + 1 = a + 2 by omega, w64 (x := (b.length : Int) - (a + 2)) (by omega) (by omega), w64 (x := a + 2 + rd b (a + 1)) (by omega) (by omega), w64 (x := rd b a) (by omega) (by omega), if_pos (show 0 ≤ a by omega), if_pos (show a < (b.length : Int) by omega)]
    by_cases c1 : rd b (a + 1) > 250
    · simp only [if_pos c1]
      exact Ev.now _
    by_cases c2 : rd b (a + 1) > (b.length : Int) - (a + 2)
    · simp only [if_neg c1, if_pos c2]
      exact Ev.now _
    have hc := cut_le b (a + 2 + rd b (a + 1)).toNat (a + 2).toNat
    simp only [if_neg c1, if_neg c2, if_pos (show 0 ≤ a + 2 by omega), if_pos (show a + 2 ≤ a + 2 + rd b (a + 1) by omega), if_pos (show a + 2 + rd b (a + 1) ≤ (b.length : Int) by omega), Option.bind_some, List.length_nil, List.nil_append, if_pos (show 0 + ((b.take (a + 2 + rd b (a + 1)).toNat).drop (a + 2).toNat).length < 140737488355328 by omega)]
    exact Ev.now _
theorem sGetTlv_ev (b : List Int) (a : Int) (hb : ∀ y ∈ b, 0 ≤ y ∧ y ≤ 255) (hl : b.length ≤ 1048576) (hw : -9223372036854775808 ≤ a ∧ a ≤ 9223372036854775807) : Ev (fun k => spec_GetTlv.f k b a) (getTlv b a) := by
  unfold spec_GetTlv.f
  by_cases c : a < 0 ∨ a + 1 ≥ (b.length : Int)
  · have e : getTlv b a = no4 := by unfold getTlv; rw [if_pos c]
    rw [e]
    by_cases c1 : a < 0
    · simp only [if_pos c1]
      exact spec_GetTlv_j0_no _ _
    · by_cases c2 : a ≥ (b.length : Int)
      · simp only [if_neg c1, if_pos c2]
        exact spec_GetTlv_j0_no _ _
      · simp only [if_neg c1, if_neg c2, w64 (x := a + 1) (by omega) (by omega), decide_eq_true (show a + 1 ≥ (b.length : Int) by omega)]
        exact spec_GetTlv_j0_no _ _
  · simp only [if_neg (show ¬ a < 0 by omega), if_neg (show ¬ a ≥ (b.length : Int) by omega), w64 (x := a + 1) (by omega) (by omega), decide_eq_false (show ¬ a + 1 ≥ (b.length : Int) by omega)]
    exact spec_GetTlv_j0_ev b a hb hl c

theorem impl_GetTlv_j1_ev (b : List Int) (a x : Int) (hb : ∀ y ∈ b, 0 ≤ y ∧ y ≤ 255) (hl : b.length ≤ 1048576) (ha : 0 ≤ a ∧ a < (b.length : Int)) (hx : 0 ≤ x ∧ x < (b.length : Int)) : Ev (fun k => impl_GetTlv.j1 k b a x false) (tlvTail b a x) := by
  obtain ⟨n0, n1⟩ := rd_bd b hb x
  obtain ⟨m0, m1⟩ := rd_bd b hb a
  refine Ev.succ ?_
  simp only [impl_GetTlv.j1]
  simp only [Bool.false_eq_true, if_false, if_pos hx.1, if_pos hx.2, if_pos ha.1, if_pos ha.2, w64 (x := rd b x) (by omega) (by omega), w64 (x := rd b a) (by omega) (by omega), w64 (x := x + 1) (by omega) (by omega), w64 (x := (b.length : Int) - (x + 1)) (by omega) (by omega), w64 (x := x + 1 + rd b x) (by omega) (by omega)]
  unfold tlvTail no4
  by_cases c1 : rd b x > 250
  · simp only [if_pos c1]
    exact Ev.now _
  by_cases c2 : rd b x > (b.length : Int) - (x + 1)
  · simp only [if_neg c1, if_pos c2]
    exact Ev.now _
  have hc := cut_le b (x + 1 + rd b x).toNat (x + 1).toNat
  simp only [if_neg c1, if_neg c2, if_pos (show 0 ≤ x + 1 by omega), if_pos (show x + 1 ≤ x + 1 + rd b x by omega), if_pos (show x + 1 + rd b x ≤ (b.length : Int) by omega), impl_copyBytes.f, Option.bind_some, List.length_nil, List.nil_append, if_pos (show 0 + ((b.take (x + 1 + rd b x).toNat).drop (x + 1).toNat).length < 140737488355328 by omega)]
  exact Ev.now _
theorem impl_GetTlv_j1_no (b : List Int) (a x : Int) : Ev (fun k => impl_GetTlv.j1 k b a x true) no4 := by
  refine Ev.succ ?_
  simp only [impl_GetTlv.j1]
  simp only [if_true]
  exact Ev.now _
theorem impl_GetTlv_j0_no (b : List Int) (a : Int) : Ev (fun k => impl_GetTlv.j0 k b a true) no4 := by
  refine Ev.succ ?_
  simp only [impl_GetTlv.j0]
  simp only [if_true]
  exact Ev.now _
theorem impl_GetTlv_j0_ev (b : List Int) (a : Int) (hb : ∀ y ∈ b, 0 ≤ y ∧ y ≤ 255) (hl : b.length ≤ 1048576) (ha : ¬ (a < 0 ∨ a + 1 ≥ (b.length : Int))) : Ev (fun k => impl_GetTlv.j0 k b a false) (getTlv b a) := by
  obtain ⟨n0, n1⟩ := rd_bd b hb (a + 1)
  obtain ⟨m0, m1⟩ := rd_bd b hb a
  refine Ev.succ ?_
  simp only [impl_GetTlv.j0]
  simp only [Bool.false_eq_true, if_false, w64 (x := a + 1) (by omega) (by omega), w64 (x := a + 2) (by omega) (by omega), if_pos (show 0 ≤ a + 1 by omega), if_pos (show a + 1 < (b.length : Int) by omega), w64 (x := rd b (a + 1)) (by omega) (by omega)]
  unfold getTlv
  simp only [if_neg ha]
  by_cases c : rd b (a + 1) > 127
  · simp only [if_pos c, if_pos (show rd b (a + 1) ≥ 128 by omega)]
    refine Ev.ite (fun _ => ?_) (fun _ => impl_GetTlv_j1_no _ _ _)
    refine Ev.ite (fun _ => impl_GetTlv_j1_no _ _ _) (fun d => ?_)
    simp only [if_pos (show 0 ≤ a + 2 by omega), if_pos (show a + 2 < (b.length : Int) by omega)]
    by_cases e : rd b (a + 2) < 128
    · rw [decide_eq_true e, if_pos e]
      exact impl_GetTlv_j1_no _ _ _
    · rw [decide_eq_false e, if_neg e]
      exact impl_GetTlv_j1_ev b a (a + 2) hb hl (by omega) (by omega)
  · simp only [if_neg c, if_neg (show ¬ rd b (a + 1) ≥ 128 by omega)]
    unfold tlvTail no4
    simp only [show a + 1 + 1 = a + 2 by omega, w64 (x := (b.length : Int) - (a + 2)) (by omega) (by omega), w64 (x := a + 2 + rd b (a + 1)) (by omega) (by omega), w64 (x := rd b a) (by omega) (by omega), if_pos (show 0 ≤ a by omega), if_pos (show a < (b.length : Int) by omega)]
    by_cases c1 : rd b (a + 1) > 250
    · simp only [if_pos c1]
      exact Ev.now _
    by_cases c2 : rd b (a + 1) > (b.length : Int) - (a + 2)
    · simp only [if_neg c1, if_pos c2]
      exact Ev.now _
    have hc := cut_le b (a + 2 + rd b (a + 1)).toNat (a + 2).toNat
    simp only [if_neg c1, if_neg c2, if_pos (show 0 ≤ a + 2 by omega), if_pos (show a + 2 ≤ a + 2 + rd b (a + 1) by omega), if_pos (show a + 2 + rd b (a + 1) ≤ (b.length : Int) by omega), impl_copyBytes.f, Option.bind_some, List.length_nil, List.nil_append, if_pos (show 0 + ((b.take (a + 2 + rd b (a + 1)).toNat).drop (a + 2).toNat).length < 140737488355328 by omega)]
    exact Ev.now _
theorem iGetTlv_ev (b : List Int) (a : Int) (hb : ∀ y ∈ b, 0 ≤ y ∧ y ≤ 255) (hl : b.length ≤ 1048576) (hw : -9223372036854775808 ≤ a ∧ a ≤ 9223372036854775807) : Ev (fun k => impl_GetTlv.f k b a) (getTlv b a) := by
  unfold impl_GetTlv.f
  by_cases c : a < 0 ∨ a + 1 ≥ (b.length : Int)
  · have e : getTlv b a = no4 := by unfold getTlv; rw [if_pos c]
    rw [e]
    by_cases c1 : a < 0
    · simp only [if_pos c1]
      exact impl_GetTlv_j0_no _ _
    · simp only [if_neg c1, w64 (x := (b.length : Int) - 2) (by omega) (by omega), decide_eq_true (show a > (b.length : Int) - 2 by omega)]
      exact impl_GetTlv_j0_no _ _
  · simp only [if_neg (show ¬ a < 0 by omega), w64 (x := (b.length : Int) - 2) (by omega) (by omega), decide_eq_false (show ¬ a > (b.length : Int) - 2 by omega)]
    exact impl_GetTlv_j0_ev b a hb hl c

theorem cut_cons (b : List Int) (P i : Nat) (hP : P ≤ b.length) (hi : i < P) : (b.take P).drop i = rd b (i : Int) :: (b.take P).drop (i + 1) := by
  have hl : i < (b.take P).length := by rw [List.length_take]; omega
  rw [List.drop_eq_getElem_cons hl]
  congr 1
  unfold rd
  rw [List.getElem_take, List.getD_eq_getElem?_getD, Int.toNat_natCast, List.getElem?_eq_getElem (by omega)]
  rfl
theorem tail_true (b : List Int) (a x t p : Int) (y : List Int) (h : tlvTail b a x = (t, y, p, true)) : rd b x ≤ 250 ∧ x + 1 + rd b x ≤ (b.length : Int) ∧ t = rd b a ∧ y = (b.take (x + 1 + rd b x).toNat).drop (x + 1).toNat ∧ p = x + 1 + rd b x := by
  unfold tlvTail no4 at h
  by_cases c1 : rd b x > 250
  · rw [if_pos c1] at h
    simp at h
  by_cases c2 : rd b x > (b.length : Int) - (x + 1)
  · rw [if_neg c1, if_pos c2] at h
    simp at h
  rw [if_neg c1, if_neg c2] at h
  simp only [Prod.mk.injEq, and_true] at h
  exact ⟨by omega, by omega, h.1.symm, h.2.1.symm, h.2.2.symm⟩
theorem getTlv_true (b : List Int) (hb : bys b) (a t p : Int) (y : List Int) (h : getTlv b a = (t, y, p, true)) : (0 ≤ a ∧ a ≤ p ∧ p ≤ (b.length : Int)) ∧ y.length ≤ 250 ∧ (b.take p.toNat).drop a.toNat = putTlv [] t y := by
  unfold getTlv at h
  by_cases c : a < 0 ∨ a + 1 ≥ (b.length : Int)
  · rw [if_pos c] at h
    simp [no4] at h
  rw [if_neg c] at h
  obtain ⟨A, rfl⟩ := Int.eq_ofNat_of_zero_le (show 0 ≤ a by omega)
  obtain ⟨m0, m1⟩ := rd_bd b hb (A : Int)
  by_cases c1 : rd b ((A : Int) + 1) > 127
  · rw [if_pos c1] at h
    by_cases c2 : rd b ((A : Int) + 1) = 129
    · rw [if_pos c2] at h
      by_cases c3 : (A : Int) + 2 ≥ (b.length : Int)
      · rw [if_pos c3] at h
        simp [no4] at h
      rw [if_neg c3] at h
      by_cases c4 : rd b ((A : Int) + 2) < 128
      · rw [if_pos c4] at h
        simp [no4] at h
      rw [if_neg c4] at h
      obtain ⟨h1, h2, rfl, rfl, rfl⟩ := tail_true b _ _ _ _ _ h
      obtain ⟨n, hn⟩ := Int.eq_ofNat_of_zero_le (show 0 ≤ rd b ((A : Int) + 2) by omega)
      rw [hn] at h1 h2 c4 ⊢
      have e1 : ((A : Int) + 2 + 1 + (n : Int)).toNat = A + 3 + n := by omega
      have e2 : ((A : Int) + 2 + 1).toNat = A + 3 := by omega
      rw [e1, e2, Int.toNat_natCast]
      have hlen : ((b.take (A + 3 + n)).drop (A + 3)).length = n := by simp only [List.length_drop, List.length_take]; omega
      refine ⟨by omega, by omega, ?_⟩
      rw [cut_cons b _ A (by omega) (by omega), cut_cons b _ (A + 1) (by omega) (by omega), cut_cons b _ (A + 1 + 1) (by omega) (by omega)]
      unfold putTlv tlvOk
      rw [decide_eq_true (show 0 ≤ rd b (A : Int) ∧ rd b (A : Int) ≤ 255 from ⟨m0, m1⟩), decide_eq_true (show (((b.take (A + 3 + n)).drop (A + 3)).length : Int) ≤ 250 by omega)]
      simp only [Bool.and_self, if_true, List.nil_append]
      rw [tlvBytes_long _ _ ⟨m0, m1⟩ (by omega) (by omega), hlen, show ((A + 1 : Nat) : Int) = (A : Int) + 1 by omega, show ((A + 1 + 1 : Nat) : Int) = (A : Int) + 2 by omega, c2, hn]
    · rw [if_neg c2] at h
      simp [no4] at h
  · rw [if_neg c1] at h
    obtain ⟨h1, h2, rfl, rfl, rfl⟩ := tail_true b _ _ _ _ _ h
    obtain ⟨n, hn⟩ := Int.eq_ofNat_of_zero_le (rd_bd b hb ((A : Int) + 1)).1
    rw [hn] at h1 h2 c1 ⊢
    have e1 : ((A : Int) + 1 + 1 + (n : Int)).toNat = A + 2 + n := by omega
    have e2 : ((A : Int) + 1 + 1).toNat = A + 2 := by omega
    rw [e1, e2, Int.toNat_natCast]
    have hlen : ((b.take (A + 2 + n)).drop (A + 2)).length = n := by simp only [List.length_drop, List.length_take]; omega
    refine ⟨by omega, by omega, ?_⟩
    rw [cut_cons b _ A (by omega) (by omega), cut_cons b _ (A + 1) (by omega) (by omega)]
    unfold putTlv tlvOk
    rw [decide_eq_true (show 0 ≤ rd b (A : Int) ∧ rd b (A : Int) ≤ 255 from ⟨m0, m1⟩), decide_eq_true (show (((b.take (A + 2 + n)).drop (A + 2)).length : Int) ≤ 250 by omega)]
    simp only [Bool.and_self, if_true, List.nil_append]
    rw [tlvBytes_short _ _ ⟨m0, m1⟩ (by omega), hlen, show ((A + 1 : Nat) : Int) = (A : Int) + 1 by omega, hn]

theorem putInt_bys (n : Int) : bys (putInt n) := by
  unfold putInt
  intro y hy
  split at hy
  · simp only [List.mem_cons, List.not_mem_nil, or_false] at hy; omega
  · split at hy
    · simp only [List.mem_cons, List.not_mem_nil, or_false] at hy; omega
    · split at hy
      · simp only [List.mem_cons, List.not_mem_nil, or_false] at hy; omega
      · simp only [List.mem_cons, List.not_mem_nil, or_false] at hy; omega
theorem joinI_eq (n x : Int) (hn : -2147483648 ≤ n ∧ n ≤ 2147483647) (hx : 0 ≤ x ∧ x ≤ 255) : joinI n x = n * 256 + x := by
  unfold joinI
  rw [w64 (x := n * 256) (by omega) (by omega), w64 (x := x) (by omega) (by omega)]
  simp only [Go.bits, BitVec.toNat_or, BitVec.toNat_ofInt]
  have hk : (2 : Int) ^ IntKind.i64.bits = 18446744073709551616 := by decide
  have hk' : ((2 ^ IntKind.i64.bits : Nat) : Int) = 18446744073709551616 := by decide
  simp only [hk']
  have h2 : (x % 18446744073709551616).toNat < 2 ^ 8 := by omega
  have h3 : ((n * 256) % 18446744073709551616).toNat = 2 ^ 8 * (((n * 256) % 18446744073709551616).toNat / 2 ^ 8) := by omega
  rw [h3, ← Nat.two_pow_add_eq_or_of_lt h2, ← h3, IntKind.wrap_i64]
  omega
def top (b : Int) : Int := if b > 127 then b - 256 else b
theorem top_bd (b : Int) (h : 0 ≤ b ∧ b ≤ 255) : -128 ≤ top b ∧ top b ≤ 127 ∧ top b % 256 = b := by
  unfold top
  split <;> omega
theorem clip_in (n : Int) (h : -2147483648 ≤ n ∧ n ≤ 2147483647) : clip n = n := by
  unfold clip
  rw [if_neg (by omega), if_neg (by omega)]
theorem putInt_1 (n : Int) (h : -128 ≤ n ∧ n ≤ 127) : putInt n = [n % 256] := by unfold putInt; rw [if_pos h]
theorem putInt_2 (n : Int) (h0 : ¬ (-128 ≤ n ∧ n ≤ 127)) (h : -32768 ≤ n ∧ n ≤ 32767) : putInt n = [n / 256 % 256, n % 256] := by unfold putInt; rw [if_neg h0, if_pos h]
theorem putInt_3 (n : Int) (h0 : ¬ (-32768 ≤ n ∧ n ≤ 32767)) (h : -8388608 ≤ n ∧ n ≤ 8388607) : putInt n = [n / 65536 % 256, n / 256 % 256, n % 256] := by unfold putInt; rw [if_neg (by omega), if_neg h0, if_pos h]
theorem putInt_4 (n : Int) (h0 : ¬ (-8388608 ≤ n ∧ n ≤ 8388607)) : putInt n = [n / 16777216 % 256, n / 65536 % 256, n / 256 % 256, n % 256] := by unfold putInt; rw [if_neg (by omega), if_neg (by omega), if_neg h0]
theorem raw1 (a : Int) : rawInt [a] = top a := rfl
theorem raw2 (a b : Int) (ha : 0 ≤ a ∧ a ≤ 255) (hb : 0 ≤ b ∧ b ≤ 255) : rawInt [a, b] = top a * 256 + b := by
  have h := top_bd a ha
  show joinI (top a) b = _
  rw [joinI_eq _ _ (by omega) hb]
theorem raw3 (a b c : Int) (ha : 0 ≤ a ∧ a ≤ 255) (hb : 0 ≤ b ∧ b ≤ 255) (hc : 0 ≤ c ∧ c ≤ 255) : rawInt [a, b, c] = (top a * 256 + b) * 256 + c := by
  have h := top_bd a ha
  show joinI (joinI (top a) b) c = _
  rw [joinI_eq (top a) b (by omega) hb, joinI_eq _ _ (by omega) hc]
theorem raw4 (a b c d : Int) (ha : 0 ≤ a ∧ a ≤ 255) (hb : 0 ≤ b ∧ b ≤ 255) (hc : 0 ≤ c ∧ c ≤ 255) (hd : 0 ≤ d ∧ d ≤ 255) : rawInt [a, b, c, d] = ((top a * 256 + b) * 256 + c) * 256 + d := by
  have h := top_bd a ha
  show joinI (joinI (joinI (top a) b) c) d = _
  rw [joinI_eq (top a) b (by omega) hb, joinI_eq _ c (by omega) hc, joinI_eq _ _ (by omega) hd]
theorem raw_put (n : Int) (h : -2147483648 ≤ n ∧ n ≤ 2147483647) : rawInt (putInt n) = n := by
  by_cases c1 : -128 ≤ n ∧ n ≤ 127
  · rw [putInt_1 n c1, raw1]
    unfold top
    split <;> omega
  by_cases c2 : -32768 ≤ n ∧ n ≤ 32767
  · rw [putInt_2 n c1 c2, raw2 _ _ (by omega) (by omega)]
    unfold top
    split <;> omega
  by_cases c3 : -8388608 ≤ n ∧ n ≤ 8388607
  · rw [putInt_3 n c2 c3, raw3 _ _ _ (by omega) (by omega) (by omega)]
    unfold top
    split <;> omega
  · rw [putInt_4 n c3, raw4 _ _ _ _ (by omega) (by omega) (by omega) (by omega)]
    unfold top
    split <;> omega
theorem putInt_pos (n : Int) : 1 ≤ (putInt n).length := by
  unfold putInt
  split
  · simp
  · split
    · simp
    · split <;> simp
theorem getInt_put (n : Int) : getInt (putInt (clip n)) = (clip n, true) := by
  have h := clip_bd n
  have h1 := putInt_pos (clip n)
  have h2 := putInt_len (clip n)
  unfold getInt
  rw [if_pos (by omega), raw_put _ h, clip_in _ h, if_pos rfl]
theorem put_raw (l : List Int) (hb : bys l) (h1 : 1 ≤ l.length) (h4 : l.length ≤ 4) (he : (putInt (clip (rawInt l))).length = l.length) : putInt (clip (rawInt l)) = l := by
  rcases l with _ | ⟨a, _ | ⟨b, _ | ⟨c, _ | ⟨d, _ | ⟨e, l⟩⟩⟩⟩⟩
  · simp at h1
  · have ha := hb a (by simp)
    have t := top_bd a ha
    rw [raw1, clip_in _ (by omega), putInt_1 _ (by omega), t.2.2]
  · have ha := hb a (by simp)
    have hb' := hb b (by simp)
    have t := top_bd a ha
    rw [raw2 a b ha hb', clip_in _ (by omega)] at he ⊢
    by_cases c1 : -128 ≤ top a * 256 + b ∧ top a * 256 + b ≤ 127
    · rw [putInt_1 _ c1] at he
      simp at he
    · rw [putInt_2 _ c1 (by omega), show (top a * 256 + b) / 256 % 256 = a by omega, show (top a * 256 + b) % 256 = b by omega]
  · have ha := hb a (by simp)
    have hb' := hb b (by simp)
    have hc := hb c (by simp)
    have t := top_bd a ha
    rw [raw3 a b c ha hb' hc, clip_in _ (by omega)] at he ⊢
    by_cases c1 : -128 ≤ (top a * 256 + b) * 256 + c ∧ (top a * 256 + b) * 256 + c ≤ 127
    · rw [putInt_1 _ c1] at he
      simp at he
    by_cases c2 : -32768 ≤ (top a * 256 + b) * 256 + c ∧ (top a * 256 + b) * 256 + c ≤ 32767
    · rw [putInt_2 _ c1 c2] at he
      simp at he
    · rw [putInt_3 _ c2 (by omega), show ((top a * 256 + b) * 256 + c) / 65536 % 256 = a by omega, show ((top a * 256 + b) * 256 + c) / 256 % 256 = b by omega, show ((top a * 256 + b) * 256 + c) % 256 = c by omega]
  · have ha := hb a (by simp)
    have hb' := hb b (by simp)
    have hc := hb c (by simp)
    have hd := hb d (by simp)
    have t := top_bd a ha
    rw [raw4 a b c d ha hb' hc hd, clip_in _ (by omega)] at he ⊢
    by_cases c1 : -128 ≤ ((top a * 256 + b) * 256 + c) * 256 + d ∧ ((top a * 256 + b) * 256 + c) * 256 + d ≤ 127
    · rw [putInt_1 _ c1] at he
      simp at he
    by_cases c2 : -32768 ≤ ((top a * 256 + b) * 256 + c) * 256 + d ∧ ((top a * 256 + b) * 256 + c) * 256 + d ≤ 32767
    · rw [putInt_2 _ c1 c2] at he
      simp at he
    by_cases c3 : -8388608 ≤ ((top a * 256 + b) * 256 + c) * 256 + d ∧ ((top a * 256 + b) * 256 + c) * 256 + d ≤ 8388607
    · rw [putInt_3 _ c2 c3] at he
      simp at he
    · rw [putInt_4 _ c3, show (((top a * 256 + b) * 256 + c) * 256 + d) / 16777216 % 256 = a by omega, show (((top a * 256 + b) * 256 + c) * 256 + d) / 65536 % 256 = b by omega, show (((top a * 256 + b) * 256 + c) * 256 + d) / 256 % 256 = c by omega, show (((top a * 256 + b) * 256 + c) * 256 + d) % 256 = d by omega]
  · simp at h4
theorem getInt_ok (l : List Int) (hb : bys l) (h : (getInt l).2 = true) : putInt (clip (getInt l).1) = l := by
  unfold getInt at h ⊢
  by_cases c : 1 ≤ (l.length : Int) ∧ (l.length : Int) ≤ 4
  · rw [if_pos c] at h ⊢
    by_cases d : ((putInt (clip (rawInt l))).length : Int) = (l.length : Int)
    · rw [if_pos d]
      exact put_raw l hb (by omega) (by omega) (by omega)
    · rw [if_neg d] at h
      simp at h
  · rw [if_neg c] at h
    simp at h

theorem rd_1 (pre rest : List Int) (t y : Int) : rd (pre ++ t :: y :: rest) ((pre.length : Int) + 1) = y := by
  have h := rd_mid (pre ++ [t]) rest y
  simp only [List.append_assoc, List.cons_append, List.nil_append] at h
  rw [show ((pre ++ [t]).length : Int) = (pre.length : Int) + 1 by simp] at h
  exact h
theorem rd_2 (pre rest : List Int) (t u y : Int) : rd (pre ++ t :: u :: y :: rest) ((pre.length : Int) + 2) = y := by
  have h := rd_mid (pre ++ [t, u]) rest y
  simp only [List.append_assoc, List.cons_append, List.nil_append] at h
  rw [show ((pre ++ [t, u]).length : Int) = (pre.length : Int) + 2 by simp] at h
  exact h
theorem tail_full (L A body : List Int) (a x n t : Int) (hL : L = A ++ body) (hx : (A.length : Int) = x + 1) (hn : n = (body.length : Int)) (hr : rd L x = n) (ht : rd L a = t) (h : n ≤ 250) :
    tlvTail L a x = (t, body, (L.length : Int), true) := by
  have hll : (L.length : Int) = (A.length : Int) + body.length := by rw [hL, List.length_append]; omega
  have e1 : (x + 1 + n).toNat = L.length := by omega
  have e2 : (x + 1).toNat = A.length := by omega
  unfold tlvTail
  rw [hr, ht, if_neg (by omega), if_neg (by omega), e1, e2, List.take_length, show x + 1 + n = (L.length : Int) by omega, hL, List.drop_left]
theorem get_short (pre body : List Int) (t n : Int) (h1 : n ≤ 127) :
    getTlv (pre ++ t :: n :: body) (pre.length : Int) = tlvTail (pre ++ t :: n :: body) (pre.length : Int) ((pre.length : Int) + 1) := by
  unfold getTlv
  rw [if_neg (by simp only [List.length_append, List.length_cons]; omega), rd_1, if_neg (by omega)]
theorem get_long (pre body : List Int) (t n : Int) (h1 : 128 ≤ n) :
    getTlv (pre ++ t :: 129 :: n :: body) (pre.length : Int) = tlvTail (pre ++ t :: 129 :: n :: body) (pre.length : Int) ((pre.length : Int) + 2) := by
  unfold getTlv
  rw [if_neg (by simp only [List.length_append, List.length_cons]; omega), rd_1, if_pos (by omega), if_pos rfl, if_neg (by simp only [List.length_append, List.length_cons]; omega), rd_2, if_neg (by omega)]
theorem get_full (pre body : List Int) (t : Int) (ht : 0 ≤ t ∧ t ≤ 255) (h : body.length ≤ 250) : getTlv (pre ++ tlvBytes t body) (pre.length : Int) = (t, body, ((pre ++ tlvBytes t body).length : Int), true) := by
  by_cases c : body.length ≤ 127
  · rw [tlvBytes_short t body ht c, get_short _ _ _ _ (by omega)]
    exact tail_full _ (pre ++ [t, (body.length : Int)]) body _ _ _ t (by simp) (by simp only [List.length_append, List.length_cons, List.length_nil]; omega) rfl (rd_1 _ _ _ _) (rd_mid _ _ _) (by omega)
  · rw [tlvBytes_long t body ht (by omega) h, get_long _ _ _ _ (by omega)]
    exact tail_full _ (pre ++ [t, 129, (body.length : Int)]) body _ _ _ t (by simp) (by simp only [List.length_append, List.length_cons, List.length_nil]; omega) rfl (rd_2 _ _ _ _ _) (rd_mid _ _ _) (by omega)

theorem tlvTail_or (b : List Int) (a x : Int) (hb : ∀ y ∈ b, 0 ≤ y ∧ y ≤ 255) : tlvTail b a x = no4 ∨ ((tlvTail b a x).2.2.2 = true ∧ ∀ y ∈ (tlvTail b a x).2.1, 0 ≤ y ∧ y ≤ 255) := by
  unfold tlvTail
  split
  · exact Or.inl rfl
  · split
    · exact Or.inl rfl
    · exact Or.inr ⟨rfl, fun y hy => hb y (List.mem_of_mem_take (List.mem_of_mem_drop hy))⟩
theorem getTlv_or (b : List Int) (a : Int) (hb : ∀ y ∈ b, 0 ≤ y ∧ y ≤ 255) : getTlv b a = no4 ∨ ((getTlv b a).2.2.2 = true ∧ ∀ y ∈ (getTlv b a).2.1, 0 ≤ y ∧ y ≤ 255) := by
  unfold getTlv
  split
  · exact Or.inl rfl
  · split
    · split
      · split
        · exact Or.inl rfl
        · split
          · exact Or.inl rfl
          · exact tlvTail_or b a _ hb
      · exact Or.inl rfl
    · exact tlvTail_or b a _ hb
def noVal : Int × Int × ByteArray × List Int × Int × Bool := (0, 0, ⟨#[]⟩, [], 0, false)
theorem sVal_ev (t n : Int) (s : ByteArray) (o : List Int) (p : Int) (h : o.length ≤ 1048576) : Ev (fun k => (spec_ValOk.f k t n s o).bind fun v => if v = true then some (t, n, s, o, p, true) else some (0, 0, (⟨#[]⟩ : ByteArray), ([] : List Int), 0, false)) (if valOk t n s o = true then (t, n, s, o, p, true) else noVal) := by
  refine Ev.bind (sValOk_ev t n s o h) ?_
  exact Ev.ite (fun _ => Ev.now _) (fun _ => Ev.now _)
theorem iVal_ev (t n : Int) (s : ByteArray) (o : List Int) (p : Int) (h : o.length ≤ 1048576) : Ev (fun k => (impl_ValOk.f k t n s o).bind fun v => if v = true then some (t, n, s, o, p, true) else some (0, 0, (⟨#[]⟩ : ByteArray), ([] : List Int), 0, false)) (if valOk t n s o = true then (t, n, s, o, p, true) else noVal) := by
  refine Ev.bind (iValOk_ev t n s o h) ?_
  exact Ev.ite (fun _ => Ev.now _) (fun _ => Ev.now _)
theorem val_len (t n : Int) (s : ByteArray) (o : List Int) (p : Int) (h : o.length ≤ 10) : (if valOk t n s o = true then (t, n, s, o, p, true) else noVal).2.2.2.1.length ≤ 10 := by
  split
  · exact h
  · simp [noVal]
theorem getVal_both (l : List Int) (a : Int) (hb : ∀ y ∈ l, 0 ≤ y ∧ y ≤ 255) (hl : l.length ≤ 1048576) (ha : -9223372036854775808 ≤ a ∧ a ≤ 9223372036854775807) :
    ∃ R, Ev (fun k => spec_GetVal.f k l a) R ∧ Ev (fun k => impl_GetVal.f k l a) R ∧ R.2.2.2.1.length ≤ 10 := by
  have hs := sGetTlv_ev l a hb hl ha
  have hi := iGetTlv_ev l a hb hl ha
  have hy := getTlv_len l a
  have hor := getTlv_or l a hb
  generalize getTlv l a = T at hs hi hy hor
  obtain ⟨t, y, p, q⟩ := T
  have hy : y.length ≤ l.length := hy
  unfold spec_GetVal.f impl_GetVal.f
  rcases hor with hor | ⟨hq, hby⟩
  · unfold no4 at hor
    simp only [Prod.mk.injEq] at hor
    obtain ⟨rfl, rfl, rfl, rfl⟩ := hor
    refine ⟨noVal, Ev.bind hs ?_, Ev.bind hi ?_, by simp [noVal]⟩
    · simp only [if_neg (show ¬ (0 : Int) = 2 by omega), if_neg (show ¬ (0 : Int) = 4 by omega), if_neg (show ¬ (0 : Int) = 6 by omega), Bool.false_eq_true, if_false]
      exact Ev.now _
    · simp only [Bool.false_eq_true, if_false]
      exact Ev.now _
  · have hq : q = true := hq
    have hby : ∀ z ∈ y, 0 ≤ z ∧ z ≤ 255 := hby
    subst hq
    by_cases c2 : t = 2
    · have gs := sGetInt_ev y hby (by omega)
      have gi := iGetInt_ev y hby (by omega)
      generalize getInt y = G at gs gi
      obtain ⟨n, g⟩ := G
      cases g with
      | true =>
        refine ⟨_, Ev.bind hs ?_, Ev.bind hi ?_, val_len t n ⟨#[]⟩ [] p (by simp)⟩
        · simp only [if_pos c2, if_true]
          refine Ev.bind gs ?_
          simp only [if_true]
          exact sVal_ev t n _ [] p (by simp)
        · simp only [if_pos c2, if_true]
          refine Ev.bind gi ?_
          simp only [if_true]
          exact iVal_ev t n _ [] p (by simp)
      | false =>
        refine ⟨noVal, Ev.bind hs ?_, Ev.bind hi ?_, by simp [noVal]⟩
        · simp only [if_pos c2, if_true]
          refine Ev.bind gs ?_
          simp only [Bool.false_eq_true, if_false]
          exact Ev.now _
        · simp only [if_pos c2, if_true]
          refine Ev.bind gi ?_
          simp only [Bool.false_eq_true, if_false]
          exact Ev.now _
    by_cases c4 : t = 4
    · refine ⟨_, Ev.bind hs ?_, Ev.bind hi ?_, val_len t 0 (strOfNums y) [] p (by simp)⟩
      · simp only [if_neg c2, if_pos c4, if_true]
        exact sVal_ev t 0 _ [] p (by simp)
      · simp only [if_neg c2, if_pos c4, if_true]
        exact iVal_ev t 0 _ [] p (by simp)
    by_cases c6 : t = 6
    · obtain ⟨G, gs, gi, hg⟩ := getOid_both y hby (by omega)
      obtain ⟨o, g⟩ := G
      have hg : o.length ≤ 10 := hg
      cases g with
      | true =>
        refine ⟨_, Ev.bind hs ?_, Ev.bind hi ?_, val_len t 0 ⟨#[]⟩ o p hg⟩
        · simp only [if_neg c2, if_neg c4, if_pos c6, if_true]
          refine Ev.bind gs ?_
          simp only [if_true]
          exact sVal_ev t 0 _ o p (by omega)
        · simp only [if_neg c2, if_neg c4, if_pos c6, if_true]
          refine Ev.bind gi ?_
          simp only [if_true]
          exact iVal_ev t 0 _ o p (by omega)
      | false =>
        refine ⟨noVal, Ev.bind hs ?_, Ev.bind hi ?_, by simp [noVal]⟩
        · simp only [if_neg c2, if_neg c4, if_pos c6, if_true]
          refine Ev.bind gs ?_
          simp only [Bool.false_eq_true, if_false]
          exact Ev.now _
        · simp only [if_neg c2, if_neg c4, if_pos c6, if_true]
          refine Ev.bind gi ?_
          simp only [Bool.false_eq_true, if_false]
          exact Ev.now _
    by_cases c0 : (y.length : Int) = 0
    · refine ⟨_, Ev.bind hs ?_, Ev.bind hi ?_, val_len t 0 ⟨#[]⟩ [] p (by simp)⟩
      · simp only [if_neg c2, if_neg c4, if_neg c6, if_true, if_pos c0]
        exact sVal_ev t 0 _ [] p (by simp)
      · simp only [if_neg c2, if_neg c4, if_neg c6, if_true, if_pos c0]
        exact iVal_ev t 0 _ [] p (by simp)
    · refine ⟨noVal, Ev.bind hs ?_, Ev.bind hi ?_, by simp [noVal]⟩
      · simp only [if_neg c2, if_neg c4, if_neg c6, if_true, if_neg c0]
        exact Ev.now _
      · simp only [if_neg c2, if_neg c4, if_neg c6, if_true, if_neg c0]
        exact Ev.now _

def putBody (t n : Int) (s : ByteArray) (o : List Int) : List Int := if t = 2 then putInt (clip n) else if t = 4 then bytesOf s else if t = 6 then putOid o else []
def putVal (l : List Int) (t n : Int) (s : ByteArray) (o : List Int) : List Int := if valOk t n s o = true then putTlv l t (putBody t n s o) else l
theorem putVal_len (l : List Int) (t n : Int) (s : ByteArray) (o : List Int) : (putVal l t n s o).length ≤ l.length + 253 := by
  unfold putVal
  split
  · exact putTlv_len _ _ _
  · omega
theorem valOk_text (n : Int) (s : ByteArray) (o : List Int) (h : valOk 4 n s o = true) : (s.size : Int) ≤ 20 := by
  unfold valOk at h
  rw [if_neg (by omega), if_neg (by omega), if_pos rfl] at h
  by_cases c : (s.size : Int) ≤ 20
  · exact c
  · rw [if_neg c] at h
    simp at h

theorem sPutVal_ev (l : List Int) (t n : Int) (s : ByteArray) (o : List Int) (hl : l.length ≤ 1048576) (ho : o.length ≤ 1048576) : Ev (fun k => spec_PutVal.f k l t n s o) (putVal l t n s o) := by
  unfold spec_PutVal.f putVal
  refine Ev.bind (sValOk_ev t n s o ho) ?_
  refine Ev.ite (fun hv => ?_) (fun _ => ?_)
  · unfold putBody
    by_cases c2 : t = 2
    · simp only [if_pos c2]
      refine Ev.bind (sPutInt_ev n) (Ev.bind (sPutTlv_ev l t _ (by omega) (by have := putInt_len (clip n); omega)) (Ev.now _))
    by_cases c4 : t = 4
    · subst c4
      have hs := valOk_text n s o hv
      simp only [if_neg c2, if_true, if_pos (show (s.size : Int) < 140737488355328 by omega)]
      refine Ev.bind (sPutTlv_ev l 4 _ (by omega) (by rw [bytesOf_length]; omega)) (Ev.now _)
    by_cases c6 : t = 6
    · simp only [if_neg c2, if_neg c4, if_pos c6]
      refine Ev.bind (sPutOid_ev o ho) (Ev.bind (sPutTlv_ev l t _ (by omega) (by have := putOid_len o; omega)) (Ev.now _))
    · simp only [if_neg c2, if_neg c4, if_neg c6]
      exact Ev.bind (sPutTlv_ev l t [] (by omega) (by simp)) (Ev.now _)
  · simp only [Option.bind_some, List.nil_append, List.length_nil, if_pos (show 0 + l.length < 140737488355328 by omega)]
    exact Ev.now _

theorem iPutVal_ev (l : List Int) (t n : Int) (s : ByteArray) (o : List Int) (hl : l.length ≤ 1048576) (ho : o.length ≤ 1048576) : Ev (fun k => impl_PutVal.f k l t n s o) (putVal l t n s o) := by
  unfold impl_PutVal.f putVal
  refine Ev.bind (iValOk_ev t n s o ho) ?_
  refine Ev.ite (fun hv => ?_) (fun _ => ?_)
  · unfold putBody
    by_cases c2 : t = 2
    · simp only [if_pos c2]
      refine Ev.bind (iPutInt_ev n) (Ev.bind (iPutTlv_ev l t _ (by omega) (by have := putInt_len (clip n); omega)) (Ev.now _))
    by_cases c4 : t = 4
    · subst c4
      have hs := valOk_text n s o hv
      simp only [if_neg c2, if_true, if_pos (show (s.size : Int) < 140737488355328 by omega)]
      refine Ev.bind (iPutTlv_ev l 4 _ (by omega) (by rw [bytesOf_length]; omega)) (Ev.now _)
    by_cases c6 : t = 6
    · simp only [if_neg c2, if_neg c4, if_pos c6]
      refine Ev.bind (iPutOid_ev o ho) (Ev.bind (iPutTlv_ev l t _ (by omega) (by have := putOid_len o; omega)) (Ev.now _))
    · simp only [if_neg c2, if_neg c4, if_neg c6]
      exact Ev.bind (iPutTlv_ev l t [] (by omega) (by simp)) (Ev.now _)
  · rw [iCopyBytes_eq l (by omega)]
    exact Ev.now _

/- a draw's state: the bytes, a place in them, a seed -/
def atOk (l : List Int) (p : Int) : Prop := 0 ≤ p ∧ p ≤ (l.length : Int)
theorem and_low (x : Int) (m : Nat) (hm : m < 9223372036854775808) : 0 ≤ Go.bits .and .i64 x (m : Int) ∧ Go.bits .and .i64 x (m : Int) ≤ m := by
  have e : m % 2 ^ IntKind.i64.bits = m := Nat.mod_eq_of_lt (show m < 2 ^ 64 by omega)
  simp only [Go.bits, BitVec.ofInt_natCast, BitVec.toNat_and, BitVec.toNat_ofNat, e]
  have h := Nat.and_le_right (n := (BitVec.ofInt IntKind.i64.bits x).toNat) (m := m)
  generalize (BitVec.ofInt IntKind.i64.bits x).toNat &&& m = q at h ⊢
  rw [IntKind.wrap_i64]
  omega
theorem and255 (x : Int) : 0 ≤ Go.bits .and .i64 x 255 ∧ Go.bits .and .i64 x 255 ≤ 255 := and_low x 255 (by decide)
theorem l1Byte_ok (l : List Int) (p s : Int) (hl : l.length ≤ 1048576) (h : atOk l p) : ∃ v p' s', spec_l1Byte.f l p s = some (v, p', s') ∧ (0 ≤ v ∧ v ≤ 255) ∧ atOk l p' := by
  unfold atOk at h
  unfold spec_l1Byte.f atOk
  by_cases c : p < (l.length : Int)
  · refine ⟨_, _, _, if_pos c |>.trans (if_pos h.1), and255 _, ?_⟩
    rw [w64 (by omega) (by omega)]
    omega
  · exact ⟨_, _, _, if_neg c, and255 _, h⟩
theorem l1Below_ok (l : List Int) (p s n : Int) (hl : l.length ≤ 1048576) (h : atOk l p) (hn : 0 < n) : ∃ v p' s', spec_l1Below.f l p s n = some (v, p', s') ∧ (0 ≤ v ∧ v < n) ∧ atOk l p' := by
  unfold spec_l1Below.f
  rw [if_neg (by omega)]
  obtain ⟨v1, p1, s1, e1, b1, h1⟩ := l1Byte_ok l p s hl h
  rw [e1]
  simp only [Option.bind_some, if_neg (show ¬ n = 0 by omega)]
  by_cases c : n ≤ 256
  · simp only [if_pos c]
    exact ⟨_, _, _, rfl, ⟨Int.tmod_nonneg _ b1.1, Int.tmod_lt_of_pos _ hn⟩, h1⟩
  · simp only [if_neg c]
    obtain ⟨v2, p2, s2, e2, b2, h2⟩ := l1Byte_ok l p1 s1 hl h1
    rw [e2]
    simp only [Option.bind_some]
    obtain ⟨v3, p3, s3, e3, b3, h3⟩ := l1Byte_ok l p2 s2 hl h2
    rw [e3]
    simp only [Option.bind_some]
    rw [w64 (x := v1 * 65536) (by omega) (by omega), w64 (x := v2 * 256) (by omega) (by omega), w64 (x := v1 * 65536 + v2 * 256) (by omega) (by omega), w64 (by omega) (by omega)]
    exact ⟨_, _, _, rfl, ⟨Int.tmod_nonneg _ (by omega), Int.tmod_lt_of_pos _ hn⟩, h3⟩
theorem rd_mem (xs : List Int) (i : Int) (h0 : 0 ≤ i) (h1 : i < (xs.length : Int)) : rd xs i ∈ xs := by
  unfold rd
  rw [List.getD_eq_getElem?_getD]
  have hi : i.toNat < xs.length := by omega
  rw [List.getElem?_eq_getElem hi]
  exact List.getElem_mem hi
theorem l1New_loop (l : List Int) (rest : List Int) : ∀ (pre : List Int) (s : Int), pre.length + rest.length ≤ 1048576 → ∃ s', Ev (fun k => spec_l1New.l0 k (pre ++ rest) s (pre.length : Int)) (pre ++ rest, 0, s') := by
  induction rest with
  | nil =>
    intro pre s _
    refine ⟨s, Ev.succ ?_⟩
    simp only [spec_l1New.l0]
    simp only [List.append_nil, if_neg (show ¬ (pre.length : Int) < (pre.length : Int) by omega)]
    exact Ev.now _
  | cons r rest ih =>
    intro pre s hn
    simp only [List.length_cons] at hn
    by_cases c : (pre.length : Int) < 4000
    · obtain ⟨s', h⟩ := ih (pre ++ [r]) (Go.bits .and .i64 (wrap64 ((wrap64 ((wrap64 (s * 137)) + (wrap64 r))) + 11)) 1073741823) (by simp only [List.length_append, List.length_cons, List.length_nil]; omega)
      simp only [List.append_assoc, List.cons_append, List.nil_append] at h
      rw [show ((pre ++ [r]).length : Int) = (pre.length : Int) + 1 by simp] at h
      refine ⟨s', Ev.succ ?_⟩
      simp only [spec_l1New.l0]
      simp only [if_pos (show (pre.length : Int) < ((pre ++ r :: rest).length : Int) by simp only [List.length_append, List.length_cons]; omega), if_pos c, if_pos (show (0 : Int) ≤ (pre.length : Int) by omega), rd_mid, w64 (x := (pre.length : Int) + 1) (by omega) (by omega)]
      exact h
    · refine ⟨s, Ev.succ ?_⟩
      simp only [spec_l1New.l0]
      simp only [if_pos (show (pre.length : Int) < ((pre ++ r :: rest).length : Int) by simp only [List.length_append, List.length_cons]; omega), if_neg c]
      exact Ev.now _
theorem l1New_ok (l : List Int) (hl : l.length ≤ 1048576) : ∃ s', Ev (fun k => spec_l1New.f k l) (l, 0, s') := by
  unfold spec_l1New.f
  have h := l1New_loop l l [] (wrap64 (762762 + (l.length : Int))) (by simp only [List.length_nil]; omega)
  simpa using h
theorem at0 (l : List Int) : atOk l 0 := ⟨by omega, by omega⟩

theorem l1Int_ok (l : List Int) (p s : Int) (xs : List Int) (hl : l.length ≤ 1048576) (h : atOk l p) (hx : 0 < xs.length) : ∃ v p' s', spec_l1Int.f l p s xs = some (v, p', s') ∧ v ∈ xs ∧ atOk l p' := by
  unfold spec_l1Int.f
  obtain ⟨v1, p1, s1, e1, b1, h1⟩ := l1Below_ok l p s (xs.length : Int) hl h (by omega)
  rw [e1]
  simp only [Option.bind_some, if_pos b1.1, if_pos b1.2]
  exact ⟨_, _, _, rfl, rd_mem xs v1 b1.1 b1.2, h1⟩

theorem l1Bend_ok (l : List Int) (p s : Int) (xs : List Int) (hl : l.length ≤ 1048576) (h : atOk l p) (hx : bys xs) (hn : xs.length ≤ 1048576) : ∃ o p' s', spec_l1Bend.f l p s xs = some (o, p', s') ∧ bys o ∧ o.length ≤ xs.length + 1 ∧ atOk l p' := by
  unfold spec_l1Bend.f
  by_cases c : (xs.length : Int) = 0
  · simp only [if_pos c]
    exact ⟨_, _, _, rfl, hx, by omega, h⟩
  simp only [if_neg c]
  obtain ⟨v1, p1, s1, e1, b1, h1⟩ := l1Below_ok l p s 5 hl h (by omega)
  simp only [e1, Option.bind_some]
  by_cases c0 : v1 = 0
  · obtain ⟨v2, p2, s2, e2, b2, h2⟩ := l1Below_ok l p1 s1 (xs.length : Int) hl h1 (by omega)
    obtain ⟨v3, p3, s3, e3, b3, h3⟩ := l1Int_ok l p2 s2 [0, 1, 2, 4, 5, 6, 48, 127, 128, 129, 160, 255] hl h2 (by decide)
    simp only [if_pos c0, e2, e3, Option.bind_some, if_pos b2.1, if_pos b2.2]
    exact ⟨_, _, _, rfl, bys_set hx _ (by omega), by rw [List.length_set]; omega, h3⟩
  by_cases c1 : v1 = 1
  · simp only [if_neg c0, if_pos c1, if_pos (show xs.length < 140737488355328 by omega)]
    exact ⟨_, _, _, rfl, bys_app hx (bys_one (by omega)), by simp, h1⟩
  by_cases c2 : v1 = 2
  · obtain ⟨v2, p2, s2, e2, b2, h2⟩ := l1Below_ok l p1 s1 (xs.length : Int) hl h1 (by omega)
    simp only [if_neg c0, if_neg c1, if_pos c2, e2, Option.bind_some, if_pos b2.1, if_pos (show v2 ≤ (xs.length : Int) by omega)]
    exact ⟨_, _, _, rfl, bys_take hx _, by rw [List.length_take]; omega, h2⟩
  · simp only [if_neg c0, if_neg c1, if_neg c2]
    exact ⟨_, _, _, rfl, hx, by omega, h1⟩

theorem l1Bytes_loop (l : List Int) (hl : l.length ≤ 1048576) (n : Nat) : ∀ (m i : Int) (x : List Int) (p s : Int), m = i + n → 0 ≤ i → m ≤ 1000 → bys x → x.length ≤ 1000 → atOk l p → (x.length : Int) = i →
    ∃ o p' s', Ev (fun k => spec_l1Bytes.l0 k m x i l p s) (o, p', s') ∧ bys o ∧ o.length = x.length + n ∧ atOk l p' := by
  induction n with
  | zero =>
    intro m i x p s hm _ _ hx _ h _
    refine ⟨x, p, s, Ev.succ ?_, hx, by omega, h⟩
    simp only [spec_l1Bytes.l0]
    simp only [if_neg (show ¬ i < m by omega)]
    exact Ev.now _
  | succ n ih =>
    intro m i x p s hm hi hm2 hx hn h hxi
    obtain ⟨v1, p1, s1, e1, b1, h1⟩ := l1Byte_ok l p s hl h
    obtain ⟨o, p', s', e, ho, hlo, hp⟩ := ih m (i + 1) (x ++ [v1 % 256]) p1 s1 (by omega) (by omega) hm2 (bys_app hx (bys_one (by omega))) (by simp only [List.length_append, List.length_cons, List.length_nil]; omega) h1 (by simp only [List.length_append, List.length_cons, List.length_nil]; omega)
    refine ⟨o, p', s', Ev.succ ?_, ho, by simp only [List.length_append, List.length_cons, List.length_nil] at hlo; omega, hp⟩
    simp only [spec_l1Bytes.l0]
    simp only [if_pos (show i < m by omega), e1, Option.bind_some, if_pos (show x.length < 140737488355328 by omega), w64 (x := i + 1) (by omega) (by omega)]
    exact e
theorem l1Bytes_ok (l : List Int) (p s m : Int) (hl : l.length ≤ 1048576) (h : atOk l p) (hm : 0 ≤ m ∧ m ≤ 1000) : ∃ o p' s', Ev (fun k => spec_l1Bytes.f k l p s m) (o, p', s') ∧ bys o ∧ (o.length : Int) = m ∧ atOk l p' := by
  unfold spec_l1Bytes.f
  obtain ⟨o, p', s', e, ho, hn, hp⟩ := l1Bytes_loop l hl m.toNat m 0 [] p s (by omega) (by omega) hm.2 (by intro y hy; simp at hy) (by simp) h (by simp)
  exact ⟨o, p', s', e, ho, by simp only [List.length_nil] at hn; omega, hp⟩
theorem l1Some_ok (l : List Int) (p s : Int) (hl : l.length ≤ 1048576) (h : atOk l p) : ∃ o p' s', Ev (fun k => spec_l1Some.f k l p s) (o, p', s') ∧ bys o ∧ o.length ≤ 9 ∧ atOk l p' := by
  unfold spec_l1Some.f
  obtain ⟨v1, p1, s1, e1, b1, h1⟩ := l1Int_ok l p s [0, 1, 2, 5, 9] hl h (by decide)
  have hv : 0 ≤ v1 ∧ v1 ≤ 9 := by
    simp only [List.mem_cons, List.not_mem_nil, or_false] at b1
    omega
  obtain ⟨o, p2, s2, e2, b2, n2, h2⟩ := l1Bytes_ok l p1 s1 v1 hl h1 (by omega)
  refine ⟨o, p2, s2, ?_, b2, by omega, h2⟩
  simp only [e1, Option.bind_some]
  exact Ev.bind e2 (Ev.now _)

theorem l1Num_ok (l : List Int) (p s : Int) (hl : l.length ≤ 1048576) (h : atOk l p) : ∃ v p' s', spec_l1Num.f l p s = some (v, p', s') ∧ atOk l p' := by
  unfold spec_l1Num.f
  obtain ⟨v1, p1, s1, e1, b1, h1⟩ := l1Below_ok l p s 1000 hl h (by omega)
  obtain ⟨v2, p2, s2, e2, b2, h2⟩ := l1Int_ok l p1 s1 [0, 1, -1, 127, 128, -128, -129, 255, 256, 32767, 32768, -32769, 8388608, 2147483647, -2147483648, 2147483648, -2147483649, 9223372036854775807, -9223372036854775808, v1] hl h1 (by simp)
  simp only [e1, e2, Option.bind_some]
  exact ⟨_, _, _, rfl, h2⟩

def oids : List Int := [0, 1, 2, 3, 127, 128, 16384, 100000]
theorem l2Draw_loop (l : List Int) (hl : l.length ≤ 1048576) (n : Nat) : ∀ (x : List Int) (p s : Int), n ≤ 10 → x.length + n ≤ 1000 → atOk l p →
    ∃ o p' s', Ev (fun k => spec_l2Draw.l0 k x (n : Int) l p s) (o, p', s') ∧ o.length = x.length + n ∧ atOk l p' := by
  induction n with
  | zero =>
    intro x p s _ _ h
    refine ⟨x, p, s, Ev.succ ?_, by omega, h⟩
    simp only [spec_l2Draw.l0]
    simp only [if_neg (show ¬ ((0 : Nat) : Int) > 0 by omega)]
    exact Ev.now _
  | succ n ih =>
    intro x p s hn hx h
    obtain ⟨v1, p1, s1, e1, b1, h1⟩ := l1Int_ok l p s oids hl h (by decide)
    obtain ⟨o, p', s', e, ho, hp⟩ := ih (x ++ [v1]) p1 s1 (by omega) (by simp only [List.length_append, List.length_cons, List.length_nil]; omega) h1
    refine ⟨o, p', s', Ev.succ ?_, by simp only [List.length_append, List.length_cons, List.length_nil] at ho; omega, hp⟩
    unfold oids at e1
    simp only [spec_l2Draw.l0]
    simp only [if_pos (show ((n + 1 : Nat) : Int) > 0 by omega), e1, Option.bind_some, if_pos (show x.length < 17592186044416 by omega), show ((n + 1 : Nat) : Int) - 1 = (n : Int) by omega, w64 (x := (n : Int)) (by omega) (by omega)]
    exact e
theorem l2Draw_ok (l : List Int) (p s : Int) (hl : l.length ≤ 1048576) (h : atOk l p) : ∃ o p' s', Ev (fun k => spec_l2Draw.f k l p s) (o, p', s') ∧ (1 ≤ o.length ∧ o.length ≤ 6) ∧ atOk l p' := by
  unfold spec_l2Draw.f
  obtain ⟨v1, p1, s1, e1, b1, h1⟩ := l1Below_ok l p s 6 hl h (by omega)
  rw [e1]
  simp only [Option.bind_some]
  obtain ⟨n, hn⟩ := Int.eq_ofNat_of_zero_le (show 0 ≤ 1 + v1 by omega)
  obtain ⟨o, p', s', e, ho, hp⟩ := l2Draw_loop l hl n [] p1 s1 (by omega) (by simp only [List.length_nil]; omega) h1
  rw [w64 (by omega) (by omega), hn]
  exact ⟨o, p', s', e, by simp only [List.length_nil] at ho; omega, hp⟩
theorem l2Any_loop (l : List Int) (hl : l.length ≤ 1048576) (n : Nat) : ∀ (x : List Int) (p s : Int), 11 - x.length ≤ n → x.length ≤ 11 → atOk l p →
    ∃ o p' s', Ev (fun k => spec_l2Any.l0 k x l p s) (o, p', s') ∧ o.length ≤ 11 ∧ atOk l p' := by
  induction n with
  | zero =>
    intro x p s hn hx h
    obtain ⟨v1, p1, s1, e1, b1, h1⟩ := l1Below_ok l p s 2 hl h (by omega)
    refine ⟨x, p1, s1, Ev.succ ?_, hx, h1⟩
    simp only [spec_l2Any.l0]
    simp only [e1, Option.bind_some, w64 (x := 10 + v1) (by omega) (by omega), if_neg (show ¬ (x.length : Int) < 10 + v1 by omega)]
    exact Ev.now _
  | succ n ih =>
    intro x p s hn hx h
    obtain ⟨v1, p1, s1, e1, b1, h1⟩ := l1Below_ok l p s 2 hl h (by omega)
    by_cases c : (x.length : Int) < 10 + v1
    · obtain ⟨o, p', s', e, ho, hp⟩ := ih (x ++ [1]) p1 s1 (by simp only [List.length_append, List.length_cons, List.length_nil]; omega) (by simp only [List.length_append, List.length_cons, List.length_nil]; omega) h1
      refine ⟨o, p', s', Ev.succ ?_, ho, hp⟩
      simp only [spec_l2Any.l0]
      simp only [e1, Option.bind_some, w64 (x := 10 + v1) (by omega) (by omega), if_pos c, if_pos (show x.length < 17592186044416 by omega)]
      exact e
    · refine ⟨x, p1, s1, Ev.succ ?_, hx, h1⟩
      simp only [spec_l2Any.l0]
      simp only [e1, Option.bind_some, w64 (x := 10 + v1) (by omega) (by omega), if_neg c]
      exact Ev.now _
theorem l2Any_ok (l : List Int) (p s : Int) (hl : l.length ≤ 1048576) (h : atOk l p) : ∃ o p' s', Ev (fun k => spec_l2Any.f k l p s) (o, p', s') ∧ o.length ≤ 11 ∧ atOk l p' := by
  unfold spec_l2Any.f
  obtain ⟨o1, p1, s1, e1, b1, h1⟩ := l2Draw_ok l p s hl h
  obtain ⟨v2, p2, s2, e2, b2, h2⟩ := l1Below_ok l p1 s1 10 hl h1 (by omega)
  by_cases c0 : v2 = 0
  · refine ⟨[], p2, s2, Ev.bind e1 ?_, by simp, h2⟩
    simp only [e2, Option.bind_some, if_pos c0]
    exact Ev.now _
  by_cases c1 : v2 = 1
  · obtain ⟨v3, p3, s3, e3, b3, h3⟩ := l1Int_ok l p2 s2 [-1, 100001] hl h2 (by decide)
    refine ⟨o1.set (0 : Int).toNat v3, p3, s3, Ev.bind e1 ?_, by rw [List.length_set]; omega, h3⟩
    simp only [e2, Option.bind_some, if_neg c0, if_pos c1, e3, if_pos (show 0 < (o1.length : Int) by omega)]
    exact Ev.now _
  by_cases c2 : v2 = 2
  · obtain ⟨o, p', s', e, ho, hp⟩ := l2Any_loop l hl 11 o1 p2 s2 (by omega) (by omega) h2
    refine ⟨o, p', s', Ev.bind e1 ?_, ho, hp⟩
    simp only [e2, Option.bind_some, if_neg c0, if_neg c1, if_pos c2]
    exact e
  · refine ⟨o1, p2, s2, Ev.bind e1 ?_, by omega, h2⟩
    simp only [e2, Option.bind_some, if_neg c0, if_neg c1, if_neg c2]
    exact Ev.now _

theorem l1At_ok (l : List Int) (p s : Int) (xs : List Int) (hl : l.length ≤ 1048576) (h : atOk l p) (hx : xs.length ≤ 1048576) : ∃ v p' s', spec_l1At.f l p s xs = some (v, p', s') ∧ (-1 ≤ v ∧ v ≤ 9223372036854775807) ∧ atOk l p' := by
  unfold spec_l1At.f
  rw [w64 (x := (xs.length : Int) + 1) (by omega) (by omega)]
  obtain ⟨v1, p1, s1, e1, b1, h1⟩ := l1Below_ok l p s ((xs.length : Int) + 1) hl h (by omega)
  obtain ⟨v2, p2, s2, e2, b2, h2⟩ := l1Int_ok l p1 s1 [0, 0, 0, (xs.length : Int), v1, -1, 9223372036854775807] hl h1 (by simp)
  simp only [e1, e2, Option.bind_some]
  refine ⟨_, _, _, rfl, ?_, h2⟩
  simp only [List.mem_cons, List.not_mem_nil, or_false] at b2
  omega

theorem bytesOf_bys (s : ByteArray) : ∀ y ∈ bytesOf s, 0 ≤ y ∧ y ≤ 255 := by
  intro y hy
  unfold bytesOf at hy
  obtain ⟨b, _, rfl⟩ := List.mem_map.1 hy
  have := b.toNat_lt
  omega
theorem ofNums_bytes (s : ByteArray) : strOfNums (bytesOf s) = s := by
  obtain ⟨d⟩ := s
  unfold strOfNums bytesOf
  congr 1
  rw [List.map_map]
  have h : ((fun n : Int => UInt8.ofNat n.toNat) ∘ fun b : UInt8 => (b.toNat : Int)) = id := by
    funext b
    simp
  rw [h, List.map_id]
theorem bytes_ofNums (y : List Int) (hy : ∀ z ∈ y, 0 ≤ z ∧ z ≤ 255) : bytesOf (strOfNums y) = y := by
  have h2 := bytesOf_bys (strOfNums y)
  exact strNums_inj _ _ h2 hy (by rw [ofNums_bytes])
theorem getOid_back (o : List Int) (ho : oidOk o = true) : Ev (fun k => impl_GetOid.f k (putOid o)) (o, true) ∧ ∀ y, y ∈ putOid o → 0 ≤ y ∧ y ≤ 255 := by
  refine ⟨?_, putOid_bytes o⟩
  have hl := putOid_len o
  obtain ⟨R, hs, hi, _⟩ := getOid_both (putOid o) (putOid_bytes o) (by omega)
  have ho' := ho
  simp only [oidOk, Bool.and_eq_true, decide_eq_true_eq] at ho'
  have e := sGetOid_yes o [] [] (by simpa using ho) (by simp only [List.length_nil]; omega)
  have hp : putOid o = o.flatMap group := by unfold putOid; rw [if_pos ho]
  have e2 : Ev (fun k => spec_GetOid.f k (putOid o)) (o, true) := by
    unfold spec_GetOid.f
    rw [hp]
    simpa using e
  rw [← Ev.uniq hs e2]
  exact hi
theorem getOid_read (l : List Int) (hw : bytes l) (hl : l.length ≤ 1048576) (R : List Int × Bool) (hi : Ev (fun k => impl_GetOid.f k l) R) (h : R.2 = true) : putOid R.1 = l := by
  by_cases c : ∃ o, oidOk o = true ∧ o.flatMap group = l
  · obtain ⟨o, ho, rfl⟩ := c
    have hp : putOid o = o.flatMap group := by unfold putOid; rw [if_pos ho]
    have e := (getOid_back o ho).1
    rw [hp] at e
    rw [Ev.uniq hi e]
    exact hp
  · have hno : ∀ o, oidOk o = true → o.flatMap group ≠ l := fun o ho e => c ⟨o, ho, e⟩
    obtain ⟨R2, hs, hi2, _⟩ := getOid_both l hw hl
    have e := sGetOid_no l.length l [] (Nat.le_refl _) hw (by simpa using hl) (by simpa using hno)
    have e2 : Ev (fun k => spec_GetOid.f k l) ([], false) := by
      unfold spec_GetOid.f
      simpa using e
    rw [Ev.uniq hi hi2, Ev.uniq hs e2] at h
    simp at h
def goodVal (l : List Int) (a : Int) (R : Int × Int × ByteArray × List Int × Int × Bool) : Prop :=
  R.2.2.2.2.2 = true → valOk R.1 R.2.1 R.2.2.1 R.2.2.2.1 = true ∧ putVal [] R.1 R.2.1 R.2.2.1 R.2.2.2.1 = (l.take R.2.2.2.2.1.toNat).drop a.toNat ∧ 0 ≤ a ∧ a ≤ R.2.2.2.2.1 ∧ R.2.2.2.2.1 ≤ (l.length : Int)
theorem val_good (l : List Int) (a t n p : Int) (s : ByteArray) (o y : List Int) (h0 : 0 ≤ a ∧ a ≤ p ∧ p ≤ (l.length : Int)) (hc : (l.take p.toNat).drop a.toNat = putTlv [] t y) (hb : putBody t n s o = y) : goodVal l a (if valOk t n s o = true then (t, n, s, o, p, true) else noVal) := by
  intro h
  by_cases c : valOk t n s o = true
  · rw [if_pos c] at h ⊢
    refine ⟨c, ?_, h0.1, h0.2.1, h0.2.2⟩
    show putVal [] t n s o = _
    unfold putVal
    rw [if_pos c, hb]
    exact hc.symm
  · rw [if_neg c] at h
    simp [noVal] at h
theorem no_good (l : List Int) (a : Int) : goodVal l a noVal := by intro h; simp [noVal] at h
theorem iGetVal_read (l : List Int) (a : Int) (hb : bys l) (hl : l.length ≤ 1048576) (ha : -9223372036854775808 ≤ a ∧ a ≤ 9223372036854775807) : ∃ R, Ev (fun k => impl_GetVal.f k l a) R ∧ goodVal l a R := by
  have hi := iGetTlv_ev l a hb hl ha
  have hy := getTlv_len l a
  have hor := getTlv_or l a hb
  have ht := getTlv_true l hb a
  generalize getTlv l a = T at hi hy hor ht
  obtain ⟨t, y, p, q⟩ := T
  have hy : y.length ≤ l.length := hy
  unfold impl_GetVal.f
  cases q with
  | false =>
    refine ⟨noVal, Ev.bind hi ?_, no_good l a⟩
    simp only [Bool.false_eq_true, if_false]
    exact Ev.now _
  | true =>
    obtain ⟨h0, hy2, hc⟩ := ht t p y rfl
    have hby : ∀ z ∈ y, 0 ≤ z ∧ z ≤ 255 := by
      rcases hor with h | h
      · simp [no4] at h
      · exact h.2
    by_cases c2 : t = 2
    · have gi := iGetInt_ev y hby (by omega)
      have hg := getInt_ok y hby
      generalize getInt y = G at gi hg
      obtain ⟨n, g⟩ := G
      cases g with
      | true =>
        refine ⟨_, Ev.bind hi ?_, val_good l a t n p ⟨#[]⟩ [] y h0 hc (by unfold putBody; rw [if_pos c2]; exact hg rfl)⟩
        simp only [if_pos c2, if_true]
        refine Ev.bind gi ?_
        simp only [if_true]
        exact iVal_ev t n _ [] p (by simp)
      | false =>
        refine ⟨noVal, Ev.bind hi ?_, no_good l a⟩
        simp only [if_pos c2, if_true]
        refine Ev.bind gi ?_
        simp only [Bool.false_eq_true, if_false]
        exact Ev.now _
    by_cases c4 : t = 4
    · refine ⟨_, Ev.bind hi ?_, val_good l a t 0 p (strOfNums y) [] y h0 hc (by unfold putBody; rw [if_neg c2, if_pos c4]; exact bytes_ofNums y hby)⟩
      simp only [if_neg c2, if_pos c4, if_true]
      exact iVal_ev t 0 _ [] p (by simp)
    by_cases c6 : t = 6
    · obtain ⟨G, _, gi, hg⟩ := getOid_both y hby (by omega)
      have hr := getOid_read y hby (by omega) G gi
      obtain ⟨o, g⟩ := G
      have hg : o.length ≤ 10 := hg
      cases g with
      | true =>
        refine ⟨_, Ev.bind hi ?_, val_good l a t 0 p ⟨#[]⟩ o y h0 hc (by unfold putBody; rw [if_neg c2, if_neg c4, if_pos c6]; exact hr rfl)⟩
        simp only [if_neg c2, if_neg c4, if_pos c6, if_true]
        refine Ev.bind gi ?_
        simp only [if_true]
        exact iVal_ev t 0 _ o p (by omega)
      | false =>
        refine ⟨noVal, Ev.bind hi ?_, no_good l a⟩
        simp only [if_neg c2, if_neg c4, if_pos c6, if_true]
        refine Ev.bind gi ?_
        simp only [Bool.false_eq_true, if_false]
        exact Ev.now _
    by_cases c0 : (y.length : Int) = 0
    · refine ⟨_, Ev.bind hi ?_, val_good l a t 0 p ⟨#[]⟩ [] y h0 hc (by unfold putBody; rw [if_neg c2, if_neg c4, if_neg c6]; exact (List.length_eq_zero_iff.1 (by omega)).symm)⟩
      simp only [if_neg c2, if_neg c4, if_neg c6, if_true, if_pos c0]
      exact iVal_ev t 0 _ [] p (by simp)
    · refine ⟨noVal, Ev.bind hi ?_, no_good l a⟩
      simp only [if_neg c2, if_neg c4, if_neg c6, if_true, if_neg c0]
      exact Ev.now _
theorem val_kinds (t n : Int) (s : ByteArray) (o : List Int) (h : valOk t n s o = true) : (t = 2 ∧ clip n = n ∧ s.toList = [] ∧ o = []) ∨ (t = 4 ∧ (s.size : Int) ≤ 20 ∧ n = 0 ∧ o = []) ∨ (t = 6 ∧ oidOk o = true ∧ n = 0 ∧ s.toList = []) ∨ ((t = 5 ∨ t = 128 ∨ t = 130) ∧ n = 0 ∧ s.toList = [] ∧ o = []) := by
  unfold valOk at h
  by_cases c5 : t = 5 ∨ t = 128 ∨ t = 130
  · rw [if_pos c5] at h
    unfold valNil at h
    by_cases a1 : n = 0
    · by_cases a2 : s.toList = ([] : List UInt8)
      · rw [if_pos a1, if_pos a2, beq_iff_eq] at h
        exact Or.inr (Or.inr (Or.inr ⟨c5, a1, a2, List.length_eq_zero_iff.1 (by omega)⟩))
      · rw [if_pos a1, if_neg a2] at h
        simp at h
    · rw [if_neg a1] at h
      simp at h
  rw [if_neg c5] at h
  by_cases c2 : t = 2
  · rw [if_pos c2] at h
    by_cases a1 : clip n = n
    · by_cases a2 : s.toList = ([] : List UInt8)
      · rw [if_pos a1, if_pos a2, beq_iff_eq] at h
        exact Or.inl ⟨c2, a1, a2, List.length_eq_zero_iff.1 (by omega)⟩
      · rw [if_pos a1, if_neg a2] at h
        simp at h
    · rw [if_neg a1] at h
      simp at h
  rw [if_neg c2] at h
  by_cases c4 : t = 4
  · rw [if_pos c4] at h
    by_cases a1 : (s.size : Int) ≤ 20
    · by_cases a2 : n = 0
      · rw [if_pos a1, if_pos a2, beq_iff_eq] at h
        exact Or.inr (Or.inl ⟨c4, a1, a2, List.length_eq_zero_iff.1 (by omega)⟩)
      · rw [if_pos a1, if_neg a2] at h
        simp at h
    · rw [if_neg a1] at h
      simp at h
  rw [if_neg c4] at h
  by_cases c6 : t = 6
  · rw [if_pos c6] at h
    by_cases a1 : oidOk o = true
    · by_cases a2 : n = 0
      · rw [if_pos a1, if_pos a2, beq_iff_eq] at h
        exact Or.inr (Or.inr (Or.inl ⟨c6, a1, a2, h⟩))
      · rw [if_pos a1, if_neg a2] at h
        simp at h
    · rw [if_neg a1] at h
      simp at h
  · rw [if_neg c6] at h
    simp at h
theorem noStr : (⟨#[]⟩ : ByteArray).toList = ([] : List UInt8) := emptyStr
theorem putBody_len (t n : Int) (s : ByteArray) (o : List Int) (h : valOk t n s o = true) : (putBody t n s o).length ≤ 30 := by
  have h1 := putInt_len (clip n)
  have h2 := putOid_len o
  unfold putBody
  by_cases c2 : t = 2
  · rw [if_pos c2]; omega
  by_cases c4 : t = 4
  · subst c4
    have := valOk_text n s o h
    rw [if_neg c2, if_pos rfl, bytesOf_length]; omega
  rw [if_neg c2, if_neg c4]
  split
  · omega
  · simp
theorem putBody_bys (t n : Int) (s : ByteArray) (o : List Int) : bys (putBody t n s o) := by
  unfold putBody
  split
  · exact putInt_bys _
  · split
    · exact bytesOf_bys s
    · split
      · exact putOid_bytes o
      · intro z hz; simp at hz
theorem val_tag (t n : Int) (s : ByteArray) (o : List Int) (h : valOk t n s o = true) : 0 ≤ t ∧ t ≤ 255 := by
  rcases val_kinds t n s o h with h | h | h | h <;> omega
theorem putVal_form (b : List Int) (t n : Int) (s : ByteArray) (o : List Int) (h : valOk t n s o = true) : putVal b t n s o = b ++ tlvBytes t (putBody t n s o) := by
  have hl := putBody_len t n s o h
  unfold putVal putTlv tlvOk
  rw [if_pos h, decide_eq_true (val_tag t n s o h), decide_eq_true (show ((putBody t n s o).length : Int) ≤ 250 by omega)]
  rfl
theorem putVal_bys (b : List Int) (t n : Int) (s : ByteArray) (o : List Int) (hb : bys b) : bys (putVal b t n s o) := by
  by_cases h : valOk t n s o = true
  · rw [putVal_form b t n s o h]
    exact bys_app hb (tlvBytes_bys t _ (val_tag t n s o h) (putBody_bys t n s o) (by have := putBody_len t n s o h; omega))
  · unfold putVal
    rw [if_neg h]
    exact hb
theorem sameVal_of (t n : Int) (s : ByteArray) (o : List Int) (n' : Int) (s' : ByteArray) (o' : List Int) (h1 : n' = n) (h2 : s'.toList = s.toList) (h3 : o' = o) : sameVal t n' s' o' t n s o = true := by
  unfold sameVal
  rw [if_pos rfl, if_pos h1, if_pos h2]
  exact decide_eq_true h3
theorem iGetVal_back (b : List Int) (t n : Int) (s : ByteArray) (o : List Int) (hb : bys b) (hl : b.length ≤ 1000) (h : valOk t n s o = true) : ∃ n' s' o', Ev (fun k => impl_GetVal.f k (putVal b t n s o) (b.length : Int)) (t, n', s', o', ((putVal b t n s o).length : Int), true) ∧ sameVal t n' s' o' t n s o = true ∧ o'.length ≤ 10 := by
  have hbl := putBody_len t n s o h
  have hln := putVal_len b t n s o
  have hbys := putVal_bys b t n s o hb
  have hi := iGetTlv_ev (putVal b t n s o) (b.length : Int) hbys (by omega) (by omega)
  rw [putVal_form b t n s o h] at hi ⊢
  rw [get_full b (putBody t n s o) t (val_tag t n s o h) (by omega)] at hi
  unfold impl_GetVal.f
  generalize ((b ++ tlvBytes t (putBody t n s o)).length : Int) = p at hi ⊢
  have hv := fun (n' : Int) (s' : ByteArray) (o' : List Int) (ho : o'.length ≤ 10) (hok : valOk t n' s' o' = true) => (by
    have e := iVal_ev t n' s' o' p (by omega)
    rw [if_pos hok] at e
    exact e : Ev (fun k => (impl_ValOk.f k t n' s' o').bind fun v => if v = true then some (t, n', s', o', p, true) else some (0, 0, (⟨#[]⟩ : ByteArray), ([] : List Int), 0, false)) (t, n', s', o', p, true))
  rcases val_kinds t n s o h with ⟨rfl, h1, h2, rfl⟩ | ⟨rfl, h1, rfl, rfl⟩ | ⟨rfl, h1, rfl, h2⟩ | ⟨h1, rfl, h2, rfl⟩
  · have gi := iGetInt_ev (putInt (clip n)) (putInt_bys _) (by have := putInt_len (clip n); omega)
    rw [getInt_put, h1] at gi
    refine ⟨n, ⟨#[]⟩, [], Ev.bind hi ?_, sameVal_of 2 n s [] n _ [] rfl (by rw [noStr, h2]) rfl, by simp⟩
    simp only [if_true]
    have hpb : putBody 2 n s [] = putInt n := by unfold putBody; rw [if_pos rfl, h1]
    rw [hpb]
    refine Ev.bind gi ?_
    simp only [if_true]
    refine hv n ⟨#[]⟩ [] (by simp) ?_
    unfold valOk
    rw [if_neg (by omega), if_pos rfl, if_pos h1, if_pos noStr]
    rfl
  · refine ⟨0, s, [], Ev.bind hi ?_, sameVal_of 4 0 s [] 0 s [] rfl rfl rfl, by simp⟩
    have hpb : putBody 4 0 s [] = bytesOf s := by unfold putBody; rw [if_neg (by omega), if_pos rfl]
    simp only [if_neg (show ¬ (4 : Int) = 2 by omega), if_true]
    rw [hpb, ofNums_bytes]
    exact hv 0 s [] (by simp) h
  · obtain ⟨gi, _⟩ := getOid_back o h1
    have hol : o.length ≤ 10 := by
      have := h1
      simp only [oidOk, Bool.and_eq_true, decide_eq_true_eq] at this
      omega
    refine ⟨0, ⟨#[]⟩, o, Ev.bind hi ?_, sameVal_of 6 0 s o 0 _ o rfl (by rw [noStr, h2]) rfl, hol⟩
    have hpb : putBody 6 0 s o = putOid o := by unfold putBody; rw [if_neg (by omega), if_neg (by omega), if_pos rfl]
    simp only [if_neg (show ¬ (6 : Int) = 2 by omega), if_neg (show ¬ (6 : Int) = 4 by omega), if_true]
    rw [hpb]
    refine Ev.bind gi ?_
    simp only [if_true]
    refine hv 0 ⟨#[]⟩ o hol ?_
    unfold valOk
    rw [if_neg (by omega), if_neg (by omega), if_neg (by omega), if_pos rfl, if_pos h1, if_pos rfl, noStr]
    rfl
  · refine ⟨0, ⟨#[]⟩, [], Ev.bind hi ?_, sameVal_of t 0 s [] 0 _ [] rfl (by rw [noStr, h2]) rfl, by simp⟩
    have hpb : putBody t 0 s [] = [] := by unfold putBody; rw [if_neg (by omega), if_neg (by omega), if_neg (by omega)]
    simp only [if_neg (show ¬ t = 2 by omega), if_neg (show ¬ t = 4 by omega), if_neg (show ¬ t = 6 by omega), if_true]
    rw [hpb]
    simp only [List.length_nil]
    refine hv 0 ⟨#[]⟩ [] (by simp) ?_
    unfold valOk valNil
    rw [if_pos h1, if_pos rfl, if_pos noStr]
    rfl
theorem l1Str_ok (l : List Int) (p s : Int) (xs : List ByteArray) (hl : l.length ≤ 1048576) (h : atOk l p) (hx : 0 < xs.length) (hx2 : xs.length ≤ 1000) : ∃ v p' s', spec_l1Str.f l p s xs = some (v, p', s') ∧ atOk l p' := by
  unfold spec_l1Str.f
  obtain ⟨v1, p1, s1, e1, b1, h1⟩ := l1Below_ok l p s (xs.length : Int) hl h (by omega)
  simp only [e1, Option.bind_some, if_pos b1.1, if_pos b1.2]
  exact ⟨_, _, _, rfl, h1⟩
theorem l3Draw_j0 (l : List Int) (v : Int) (q : Bool) (p s : Int) (hl : l.length ≤ 1048576) (h : atOk l p) : ∃ t n z o p' s', Ev (fun k => spec_l3Draw.j0 k v q l p s) (t, n, z, o, p', s') ∧ o.length ≤ 6 ∧ atOk l p' := by
  cases q with
  | true =>
    obtain ⟨v1, p1, s1, e1, h1⟩ := l1Num_ok l p s hl h
    refine ⟨2, clip v1, ⟨#[]⟩, [], p1, s1, Ev.succ ?_, by simp, h1⟩
    simp only [spec_l3Draw.j0, if_true, e1, Option.bind_some, sClip_eq, spec_l3Int.f]
    exact Ev.now _
  | false =>
    by_cases c3 : v = 3
    · obtain ⟨v1, p1, s1, e1, h1⟩ := l1Str_ok l p s [(⟨#[]⟩ : ByteArray), (⟨#[97]⟩ : ByteArray), (⟨#[121, 97, 114, 100]⟩ : ByteArray), (⟨#[0]⟩ : ByteArray)] hl h (by decide) (by decide)
      refine ⟨4, 0, v1, [], p1, s1, Ev.succ ?_, by simp, h1⟩
      simp only [spec_l3Draw.j0, Bool.false_eq_true, if_false, if_pos c3, e1, Option.bind_some]
      exact Ev.now _
    · by_cases c4 : v = 4
      · obtain ⟨o, p1, s1, e1, n1, h1⟩ := l2Draw_ok l p s hl h
        refine ⟨6, 0, ⟨#[]⟩, o, p1, s1, Ev.succ ?_, by omega, h1⟩
        simp only [spec_l3Draw.j0, Bool.false_eq_true, if_false, if_neg c3, if_pos c4]
        exact Ev.bind e1 (Ev.now _)
      · obtain ⟨v1, p1, s1, e1, b1, h1⟩ := l1Int_ok l p s [128, 130] hl h (by decide)
        refine ⟨v1, 0, ⟨#[]⟩, [], p1, s1, Ev.succ ?_, by simp, h1⟩
        simp only [spec_l3Draw.j0, Bool.false_eq_true, if_false, if_neg c3, if_neg c4, e1, Option.bind_some]
        exact Ev.now _
theorem l3Draw_ok (l : List Int) (p s : Int) (hl : l.length ≤ 1048576) (h : atOk l p) : ∃ t n z o p' s', Ev (fun k => spec_l3Draw.f k l p s) (t, n, z, o, p', s') ∧ o.length ≤ 6 ∧ atOk l p' := by
  unfold spec_l3Draw.f
  obtain ⟨v1, p1, s1, e1, b1, h1⟩ := l1Below_ok l p s 6 hl h (by omega)
  simp only [e1, Option.bind_some]
  by_cases c0 : v1 = 0
  · simp only [if_pos c0]
    exact ⟨5, 0, ⟨#[]⟩, [], p1, s1, Ev.now _, by simp, h1⟩
  · by_cases c1 : v1 = 1
    · simp only [if_neg c0, if_pos c1]
      exact l3Draw_j0 l v1 _ p1 s1 hl h1
    · simp only [if_neg c0, if_neg c1]
      exact l3Draw_j0 l v1 _ p1 s1 hl h1
theorem l3Any_ok (l : List Int) (p s : Int) (hl : l.length ≤ 1048576) (h : atOk l p) : ∃ t n z o p' s', Ev (fun k => spec_l3Any.f k l p s) (t, n, z, o, p', s') ∧ o.length ≤ 11 ∧ atOk l p' := by
  unfold spec_l3Any.f
  obtain ⟨t, n, z, o, p1, s1, e1, n1, h1⟩ := l3Draw_ok l p s hl h
  obtain ⟨v2, p2, s2, e2, b2, h2⟩ := l1Below_ok l p1 s1 12 hl h1 (by omega)
  have n2 : o.length ≤ 11 := by omega
  by_cases c0 : v2 = 0
  · obtain ⟨v3, p3, s3, e3, b3, h3⟩ := l1Int_ok l p2 s2 [0, 1, 2, 4, 5, 6, 128, 129, 130] hl h2 (by decide)
    refine ⟨v3, n, z, o, p3, s3, Ev.bind e1 ?_, n2, h3⟩
    simp only [e2, Option.bind_some, if_pos c0, e3]
    exact Ev.now _
  by_cases c1 : v2 = 1
  · obtain ⟨v3, p3, s3, e3, h3⟩ := l1Num_ok l p2 s2 hl h2
    refine ⟨t, v3, z, o, p3, s3, Ev.bind e1 ?_, n2, h3⟩
    simp only [e2, Option.bind_some, if_neg c0, if_pos c1, e3]
    exact Ev.now _
  by_cases c2 : v2 = 2
  · obtain ⟨v3, p3, s3, e3, b3, h3⟩ := l1Below_ok l p2 s2 2 hl h2 (by omega)
    refine ⟨t, n, strOfNums (List.replicate (20 + v3).toNat 0), o, p3, s3, Ev.bind e1 ?_, n2, h3⟩
    simp only [e2, Option.bind_some, if_neg c0, if_neg c1, if_pos c2, e3, w64 (x := 20 + v3) (by omega) (by omega), if_pos (show (0 : Int) ≤ 20 + v3 by omega), if_pos (show (20 + v3).toNat ≤ 281474976710656 by omega)]
    exact Ev.now _
  by_cases c3 : v2 = 3
  · obtain ⟨o3, p3, s3, e3, n3, h3⟩ := l2Any_ok l p2 s2 hl h2
    refine ⟨t, n, z, o3, p3, s3, Ev.bind e1 ?_, n3, h3⟩
    simp only [e2, Option.bind_some, if_neg c0, if_neg c1, if_neg c2, if_pos c3]
    exact Ev.bind e3 (Ev.now _)
  · refine ⟨t, n, z, o, p2, s2, Ev.bind e1 ?_, n2, h2⟩
    simp only [e2, Option.bind_some, if_neg c0, if_neg c1, if_neg c2, if_neg c3]
    exact Ev.now _
theorem drawPutVal_ok (l : List Int) (hl : l.length ≤ 1048576) : ∃ b t n z o, Ev (fun k => spec_DrawPutVal.f k l) (b, t, n, z, o) ∧ bys b ∧ b.length ≤ 9 ∧ o.length ≤ 11 := by
  unfold spec_DrawPutVal.f
  obtain ⟨s0, e0⟩ := l1New_ok l hl
  obtain ⟨b, p1, s1, e1, b1, n1, h1⟩ := l1Some_ok l 0 s0 hl (at0 l)
  obtain ⟨t, n, z, o, p2, s2, e2, n2, h2⟩ := l3Any_ok l p1 s1 hl h1
  exact ⟨b, t, n, z, o, Ev.bind e0 (Ev.bind e1 (Ev.bind e2 (Ev.now _))), b1, n1, n2⟩
theorem drawSameVal_ok (l : List Int) (hl : l.length ≤ 1048576) : ∃ t n z o t' n' z' o', Ev (fun k => spec_DrawSameVal.f k l) (t, n, z, o, t', n', z', o') ∧ o.length ≤ 11 := by
  unfold spec_DrawSameVal.f spec_l1Once.f
  obtain ⟨s0, e0⟩ := l1New_ok l hl
  obtain ⟨t, n, z, o, p1, s1, e1, n1, h1⟩ := l3Any_ok l 0 s0 hl (at0 l)
  obtain ⟨v2, p2, s2, e2, b2, h2⟩ := l1Below_ok l p1 s1 3 hl h1 (by omega)
  obtain ⟨t', n', z', o', p3, s3, e3, n3, h3⟩ := l3Any_ok l p2 s2 hl h2
  by_cases c : (v2 == 0) = true
  · refine ⟨t, n, z, o, t, n, z, o, Ev.bind e0 (Ev.bind e1 ?_), n1⟩
    simp only [e2, Option.bind_some, if_pos c]
    exact Ev.now _
  · refine ⟨t, n, z, o, t', n', z', o', Ev.bind e0 (Ev.bind e1 ?_), n1⟩
    simp only [e2, Option.bind_some, if_neg c]
    exact Ev.bind e3 (Ev.now _)
theorem drawGetVal_ok (l : List Int) (hl : l.length ≤ 1048576) : ∃ c i, Ev (fun k => spec_DrawGetVal.f k l) (c, i) ∧ bys c ∧ c.length ≤ 300 ∧ (-1 ≤ i ∧ i ≤ 9223372036854775807) := by
  unfold spec_DrawGetVal.f
  obtain ⟨s0, e0⟩ := l1New_ok l hl
  obtain ⟨t, n, z, o, p1, s1, e1, n1, h1⟩ := l3Draw_ok l 0 s0 hl (at0 l)
  have hn := putVal_len [] t n z o
  simp only [List.length_nil] at hn
  have hb := putVal_bys [] t n z o (by intro y hy; simp at hy)
  obtain ⟨c, p2, s2, e2, b2, n2, h2⟩ := l1Bend_ok l p1 s1 (putVal [] t n z o) hl h1 hb (by omega)
  obtain ⟨i, p3, s3, e3, b3, h3⟩ := l1At_ok l p2 s2 c hl h2 (by omega)
  refine ⟨c, i, Ev.bind e0 (Ev.bind e1 (Ev.bind (sPutVal_ev [] t n z o (by simp) (by omega)) ?_)), b2, by omega, b3⟩
  refine Ev.bind (Ev.some_ e2) ?_
  refine Ev.bind (Ev.some_ e3) ?_
  exact Ev.now _
theorem vals_j0 (l b : List Int) (t n : Int) (s : ByteArray) (o : List Int) (hl : l.length ≤ 1048576) (hb : bys b) (nb : b.length ≤ 9) (no : o.length ≤ 11) : Ev (fun k => laws_FnVals.j0 k l b (putVal b t n s o) false t n s o) true := by
  refine Ev.succ ?_
  simp only [laws_FnVals.j0, Bool.false_eq_true, if_false]
  refine Ev.bind (sValOk_ev t n s o (by omega)) ?_
  by_cases h : valOk t n s o = true
  · simp only [if_pos h]
    obtain ⟨n', s', o', hg, hsm, hol⟩ := iGetVal_back b t n s o hb (by omega) h
    obtain ⟨a1, a2, a3, a4, c1, c2, c3, c4, hD, hd⟩ := drawSameVal_ok l hl
    refine Ev.bind hg (Ev.bind hD ?_)
    simp only [if_true]
    have e1 := iSameVal_ev t n' s' o' t n s o (by omega)
    rw [hsm] at e1
    refine Ev.bind e1 ?_
    simp only [if_true]
    have e2 := iValOk_ev t n s o (by omega)
    rw [h] at e2
    refine Ev.bind e2 ?_
    simp only [if_true]
    refine Ev.bind (iSameVal_ev a1 a2 a3 a4 c1 c2 c3 c4 (by omega)) (Ev.bind (sSameVal_ev a1 a2 a3 a4 c1 c2 c3 c4 (by omega)) ?_)
    simp only [beq_self_eq_true]
    exact Ev.now _
  · simp only [if_neg h]
    have hp : putVal b t n s o = b := by unfold putVal; rw [if_neg h]
    rw [hp]
    refine Ev.bind (sameBytes_ev b b (by omega)) ?_
    simp only [decide_true, if_true]
    refine Ev.bind (iValOk_ev t n s o (by omega)) ?_
    simp only [Bool.not_eq_true] at h
    rw [h]
    exact Ev.now _

theorem FnVals : laws_FnVals.Pure := by
  intro l0 _ _
  refine Ev.rounds ?_
  unfold laws_FnVals.f
  unfold laws_big.f
  simp only [Option.bind_some]
  by_cases hbig : (l0.length : Int) > 1048576
  · simp only [decide_eq_true hbig, if_true]
    exact Ev.now _
  have hsm : l0.length ≤ 1048576 := by omega
  simp only [decide_eq_false hbig, Bool.false_eq_true, if_false]
  obtain ⟨b, t, n, z, o, hD, hb, nb, no⟩ := drawPutVal_ok l0 hsm
  obtain ⟨c, i, hG, hc, nc, hi0⟩ := drawGetVal_ok l0 hsm
  obtain ⟨R, hs, hi, hrn⟩ := getVal_both c i hc (by omega) (by omega)
  obtain ⟨R2, hi2, hr⟩ := iGetVal_read c i hc (by omega) (by omega)
  obtain rfl := Ev.uniq hi hi2
  refine Ev.bind hD (Ev.bind (iPutVal_ev b t n z o (by omega) (by omega)) (Ev.bind hG (Ev.bind hi (Ev.bind hs ?_))))
  have hj := vals_j0 l0 b t n z o hsm hb nb no
  simp only [bne_self_eq_false, Bool.false_eq_true, if_false]
  by_cases q : R.2.2.2.2.2 = true
  · obtain ⟨h1, h2, h3, h4, h5⟩ := hr q
    simp only [if_pos q]
    have e2 := iValOk_ev R.1 R.2.1 R.2.2.1 R.2.2.2.1 (by omega)
    rw [h1] at e2
    refine Ev.bind e2 ?_
    simp only [if_true]
    refine Ev.bind (iPutVal_ev [] _ _ _ _ (by simp) (by omega)) ?_
    simp only [if_pos h3, if_pos h4, if_pos h5]
    rw [h2]
    refine Ev.bind (sameBytes_ev _ _ (by simp only [List.length_drop, List.length_take]; omega)) ?_
    simp only [decide_true, Bool.not_true]
    exact hj
  · simp only [if_neg q]
    exact hj

end Go.Proofs.Ythhnfmbfgplelaa.Pure
