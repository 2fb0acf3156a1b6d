/- The pure side of FnMsgs: a message comes back with its own word, and with no other one. No conditions but those of the given statement. -/
import Derived.Test.YthhnfmbfgplelaaXFnMsgsx21
namespace Go.Proofs.Ythhnfmbfgplelaa.Pure
open Go.RowKit Go.Proofs.Ythhnfmbfgplelaa.XFnMsgs Go.Proofs.YthhnfmbfgplelaaW.PrintWords Go.Proofs.YthhnfmbfgplelaaW.PrintLast Go.Proofs.YthhnfmbfgplelaaW.PrintMore
set_option linter.unusedVariables false
set_option linter.unusedSimpArgs false

theorem w64 {x : Int} (h0 : -9223372036854775808 ≤ x) (h1 : x ≤ 9223372036854775807) : wrap64 x = x := by
  unfold wrap64
  omega
theorem wf8 {x : Int} (h : (Lit.int .u8 x).wf = true) : 0 ≤ x ∧ x ≤ 255 := by
  simp only [Lit.wf, Bool.and_eq_true, decide_eq_true_eq] at h
  exact h
theorem rd_mid (pre rest : List Int) (r : Int) : rd (pre ++ r :: rest) (pre.length : Int) = r := by
  unfold rd
  simp [List.getD_eq_getElem?_getD]
theorem succ_of {d k : Nat} (h : d < k) : ∃ m, k = m + 1 := ⟨k - 1, by omega⟩
theorem Ev.at_ {α : Type} {g : Nat → Option α} {r : α} (n : Nat) (h : ∀ k, n < k → g k = some r) : Ev g r := ⟨n + 1, fun k hk => h k (by omega)⟩
theorem Ev.succ {α : Type} {g : Nat → Option α} {r : α} (h : Ev (fun k => g (k + 1)) r) : Ev g r := by
  obtain ⟨K, h⟩ := h
  refine ⟨K + 1, fun n hn => ?_⟩
  obtain ⟨m, rfl⟩ : ∃ m, n = m + 1 := ⟨n - 1, by omega⟩
  exact h m (by omega)
theorem Ev.some_const {α : Type} {g : Nat → Option α} {r : α} (h : ∀ k, g k = some r) : Ev g r := ⟨0, fun k _ => h k⟩

theorem l1In_eq (a b c : Int) : spec_l1In.f a b c = some (decide (b ≤ a ∧ a ≤ c)) := by
  unfold spec_l1In.f
  by_cases h : b ≤ a
  · rw [if_pos h]; simp [h]
  · rw [if_neg h]; simp [h]

theorem in_eq (a b c : Int) : impl_in.f a b c = some (decide (b ≤ a ∧ a ≤ c)) := by
  unfold impl_in.f
  by_cases h : b ≤ a
  · rw [if_pos h]; simp [h]
  · rw [if_neg h]; simp [h]

theorem sameBytes_loop (a : List Int) : ∀ (b pre pre' : List Int) (k : Nat), pre.length = pre'.length → a.length = b.length → pre.length + a.length ≤ 1099511627776 → a.length < k →
    laws_sameBytes.l0 k (pre ++ a) (pre' ++ b) (pre.length : Int) = some (decide (a = b)) := by
  induction a with
  | nil =>
    intro b pre pre' k hp hab hn hk
    obtain ⟨k, rfl⟩ := succ_of hk
    obtain rfl : b = [] := List.eq_nil_of_length_eq_zero hab.symm
    simp only [laws_sameBytes.l0]
    rw [if_neg (by simp only [List.length_append, List.length_nil] at *; omega)]
    simp
  | cons r a ih =>
    intro b pre pre' k hp hab hn hk
    obtain ⟨k, rfl⟩ := succ_of hk
    cases b with
    | nil => simp at hab
    | cons s b =>
      simp only [List.length_cons] at hab hn hk
      simp only [laws_sameBytes.l0]
      have e : rd (pre' ++ s :: b) (pre.length : Int) = s := by rw [hp, rd_mid]
      rw [if_pos (by simp only [List.length_append, List.length_cons]; omega), if_pos (by omega), if_pos (by simp only [List.length_append, List.length_cons]; omega), rd_mid, e]
      by_cases hrs : r = s
      · subst hrs
        rw [if_pos rfl, w64 (by omega) (by omega)]
        have h := ih b (pre ++ [r]) (pre' ++ [r]) k (by simp [hp]) (by omega) (by simp only [List.length_append, List.length_cons, List.length_nil]; omega) (by omega)
        simpa using h
      · rw [if_neg hrs]
        simp [hrs]
theorem sameBytes_ev (a b : List Int) (h : a.length ≤ 1099511627776) : Ev (fun k => laws_sameBytes.f k a b) (decide (a = b)) := by
  refine Ev.at_ a.length fun k hk => ?_
  simp only [laws_sameBytes.f]
  by_cases e : a.length = b.length
  · rw [if_pos (by omega)]
    have h := sameBytes_loop a b [] [] k rfl e (by simp only [List.length_nil]; omega) hk
    simpa using h
  · rw [if_neg (by omega)]
    have hne : ¬ a = b := fun h => e (by rw [h])
    simp [hne]

theorem Ev.ite {α : Type} {c : Prop} [Decidable c] {g1 g2 : Nat → Option α} {r1 r2 : α} (h1 : c → Ev g1 r1) (h2 : ¬ c → Ev g2 r2) : Ev (fun k => if c then g1 k else g2 k) (if c then r1 else r2) := by
  by_cases h : c
  · simp only [if_pos h]; exact h1 h
  · simp only [if_neg h]; exact h2 h

theorem Ev.uniq {α : Type} {g : Nat → Option α} {r1 r2 : α} (h1 : Ev g r1) (h2 : Ev g r2) : r1 = r2 := by
  obtain ⟨a, ha⟩ := h1
  obtain ⟨b, hb⟩ := h2
  exact Option.some.inj ((ha (max a b) (Nat.le_max_left a b)).symm.trans (hb (max a b) (Nat.le_max_right a b)))

def bys (l : List Int) : Prop := ∀ y ∈ l, 0 ≤ y ∧ y ≤ 255
theorem bys_app {a b : List Int} (ha : bys a) (hb : bys b) : bys (a ++ b) := by
  intro y hy
  rcases List.mem_append.1 hy with h | h
  · exact ha y h
  · exact hb y h
theorem bys_one {b : Int} (h : 0 ≤ b ∧ b ≤ 255) : bys [b] := by
  intro y hy
  rw [List.mem_singleton.1 hy]
  exact h
theorem bys_take {a : List Int} (ha : bys a) (n : Nat) : bys (a.take n) := fun y hy => ha y (List.mem_of_mem_take hy)
theorem iSameOid_loop (a : List Int) : ∀ (b pre pre' : List Int) (m : Int) (k : Nat), pre.length = pre'.length → a.length = b.length → pre.length + a.length ≤ 1099511627776 → m = (pre.length : Int) + (a.length : Int) → a.length < k →
    impl_SameOid.l0 k (pre ++ a) (pre' ++ b) m (pre.length : Int) = some (decide (a = b)) := by
  induction a with
  | nil =>
    intro b pre pre' m k hp hab hn hm hk
    obtain ⟨k, rfl⟩ := succ_of hk
    obtain rfl : b = [] := List.eq_nil_of_length_eq_zero hab.symm
    simp only [impl_SameOid.l0]
    rw [if_neg (by simp only [List.length_append, List.length_nil] at *; omega)]
    simp
  | cons r a ih =>
    intro b pre pre' m k hp hab hn hm hk
    obtain ⟨k, rfl⟩ := succ_of hk
    cases b with
    | nil => simp at hab
    | cons s b =>
      simp only [List.length_cons] at hab hn hk hm
      simp only [impl_SameOid.l0]
      have e : rd (pre' ++ s :: b) (pre.length : Int) = s := by rw [hp, rd_mid]
      rw [if_pos (by omega), if_pos (by omega), if_pos (by simp only [List.length_append, List.length_cons]; omega), if_pos (by simp only [List.length_append, List.length_cons]; omega), rd_mid, e]
      by_cases hrs : r = s
      · subst hrs
        rw [if_pos rfl, w64 (by omega) (by omega)]
        have h := ih b (pre ++ [r]) (pre' ++ [r]) m k (by simp [hp]) (by omega) (by simp only [List.length_append, List.length_cons, List.length_nil]; omega) (by simp only [List.length_append, List.length_cons, List.length_nil]; omega) (by omega)
        simpa using h
      · rw [if_neg hrs]
        simp [hrs]
theorem iSameOid_ev (a b : List Int) (h : a.length ≤ 1099511627776) : Ev (fun k => impl_SameOid.f k a b) (decide (a = b)) := by
  refine Ev.at_ a.length fun k hk => ?_
  simp only [impl_SameOid.f]
  by_cases e : a.length = b.length
  · rw [if_pos (by omega)]
    have h := iSameOid_loop a b [] [] (a.length : Int) k rfl e (by simp only [List.length_nil]; omega) (by simp) hk
    simpa using h
  · rw [if_neg (by omega)]
    have hne : ¬ a = b := fun h => e (by rw [h])
    simp [hne]

def oidNums (xs : List Int) : Bool := xs.all fun n => decide (0 ≤ n ∧ n ≤ 100000)
def oidOk (xs : List Int) : Bool := oidNums xs && decide (1 ≤ (xs.length : Int) ∧ (xs.length : Int) ≤ 10)

theorem sOidOk_loop (rest : List Int) : ∀ (pre : List Int) (k : Nat), pre.length + rest.length ≤ 1099511627776 → rest.length < k →
    spec_OidOk.l0 k (pre ++ rest) (pre.length : Int) = some (oidNums rest && decide (1 ≤ ((pre ++ rest).length : Int) ∧ ((pre ++ rest).length : Int) ≤ 10)) := by
  induction rest with
  | nil =>
    intro pre k _ hk
    obtain ⟨k, rfl⟩ := succ_of hk
    simp only [spec_OidOk.l0]
    rw [if_neg (by simp only [List.length_append, List.length_nil]; omega), l1In_eq]
    simp [oidNums]
  | cons r rest ih =>
    intro pre k hn hk
    obtain ⟨k, rfl⟩ := succ_of hk
    simp only [List.length_cons] at hn hk
    simp only [spec_OidOk.l0]
    rw [if_pos (by simp only [List.length_append, List.length_cons]; omega), if_pos (by omega), rd_mid, l1In_eq, w64 (by omega) (by omega)]
    simp only [Option.bind_some]
    by_cases h : 0 ≤ r ∧ r ≤ 100000
    · rw [if_pos (by simpa using h)]
      have e := ih (pre ++ [r]) k (by simp only [List.length_append, List.length_cons, List.length_nil]; omega) (by omega)
      simp only [List.append_assoc, List.cons_append, List.nil_append] at e
      rw [show (pre.length : Int) + 1 = ((pre ++ [r]).length : Int) from by simp, e]
      simp [oidNums, h]
    · rw [if_neg (by simpa using h)]
      simp only [oidNums, List.all_cons, decide_eq_false h, Bool.false_and]
theorem sOidOk_ev (xs : List Int) (h : xs.length ≤ 1099511627776) : Ev (fun k => spec_OidOk.f k xs) (oidOk xs) := by
  refine Ev.at_ xs.length fun k hk => ?_
  simp only [spec_OidOk.f]
  have e := sOidOk_loop xs [] k (by simp only [List.length_nil]; omega) hk
  simpa [oidOk] using e

theorem iOidOk_loop (rest : List Int) : ∀ (pre all : List Int) (m : Int) (k : Nat), m = (pre.length : Int) + rest.length → pre.length + rest.length ≤ 1099511627776 → rest.length < k →
    impl_OidOk.l0 k all (pre ++ rest) m (pre.length : Int) = some (oidNums rest && decide (1 ≤ (all.length : Int) ∧ (all.length : Int) ≤ 10)) := by
  induction rest with
  | nil =>
    intro pre all m k hm _ hk
    obtain ⟨k, rfl⟩ := succ_of hk
    simp only [List.length_nil] at hm
    simp only [impl_OidOk.l0]
    rw [if_neg (by omega), in_eq]
    simp [oidNums]
  | cons r rest ih =>
    intro pre all m k hm hn hk
    obtain ⟨k, rfl⟩ := succ_of hk
    simp only [List.length_cons] at hm hn hk
    simp only [impl_OidOk.l0]
    rw [if_pos (by omega), if_pos (by omega), if_pos (by simp only [List.length_append, List.length_cons]; omega), rd_mid, in_eq, w64 (by omega) (by omega)]
    simp only [Option.bind_some]
    by_cases h : 0 ≤ r ∧ r ≤ 100000
    · rw [if_pos (by simpa using h)]
      have e := ih (pre ++ [r]) all m k (by simp only [List.length_append, List.length_cons, List.length_nil]; omega) (by simp only [List.length_append, List.length_cons, List.length_nil]; omega) (by omega)
      simp only [List.append_assoc, List.cons_append, List.nil_append] at e
      rw [show (pre.length : Int) + 1 = ((pre ++ [r]).length : Int) from by simp, e]
      simp [oidNums, h]
    · rw [if_neg (by simpa using h)]
      simp only [oidNums, List.all_cons, decide_eq_false h, Bool.false_and]
theorem iOidOk_ev (xs : List Int) (h : xs.length ≤ 1099511627776) : Ev (fun k => impl_OidOk.f k xs) (oidOk xs) := by
  refine Ev.at_ xs.length fun k hk => ?_
  simp only [impl_OidOk.f]
  have e := iOidOk_loop xs [] xs (xs.length : Int) k (by simp) (by simp only [List.length_nil]; omega) hk
  simpa [oidOk] using e

def clip (n : Int) : Int := if n > 2147483647 then 2147483647 else if n < -2147483648 then -2147483648 else n
theorem clip_bd (n : Int) : -2147483648 ≤ clip n ∧ clip n ≤ 2147483647 := by
  unfold clip
  split
  · omega
  · split <;> omega
def putInt (n : Int) : List Int :=
  if -128 ≤ n ∧ n ≤ 127 then [n % 256]
  else if -32768 ≤ n ∧ n ≤ 32767 then [n / 256 % 256, n % 256]
  else if -8388608 ≤ n ∧ n ≤ 8388607 then [n / 65536 % 256, n / 256 % 256, n % 256]
  else [n / 16777216 % 256, n / 65536 % 256, n / 256 % 256, n % 256]
theorem putInt_len (n : Int) : (putInt n).length ≤ 4 := by
  unfold putInt
  split
  · simp
  · split
    · simp
    · split <;> simp

theorem sClip_eq (n : Int) : spec_l1Clip.f n = some (clip n) := by
  unfold spec_l1Clip.f clip
  split
  · rfl
  · split <;> rfl
theorem sPutInt_stop (k : Nat) (n : Int) (out : List Int) (h0 : -128 ≤ n) (h1 : n ≤ 127) : spec_PutInt.l0 (k + 1) n out = some out := by
  simp only [spec_PutInt.l0]
  rw [if_neg (by omega), if_neg (by omega)]
theorem sPutInt_go (k : Nat) (n : Int) (out : List Int) (h : n < -128 ∨ n > 127) (ho : out.length < 1000) : spec_PutInt.l0 (k + 1) n out = spec_PutInt.l0 k (n / 256) ([n / 256 % 256] ++ out) := by
  simp only [spec_PutInt.l0]
  by_cases h0 : n < -128
  · rw [if_pos h0]
    simp only [Option.bind_some]
    rw [if_pos (by simp only [List.length_cons, List.length_nil]; omega)]
  · rw [if_neg h0, if_pos (by omega)]
    simp only [Option.bind_some]
    rw [if_pos (by simp only [List.length_cons, List.length_nil]; omega)]
theorem sPutInt_at (m : Nat) (n : Int) (h0 : -2147483648 ≤ n) (h1 : n ≤ 2147483647) : spec_PutInt.l0 (m + 4) n [n % 256] = some (putInt n) := by
  unfold putInt
  by_cases c1 : -128 ≤ n ∧ n ≤ 127
  · rw [if_pos c1, sPutInt_stop _ _ _ c1.1 c1.2]
  · rw [if_neg c1, sPutInt_go _ _ _ (by omega) (by simp)]
    by_cases c2 : -32768 ≤ n ∧ n ≤ 32767
    · rw [if_pos c2, sPutInt_stop _ _ _ (by omega) (by omega)]
      rfl
    · rw [if_neg c2, sPutInt_go _ _ _ (by omega) (by simp), show n / 256 / 256 = n / 65536 by omega]
      by_cases c3 : -8388608 ≤ n ∧ n ≤ 8388607
      · rw [if_pos c3, sPutInt_stop _ _ _ (by omega) (by omega)]
        rfl
      · rw [if_neg c3, sPutInt_go _ _ _ (by omega) (by simp), show n / 65536 / 256 = n / 16777216 by omega, sPutInt_stop _ _ _ (by omega) (by omega)]
        rfl
theorem sPutInt_ev (n : Int) : Ev (fun k => spec_PutInt.f k n) (putInt (clip n)) := by
  refine Ev.at_ 4 fun k hk => ?_
  obtain ⟨m, rfl⟩ : ∃ m, k = m + 4 := ⟨k - 4, by omega⟩
  simp only [spec_PutInt.f, sClip_eq, Option.bind_some]
  exact sPutInt_at m _ (clip_bd n).1 (clip_bd n).2

theorem iClip_eq (n : Int) : mx (-2147483648) (mn n 2147483647) = clip n := by
  unfold mx mn clip
  split <;> split <;> (try split) <;> omega
theorem iPutInt_l1 (k : Nat) (n i : Int) (out : List Int) (s q : Int) (h0 : 0 ≤ i) (hi : wrap64 (8 * i) = s) (hs : 0 ≤ s) (hq : shr .i64 n s = q) (ho : out.length < 1000) :
    impl_PutInt.l1 (k + 1) n out i = impl_PutInt.l1 k n (out ++ [q % 256]) (wrap64 (i - 1)) := by
  simp only [impl_PutInt.l1]
  rw [if_pos h0, hi, if_pos hs, if_pos (by omega), hq]
theorem iPutInt_l1_end (k : Nat) (n : Int) (out : List Int) : impl_PutInt.l1 (k + 1) n out (-1) = some out := by
  simp only [impl_PutInt.l1]
  rw [if_neg (by omega)]
theorem shr0 (n : Int) : shr .i64 n 0 = n := by
  show n / 1 = n
  omega
theorem shr8 (n : Int) : shr .i64 n 8 = n / 256 := rfl
theorem shr16 (n : Int) : shr .i64 n 16 = n / 65536 := rfl
theorem shr24 (n : Int) : shr .i64 n 24 = n / 16777216 := rfl
theorem iPutInt_j1 (m : Nat) (n : Int) : impl_PutInt.j1 (m + 3) n 1 = some [n % 256] ∧ impl_PutInt.j1 (m + 4) n 2 = some [n / 256 % 256, n % 256] ∧
    impl_PutInt.j1 (m + 5) n 3 = some [n / 65536 % 256, n / 256 % 256, n % 256] ∧ impl_PutInt.j1 (m + 6) n 4 = some [n / 16777216 % 256, n / 65536 % 256, n / 256 % 256, n % 256] := by
  have t1 : wrap64 (1 - 1) = 0 := by decide +kernel
  have t2 : wrap64 (2 - 1) = 1 := by decide +kernel
  have t3 : wrap64 (3 - 1) = 2 := by decide +kernel
  have t4 : wrap64 (4 - 1) = 3 := by decide +kernel
  have s0 : wrap64 (0 - 1) = -1 := by decide +kernel
  have e0 : ∀ k out, out.length < 1000 → impl_PutInt.l1 (k + 2) n out 0 = some (out ++ [n % 256]) := fun k out ho => by
    rw [iPutInt_l1 (k + 1) n 0 out 0 n (by decide +kernel) (by decide +kernel) (by decide +kernel) (shr0 n) ho, s0, iPutInt_l1_end]
  have e1 : ∀ k out, out.length < 900 → impl_PutInt.l1 (k + 3) n out 1 = some (out ++ [n / 256 % 256] ++ [n % 256]) := fun k out ho => by
    rw [iPutInt_l1 (k + 2) n 1 out 8 _ (by decide +kernel) (by decide +kernel) (by decide +kernel) (shr8 n) (by omega), t1, e0 _ _ (by simp only [List.length_append, List.length_cons, List.length_nil]; omega)]
  have e2 : ∀ k out, out.length < 800 → impl_PutInt.l1 (k + 4) n out 2 = some (out ++ [n / 65536 % 256] ++ [n / 256 % 256] ++ [n % 256]) := fun k out ho => by
    rw [iPutInt_l1 (k + 3) n 2 out 16 _ (by decide +kernel) (by decide +kernel) (by decide +kernel) (shr16 n) (by omega), t2, e1 _ _ (by simp only [List.length_append, List.length_cons, List.length_nil]; omega)]
  have e3 : ∀ k out, out.length < 700 → impl_PutInt.l1 (k + 5) n out 3 = some (out ++ [n / 16777216 % 256] ++ [n / 65536 % 256] ++ [n / 256 % 256] ++ [n % 256]) := fun k out ho => by
    rw [iPutInt_l1 (k + 4) n 3 out 24 _ (by decide +kernel) (by decide +kernel) (by decide +kernel) (shr24 n) (by omega), t3, e2 _ _ (by simp only [List.length_append, List.length_cons, List.length_nil]; omega)]
  refine ⟨?_, ?_, ?_, ?_⟩
  · simp only [impl_PutInt.j1]
    rw [t1, e0 _ _ (by simp)]
    rfl
  · simp only [impl_PutInt.j1]
    rw [t2, e1 _ _ (by simp)]
    rfl
  · simp only [impl_PutInt.j1]
    rw [t3, e2 _ _ (by simp)]
    rfl
  · simp only [impl_PutInt.j1]
    rw [t4, e3 _ _ (by simp)]
    rfl
theorem iPutInt_l0 (k : Nat) (n j s lo hi : Int) (h4 : j < 4) (hs : wrap64 (wrap64 (8 * j) - 1) = s) (h0 : 0 ≤ s) (hl : shl .i64 (-1) s = lo) (hh : wrap64 (shl .i64 1 s - 1) = hi) :
    impl_PutInt.l0 (k + 1) n j = if lo ≤ n ∧ n ≤ hi then impl_PutInt.j1 k n j else impl_PutInt.l0 k n (wrap64 (j + 1)) := by
  simp only [impl_PutInt.l0]
  rw [if_pos h4, hs, if_pos h0, hl, hh, in_eq]
  simp only [Option.bind_some, decide_eq_true_eq]
theorem iPutInt_ev (n : Int) : Ev (fun k => impl_PutInt.f k n) (putInt (clip n)) := by
  refine Ev.at_ 12 fun k hk => ?_
  obtain ⟨m, rfl⟩ : ∃ m, k = m + 12 := ⟨k - 12, by omega⟩
  simp only [impl_PutInt.f]
  rw [iClip_eq]
  generalize clip n = c
  unfold putInt
  rw [iPutInt_l0 (m + 11) c 1 7 (-128) 127 (by decide +kernel) (by decide +kernel) (by decide +kernel) (by decide +kernel) (by decide +kernel)]
  by_cases c1 : -128 ≤ c ∧ c ≤ 127
  · rw [if_pos c1, if_pos c1]
    exact (iPutInt_j1 (m + 8) c).1
  · rw [if_neg c1, if_neg c1, show wrap64 (1 + 1) = 2 by decide +kernel, iPutInt_l0 (m + 10) c 2 15 (-32768) 32767 (by decide +kernel) (by decide +kernel) (by decide +kernel) (by decide +kernel) (by decide +kernel)]
    by_cases c2 : -32768 ≤ c ∧ c ≤ 32767
    · rw [if_pos c2, if_pos c2]
      exact (iPutInt_j1 (m + 6) c).2.1
    · rw [if_neg c2, if_neg c2, show wrap64 (2 + 1) = 3 by decide +kernel, iPutInt_l0 (m + 9) c 3 23 (-8388608) 8388607 (by decide +kernel) (by decide +kernel) (by decide +kernel) (by decide +kernel) (by decide +kernel)]
      by_cases c3 : -8388608 ≤ c ∧ c ≤ 8388607
      · rw [if_pos c3, if_pos c3]
        exact (iPutInt_j1 (m + 4) c).2.2.1
      · rw [if_neg c3, if_neg c3, show wrap64 (3 + 1) = 4 by decide +kernel]
        simp only [impl_PutInt.l0]
        rw [if_neg (by omega)]
        exact (iPutInt_j1 (m + 2) c).2.2.2

-- models of functions that the law does not reach
mutual
def spec_GetOid.l0 : Nat → List Int → List Int → Int → Option (List Int × Bool)
 | 0, _, _, _ => none
 | k + 1, x0, x4, x5 => if x5 < (x0.length : Int) then (spec_GetOid.j1 k x0 x4 x5 (decide ((x4.length : Int) ≤ 10))) else (spec_GetOid.j1 k x0 x4 x5 false)
def spec_GetOid.j1 : Nat → List Int → List Int → Int → Bool → Option (List Int × Bool)
 | 0, _, _, _, _ => none
 | k + 1, x0, x4, x5, x18 => if x18 = true then (spec_GetOid.l1 k x0 x4 x5 0 0 true) else (if x5 = (x0.length : Int) then ((spec_OidOk.f k x4).bind fun t517 => (if t517 = true then (some (x4, true)) else (some ((([] : List Int)), false)))) else (some ((([] : List Int)), false)))
def spec_GetOid.l1 : Nat → List Int → List Int → Int → Int → Int → Bool → Option (List Int × Bool)
 | 0, _, _, _, _, _, _ => none
 | k + 1, x0, x4, x5, x6, x7, x8 => if x8 = true then (if x5 < (x0.length : Int) then (if x7 < 4 then (if 0 ≤ x5 then (spec_GetOid.l1 k x0 x4 (wrap64 (x5 + 1)) (Go.bits .or .i64 (wrap64 (x6 * 128)) (wrap64 (Go.bits .and .u8 (rd x0 x5) 127))) (wrap64 (x7 + 1)) (decide ((rd x0 x5) > 127))) else (none)) else (some ((([] : List Int)), false))) else (some ((([] : List Int)), false))) else ((spec_l2Group.f k x6).bind fun t532 => (if (t532.length : Int) = x7 then (if x4.length < 17592186044416 then (spec_GetOid.l0 k x0 (x4 ++ [x6]) x5) else (none)) else (some ((([] : List Int)), false))))
end
def spec_GetOid.f (k : Nat) (l0 : List Int) : Option (List Int × Bool) := spec_GetOid.l0 k l0 (([] : List Int)) 0
mutual
def spec_GetInt.j0 : Nat → List Int → Int → Option (Int × Bool)
 | 0, _, _ => none
 | k + 1, x0, x4 => spec_GetInt.l0 k x0 x4 1
def spec_GetInt.l0 : Nat → List Int → Int → Int → Option (Int × Bool)
 | 0, _, _, _ => none
 | k + 1, x0, x4, x5 => if x5 < (x0.length : Int) then (if 0 ≤ x5 then (spec_GetInt.l0 k x0 (Go.bits .or .i64 (wrap64 (x4 * 256)) (wrap64 (rd x0 x5))) (wrap64 (x5 + 1))) else (none)) else ((spec_PutInt.f k x4).bind fun t495 => (if (t495.length : Int) = (x0.length : Int) then (some (x4, true)) else (some (0, false))))
end
def spec_GetInt.f (k : Nat) (l0 : List Int) : Option (Int × Bool) := (spec_l1In.f (l0.length : Int) 1 4).bind fun t492 => (if t492 = true then (if 0 < (l0.length : Int) then (if (wrap64 (rd l0 0)) > 127 then (spec_GetInt.j0 k l0 (wrap64 ((wrap64 (rd l0 0)) - 256))) else (spec_GetInt.j0 k l0 (wrap64 (rd l0 0)))) else (none)) else (some (0, false)))
mutual
def spec_GetTlv.j0 : Nat → List Int → Int → Bool → Option (Int × List Int × Int × Bool)
 | 0, _, _, _ => none
 | k + 1, x0, x1, x24 => if x24 = true then (some (0, (([] : List Int)), 0, false)) else (if 0 ≤ (wrap64 (x1 + 1)) then (if (wrap64 (x1 + 1)) < (x0.length : Int) then (if (wrap64 (rd x0 (wrap64 (x1 + 1)))) > 127 then (if (wrap64 (rd x0 (wrap64 (x1 + 1)))) = 129 then (if (wrap64 (x1 + 2)) ≥ (x0.length : Int) then (spec_GetTlv.j1 k x0 x1 (wrap64 (x1 + 2)) true) else (if 0 ≤ (wrap64 (x1 + 2)) then (if (wrap64 (x1 + 2)) < (x0.length : Int) then (spec_GetTlv.j1 k x0 x1 (wrap64 (x1 + 2)) (decide ((rd x0 (wrap64 (x1 + 2))) < 128))) else (none)) else (none))) else (spec_GetTlv.j1 k x0 x1 (wrap64 (x1 + 2)) true)) else (if (wrap64 (rd x0 (wrap64 (x1 + 1)))) > 250 then (some (0, (([] : List Int)), 0, false)) else (if (wrap64 (rd x0 (wrap64 (x1 + 1)))) > (wrap64 ((x0.length : Int) - (wrap64 (x1 + 2)))) then (some (0, (([] : List Int)), 0, false)) else (if 0 ≤ x1 then (if x1 < (x0.length : Int) then ((some (([] : List Int) : List Int)).bind fun y439 => (if 0 ≤ (wrap64 (x1 + 2)) then (if (wrap64 (x1 + 2)) ≤ (wrap64 ((wrap64 (x1 + 2)) + (wrap64 (rd x0 (wrap64 (x1 + 1)))))) then (if (wrap64 ((wrap64 (x1 + 2)) + (wrap64 (rd x0 (wrap64 (x1 + 1)))))) ≤ (x0.length : Int) then (if y439.length + ((x0.take ((wrap64 ((wrap64 (x1 + 2)) + (wrap64 (rd x0 (wrap64 (x1 + 1)))))) : Int).toNat).drop ((wrap64 (x1 + 2)) : Int).toNat).length < 140737488355328 then (some (wrap64 (rd x0 x1), (y439 ++ ((x0.take ((wrap64 ((wrap64 (x1 + 2)) + (wrap64 (rd x0 (wrap64 (x1 + 1)))))) : Int).toNat).drop ((wrap64 (x1 + 2)) : Int).toNat)), wrap64 ((wrap64 (x1 + 2)) + (wrap64 (rd x0 (wrap64 (x1 + 1))))), true)) else (none)) else (none)) else (none)) else (none))) else (none)) else (none))))) else (none)) else (none))
def spec_GetTlv.j1 : Nat → List Int → Int → Int → Bool → Option (Int × List Int × Int × Bool)
 | 0, _, _, _, _ => none
 | k + 1, x0, x1, x9, x50 => if x50 = true then (some (0, (([] : List Int)), 0, false)) else (if 0 ≤ x9 then (if x9 < (x0.length : Int) then (if (wrap64 (rd x0 x9)) > 250 then (some (0, (([] : List Int)), 0, false)) else (if (wrap64 (rd x0 x9)) > (wrap64 ((x0.length : Int) - (wrap64 (x9 + 1)))) then (some (0, (([] : List Int)), 0, false)) else (if 0 ≤ x1 then (if x1 < (x0.length : Int) then ((some (([] : List Int) : List Int)).bind fun y425 => (if 0 ≤ (wrap64 (x9 + 1)) then (if (wrap64 (x9 + 1)) ≤ (wrap64 ((wrap64 (x9 + 1)) + (wrap64 (rd x0 x9)))) then (if (wrap64 ((wrap64 (x9 + 1)) + (wrap64 (rd x0 x9)))) ≤ (x0.length : Int) then (if y425.length + ((x0.take ((wrap64 ((wrap64 (x9 + 1)) + (wrap64 (rd x0 x9)))) : Int).toNat).drop ((wrap64 (x9 + 1)) : Int).toNat).length < 140737488355328 then (some (wrap64 (rd x0 x1), (y425 ++ ((x0.take ((wrap64 ((wrap64 (x9 + 1)) + (wrap64 (rd x0 x9)))) : Int).toNat).drop ((wrap64 (x9 + 1)) : Int).toNat)), wrap64 ((wrap64 (x9 + 1)) + (wrap64 (rd x0 x9))), true)) else (none)) else (none)) else (none)) else (none))) else (none)) else (none)))) else (none)) else (none))
end
def spec_GetTlv.f (k : Nat) (l0 : List Int) (a1 : Int) : Option (Int × List Int × Int × Bool) := if a1 < 0 then (spec_GetTlv.j0 k l0 a1 true) else (if a1 ≥ (l0.length : Int) then (spec_GetTlv.j0 k l0 a1 true) else (spec_GetTlv.j0 k l0 a1 (decide ((wrap64 (a1 + 1)) ≥ (l0.length : Int)))))
def spec_GetVal.f (k : Nat) (l0 : List Int) (a1 : Int) : Option (Int × Int × ByteArray × List Int × Int × Bool) := (spec_GetTlv.f k l0 a1).bind fun bt542 => (if bt542.1 = 2 then ((spec_GetInt.f k bt542.2.1).bind fun bt549 => (if bt542.2.2.2 = true then (if bt549.2 = true then ((spec_ValOk.f k bt542.1 bt549.1 (⟨#[]⟩ : ByteArray) ([] : List Int)).bind fun t551 => (if t551 = true then (some (bt542.1, bt549.1, (⟨#[]⟩ : ByteArray), ([] : List Int), bt542.2.2.1, true)) else (some (0, 0, (⟨#[]⟩ : ByteArray), ([] : List Int), 0, false)))) else (some (0, 0, (⟨#[]⟩ : ByteArray), ([] : List Int), 0, false))) else (some (0, 0, (⟨#[]⟩ : ByteArray), ([] : List Int), 0, false)))) else (if bt542.1 = 4 then (if bt542.2.2.2 = true then ((spec_ValOk.f k bt542.1 0 (strOfNums bt542.2.1) ([] : List Int)).bind fun t552 => (if t552 = true then (some (bt542.1, 0, strOfNums bt542.2.1, ([] : List Int), bt542.2.2.1, true)) else (some (0, 0, (⟨#[]⟩ : ByteArray), ([] : List Int), 0, false)))) else (some (0, 0, (⟨#[]⟩ : ByteArray), ([] : List Int), 0, false))) else (if bt542.1 = 6 then ((spec_GetOid.f k bt542.2.1).bind fun bt553 => (if bt542.2.2.2 = true then (if bt553.2 = true then ((spec_ValOk.f k bt542.1 0 (⟨#[]⟩ : ByteArray) bt553.1).bind fun t557 => (if t557 = true then (some (bt542.1, 0, (⟨#[]⟩ : ByteArray), bt553.1, bt542.2.2.1, true)) else (some (0, 0, (⟨#[]⟩ : ByteArray), ([] : List Int), 0, false)))) else (some (0, 0, (⟨#[]⟩ : ByteArray), ([] : List Int), 0, false))) else (some (0, 0, (⟨#[]⟩ : ByteArray), ([] : List Int), 0, false)))) else (if bt542.2.2.2 = true then (if ((bt542.2.1.length : Int) = 0) then ((spec_ValOk.f k bt542.1 0 (⟨#[]⟩ : ByteArray) ([] : List Int)).bind fun t558 => (if t558 = true then (some (bt542.1, 0, (⟨#[]⟩ : ByteArray), ([] : List Int), bt542.2.2.1, true)) else (some (0, 0, (⟨#[]⟩ : ByteArray), ([] : List Int), 0, false)))) else (some (0, 0, (⟨#[]⟩ : ByteArray), ([] : List Int), 0, false))) else (some (0, 0, (⟨#[]⟩ : ByteArray), ([] : List Int), 0, false))))))
def spec_l4Part.f (k : Nat) (s0_0 : List Int) (s0_1 : Int) (s0_2 : Bool) (a1 : Int) : Option (List Int × Int × Bool) := (spec_GetTlv.f k s0_0 s0_1).bind fun bt446 => (if s0_2 = true then (some ((([] : List Int)), s0_1, true)) else (if bt446.2.2.2 = true then (if bt446.1 = a1 then (some (bt446.2.1, bt446.2.2.1, s0_2)) else (some ((([] : List Int)), s0_1, true))) else (some ((([] : List Int)), s0_1, true))))
def spec_l4Bind.f (k : Nat) (l0 : List Int) : Option (List Int × Int × Int × ByteArray × List Int × Bool) := (spec_l4Part.f k l0 0 false 6).bind fun bt561 => ((spec_GetOid.f k bt561.1).bind fun bt566 => ((spec_GetVal.f k l0 bt561.2.1).bind fun bt570 => (if bt561.2.2 = true then (some (([] : List Int), 0, 0, (⟨#[]⟩ : ByteArray), ([] : List Int), false)) else (if bt566.2 = true then (if bt570.2.2.2.2.2 = true then (if bt570.2.2.2.2.1 = (l0.length : Int) then (some (bt566.1, bt570.1, bt570.2.1, bt570.2.2.1, bt570.2.2.2.1, true)) else (some (([] : List Int), 0, 0, (⟨#[]⟩ : ByteArray), ([] : List Int), false))) else (some (([] : List Int), 0, 0, (⟨#[]⟩ : ByteArray), ([] : List Int), false))) else (some (([] : List Int), 0, 0, (⟨#[]⟩ : ByteArray), ([] : List Int), false))))))

def joinI (n x : Int) : Int := Go.bits .or .i64 (wrap64 (n * 256)) (wrap64 x)
def rawInt : List Int → Int
  | [] => 0
  | b :: rest => rest.foldl joinI (if b > 127 then b - 256 else b)
def getInt (l : List Int) : Int × Bool := if (1 ≤ (l.length : Int) ∧ (l.length : Int) ≤ 4) then (if ((putInt (clip (rawInt l))).length : Int) = (l.length : Int) then (rawInt l, true) else (0, false)) else (0, false)
theorem iGetInt_loop (all : List Int) (rest : List Int) : ∀ (pre : List Int) (n m : Int), m = (pre.length : Int) + rest.length → pre.length + rest.length ≤ 1099511627776 →
    Ev (fun k => impl_GetInt.l0 k all n (pre ++ rest) m (pre.length : Int)) (if ((putInt (clip (rest.foldl joinI n))).length : Int) = (all.length : Int) then (rest.foldl joinI n, true) else (0, false)) := by
  induction rest with
  | nil =>
    intro pre n m hm _
    simp only [List.length_nil] at hm
    show Ev _ (if ((putInt (clip n)).length : Int) = (all.length : Int) then (n, true) else (0, false))
    refine Ev.succ ?_
    simp only [impl_GetInt.l0]
    simp only [if_neg (show ¬ (pre.length : Int) < m by omega)]
    refine Ev.bind (iPutInt_ev n) ?_
    by_cases e : ((putInt (clip n)).length : Int) = (all.length : Int)
    · simp only [if_pos e]
      exact Ev.now _
    · simp only [if_neg e]
      exact Ev.now _
  | cons r rest ih =>
    intro pre n m hm hn
    simp only [List.length_cons] at hm hn
    have h := ih (pre ++ [r]) (joinI n r) m (by simp only [List.length_append, List.length_cons, List.length_nil]; omega) (by simp only [List.length_append, List.length_cons, List.length_nil]; omega)
    simp only [List.append_assoc, List.cons_append, List.nil_append] at h
    refine Ev.succ ?_
    simp only [impl_GetInt.l0]
    simp only [if_pos (show (pre.length : Int) < m by omega), if_pos (show (0 : Int) ≤ (pre.length : Int) by omega), if_pos (show (pre.length : Int) < ((pre ++ r :: rest).length : Int) by simp only [List.length_append, List.length_cons]; omega), rd_mid, w64 (x := (pre.length : Int) + 1) (by omega) (by omega), List.foldl_cons]
    rw [show ((pre ++ [r]).length : Int) = (pre.length : Int) + 1 by simp] at h
    exact h
theorem wrap8 {b : Int} (h0 : 0 ≤ b) (h1 : b ≤ 255) : IntKind.i8.wrap b = if b > 127 then b - 256 else b := by
  simp only [IntKind.wrap, IntKind.bits, IntKind.signed, Bool.true_and]
  split <;> split <;> simp_all <;> omega
theorem iGetInt_ev (l : List Int) (hb : ∀ y ∈ l, 0 ≤ y ∧ y ≤ 255) (h : l.length ≤ 1048576) : Ev (fun k => impl_GetInt.f k l) (getInt l) := by
  unfold impl_GetInt.f getInt
  simp only [in_eq, Option.bind_some, decide_eq_true_eq]
  by_cases c : 1 ≤ (l.length : Int) ∧ (l.length : Int) ≤ 4
  · simp only [if_pos c, if_pos (show 0 < (l.length : Int) by omega), if_pos (show 1 ≤ (l.length : Int) by omega)]
    cases l with
    | nil => simp at c
    | cons b rest =>
      obtain ⟨h0, h1⟩ := hb b List.mem_cons_self
      have e1 : rd (b :: rest) 0 = b := rd_mid [] rest b
      simp only [List.length_cons] at h
      have hw : wrap64 (if b > 127 then b - 256 else b) = if b > 127 then b - 256 else b := by split <;> exact w64 (by omega) (by omega)
      simp only [e1, wrap8 h0 h1, hw, rawInt, List.drop_succ_cons, List.drop_zero]
      have e := iGetInt_loop (b :: rest) rest [] (if b > 127 then b - 256 else b) (rest.length : Int) (by simp) (by simp only [List.length_nil]; omega)
      simpa using e
  · simp only [if_neg c]
    exact Ev.now _

theorem wraps_i64 (n : Int) (h0 : 0 ≤ n) (h1 : n < 2 ^ 63) : IntKind.i64.wrap n = n := by rw [IntKind.wrap_i64]; omega
theorem and127 (x : Int) (h0 : 0 ≤ x) (h1 : x < 9223372036854775808) : Go.bits .and .i64 x 127 = x % 128 :=
  Go.bits_mask .i64 63 (by decide) wraps_i64 7 (by decide) x h0 h1
theorem or128 (y : Int) (h0 : 0 ≤ y) (h1 : y < 128) : Go.bits .or .i64 y 128 = y + 128 := by
  obtain ⟨b, rfl⟩ := Int.eq_ofNat_of_zero_le h0
  have hb : b < 2 ^ 7 := by omega
  have e := (Go.bits_nat .i64 63 (by decide) wraps_i64 b 128 (by omega) (by decide)).2
  rw [show (128 : Int) = ((128 : Nat) : Int) from rfl, e, Nat.or_comm]
  have h := Nat.two_pow_add_eq_or_of_lt hb 1
  rw [show (2 : Nat) ^ 7 * 1 = 128 from rfl] at h
  rw [← h]
  omega
def group (n : Int) : List Int :=
  if n ≤ 127 then [n] else if n ≤ 16383 then [n / 128 + 128, n % 128] else [n / 16384 + 128, n / 128 % 128 + 128, n % 128]
theorem group_len (n : Int) : 1 ≤ (group n).length ∧ (group n).length ≤ 3 := by
  unfold group
  split
  · simp
  · split <;> simp
def putOid (o : List Int) : List Int := if oidOk o = true then o.flatMap group else []
theorem flat_len (o : List Int) : (o.flatMap group).length ≤ 3 * o.length := by
  induction o with
  | nil => simp
  | cons n o ih =>
    have := group_len n
    simp only [List.flatMap_cons, List.length_append, List.length_cons]
    omega
theorem putOid_len (o : List Int) : (putOid o).length ≤ 30 := by
  unfold putOid
  split
  · rename_i h
    have h1 := flat_len o
    simp only [oidOk, Bool.and_eq_true, decide_eq_true_eq] at h
    omega
  · simp
theorem oidNums_cons (n : Int) (o : List Int) (h : oidNums (n :: o) = true) : (0 ≤ n ∧ n ≤ 100000) ∧ oidNums o = true := by
  simp only [oidNums, List.all_cons, Bool.and_eq_true, decide_eq_true_eq] at h
  exact h

theorem sGroup_ev (n : Int) (h0 : 0 ≤ n) (h1 : n ≤ 100000) : Ev (fun k => spec_l2Group.f k n) (group n) := by
  unfold spec_l2Group.f
  simp only [and127 n h0 (by omega), show n % 128 % 256 = n % 128 by omega]
  refine Ev.succ ?_
  simp only [spec_l2Group.l0]
  unfold group
  by_cases c1 : n ≤ 127
  · simp only [if_neg (show ¬ n > 127 by omega), if_pos c1, show n % 128 = n by omega]
    exact Ev.now _
  · simp only [if_pos (show n > 127 by omega), if_neg c1, Option.bind_some, List.length_cons, List.length_nil, and127 (n / 128) (by omega) (by omega), or128 (n / 128 % 128) (by omega) (by omega), show (n / 128 % 128 + 128) % 256 = n / 128 % 128 + 128 by omega]
    simp only [if_pos (show 0 + 1 + (0 + 1) < 140737488355328 by omega)]
    refine Ev.succ ?_
    simp only [spec_l2Group.l0]
    by_cases c2 : n ≤ 16383
    · simp only [if_neg (show ¬ n / 128 > 127 by omega), if_pos c2, show n / 128 % 128 = n / 128 by omega]
      exact Ev.now _
    · simp only [if_pos (show n / 128 > 127 by omega), if_neg c2, Option.bind_some, List.length_cons, List.length_nil, List.length_append, show n / 128 / 128 = n / 16384 by omega, and127 (n / 16384) (by omega) (by omega), or128 (n / 16384 % 128) (by omega) (by omega), show (n / 16384 % 128 + 128) % 256 = n / 16384 + 128 by omega]
      simp only [if_pos (show 0 + 1 + (0 + 1 + (0 + 1)) < 140737488355328 by omega)]
      refine Ev.succ ?_
      simp only [spec_l2Group.l0]
      simp only [if_neg (show ¬ n / 16384 > 127 by omega)]
      exact Ev.now _
theorem sPutOid_loop (rest : List Int) : ∀ (pre out : List Int), pre.length + rest.length ≤ 1048576 → out.length ≤ 3 * pre.length → oidNums rest = true →
    Ev (fun k => spec_PutOid.l0 k (pre ++ rest) out (pre.length : Int)) (out ++ rest.flatMap group) := by
  induction rest with
  | nil =>
    intro pre out _ _ _
    refine Ev.succ ?_
    simp only [spec_PutOid.l0]
    simp only [List.append_nil, if_neg (show ¬ (pre.length : Int) < (pre.length : Int) by omega), List.flatMap_nil]
    exact Ev.now _
  | cons r rest ih =>
    intro pre out hn ho hw
    simp only [List.length_cons] at hn
    obtain ⟨hr, hw⟩ := oidNums_cons r rest hw
    have hg := group_len r
    have h := ih (pre ++ [r]) (out ++ group r) (by simp only [List.length_append, List.length_cons, List.length_nil]; omega) (by simp only [List.length_append, List.length_cons, List.length_nil]; omega) hw
    simp only [List.append_assoc, List.cons_append, List.nil_append] at h
    rw [show ((pre ++ [r]).length : Int) = (pre.length : Int) + 1 by simp] at h
    refine Ev.succ ?_
    simp only [spec_PutOid.l0]
    simp only [if_pos (show (pre.length : Int) < ((pre ++ r :: rest).length : Int) by simp only [List.length_append, List.length_cons]; omega), if_pos (show (0 : Int) ≤ (pre.length : Int) by omega), rd_mid, w64 (x := (pre.length : Int) + 1) (by omega) (by omega)]
    refine Ev.bind (sGroup_ev r hr.1 hr.2) ?_
    simp only [if_pos (show out.length + (group r).length < 140737488355328 by omega), List.flatMap_cons]
    exact h
theorem sPutOid_ev (o : List Int) (h : o.length ≤ 1048576) : Ev (fun k => spec_PutOid.f k o) (putOid o) := by
  unfold spec_PutOid.f putOid
  simp only [Option.bind_some]
  refine Ev.bind (sOidOk_ev o (by omega)) ?_
  by_cases c : oidOk o = true
  · simp only [if_pos c]
    have c' := c
    simp only [oidOk, Bool.and_eq_true] at c'
    have e := sPutOid_loop o [] [] (by simp only [List.length_nil]; omega) (by simp) c'.1
    simpa using e
  · simp only [if_neg c]
    exact Ev.now _

theorem shr7 (n : Int) : shr .i64 n 7 = n / 128 := rfl
theorem shr14 (n : Int) : shr .i64 n 14 = n / 16384 := rfl
theorem shrz (n : Int) : shr .i64 n 0 = n := by
  show n / 1 = n
  omega
theorem iGroup_ev (n : Int) (h0 : 0 ≤ n) (h1 : n ≤ 100000) (out xs : List Int) (m i : Int) (r : List Int) (ho : out.length ≤ 100000000) (h : Ev (fun k => impl_PutOid.l0 k (out ++ group n) xs m (wrap64 (i + 1))) r) :
    Ev (fun k => impl_PutOid.l1 k out n 0 xs m i) r := by
  have a0 : wrap64 (7 * 0) = 0 := by decide +kernel
  have a1 : wrap64 (7 * 1) = 7 := by decide +kernel
  have a2 : wrap64 (7 * 2) = 14 := by decide +kernel
  have b1 : wrap64 (0 + 1) = 1 := by decide +kernel
  have b2 : wrap64 (1 + 1) = 2 := by decide +kernel
  have d1 : wrap64 (1 - 1) = 0 := by decide +kernel
  have d2 : wrap64 (2 - 1) = 1 := by decide +kernel
  have z : (0 : Int) ≤ 0 := by decide
  have z7 : (0 : Int) ≤ 7 := by decide
  have z14 : (0 : Int) ≤ 14 := by decide
  unfold group at h
  refine Ev.succ ?_
  simp only [impl_PutOid.l1]
  simp only [a0, shrz, if_pos z, b1]
  by_cases c1 : n ≤ 127
  · simp only [if_neg (show ¬ n > 127 by omega)]
    simp only [if_pos c1] at h
    refine Ev.succ ?_
    simp only [impl_PutOid.l2]
    simp only [if_neg (show ¬ (0 : Int) > 0 by omega), if_pos (show out.length < 140737488355328 by omega), and127 n h0 (by omega), show n % 128 % 256 = n by omega]
    exact h
  · simp only [if_pos (show n > 127 by omega)]
    simp only [if_neg c1] at h
    refine Ev.succ ?_
    simp only [impl_PutOid.l1]
    simp only [a1, shr7, if_pos z7, b2]
    by_cases c2 : n ≤ 16383
    · simp only [if_neg (show ¬ n / 128 > 127 by omega)]
      simp only [if_pos c2] at h
      refine Ev.succ ?_
      simp only [impl_PutOid.l2]
      simp only [if_pos (show (1 : Int) > 0 by omega), a1, if_pos z7, shr7, if_pos (show out.length < 140737488355328 by omega), d1, and127 (n / 128) (by omega) (by omega)]
      rw [w64 (by omega) (by omega), show (n / 128 % 128 + 128) % 256 = n / 128 + 128 by omega]
      refine Ev.succ ?_
      simp only [impl_PutOid.l2]
      simp only [if_neg (show ¬ (0 : Int) > 0 by omega), List.length_append, List.length_cons, List.length_nil, if_pos (show out.length + (0 + 1) < 140737488355328 by omega), and127 n h0 (by omega), show n % 128 % 256 = n % 128 by omega, List.append_assoc, List.cons_append, List.nil_append]
      exact h
    · simp only [if_pos (show n / 128 > 127 by omega)]
      simp only [if_neg c2] at h
      refine Ev.succ ?_
      simp only [impl_PutOid.l1]
      simp only [a2, shr14, if_pos z14, if_neg (show ¬ n / 16384 > 127 by omega)]
      refine Ev.succ ?_
      simp only [impl_PutOid.l2]
      simp only [if_pos (show (2 : Int) > 0 by omega), a2, if_pos z14, shr14, if_pos (show out.length < 140737488355328 by omega), d2, and127 (n / 16384) (by omega) (by omega)]
      rw [w64 (by omega) (by omega), show (n / 16384 % 128 + 128) % 256 = n / 16384 + 128 by omega]
      refine Ev.succ ?_
      simp only [impl_PutOid.l2]
      simp only [if_pos (show (1 : Int) > 0 by omega), a1, if_pos z7, shr7, List.length_append, List.length_cons, List.length_nil, if_pos (show out.length + (0 + 1) < 140737488355328 by omega), d1, and127 (n / 128) (by omega) (by omega)]
      rw [w64 (by omega) (by omega), show (n / 128 % 128 + 128) % 256 = n / 128 % 128 + 128 by omega]
      refine Ev.succ ?_
      simp only [impl_PutOid.l2]
      simp only [if_neg (show ¬ (0 : Int) > 0 by omega), List.length_append, List.length_cons, List.length_nil, if_pos (show out.length + (0 + 1) + (0 + 1) < 140737488355328 by omega), and127 n h0 (by omega), show n % 128 % 256 = n % 128 by omega, List.append_assoc, List.cons_append, List.nil_append]
      exact h
theorem iPutOid_loop (rest : List Int) : ∀ (pre out : List Int) (m : Int), m = (pre.length : Int) + rest.length → pre.length + rest.length ≤ 1048576 → out.length ≤ 3 * pre.length → oidNums rest = true →
    Ev (fun k => impl_PutOid.l0 k out (pre ++ rest) m (pre.length : Int)) (out ++ rest.flatMap group) := by
  induction rest with
  | nil =>
    intro pre out m hm _ _ _
    simp only [List.length_nil] at hm
    refine Ev.succ ?_
    simp only [impl_PutOid.l0]
    simp only [if_neg (show ¬ (pre.length : Int) < m by omega), List.flatMap_nil, List.append_nil]
    exact Ev.now _
  | cons r rest ih =>
    intro pre out m hm hn ho hw
    simp only [List.length_cons] at hm hn
    obtain ⟨hr, hw⟩ := oidNums_cons r rest hw
    have hg := group_len r
    have h := ih (pre ++ [r]) (out ++ group r) m (by simp only [List.length_append, List.length_cons, List.length_nil]; omega) (by simp only [List.length_append, List.length_cons, List.length_nil]; omega) (by simp only [List.length_append, List.length_cons, List.length_nil]; omega) hw
    simp only [List.append_assoc, List.cons_append, List.nil_append] at h
    rw [show ((pre ++ [r]).length : Int) = (pre.length : Int) + 1 by simp] at h
    refine Ev.succ ?_
    simp only [impl_PutOid.l0]
    simp only [if_pos (show (pre.length : Int) < m by omega), if_pos (show (0 : Int) ≤ (pre.length : Int) by omega), if_pos (show (pre.length : Int) < ((pre ++ r :: rest).length : Int) by simp only [List.length_append, List.length_cons]; omega), rd_mid]
    refine iGroup_ev r hr.1 hr.2 out _ m _ _ (by omega) ?_
    rw [w64 (by omega) (by omega), List.flatMap_cons]
    exact h
theorem iPutOid_ev (o : List Int) (h : o.length ≤ 1048576) : Ev (fun k => impl_PutOid.f k o) (putOid o) := by
  unfold impl_PutOid.f putOid
  refine Ev.bind (iOidOk_ev o (by omega)) ?_
  by_cases c : oidOk o = true
  · simp only [if_pos c]
    have c' := c
    simp only [oidOk, Bool.and_eq_true] at c'
    have e := iPutOid_loop o [] [] (o.length : Int) (by simp) (by simp only [List.length_nil]; omega) (by simp) c'.1
    simpa using e
  · simp only [if_neg c]
    exact Ev.now _

theorem strNums_toList (a : List Int) : (strOfNums a).toList = a.map fun n => UInt8.ofNat n.toNat := by
  unfold strOfNums
  exact ByteArray.toList_mk _
theorem byte_inj (a b : Int) (ha : 0 ≤ a ∧ a ≤ 255) (hb : 0 ≤ b ∧ b ≤ 255) (h : UInt8.ofNat a.toNat = UInt8.ofNat b.toNat) : a = b := by
  have e := congrArg UInt8.toNat h
  simp only [UInt8.toNat_ofNat'] at e
  omega
theorem map_byte_inj : ∀ (a b : List Int), (∀ y ∈ a, 0 ≤ y ∧ y ≤ 255) → (∀ y ∈ b, 0 ≤ y ∧ y ≤ 255) → (a.map fun n => UInt8.ofNat n.toNat) = (b.map fun n => UInt8.ofNat n.toNat) → a = b
  | [], [], _, _, _ => rfl
  | [], _ :: _, _, _, h => by simp at h
  | _ :: _, [], _, _, h => by simp at h
  | x :: a, y :: b, ha, hb, h => by
    simp only [List.map_cons, List.cons.injEq] at h
    rw [byte_inj x y (ha x List.mem_cons_self) (hb y List.mem_cons_self) h.1, map_byte_inj a b (fun z hz => ha z (List.mem_cons_of_mem _ hz)) (fun z hz => hb z (List.mem_cons_of_mem _ hz)) h.2]
theorem strNums_inj (a b : List Int) (ha : ∀ y ∈ a, 0 ≤ y ∧ y ≤ 255) (hb : ∀ y ∈ b, 0 ≤ y ∧ y ≤ 255) (h : (strOfNums a).toList = (strOfNums b).toList) : a = b := by
  rw [strNums_toList, strNums_toList] at h
  exact map_byte_inj a b ha hb h

theorem wraps_u8 (n : Int) (h0 : 0 ≤ n) (h1 : n < 2 ^ 8) : IntKind.u8.wrap n = n := by
  simp only [IntKind.wrap, IntKind.bits, IntKind.signed, Bool.false_and]
  simp
  omega
theorem and127b (x : Int) (h0 : 0 ≤ x) (h1 : x ≤ 255) : Go.bits .and .u8 x 127 = x % 128 :=
  Go.bits_mask .u8 8 (by decide) wraps_u8 7 (by decide) x h0 (by omega)
theorem join7 (n b : Int) (h0 : 0 ≤ n) (h1 : n < 4398046511104) (hb : 0 ≤ b) (hb1 : b < 128) : Go.bits .or .i64 (n * 128) b = n * 128 + b :=
  Go.bits_join .i64 63 (by decide) wraps_i64 7 (n * 128) b (by omega) (by omega) (by omega) hb (by omega) (by omega)
def bytes (l : List Int) : Prop := ∀ y ∈ l, 0 ≤ y ∧ y ≤ 255
theorem bytes_cons {b : Int} {l : List Int} (h : bytes (b :: l)) : (0 ≤ b ∧ b ≤ 255) ∧ bytes l :=
  ⟨h b List.mem_cons_self, fun y hy => h y (List.mem_cons_of_mem _ hy)⟩
def group4 (n : Int) : List Int :=
  if n ≤ 127 then [n] else if n ≤ 16383 then [n / 128 + 128, n % 128] else if n ≤ 2097151 then [n / 16384 + 128, n / 128 % 128 + 128, n % 128] else [n / 2097152 + 128, n / 16384 % 128 + 128, n / 128 % 128 + 128, n % 128]
theorem group4_small (n : Int) (h : n ≤ 100000) : group4 n = group n := by
  unfold group4 group
  by_cases c1 : n ≤ 127
  · simp only [if_pos c1]
  · simp only [if_neg c1]
    by_cases c2 : n ≤ 16383
    · simp only [if_pos c2]
    · simp only [if_neg c2, if_pos (show n ≤ 2097151 by omega)]
theorem sGroup4_ev (n : Int) (h0 : 0 ≤ n) (h1 : n < 268435456) : Ev (fun k => spec_l2Group.f k n) (group4 n) := by
  unfold spec_l2Group.f
  simp only [and127 n h0 (by omega), show n % 128 % 256 = n % 128 by omega]
  refine Ev.succ ?_
  simp only [spec_l2Group.l0]
  unfold group4
  by_cases c1 : n ≤ 127
  · simp only [if_neg (show ¬ n > 127 by omega), if_pos c1, show n % 128 = n by omega]
    exact Ev.now _
  · simp only [if_pos (show n > 127 by omega), if_neg c1, Option.bind_some, List.length_cons, List.length_nil, and127 (n / 128) (by omega) (by omega), or128 (n / 128 % 128) (by omega) (by omega), show (n / 128 % 128 + 128) % 256 = n / 128 % 128 + 128 by omega]
    simp only [if_pos (show 0 + 1 + (0 + 1) < 140737488355328 by omega)]
    refine Ev.succ ?_
    simp only [spec_l2Group.l0]
    by_cases c2 : n ≤ 16383
    · simp only [if_neg (show ¬ n / 128 > 127 by omega), if_pos c2, show n / 128 % 128 = n / 128 by omega]
      exact Ev.now _
    · simp only [if_pos (show n / 128 > 127 by omega), if_neg c2, Option.bind_some, List.length_cons, List.length_nil, List.length_append, show n / 128 / 128 = n / 16384 by omega, and127 (n / 16384) (by omega) (by omega), or128 (n / 16384 % 128) (by omega) (by omega), show (n / 16384 % 128 + 128) % 256 = n / 16384 % 128 + 128 by omega]
      simp only [if_pos (show 0 + 1 + (0 + 1 + (0 + 1)) < 140737488355328 by omega)]
      refine Ev.succ ?_
      simp only [spec_l2Group.l0]
      by_cases c3 : n ≤ 2097151
      · simp only [if_neg (show ¬ n / 16384 > 127 by omega), if_pos c3, show n / 16384 % 128 = n / 16384 by omega]
        exact Ev.now _
      · simp only [if_pos (show n / 16384 > 127 by omega), if_neg c3, Option.bind_some, List.length_cons, List.length_nil, List.length_append, show n / 16384 / 128 = n / 2097152 by omega, and127 (n / 2097152) (by omega) (by omega), or128 (n / 2097152 % 128) (by omega) (by omega), show (n / 2097152 % 128 + 128) % 256 = n / 2097152 + 128 by omega]
        simp only [if_pos (show 0 + 1 + (0 + 1 + (0 + 1 + (0 + 1))) < 140737488355328 by omega)]
        refine Ev.succ ?_
        simp only [spec_l2Group.l0]
        simp only [if_neg (show ¬ n / 2097152 > 127 by omega)]
        exact Ev.now _
theorem g4_len (n : Int) : 1 ≤ (group4 n).length := by
  unfold group4
  split
  · simp
  · split
    · simp
    · split <;> simp
theorem so_go (pre rest x4 : List Int) (b n c : Int) (r : List Int × Bool) (hp : pre.length + rest.length ≤ 1048576) (hb : 0 ≤ b ∧ b ≤ 255) (hn : 0 ≤ n ∧ n < 2097152) (hc : 0 ≤ c ∧ c < 4)
    (h : Ev (fun k => spec_GetOid.l1 k ((pre ++ [b]) ++ rest) x4 ((pre ++ [b]).length : Int) (n * 128 + b % 128) (c + 1) (decide (b > 127))) r) :
    Ev (fun k => spec_GetOid.l1 k (pre ++ b :: rest) x4 (pre.length : Int) n c true) r := by
  refine Ev.succ ?_
  simp only [spec_GetOid.l1]
  simp only [if_true, if_pos (show (pre.length : Int) < ((pre ++ b :: rest).length : Int) by simp only [List.length_append, List.length_cons]; omega), if_pos hc.2, if_pos (show (0 : Int) ≤ (pre.length : Int) by omega), rd_mid, and127b b hb.1 hb.2, w64 (x := b % 128) (by omega) (by omega), w64 (x := n * 128) (by omega) (by omega), join7 n (b % 128) hn.1 (by omega) (by omega) (by omega), w64 (x := (pre.length : Int) + 1) (by omega) (by omega), w64 (x := c + 1) (by omega) (by omega)]
  simp only [List.append_assoc, List.cons_append, List.nil_append] at h
  rw [show ((pre ++ [b]).length : Int) = (pre.length : Int) + 1 by simp] at h
  exact h
theorem so_end (pre x4 : List Int) (n c : Int) : Ev (fun k => spec_GetOid.l1 k (pre ++ []) x4 (pre.length : Int) n c true) ([], false) := by
  refine Ev.succ ?_
  simp only [spec_GetOid.l1]
  simp only [if_true, List.append_nil, if_neg (show ¬ (pre.length : Int) < (pre.length : Int) by omega)]
  exact Ev.now _
theorem so_full (l x4 : List Int) (p n : Int) : Ev (fun k => spec_GetOid.l1 k l x4 p n 4 true) ([], false) := by
  refine Ev.succ ?_
  simp only [spec_GetOid.l1]
  simp only [if_true, if_neg (show ¬ (4 : Int) < 4 by omega), ite_self]
  exact Ev.now _
theorem so_out (l x4 : List Int) (p n c : Int) (r : List Int × Bool) (hn : 0 ≤ n ∧ n < 268435456) (h4 : x4.length ≤ 1048576) (hc : ((group4 n).length : Int) = c) (h : Ev (fun k => spec_GetOid.l0 k l (x4 ++ [n]) p) r) :
    Ev (fun k => spec_GetOid.l1 k l x4 p n c false) r := by
  refine Ev.succ ?_
  simp only [spec_GetOid.l1]
  simp only [Bool.false_eq_true, if_false]
  refine Ev.bind (sGroup4_ev n hn.1 hn.2) ?_
  simp only [if_pos hc, if_pos (show x4.length < 17592186044416 by omega)]
  exact h
theorem so_bad (l x4 : List Int) (p n c : Int) (hn : 0 ≤ n ∧ n < 268435456) (hc : ¬ ((group4 n).length : Int) = c) :
    Ev (fun k => spec_GetOid.l1 k l x4 p n c false) ([], false) := by
  refine Ev.succ ?_
  simp only [spec_GetOid.l1]
  simp only [Bool.false_eq_true, if_false]
  refine Ev.bind (sGroup4_ev n hn.1 hn.2) ?_
  simp only [if_neg hc]
  exact Ev.now _
theorem g4_1 (n : Int) (h : n ≤ 127) : group4 n = [n] := by unfold group4; rw [if_pos h]
theorem g4_2 (n : Int) (h0 : 127 < n) (h : n ≤ 16383) : group4 n = [n / 128 + 128, n % 128] := by unfold group4; rw [if_neg (by omega), if_pos h]
theorem g4_3 (n : Int) (h0 : 16383 < n) (h : n ≤ 2097151) : group4 n = [n / 16384 + 128, n / 128 % 128 + 128, n % 128] := by unfold group4; rw [if_neg (by omega), if_neg (by omega), if_pos h]
theorem g4_4 (n : Int) (h0 : 2097151 < n) : group4 n = [n / 2097152 + 128, n / 16384 % 128 + 128, n / 128 % 128 + 128, n % 128] := by unfold group4; rw [if_neg (by omega), if_neg (by omega), if_neg (by omega)]
/- one arc out of what is left: either the bytes are an arc's shortest form and the loop goes on behind them, or the answer is no -/
theorem so_any (rest pre x4 : List Int) (hw : bytes rest) (hl : pre.length + rest.length ≤ 1048576) (h4 : x4.length ≤ 1048576) :
    (∃ n rest', 0 ≤ n ∧ n < 268435456 ∧ rest = group4 n ++ rest' ∧ ∀ r, Ev (fun k => spec_GetOid.l0 k ((pre ++ group4 n) ++ rest') (x4 ++ [n]) ((pre ++ group4 n).length : Int)) r → Ev (fun k => spec_GetOid.l1 k (pre ++ rest) x4 (pre.length : Int) 0 0 true) r) ∨
    Ev (fun k => spec_GetOid.l1 k (pre ++ rest) x4 (pre.length : Int) 0 0 true) ([], false) := by
  rcases rest with _ | ⟨b1, rest⟩
  · exact Or.inr (so_end pre x4 0 0)
  obtain ⟨hb1, hw⟩ := bytes_cons hw
  simp only [List.length_cons] at hl
  by_cases c1 : b1 > 127
  rotate_left
  · left
    refine ⟨b1, rest, hb1.1, by omega, by rw [g4_1 b1 (by omega)]; rfl, fun r h => ?_⟩
    refine so_go pre rest x4 b1 0 0 r (by omega) hb1 (by omega) (by omega) ?_
    rw [decide_eq_false c1, show (0 : Int) * 128 + b1 % 128 = b1 by omega, show (0 : Int) + 1 = 1 by omega]
    rw [g4_1 b1 (by omega)] at h
    exact so_out _ x4 _ b1 1 r (by omega) h4 (by rw [g4_1 b1 (by omega)]; rfl) h
  rcases rest with _ | ⟨b2, rest⟩
  · right
    refine so_go pre [] x4 b1 0 0 _ (by simp only [List.length_nil]; omega) hb1 (by omega) (by omega) ?_
    rw [decide_eq_true c1]
    exact so_end _ x4 _ _
  obtain ⟨hb2, hw⟩ := bytes_cons hw
  simp only [List.length_cons] at hl
  have p1 : (pre ++ [b1]).length = pre.length + 1 := by simp
  by_cases c2 : b2 > 127
  rotate_left
  · by_cases d : (b1 - 128) * 128 + b2 > 127
    · left
      have g := g4_2 ((b1 - 128) * 128 + b2) (by omega) (by omega)
      rw [show ((b1 - 128) * 128 + b2) / 128 + 128 = b1 by omega, show ((b1 - 128) * 128 + b2) % 128 = b2 by omega] at g
      refine ⟨(b1 - 128) * 128 + b2, rest, by omega, by omega, by rw [g]; rfl, fun r h => ?_⟩
      refine so_go pre (b2 :: rest) x4 b1 0 0 r (by simp only [List.length_cons]; omega) hb1 (by omega) (by omega) ?_
      rw [decide_eq_true c1]
      refine so_go (pre ++ [b1]) rest x4 b2 _ _ r (by omega) hb2 (by omega) (by omega) ?_
      rw [decide_eq_false c2, show ((0 : Int) * 128 + b1 % 128) * 128 + b2 % 128 = (b1 - 128) * 128 + b2 by omega, show (0 : Int) + 1 + 1 = 2 by omega]
      rw [g, show pre ++ [b1, b2] = pre ++ [b1] ++ [b2] by simp] at h
      exact so_out _ x4 _ _ 2 r (by omega) h4 (by rw [g]; rfl) h
    · right
      refine so_go pre (b2 :: rest) x4 b1 0 0 _ (by simp only [List.length_cons]; omega) hb1 (by omega) (by omega) ?_
      rw [decide_eq_true c1]
      refine so_go (pre ++ [b1]) rest x4 b2 _ _ _ (by omega) hb2 (by omega) (by omega) ?_
      rw [decide_eq_false c2]
      refine so_bad _ x4 _ _ _ (by omega) ?_
      rw [g4_1 _ (by omega)]
      simp
  rcases rest with _ | ⟨b3, rest⟩
  · right
    refine so_go pre [b2] x4 b1 0 0 _ (by simp only [List.length_cons, List.length_nil]; omega) hb1 (by omega) (by omega) ?_
    rw [decide_eq_true c1]
    refine so_go (pre ++ [b1]) [] x4 b2 _ _ _ (by simp only [List.length_nil]; omega) hb2 (by omega) (by omega) ?_
    rw [decide_eq_true c2]
    exact so_end _ x4 _ _
  obtain ⟨hb3, hw⟩ := bytes_cons hw
  simp only [List.length_cons] at hl
  have p2 : (pre ++ [b1] ++ [b2]).length = pre.length + 2 := by simp
  by_cases c3 : b3 > 127
  rotate_left
  · by_cases d : ((b1 - 128) * 128 + (b2 - 128)) * 128 + b3 > 16383
    · left
      have g := g4_3 (((b1 - 128) * 128 + (b2 - 128)) * 128 + b3) (by omega) (by omega)
      rw [show (((b1 - 128) * 128 + (b2 - 128)) * 128 + b3) / 16384 + 128 = b1 by omega, show (((b1 - 128) * 128 + (b2 - 128)) * 128 + b3) / 128 % 128 + 128 = b2 by omega, show (((b1 - 128) * 128 + (b2 - 128)) * 128 + b3) % 128 = b3 by omega] at g
      refine ⟨((b1 - 128) * 128 + (b2 - 128)) * 128 + b3, rest, by omega, by omega, by rw [g]; rfl, fun r h => ?_⟩
      refine so_go pre (b2 :: b3 :: rest) x4 b1 0 0 r (by simp only [List.length_cons]; omega) hb1 (by omega) (by omega) ?_
      rw [decide_eq_true c1]
      refine so_go (pre ++ [b1]) (b3 :: rest) x4 b2 _ _ r (by simp only [List.length_cons]; omega) hb2 (by omega) (by omega) ?_
      rw [decide_eq_true c2]
      refine so_go (pre ++ [b1] ++ [b2]) rest x4 b3 _ _ r (by omega) hb3 (by omega) (by omega) ?_
      rw [decide_eq_false c3, show (((0 : Int) * 128 + b1 % 128) * 128 + b2 % 128) * 128 + b3 % 128 = ((b1 - 128) * 128 + (b2 - 128)) * 128 + b3 by omega, show (0 : Int) + 1 + 1 + 1 = 3 by omega]
      rw [g, show pre ++ [b1, b2, b3] = pre ++ [b1] ++ [b2] ++ [b3] by simp] at h
      exact so_out _ x4 _ _ 3 r (by omega) h4 (by rw [g]; rfl) h
    · right
      refine so_go pre (b2 :: b3 :: rest) x4 b1 0 0 _ (by simp only [List.length_cons]; omega) hb1 (by omega) (by omega) ?_
      rw [decide_eq_true c1]
      refine so_go (pre ++ [b1]) (b3 :: rest) x4 b2 _ _ _ (by simp only [List.length_cons]; omega) hb2 (by omega) (by omega) ?_
      rw [decide_eq_true c2]
      refine so_go (pre ++ [b1] ++ [b2]) rest x4 b3 _ _ _ (by omega) hb3 (by omega) (by omega) ?_
      rw [decide_eq_false c3]
      refine so_bad _ x4 _ _ _ (by omega) ?_
      by_cases e : (((0 : Int) * 128 + b1 % 128) * 128 + b2 % 128) * 128 + b3 % 128 ≤ 127
      · rw [g4_1 _ e]; simp
      · rw [g4_2 _ (by omega) (by omega)]; simp
  rcases rest with _ | ⟨b4, rest⟩
  · right
    refine so_go pre [b2, b3] x4 b1 0 0 _ (by simp only [List.length_cons, List.length_nil]; omega) hb1 (by omega) (by omega) ?_
    rw [decide_eq_true c1]
    refine so_go (pre ++ [b1]) [b3] x4 b2 _ _ _ (by simp only [List.length_cons, List.length_nil]; omega) hb2 (by omega) (by omega) ?_
    rw [decide_eq_true c2]
    refine so_go (pre ++ [b1] ++ [b2]) [] x4 b3 _ _ _ (by simp only [List.length_nil]; omega) hb3 (by omega) (by omega) ?_
    rw [decide_eq_true c3]
    exact so_end _ x4 _ _
  obtain ⟨hb4, hw⟩ := bytes_cons hw
  simp only [List.length_cons] at hl
  have p3 : (pre ++ [b1] ++ [b2] ++ [b3]).length = pre.length + 3 := by simp
  by_cases c4 : b4 > 127
  rotate_left
  · by_cases d : (((b1 - 128) * 128 + (b2 - 128)) * 128 + (b3 - 128)) * 128 + b4 > 2097151
    · left
      have g := g4_4 ((((b1 - 128) * 128 + (b2 - 128)) * 128 + (b3 - 128)) * 128 + b4) (by omega)
      rw [show ((((b1 - 128) * 128 + (b2 - 128)) * 128 + (b3 - 128)) * 128 + b4) / 2097152 + 128 = b1 by omega, show ((((b1 - 128) * 128 + (b2 - 128)) * 128 + (b3 - 128)) * 128 + b4) / 16384 % 128 + 128 = b2 by omega, show ((((b1 - 128) * 128 + (b2 - 128)) * 128 + (b3 - 128)) * 128 + b4) / 128 % 128 + 128 = b3 by omega, show ((((b1 - 128) * 128 + (b2 - 128)) * 128 + (b3 - 128)) * 128 + b4) % 128 = b4 by omega] at g
      refine ⟨(((b1 - 128) * 128 + (b2 - 128)) * 128 + (b3 - 128)) * 128 + b4, rest, by omega, by omega, by rw [g]; rfl, fun r h => ?_⟩
      refine so_go pre (b2 :: b3 :: b4 :: rest) x4 b1 0 0 r (by simp only [List.length_cons]; omega) hb1 (by omega) (by omega) ?_
      rw [decide_eq_true c1]
      refine so_go (pre ++ [b1]) (b3 :: b4 :: rest) x4 b2 _ _ r (by simp only [List.length_cons]; omega) hb2 (by omega) (by omega) ?_
      rw [decide_eq_true c2]
      refine so_go (pre ++ [b1] ++ [b2]) (b4 :: rest) x4 b3 _ _ r (by simp only [List.length_cons]; omega) hb3 (by omega) (by omega) ?_
      rw [decide_eq_true c3]
      refine so_go (pre ++ [b1] ++ [b2] ++ [b3]) rest x4 b4 _ _ r (by omega) hb4 (by omega) (by omega) ?_
      rw [decide_eq_false c4, show ((((0 : Int) * 128 + b1 % 128) * 128 + b2 % 128) * 128 + b3 % 128) * 128 + b4 % 128 = (((b1 - 128) * 128 + (b2 - 128)) * 128 + (b3 - 128)) * 128 + b4 by omega, show (0 : Int) + 1 + 1 + 1 + 1 = 4 by omega]
      rw [g, show pre ++ [b1, b2, b3, b4] = pre ++ [b1] ++ [b2] ++ [b3] ++ [b4] by simp] at h
      exact so_out _ x4 _ _ 4 r (by omega) h4 (by rw [g]; rfl) h
    · right
      refine so_go pre (b2 :: b3 :: b4 :: rest) x4 b1 0 0 _ (by simp only [List.length_cons]; omega) hb1 (by omega) (by omega) ?_
      rw [decide_eq_true c1]
      refine so_go (pre ++ [b1]) (b3 :: b4 :: rest) x4 b2 _ _ _ (by simp only [List.length_cons]; omega) hb2 (by omega) (by omega) ?_
      rw [decide_eq_true c2]
      refine so_go (pre ++ [b1] ++ [b2]) (b4 :: rest) x4 b3 _ _ _ (by simp only [List.length_cons]; omega) hb3 (by omega) (by omega) ?_
      rw [decide_eq_true c3]
      refine so_go (pre ++ [b1] ++ [b2] ++ [b3]) rest x4 b4 _ _ _ (by omega) hb4 (by omega) (by omega) ?_
      rw [decide_eq_false c4]
      refine so_bad _ x4 _ _ _ (by omega) ?_
      by_cases e : ((((0 : Int) * 128 + b1 % 128) * 128 + b2 % 128) * 128 + b3 % 128) * 128 + b4 % 128 ≤ 127
      · rw [g4_1 _ e]; simp
      · by_cases e2 : ((((0 : Int) * 128 + b1 % 128) * 128 + b2 % 128) * 128 + b3 % 128) * 128 + b4 % 128 ≤ 16383
        · rw [g4_2 _ (by omega) e2]; simp
        · rw [g4_3 _ (by omega) (by omega)]; simp
  · right
    refine so_go pre (b2 :: b3 :: b4 :: rest) x4 b1 0 0 _ (by simp only [List.length_cons]; omega) hb1 (by omega) (by omega) ?_
    rw [decide_eq_true c1]
    refine so_go (pre ++ [b1]) (b3 :: b4 :: rest) x4 b2 _ _ _ (by simp only [List.length_cons]; omega) hb2 (by omega) (by omega) ?_
    rw [decide_eq_true c2]
    refine so_go (pre ++ [b1] ++ [b2]) (b4 :: rest) x4 b3 _ _ _ (by simp only [List.length_cons]; omega) hb3 (by omega) (by omega) ?_
    rw [decide_eq_true c3]
    refine so_go (pre ++ [b1] ++ [b2] ++ [b3]) rest x4 b4 _ _ _ (by omega) hb4 (by omega) (by omega) ?_
    rw [decide_eq_true c4, show (0 : Int) + 1 + 1 + 1 + 1 = 4 by omega]
    exact so_full _ x4 _ _

theorem so_fwd (n : Int) (hn : 0 ≤ n ∧ n ≤ 100000) (pre rest x4 : List Int) (r : List Int × Bool) (hl : pre.length + 3 + rest.length ≤ 1048576) (h4 : x4.length ≤ 1048576)
    (h : Ev (fun k => spec_GetOid.l0 k ((pre ++ group n) ++ rest) (x4 ++ [n]) ((pre ++ group n).length : Int)) r) :
    Ev (fun k => spec_GetOid.l1 k (pre ++ (group n ++ rest)) x4 (pre.length : Int) 0 0 true) r := by
  have p1 (b : Int) : (pre ++ [b]).length = pre.length + 1 := by simp
  have p2 (b c : Int) : (pre ++ [b] ++ [c]).length = pre.length + 2 := by simp
  rw [← group4_small n hn.2] at h ⊢
  by_cases c1 : n ≤ 127
  · rw [g4_1 n c1] at h ⊢
    refine so_go pre rest x4 n 0 0 r (by omega) (by omega) (by omega) (by omega) ?_
    rw [decide_eq_false (show ¬ n > 127 by omega), show (0 : Int) * 128 + n % 128 = n by omega, show (0 : Int) + 1 = 1 by omega]
    exact so_out _ x4 _ n 1 r (by omega) h4 (by rw [g4_1 n c1]; rfl) h
  · by_cases c2 : n ≤ 16383
    · have g := g4_2 n (by omega) c2
      rw [g] at h ⊢
      refine so_go pre (n % 128 :: rest) x4 (n / 128 + 128) 0 0 r (by simp only [List.length_cons]; omega) (by omega) (by omega) (by omega) ?_
      rw [decide_eq_true (show n / 128 + 128 > 127 by omega)]
      refine so_go (pre ++ [n / 128 + 128]) rest x4 (n % 128) _ _ r (by rw [p1]; omega) (by omega) (by omega) (by omega) ?_
      rw [decide_eq_false (show ¬ n % 128 > 127 by omega), show ((0 : Int) * 128 + (n / 128 + 128) % 128) * 128 + n % 128 % 128 = n by omega, show (0 : Int) + 1 + 1 = 2 by omega]
      rw [show pre ++ [n / 128 + 128, n % 128] = pre ++ [n / 128 + 128] ++ [n % 128] by simp] at h
      exact so_out _ x4 _ n 2 r (by omega) h4 (by rw [g]; rfl) h
    · have g := g4_3 n (by omega) (by omega)
      rw [g] at h ⊢
      refine so_go pre ((n / 128 % 128 + 128) :: n % 128 :: rest) x4 (n / 16384 + 128) 0 0 r (by simp only [List.length_cons]; omega) (by omega) (by omega) (by omega) ?_
      rw [decide_eq_true (show n / 16384 + 128 > 127 by omega)]
      refine so_go (pre ++ [n / 16384 + 128]) (n % 128 :: rest) x4 (n / 128 % 128 + 128) _ _ r (by rw [p1]; simp only [List.length_cons]; omega) (by omega) (by omega) (by omega) ?_
      rw [decide_eq_true (show n / 128 % 128 + 128 > 127 by omega)]
      refine so_go (pre ++ [n / 16384 + 128] ++ [n / 128 % 128 + 128]) rest x4 (n % 128) _ _ r (by rw [p2]; omega) (by omega) (by omega) (by omega) ?_
      rw [decide_eq_false (show ¬ n % 128 > 127 by omega), show (((0 : Int) * 128 + (n / 16384 + 128) % 128) * 128 + (n / 128 % 128 + 128) % 128) * 128 + n % 128 % 128 = n by omega, show (0 : Int) + 1 + 1 + 1 = 3 by omega]
      rw [show pre ++ [n / 16384 + 128, n / 128 % 128 + 128, n % 128] = pre ++ [n / 16384 + 128] ++ [n / 128 % 128 + 128] ++ [n % 128] by simp] at h
      exact so_out _ x4 _ n 3 r (by omega) h4 (by rw [g]; rfl) h
theorem so_stop (l x4 : List Int) (hl : l.length ≤ 1048576) (h4 : x4.length ≤ 1048576) : Ev (fun k => spec_GetOid.l0 k l x4 (l.length : Int)) (if oidOk x4 = true then (x4, true) else ([], false)) := by
  refine Ev.succ ?_
  simp only [spec_GetOid.l0]
  simp only [if_neg (show ¬ (l.length : Int) < (l.length : Int) by omega)]
  refine Ev.succ ?_
  simp only [spec_GetOid.j1]
  simp only [Bool.false_eq_true, if_false, if_true]
  refine Ev.bind (sOidOk_ev x4 (by omega)) ?_
  split <;> exact Ev.now _
theorem so_goOn (pre rest x4 : List Int) (r : List Int × Bool) (hr : rest ≠ []) (h4 : x4.length ≤ 10) (h : Ev (fun k => spec_GetOid.l1 k (pre ++ rest) x4 (pre.length : Int) 0 0 true) r) :
    Ev (fun k => spec_GetOid.l0 k (pre ++ rest) x4 (pre.length : Int)) r := by
  have hp : 0 < rest.length := by cases rest with | nil => exact absurd rfl hr | cons _ _ => simp
  refine Ev.succ ?_
  simp only [spec_GetOid.l0]
  simp only [if_pos (show (pre.length : Int) < ((pre ++ rest).length : Int) by simp only [List.length_append]; omega)]
  rw [decide_eq_true (show (x4.length : Int) ≤ 10 by omega)]
  refine Ev.succ ?_
  simp only [spec_GetOid.j1]
  simp only [if_true]
  exact h
theorem so_tooMany (pre rest x4 : List Int) (hr : rest ≠ []) (h4 : ¬ x4.length ≤ 10) : Ev (fun k => spec_GetOid.l0 k (pre ++ rest) x4 (pre.length : Int)) ([], false) := by
  have hp : 0 < rest.length := by cases rest with | nil => exact absurd rfl hr | cons _ _ => simp
  refine Ev.succ ?_
  simp only [spec_GetOid.l0]
  simp only [if_pos (show (pre.length : Int) < ((pre ++ rest).length : Int) by simp only [List.length_append]; omega)]
  rw [decide_eq_false (show ¬ (x4.length : Int) ≤ 10 by omega)]
  refine Ev.succ ?_
  simp only [spec_GetOid.j1]
  simp only [Bool.false_eq_true, if_false, if_neg (show ¬ (pre.length : Int) = ((pre ++ rest).length : Int) by simp only [List.length_append]; omega)]
  exact Ev.now _
theorem group_ne (n : Int) (l : List Int) : group n ++ l ≠ [] := by
  have := group_len n
  intro h
  have := congrArg List.length h
  simp only [List.length_append, List.length_nil] at this
  omega
theorem sGetOid_yes (o : List Int) : ∀ (pre x4 : List Int), oidOk (x4 ++ o) = true → pre.length + 3 * o.length ≤ 1000 →
    Ev (fun k => spec_GetOid.l0 k (pre ++ o.flatMap group) x4 (pre.length : Int)) (x4 ++ o, true) := by
  induction o with
  | nil =>
    intro pre x4 h hl
    have e := so_stop pre x4 (by omega) (by simp only [oidOk, Bool.and_eq_true, decide_eq_true_eq, List.append_nil] at h; omega)
    rw [List.append_nil] at h
    rw [if_pos h] at e
    simpa using e
  | cons n o ih =>
    intro pre x4 h hl
    simp only [List.length_cons] at hl
    have hg := group_len n
    have hf := flat_len o
    have h' := h
    simp only [oidOk, Bool.and_eq_true, decide_eq_true_eq, List.length_append, List.length_cons] at h'
    have hn : 0 ≤ n ∧ n ≤ 100000 := by
      have := h'.1
      simp only [oidNums, List.all_append, List.all_cons, Bool.and_eq_true, decide_eq_true_eq] at this
      exact this.2.1
    simp only [List.flatMap_cons]
    refine so_goOn pre _ x4 _ (group_ne n _) (by omega) ?_
    refine so_fwd n hn pre _ x4 _ (by omega) (by omega) ?_
    have e := ih (pre ++ group n) (x4 ++ [n]) (by simpa using h) (by simp only [List.length_append]; omega)
    simpa using e
theorem flat4 (o : List Int) (h : oidNums o = true) : o.flatMap group4 = o.flatMap group := by
  induction o with
  | nil => rfl
  | cons n o ih =>
    obtain ⟨hn, ho⟩ := oidNums_cons n o h
    simp only [List.flatMap_cons, group4_small n hn.2, ih ho]
theorem sGetOid_no (m : Nat) : ∀ (rest x4 : List Int), rest.length ≤ m → bytes rest → (x4.flatMap group4).length + rest.length ≤ 1048576 → (∀ o, oidOk o = true → o.flatMap group ≠ x4.flatMap group4 ++ rest) →
    Ev (fun k => spec_GetOid.l0 k (x4.flatMap group4 ++ rest) x4 ((x4.flatMap group4).length : Int)) ([], false) := by
  induction m with
  | zero =>
    intro rest x4 hm _ hl hno
    have : rest = [] := List.eq_nil_of_length_eq_zero (by omega)
    subst this
    have h4 : x4.length ≤ (x4.flatMap group4).length := by
      clear hno hl hm
      induction x4 with
      | nil => simp
      | cons n x4 ih =>
        have := g4_len n
        simp only [List.flatMap_cons, List.length_append, List.length_cons]
        omega
    have e := so_stop (x4.flatMap group4) x4 (by omega) (by omega)
    have hx : ¬ oidOk x4 = true := by
      intro hx
      have hx' := hx
      simp only [oidOk, Bool.and_eq_true] at hx'
      exact hno x4 hx (by rw [List.append_nil, flat4 x4 hx'.1])
    rw [if_neg hx] at e
    simpa using e
  | succ m ih =>
    intro rest x4 hm hw hl hno
    by_cases hr : rest = []
    · subst hr
      exact ih [] x4 (by simp) hw hl hno
    by_cases h4 : x4.length ≤ 10
    · refine so_goOn _ rest x4 _ hr h4 ?_
      rcases so_any rest (x4.flatMap group4) x4 hw hl (by omega) with ⟨n, rest', h0, h1, e, h⟩ | h
      · refine h _ ?_
        have hg := g4_len n
        have hw' : bytes rest' := fun y hy => hw y (by rw [e]; exact List.mem_append_right _ hy)
        have hle : rest.length = (group4 n).length + rest'.length := by rw [e, List.length_append]
        have hc : (x4 ++ [n]).flatMap group4 = x4.flatMap group4 ++ group4 n := by simp
        have := ih rest' (x4 ++ [n]) (by omega) hw' (by rw [hc, List.length_append]; omega) (by
          intro o ho
          rw [hc, List.append_assoc, ← e]
          exact hno o ho)
        rw [hc] at this
        exact this
      · exact h
    · exact so_tooMany _ rest x4 hr h4
def gfin (all x4 : List Int) : List Int × Bool := if ((putOid x4).length : Int) = 0 then ([], false) else if (strOfNums (putOid x4)).toList = (strOfNums all).toList then (x4, true) else ([], false)
theorem io_fin (all x4 xs : List Int) (n m p : Int) (hp : ¬ p < m) (h4 : x4.length ≤ 1048576) : Ev (fun k => impl_GetOid.l0 k all x4 n xs m p) (gfin all x4) := by
  refine Ev.succ ?_
  simp only [impl_GetOid.l0]
  simp only [if_neg hp]
  refine Ev.bind (iPutOid_ev x4 h4) ?_
  unfold gfin
  split
  · exact Ev.now _
  · split <;> exact Ev.now _
def joinO (n b : Int) : Int := Go.bits .or .i64 (wrap64 ((mn n 1048576) * 128)) (wrap64 (Go.bits .and .u8 b 127))
theorem joinO_eq (n b : Int) (hn : 0 ≤ n ∧ n ≤ 1048576) (hb : 0 ≤ b ∧ b ≤ 255) : joinO n b = n * 128 + b % 128 := by
  unfold joinO mn
  rw [if_neg (by omega), and127b b hb.1 hb.2, w64 (by omega) (by omega), w64 (by omega) (by omega), join7 n (b % 128) hn.1 (by omega) (by omega) (by omega)]
theorem io_small (all pre rest x4 : List Int) (b n m : Int) (r : List Int × Bool) (hm : m = (pre.length : Int) + rest.length + 1) (hp : pre.length < 40) (h4 : x4.length ≤ 1048576) (hb : b < 128)
    (h : Ev (fun k => impl_GetOid.l0 k all (x4 ++ [joinO n b]) 0 ((pre ++ [b]) ++ rest) m ((pre ++ [b]).length : Int)) r) :
    Ev (fun k => impl_GetOid.l0 k all x4 n (pre ++ b :: rest) m (pre.length : Int)) r := by
  refine Ev.succ ?_
  simp only [impl_GetOid.l0]
  simp only [if_pos (show (pre.length : Int) < m by omega), if_pos (show (0 : Int) ≤ (pre.length : Int) by omega), if_pos (show (pre.length : Int) < ((pre ++ b :: rest).length : Int) by simp only [List.length_append, List.length_cons]; omega), if_neg (show ¬ (pre.length : Int) ≥ 40 by omega), rd_mid, if_pos hb, if_pos (show x4.length < 17592186044416 by omega), w64 (x := (pre.length : Int) + 1) (by omega) (by omega)]
  simp only [List.append_assoc, List.cons_append, List.nil_append] at h
  rw [show ((pre ++ [b]).length : Int) = (pre.length : Int) + 1 by simp] at h
  exact h
theorem io_big (all pre rest x4 : List Int) (b n m : Int) (r : List Int × Bool) (hm : m = (pre.length : Int) + rest.length + 1) (hp : pre.length < 40) (hb : ¬ b < 128)
    (h : Ev (fun k => impl_GetOid.l0 k all x4 (joinO n b) ((pre ++ [b]) ++ rest) m ((pre ++ [b]).length : Int)) r) :
    Ev (fun k => impl_GetOid.l0 k all x4 n (pre ++ b :: rest) m (pre.length : Int)) r := by
  refine Ev.succ ?_
  simp only [impl_GetOid.l0]
  simp only [if_pos (show (pre.length : Int) < m by omega), if_pos (show (0 : Int) ≤ (pre.length : Int) by omega), if_pos (show (pre.length : Int) < ((pre ++ b :: rest).length : Int) by simp only [List.length_append, List.length_cons]; omega), if_neg (show ¬ (pre.length : Int) ≥ 40 by omega), rd_mid, if_neg hb, w64 (x := (pre.length : Int) + 1) (by omega) (by omega)]
  simp only [List.append_assoc, List.cons_append, List.nil_append] at h
  rw [show ((pre ++ [b]).length : Int) = (pre.length : Int) + 1 by simp] at h
  exact h
theorem io_over (all pre rest x4 : List Int) (b n m : Int) (hm : m = (pre.length : Int) + rest.length + 1) (hp : ¬ pre.length < 40) :
    Ev (fun k => impl_GetOid.l0 k all x4 n (pre ++ b :: rest) m (pre.length : Int)) ([], false) := by
  refine Ev.succ ?_
  simp only [impl_GetOid.l0]
  simp only [if_pos (show (pre.length : Int) < m by omega), if_pos (show (0 : Int) ≤ (pre.length : Int) by omega), if_pos (show (pre.length : Int) < ((pre ++ b :: rest).length : Int) by simp only [List.length_append, List.length_cons]; omega), if_pos (show (pre.length : Int) ≥ 40 by omega)]
  exact Ev.now _
theorem iGetOid_any (all : List Int) (rest : List Int) : ∀ (pre x4 : List Int) (n m : Int), m = (pre.length : Int) + rest.length → x4.length ≤ pre.length → pre.length ≤ 40 →
    ∃ x, Ev (fun k => impl_GetOid.l0 k all x4 n (pre ++ rest) m (pre.length : Int)) (gfin all x) ∨ Ev (fun k => impl_GetOid.l0 k all x4 n (pre ++ rest) m (pre.length : Int)) ([], false) := by
  induction rest with
  | nil =>
    intro pre x4 n m hm h4 hp
    simp only [List.length_nil] at hm
    exact ⟨x4, Or.inl (io_fin all x4 _ n m _ (by omega) (by omega))⟩
  | cons b rest ih =>
    intro pre x4 n m hm h4 hp
    simp only [List.length_cons] at hm
    by_cases hp' : pre.length < 40
    · by_cases hb : b < 128
      · obtain ⟨x, h⟩ := ih (pre ++ [b]) (x4 ++ [joinO n b]) 0 m (by simp only [List.length_append, List.length_cons, List.length_nil]; omega) (by simp only [List.length_append, List.length_cons, List.length_nil]; omega) (by simp only [List.length_append, List.length_cons, List.length_nil]; omega)
        exact ⟨x, h.imp (io_small all pre rest x4 b n m _ (by omega) hp' (by omega) hb) (io_small all pre rest x4 b n m _ (by omega) hp' (by omega) hb)⟩
      · obtain ⟨x, h⟩ := ih (pre ++ [b]) x4 (joinO n b) m (by simp only [List.length_append, List.length_cons, List.length_nil]; omega) (by simp only [List.length_append, List.length_cons, List.length_nil]; omega) (by simp only [List.length_append, List.length_cons, List.length_nil]; omega)
        exact ⟨x, h.imp (io_big all pre rest x4 b n m _ (by omega) hp' hb) (io_big all pre rest x4 b n m _ (by omega) hp' hb)⟩
    · exact ⟨[], Or.inr (io_over all pre rest x4 b n m (by omega) hp')⟩
theorem io_fwd (all : List Int) (n : Int) (hn : 0 ≤ n ∧ n ≤ 100000) (pre rest x4 : List Int) (m : Int) (r : List Int × Bool) (hm : m = (pre.length : Int) + (group n).length + rest.length) (hp : pre.length ≤ 37) (h4 : x4.length ≤ 1048576)
    (h : Ev (fun k => impl_GetOid.l0 k all (x4 ++ [n]) 0 ((pre ++ group n) ++ rest) m ((pre ++ group n).length : Int)) r) :
    Ev (fun k => impl_GetOid.l0 k all x4 0 (pre ++ (group n ++ rest)) m (pre.length : Int)) r := by
  have p1 (b : Int) : (pre ++ [b]).length = pre.length + 1 := by simp
  have p2 (b c : Int) : (pre ++ [b] ++ [c]).length = pre.length + 2 := by simp
  rw [← group4_small n hn.2] at h hm ⊢
  by_cases c1 : n ≤ 127
  · rw [g4_1 n c1] at h hm ⊢
    simp only [List.length_cons, List.length_nil] at hm
    refine io_small all pre rest x4 n 0 m r (by omega) (by omega) h4 (by omega) ?_
    rw [joinO_eq 0 n (by omega) (by omega), show (0 : Int) * 128 + n % 128 = n by omega]
    exact h
  · by_cases c2 : n ≤ 16383
    · have g := g4_2 n (by omega) c2
      rw [g] at h hm ⊢
      simp only [List.length_cons, List.length_nil] at hm
      refine io_big all pre (n % 128 :: rest) x4 (n / 128 + 128) 0 m r (by simp only [List.length_cons]; omega) (by omega) (by omega) ?_
      refine io_small all (pre ++ [n / 128 + 128]) rest x4 (n % 128) _ m r (by rw [p1]; omega) (by rw [p1]; omega) h4 (by omega) ?_
      rw [joinO_eq 0 _ (by omega) (by omega), joinO_eq _ _ (by omega) (by omega), show ((0 : Int) * 128 + (n / 128 + 128) % 128) * 128 + n % 128 % 128 = n by omega]
      rw [show pre ++ [n / 128 + 128, n % 128] = pre ++ [n / 128 + 128] ++ [n % 128] by simp] at h
      exact h
    · have g := g4_3 n (by omega) (by omega)
      rw [g] at h hm ⊢
      simp only [List.length_cons, List.length_nil] at hm
      refine io_big all pre ((n / 128 % 128 + 128) :: n % 128 :: rest) x4 (n / 16384 + 128) 0 m r (by simp only [List.length_cons]; omega) (by omega) (by omega) ?_
      refine io_big all (pre ++ [n / 16384 + 128]) (n % 128 :: rest) x4 (n / 128 % 128 + 128) _ m r (by rw [p1]; simp only [List.length_cons]; omega) (by rw [p1]; omega) (by omega) ?_
      refine io_small all (pre ++ [n / 16384 + 128] ++ [n / 128 % 128 + 128]) rest x4 (n % 128) _ m r (by rw [p2]; omega) (by rw [p2]; omega) h4 (by omega) ?_
      rw [joinO_eq 0 _ (by omega) (by omega), joinO_eq _ (n / 128 % 128 + 128) (by omega) (by omega), joinO_eq _ _ (by omega) (by omega), show (((0 : Int) * 128 + (n / 16384 + 128) % 128) * 128 + (n / 128 % 128 + 128) % 128) * 128 + n % 128 % 128 = n by omega]
      rw [show pre ++ [n / 16384 + 128, n / 128 % 128 + 128, n % 128] = pre ++ [n / 16384 + 128] ++ [n / 128 % 128 + 128] ++ [n % 128] by simp] at h
      exact h
theorem iGetOid_loop (all : List Int) (o : List Int) : ∀ (pre x4 : List Int) (m : Int), m = (pre.length : Int) + (o.flatMap group).length → oidNums o = true → pre.length + 3 * o.length ≤ 40 → x4.length + o.length ≤ 10 →
    Ev (fun k => impl_GetOid.l0 k all x4 0 (pre ++ o.flatMap group) m (pre.length : Int)) (gfin all (x4 ++ o)) := by
  induction o with
  | nil =>
    intro pre x4 m hm _ hl h4
    simp only [List.flatMap_nil, List.length_nil] at hm
    simp only [List.length_nil] at h4
    have e := io_fin all x4 (pre ++ []) 0 m (pre.length : Int) (by omega) (by omega)
    simpa using e
  | cons n o ih =>
    intro pre x4 m hm ho hl h4
    obtain ⟨hn, ho⟩ := oidNums_cons n o ho
    have hg := group_len n
    simp only [List.length_cons] at hl h4
    simp only [List.flatMap_cons, List.length_append] at hm ⊢
    refine io_fwd all n hn pre _ x4 m _ (by omega) (by omega) (by omega) ?_
    have e := ih (pre ++ group n) (x4 ++ [n]) m (by simp only [List.length_append]; omega) ho (by simp only [List.length_append]; omega) (by simp only [List.length_append, List.length_cons, List.length_nil]; omega)
    simpa using e
theorem group_bytes (n : Int) (hn : 0 ≤ n ∧ n ≤ 100000) : ∀ y ∈ group n, 0 ≤ y ∧ y ≤ 255 := by
  unfold group
  intro y hy
  split at hy
  · simp only [List.mem_cons, List.not_mem_nil, or_false] at hy; omega
  · split at hy
    · simp only [List.mem_cons, List.not_mem_nil, or_false] at hy; omega
    · simp only [List.mem_cons, List.not_mem_nil, or_false] at hy; omega
theorem putOid_bytes (o : List Int) : ∀ y ∈ putOid o, 0 ≤ y ∧ y ≤ 255 := by
  unfold putOid
  split
  · rename_i h
    intro y hy
    simp only [List.mem_flatMap] at hy
    obtain ⟨n, hn, hy⟩ := hy
    simp only [oidOk, Bool.and_eq_true, oidNums, List.all_eq_true, decide_eq_true_eq] at h
    exact group_bytes n (h.1 n hn) y hy
  · simp
/- what both make of the bytes -/
theorem getOid_both (l : List Int) (hw : bytes l) (hl : l.length ≤ 1048576) : ∃ R, Ev (fun k => spec_GetOid.f k l) R ∧ Ev (fun k => impl_GetOid.f k l) R ∧ R.1.length ≤ 10 := by
  unfold spec_GetOid.f impl_GetOid.f
  by_cases h : ∃ o, oidOk o = true ∧ o.flatMap group = l
  · obtain ⟨o, ho, rfl⟩ := h
    have ho' := ho
    simp only [oidOk, Bool.and_eq_true, decide_eq_true_eq] at ho'
    refine ⟨(o, true), ?_, ?_, by show o.length ≤ 10; omega⟩
    · have e := sGetOid_yes o [] [] (by simpa using ho) (by simp only [List.length_nil]; omega)
      simpa using e
    · have e := iGetOid_loop (o.flatMap group) o [] [] ((o.flatMap group).length : Int) (by simp) ho'.1 (by simp only [List.length_nil]; omega) (by simp only [List.length_nil]; omega)
      have hg : gfin (o.flatMap group) o = (o, true) := by
        unfold gfin putOid
        rw [if_pos ho]
        have : 1 ≤ (o.flatMap group).length := by
          cases o with
          | nil => simp at ho'
          | cons n o =>
            have := group_len n
            simp only [List.flatMap_cons, List.length_append]
            omega
        rw [if_neg (by omega), if_pos rfl]
      simp only [List.nil_append] at e
      rw [hg] at e
      exact e
  · have hno : ∀ o, oidOk o = true → o.flatMap group ≠ l := fun o ho e => h ⟨o, ho, e⟩
    refine ⟨([], false), ?_, ?_, by simp⟩
    · have e := sGetOid_no l.length l [] (Nat.le_refl _) hw (by simpa using hl) (by simpa using hno)
      simpa using e
    · obtain ⟨x, e⟩ := iGetOid_any l l [] [] 0 (l.length : Int) (by simp) (by simp) (by simp)
      rcases e with e | e
      · have hg : gfin l x = ([], false) := by
          unfold gfin
          split
          · rfl
          · rename_i h0
            rw [if_neg]
            intro hs
            have he := strNums_inj _ _ (putOid_bytes x) hw hs
            unfold putOid at he h0
            by_cases hx : oidOk x = true
            · rw [if_pos hx] at he
              exact hno x hx he
            · rw [if_neg hx] at h0
              simp at h0
        rw [hg] at e
        simpa using e
      · simpa using e

def sameVal (a b : Int) (s : ByteArray) (l : List Int) (a' b' : Int) (s' : ByteArray) (l' : List Int) : Bool :=
  if a = a' then (if b = b' then (if s.toList = s'.toList then decide (l = l') else false) else false) else false

theorem iSameVal_ev (a b : Int) (s : ByteArray) (l : List Int) (a' b' : Int) (s' : ByteArray) (l' : List Int) (h : l.length ≤ 1099511627776) : Ev (fun k => impl_SameVal.f k a b s l a' b' s' l') (sameVal a b s l a' b' s' l') := by
  unfold impl_SameVal.f sameVal
  refine Ev.ite (fun _ => ?_) (fun _ => Ev.now _)
  refine Ev.ite (fun _ => ?_) (fun _ => Ev.now _)
  refine Ev.ite (fun _ => ?_) (fun _ => Ev.now _)
  refine Ev.bind (iSameOid_ev l l' h) ?_
  exact Ev.now _

def valNil (b : Int) (s : ByteArray) (l : List Int) : Bool := if b = 0 then (if s.toList = ([] : List UInt8) then ((l.length : Int) == 0) else false) else false
def valOk (a b : Int) (s : ByteArray) (l : List Int) : Bool :=
  if a = 5 ∨ a = 128 ∨ a = 130 then valNil b s l
  else if a = 2 then (if clip b = b then (if s.toList = ([] : List UInt8) then ((l.length : Int) == 0) else false) else false)
  else if a = 4 then (if (s.size : Int) ≤ 20 then (if b = 0 then ((l.length : Int) == 0) else false) else false)
  else if a = 6 then (if oidOk l = true then (if b = 0 then (s.toList == ([] : List UInt8)) else false) else false)
  else false
theorem decEmpty (l : List Int) : decide (l = []) = ((l.length : Int) == 0) := by
  cases l with
  | nil => rfl
  | cons x l => simp; omega
theorem emptyStr : (⟨#[]⟩ : ByteArray).toList = ([] : List UInt8) := by decide +kernel
theorem valNil_same (a b : Int) (s : ByteArray) (l : List Int) : sameVal a b s l a 0 ⟨#[]⟩ [] = valNil b s l := by
  unfold sameVal valNil
  rw [if_pos rfl, emptyStr, decEmpty]

theorem sValOk_j (a b : Int) (s : ByteArray) (l : List Int) (q : Bool) (h : l.length ≤ 1048576) (hq : q = true ↔ (a = 5 ∨ a = 128 ∨ a = 130)) : Ev (fun k => spec_ValOk.j0 k a q a b s l) (valOk a b s l) := by
  refine Ev.succ ?_
  simp only [spec_ValOk.j0]
  unfold valOk valNil
  by_cases c : a = 5 ∨ a = 128 ∨ a = 130
  · simp only [if_pos c, if_pos (hq.2 c)]
    refine Ev.ite (fun _ => ?_) (fun _ => Ev.now _)
    refine Ev.ite (fun _ => Ev.now _) (fun _ => Ev.now _)
  · have hq' : ¬ q = true := fun e => c (hq.1 e)
    simp only [if_neg c, if_neg hq', sClip_eq, Option.bind_some]
    refine Ev.ite (fun _ => ?_) (fun _ => ?_)
    · refine Ev.ite (fun _ => ?_) (fun _ => Ev.now _)
      refine Ev.ite (fun _ => Ev.now _) (fun _ => Ev.now _)
    refine Ev.ite (fun _ => ?_) (fun _ => ?_)
    · refine Ev.ite (fun _ => ?_) (fun _ => Ev.now _)
      refine Ev.ite (fun _ => Ev.now _) (fun _ => Ev.now _)
    refine Ev.ite (fun _ => ?_) (fun _ => Ev.now _)
    refine Ev.bind (sOidOk_ev l (by omega)) ?_
    refine Ev.ite (fun _ => ?_) (fun _ => Ev.now _)
    refine Ev.ite (fun _ => Ev.now _) (fun _ => Ev.now _)
theorem sValOk_ev (a b : Int) (s : ByteArray) (l : List Int) (h : l.length ≤ 1048576) : Ev (fun k => spec_ValOk.f k a b s l) (valOk a b s l) := by
  unfold spec_ValOk.f
  by_cases c1 : a = 5
  · simp only [if_pos c1]
    exact sValOk_j a b s l _ h (by simp [c1])
  · simp only [if_neg c1]
    by_cases c2 : a = 128
    · simp only [if_pos c2]
      exact sValOk_j a b s l _ h (by simp [c2])
    · simp only [if_neg c2]
      exact sValOk_j a b s l _ h (by simp [c1, c2])

theorem iIsInt_eq (b : Int) : impl_isInt.f b = some (decide (-2147483648 ≤ b ∧ b ≤ 2147483647)) := by
  unfold impl_isInt.f
  rw [in_eq]
  rfl
theorem clip_same (b : Int) : decide (-2147483648 ≤ b ∧ b ≤ 2147483647) = decide (clip b = b) := by
  unfold clip
  refine decide_eq_decide.2 ⟨fun h => ?_, fun h => ?_⟩
  · rw [if_neg (by omega), if_neg (by omega)]
  · split at h
    · omega
    · split at h <;> omega
theorem iValOk_ev (a b : Int) (s : ByteArray) (l : List Int) (h : l.length ≤ 1048576) : Ev (fun k => impl_ValOk.f k a b s l) (valOk a b s l) := by
  unfold impl_ValOk.f valOk
  by_cases c2 : a = 2
  · simp only [if_pos c2, if_neg (show ¬ (a = 5 ∨ a = 128 ∨ a = 130) by omega), iIsInt_eq, Option.bind_some, clip_same, decide_eq_true_eq]
    refine Ev.ite (fun _ => ?_) (fun _ => Ev.now _)
    refine Ev.bind (iSameVal_ev a b s l a b _ _ (by omega)) ?_
    unfold sameVal
    rw [if_pos rfl, if_pos rfl, emptyStr, decEmpty]
    exact Ev.now _
  simp only [if_neg c2]
  by_cases c4 : a = 4
  · simp only [if_pos c4, if_neg (show ¬ (a = 5 ∨ a = 128 ∨ a = 130) by omega)]
    refine Ev.ite (fun _ => ?_) (fun _ => Ev.now _)
    refine Ev.bind (iSameVal_ev a b s l a 0 s _ (by omega)) ?_
    unfold sameVal
    rw [if_pos rfl, if_pos rfl, decEmpty]
    exact Ev.now _
  simp only [if_neg c4]
  by_cases c6 : a = 6
  · simp only [if_pos c6, if_neg (show ¬ (a = 5 ∨ a = 128 ∨ a = 130) by omega)]
    refine Ev.bind (iOidOk_ev l (by omega)) ?_
    refine Ev.ite (fun _ => ?_) (fun _ => Ev.now _)
    refine Ev.bind (iSameVal_ev a b s l a 0 _ l (by omega)) ?_
    unfold sameVal
    rw [if_pos rfl, emptyStr]
    have e : (if b = 0 then (if s.toList = ([] : List UInt8) then decide (l = l) else false) else false) = (if b = 0 then (s.toList == ([] : List UInt8)) else false) := by
      split
      · by_cases z : s.toList = ([] : List UInt8)
        · simp [z]
        · rw [if_neg z]
          exact (beq_eq_false_iff_ne.2 z).symm
      · rfl
    rw [e]
    exact Ev.now _
  simp only [if_neg c6]
  by_cases c5 : a = 5
  · simp only [if_pos c5, if_pos (show (a = 5 ∨ a = 128 ∨ a = 130) by omega)]
    refine Ev.bind (iSameVal_ev a b s l a 0 _ _ (by omega)) ?_
    rw [valNil_same]
    exact Ev.now _
  simp only [if_neg c5]
  by_cases c8 : a = 128
  · simp only [if_pos c8, if_pos (show (a = 5 ∨ a = 128 ∨ a = 130) by omega)]
    refine Ev.bind (iSameVal_ev a b s l a 0 _ _ (by omega)) ?_
    rw [valNil_same]
    exact Ev.now _
  simp only [if_neg c8]
  by_cases c3 : a = 130
  · simp only [if_pos c3, if_pos (show (a = 5 ∨ a = 128 ∨ a = 130) by omega)]
    refine Ev.bind (iSameVal_ev a b s l a 0 _ _ (by omega)) ?_
    rw [valNil_same]
    exact Ev.now _
  simp only [if_neg c3, if_neg (show ¬ (a = 5 ∨ a = 128 ∨ a = 130) by omega)]
  exact Ev.now _

def tlvOk (tag : Int) (body : List Int) : Bool := decide (0 ≤ tag ∧ tag ≤ 255) && decide ((body.length : Int) ≤ 250)
def tlvBytes (tag : Int) (body : List Int) : List Int := [tag % 256] ++ ((if (body.length : Int) > 127 then [129] else []) ++ ([(body.length : Int) % 256] ++ body))
def putTlv (b : List Int) (tag : Int) (body : List Int) : List Int := if tlvOk tag body = true then b ++ tlvBytes tag body else b
theorem tlvBytes_len (tag : Int) (body : List Int) : (tlvBytes tag body).length ≤ body.length + 3 := by
  unfold tlvBytes
  split <;> simp <;> omega
theorem putTlv_len (b : List Int) (tag : Int) (body : List Int) : (putTlv b tag body).length ≤ b.length + 253 := by
  unfold putTlv
  split
  · rename_i h
    have := tlvBytes_len tag body
    simp only [tlvOk, Bool.and_eq_true, decide_eq_true_eq] at h
    simp only [List.length_append]
    omega
  · omega

theorem sPutTlv_ev (b : List Int) (tag : Int) (body : List Int) (hb : b.length ≤ 1099511627776) (hy : body.length ≤ 1099511627776) : Ev (fun k => spec_PutTlv.f k b tag body) (putTlv b tag body) := by
  refine Ev.succ ?_
  refine Ev.some_const (fun k => ?_)
  simp only [spec_PutTlv.f, spec_PutTlv.j0, Option.bind_some, l1In_eq, List.nil_append]
  rw [if_pos (by simp only [List.length_nil]; omega)]
  unfold putTlv tlvOk tlvBytes
  by_cases h1 : 0 ≤ tag ∧ tag ≤ 255
  · simp only [decide_eq_true h1, if_true, Bool.true_and]
    by_cases h2 : (body.length : Int) > 250
    · simp only [decide_eq_true h2, if_true, decide_eq_false (show ¬ (body.length : Int) ≤ 250 by omega), Bool.false_eq_true, if_false]
    · simp only [decide_eq_false h2, Bool.false_eq_true, if_false, decide_eq_true (show (body.length : Int) ≤ 250 by omega), if_true]
      rw [if_pos (by omega)]
      by_cases h3 : (body.length : Int) > 127
      · simp only [if_pos h3]
        rw [if_pos (by simp only [List.length_append, List.length_cons, List.length_nil]; omega), if_pos (by simp only [List.length_append, List.length_cons, List.length_nil]; omega), if_pos (by simp only [List.length_append, List.length_cons, List.length_nil]; omega)]
        simp
      · simp only [if_neg h3]
        rw [if_pos (by simp only [List.length_append, List.length_cons, List.length_nil]; omega), if_pos (by simp only [List.length_append, List.length_cons, List.length_nil]; omega)]
        simp
  · simp only [decide_eq_false h1, Bool.false_and, Bool.false_eq_true, if_false, if_true]

theorem iCopyBytes_eq (b : List Int) (hb : b.length ≤ 1099511627776) : impl_copyBytes.f b = some b := by
  unfold impl_copyBytes.f
  rw [if_pos (by simp only [List.length_nil]; omega)]
  simp
theorem iTlv_ev (tag : Int) (body : List Int) (hy : body.length ≤ 1099511627776) : Ev (fun k => impl_tlv.f k tag body) (if tlvOk tag body = true then (tlvBytes tag body, true) else ([], false)) := by
  refine Ev.succ ?_
  refine Ev.some_const (fun k => ?_)
  simp only [impl_tlv.f, impl_tlv.j0, Option.bind_some, in_eq]
  unfold tlvOk tlvBytes
  by_cases h1 : 0 ≤ tag ∧ tag ≤ 255
  · simp only [decide_eq_true h1, if_true, Bool.true_and]
    by_cases h2 : (body.length : Int) > 250
    · simp only [decide_eq_true h2, if_true, decide_eq_false (show ¬ (body.length : Int) ≤ 250 by omega), Bool.false_eq_true, if_false]
    · simp only [decide_eq_false h2, Bool.false_eq_true, if_false, decide_eq_true (show (body.length : Int) ≤ 250 by omega), if_true]
      by_cases h3 : (body.length : Int) > 127
      · rw [if_pos (show (body.length : Int) ≥ 128 by omega), if_pos (by simp only [List.length_cons, List.length_nil]; omega), if_pos (by simp only [List.length_append, List.length_cons, List.length_nil]; omega), if_pos (by simp only [List.length_append, List.length_cons, List.length_nil]; omega)]
        simp [h3]
      · rw [if_neg (show ¬ (body.length : Int) ≥ 128 by omega), if_pos (by simp only [List.length_cons, List.length_nil]; omega), if_pos (by simp only [List.length_append, List.length_cons, List.length_nil]; omega)]
        simp [h3]
  · simp only [decide_eq_false h1, Bool.false_and, Bool.false_eq_true, if_false, if_true]
theorem iPutTlv_ev (b : List Int) (tag : Int) (body : List Int) (hb : b.length ≤ 1099511627776) (hy : body.length ≤ 1099511627776) : Ev (fun k => impl_PutTlv.f k b tag body) (putTlv b tag body) := by
  unfold impl_PutTlv.f putTlv
  refine Ev.bind (iTlv_ev tag body hy) ?_
  simp only [iCopyBytes_eq b hb, Option.bind_some]
  by_cases h : tlvOk tag body = true
  · have hl := tlvBytes_len tag body
    simp only [if_pos h]
    rw [if_pos (by omega)]
    exact Ev.now _
  · simp only [if_neg h, List.length_nil, List.append_nil]
    rw [if_pos (by omega)]
    exact Ev.now _

theorem tlvBytes_short (t : Int) (body : List Int) (ht : 0 ≤ t ∧ t ≤ 255) (h : body.length ≤ 127) : tlvBytes t body = t :: (body.length : Int) :: body := by
  unfold tlvBytes
  rw [if_neg (by omega), show t % 256 = t by omega, show (body.length : Int) % 256 = (body.length : Int) by omega]
  rfl
theorem tlvBytes_long (t : Int) (body : List Int) (ht : 0 ≤ t ∧ t ≤ 255) (h : 127 < body.length) (h' : body.length ≤ 250) : tlvBytes t body = t :: 129 :: (body.length : Int) :: body := by
  unfold tlvBytes
  rw [if_pos (by omega), show t % 256 = t by omega, show (body.length : Int) % 256 = (body.length : Int) by omega]
  rfl

theorem tlvBytes_bys (t : Int) (body : List Int) (ht : 0 ≤ t ∧ t ≤ 255) (hb : bys body) (h : body.length ≤ 250) : bys (tlvBytes t body) := by
  by_cases c : body.length ≤ 127
  · rw [tlvBytes_short t body ht c]
    exact bys_app (bys_one ht) (bys_app (bys_one (b := (body.length : Int)) (by omega)) hb)
  · rw [tlvBytes_long t body ht (by omega) h]
    exact bys_app (bys_one ht) (bys_app (bys_one (b := 129) (by omega)) (bys_app (bys_one (b := (body.length : Int)) (by omega)) hb))

def no4 : Int × List Int × Int × Bool := (0, [], 0, false)
def tlvTail (b : List Int) (a x : Int) : Int × List Int × Int × Bool :=
  if rd b x > 250 then no4 else if rd b x > (b.length : Int) - (x + 1) then no4 else (rd b a, (b.take (x + 1 + rd b x).toNat).drop (x + 1).toNat, x + 1 + rd b x, true)
def getTlv (b : List Int) (a : Int) : Int × List Int × Int × Bool :=
  if a < 0 ∨ a + 1 ≥ (b.length : Int) then no4
  else if rd b (a + 1) > 127 then (if rd b (a + 1) = 129 then (if a + 2 ≥ (b.length : Int) then no4 else if rd b (a + 2) < 128 then no4 else tlvTail b a (a + 2)) else no4)
  else tlvTail b a (a + 1)
theorem getTlv_len (b : List Int) (a : Int) : (getTlv b a).2.1.length ≤ b.length := by
  have ht : ∀ x, (tlvTail b a x).2.1.length ≤ b.length := by
    intro x
    unfold tlvTail no4
    split
    · simp
    · split
      · simp
      · simp only [List.length_drop, List.length_take]
        omega
  have hz : (no4).2.1.length ≤ b.length := by simp [no4]
  unfold getTlv
  split
  · exact hz
  · split
    · split
      · split
        · exact hz
        · split
          · exact hz
          · exact ht _
      · exact hz
    · exact ht _
theorem rd_bd (b : List Int) (hb : ∀ y ∈ b, 0 ≤ y ∧ y ≤ 255) (x : Int) : 0 ≤ rd b x ∧ rd b x ≤ 255 := by
  unfold rd
  rw [List.getD_eq_getElem?_getD]
  cases h : b[x.toNat]? with
  | none => simp
  | some v =>
    have := hb v (List.mem_of_getElem? h)
    simpa using this
theorem cut_le (b : List Int) (p q : Nat) : ((b.take p).drop q).length ≤ b.length := by
  simp only [List.length_drop, List.length_take]
  omega

theorem impl_GetTlv_j1_ev (b : List Int) (a x : Int) (hb : ∀ y ∈ b, 0 ≤ y ∧ y ≤ 255) (hl : b.length ≤ 1048576) (ha : 0 ≤ a ∧ a < (b.length : Int)) (hx : 0 ≤ x ∧ x < (b.length : Int)) : Ev (fun k => impl_GetTlv.j1 k b a x false) (tlvTail b a x) := by
  obtain ⟨n0, n1⟩ := rd_bd b hb x
  obtain ⟨m0, m1⟩ := rd_bd b hb a
  refine Ev.succ ?_
  simp only [impl_GetTlv.j1]
  simp only [Bool.false_eq_true, if_false, if_pos hx.1, if_pos hx.2, if_pos ha.1, if_pos ha.2, w64 (x := rd b x) (by omega) (by omega), w64 (x := rd b a) (by omega) (by omega), w64 (x := x + 1) (by omega) (by omega), w64 (x := (b.length : Int) - (x + 1)) (by omega) (by omega), w64 (x := x + 1 + rd b x) (by omega) (by omega)]
  unfold tlvTail no4
  by_cases c1 : rd b x > 250
  · simp only [if_pos c1]
    exact Ev.now _
  by_cases c2 : rd b x > (b.length : Int) - (x + 1)
  · simp only [if_neg c1, if_pos c2]
    exact Ev.now _
  have hc := cut_le b (x + 1 + rd b x).toNat (x + 1).toNat
  simp only [if_neg c1, if_neg c2, if_pos (show 0 ≤ x + 1 by omega), if_pos (show x + 1 ≤ x + 1 + rd b x by omega), if_pos (show x + 1 + rd b x ≤ (b.length : Int) by omega), impl_copyBytes.f, Option.bind_some, List.length_nil, List.nil_append, if_pos (show 0 + ((b.take (x + 1 + rd b x).toNat).drop (x + 1).toNat).length < 140737488355328 by omega)]
  exact Ev.now _
theorem impl_GetTlv_j1_no (b : List Int) (a x : Int) : Ev (fun k => impl_GetTlv.j1 k b a x true) no4 := by
  refine Ev.succ ?_
  simp only [impl_GetTlv.j1]
  simp only [if_true]
  exact Ev.now _
theorem impl_GetTlv_j0_no (b : List Int) (a : Int) : Ev (fun k => impl_GetTlv.j0 k b a true) no4 := by
  refine Ev.succ ?_
  simp only [impl_GetTlv.j0]
  simp only [if_true]
  exact Ev.now _
theorem impl_GetTlv_j0_ev (b : List Int) (a : Int) (hb : ∀ y ∈ b, 0 ≤ y ∧ y ≤ 255) (hl : b.length ≤ 1048576) (ha : ¬ (a < 0 ∨ a + 1 ≥ (b.length : Int))) : Ev (fun k => impl_GetTlv.j0 k b a false) (getTlv b a) := by
  obtain ⟨n0, n1⟩ := rd_bd b hb (a + 1)
  obtain ⟨m0, m1⟩ := rd_bd b hb a
  refine Ev.succ ?_
  simp only [impl_GetTlv.j0]
  simp only [Bool.false_eq_true, if_false, w64 (x := a + 1) (by omega) (by omega), w64 (x := a + 2) (by omega) (by omega), if_pos (show 0 ≤ a + 1 by omega), if_pos (show a + 1 < (b.length : Int) by omega), w64 (x := rd b (a + 1)) (by omega) (by omega)]
  unfold getTlv
  simp only [if_neg ha]
  by_cases c : rd b (a + 1) > 127
  · simp only [if_pos c, if_pos (show rd b (a + 1) ≥ 128 by omega)]
    refine Ev.ite (fun _ => ?_) (fun _ => impl_GetTlv_j1_no _ _ _)
    refine Ev.ite (fun _ => impl_GetTlv_j1_no _ _ _) (fun d => ?_)
    simp only [if_pos (show 0 ≤ a + 2 by omega), if_pos (show a + 2 < (b.length : Int) by omega)]
    by_cases e : rd b (a + 2) < 128
    · rw [decide_eq_true e, if_pos e]
      exact impl_GetTlv_j1_no _ _ _
    · rw [decide_eq_false e, if_neg e]
      exact impl_GetTlv_j1_ev b a (a + 2) hb hl (by omega) (by omega)
  · simp only [if_neg c, if_neg (show ¬ rd b (a + 1) ≥ 128 by omega)]
    unfold tlvTail no4
    simp only [show a + 1 + 1 = a + 2 by omega, w64 (x := (b.length : Int) - (a + 2)) (by omega) (by omega), w64 (x := a + 2 + rd b (a + 1)) (by omega) (by omega), w64 (x := rd b a) (by omega) (by omega), if_pos (show 0 ≤ a by omega), if_pos (show a < (b.length : Int) by omega)]
    by_cases c1 : rd b (a + 1) > 250
    · simp only [if_pos c1]
      exact Ev.now _
    by_cases c2 : rd b (a + 1) > (b.length : Int) - (a + 2)
    · simp only [if_neg c1, if_pos c2]
      exact Ev.now _
    have hc := cut_le b (a + 2 + rd b (a + 1)).toNat (a + 2).toNat
    simp only [if_neg c1, if_neg c2, if_pos (show 0 ≤ a + 2 by omega), if_pos (show a + 2 ≤ a + 2 + rd b (a + 1) by omega), if_pos (show a + 2 + rd b (a + 1) ≤ (b.length : Int) by omega), impl_copyBytes.f, Option.bind_some, List.length_nil, List.nil_append, if_pos (show 0 + ((b.take (a + 2 + rd b (a + 1)).toNat).drop (a + 2).toNat).length < 140737488355328 by omega)]
    exact Ev.now _
theorem iGetTlv_ev (b : List Int) (a : Int) (hb : ∀ y ∈ b, 0 ≤ y ∧ y ≤ 255) (hl : b.length ≤ 1048576) (hw : -9223372036854775808 ≤ a ∧ a ≤ 9223372036854775807) : Ev (fun k => impl_GetTlv.f k b a) (getTlv b a) := by
  unfold impl_GetTlv.f
  by_cases c : a < 0 ∨ a + 1 ≥ (b.length : Int)
  · have e : getTlv b a = no4 := by unfold getTlv; rw [if_pos c]
    rw [e]
    by_cases c1 : a < 0
    · simp only [if_pos c1]
      exact impl_GetTlv_j0_no _ _
    · simp only [if_neg c1, w64 (x := (b.length : Int) - 2) (by omega) (by omega), decide_eq_true (show a > (b.length : Int) - 2 by omega)]
      exact impl_GetTlv_j0_no _ _
  · simp only [if_neg (show ¬ a < 0 by omega), w64 (x := (b.length : Int) - 2) (by omega) (by omega), decide_eq_false (show ¬ a > (b.length : Int) - 2 by omega)]
    exact impl_GetTlv_j0_ev b a hb hl c

theorem putInt_bys (n : Int) : bys (putInt n) := by
  unfold putInt
  intro y hy
  split at hy
  · simp only [List.mem_cons, List.not_mem_nil, or_false] at hy; omega
  · split at hy
    · simp only [List.mem_cons, List.not_mem_nil, or_false] at hy; omega
    · split at hy
      · simp only [List.mem_cons, List.not_mem_nil, or_false] at hy; omega
      · simp only [List.mem_cons, List.not_mem_nil, or_false] at hy; omega
theorem joinI_eq (n x : Int) (hn : -2147483648 ≤ n ∧ n ≤ 2147483647) (hx : 0 ≤ x ∧ x ≤ 255) : joinI n x = n * 256 + x := by
  unfold joinI
  rw [w64 (x := n * 256) (by omega) (by omega), w64 (x := x) (by omega) (by omega)]
  simp only [Go.bits, BitVec.toNat_or, BitVec.toNat_ofInt]
  have hk : (2 : Int) ^ IntKind.i64.bits = 18446744073709551616 := by decide
  have hk' : ((2 ^ IntKind.i64.bits : Nat) : Int) = 18446744073709551616 := by decide
  simp only [hk']
  have h2 : (x % 18446744073709551616).toNat < 2 ^ 8 := by omega
  have h3 : ((n * 256) % 18446744073709551616).toNat = 2 ^ 8 * (((n * 256) % 18446744073709551616).toNat / 2 ^ 8) := by omega
  rw [h3, ← Nat.two_pow_add_eq_or_of_lt h2, ← h3, IntKind.wrap_i64]
  omega
def top (b : Int) : Int := if b > 127 then b - 256 else b
theorem top_bd (b : Int) (h : 0 ≤ b ∧ b ≤ 255) : -128 ≤ top b ∧ top b ≤ 127 ∧ top b % 256 = b := by
  unfold top
  split <;> omega
theorem clip_in (n : Int) (h : -2147483648 ≤ n ∧ n ≤ 2147483647) : clip n = n := by
  unfold clip
  rw [if_neg (by omega), if_neg (by omega)]
theorem putInt_1 (n : Int) (h : -128 ≤ n ∧ n ≤ 127) : putInt n = [n % 256] := by unfold putInt; rw [if_pos h]
theorem putInt_2 (n : Int) (h0 : ¬ (-128 ≤ n ∧ n ≤ 127)) (h : -32768 ≤ n ∧ n ≤ 32767) : putInt n = [n / 256 % 256, n % 256] := by unfold putInt; rw [if_neg h0, if_pos h]
theorem putInt_3 (n : Int) (h0 : ¬ (-32768 ≤ n ∧ n ≤ 32767)) (h : -8388608 ≤ n ∧ n ≤ 8388607) : putInt n = [n / 65536 % 256, n / 256 % 256, n % 256] := by unfold putInt; rw [if_neg (by omega), if_neg h0, if_pos h]
theorem putInt_4 (n : Int) (h0 : ¬ (-8388608 ≤ n ∧ n ≤ 8388607)) : putInt n = [n / 16777216 % 256, n / 65536 % 256, n / 256 % 256, n % 256] := by unfold putInt; rw [if_neg (by omega), if_neg (by omega), if_neg h0]
theorem raw1 (a : Int) : rawInt [a] = top a := rfl
theorem raw2 (a b : Int) (ha : 0 ≤ a ∧ a ≤ 255) (hb : 0 ≤ b ∧ b ≤ 255) : rawInt [a, b] = top a * 256 + b := by
  have h := top_bd a ha
  show joinI (top a) b = _
  rw [joinI_eq _ _ (by omega) hb]
theorem raw3 (a b c : Int) (ha : 0 ≤ a ∧ a ≤ 255) (hb : 0 ≤ b ∧ b ≤ 255) (hc : 0 ≤ c ∧ c ≤ 255) : rawInt [a, b, c] = (top a * 256 + b) * 256 + c := by
  have h := top_bd a ha
  show joinI (joinI (top a) b) c = _
  rw [joinI_eq (top a) b (by omega) hb, joinI_eq _ _ (by omega) hc]
theorem raw4 (a b c d : Int) (ha : 0 ≤ a ∧ a ≤ 255) (hb : 0 ≤ b ∧ b ≤ 255) (hc : 0 ≤ c ∧ c ≤ 255) (hd : 0 ≤ d ∧ d ≤ 255) : rawInt [a, b, c, d] = ((top a * 256 + b) * 256 + c) * 256 + d := by
  have h := top_bd a ha
  show joinI (joinI (joinI (top a) b) c) d = _
  rw [joinI_eq (top a) b (by omega) hb, joinI_eq _ c (by omega) hc, joinI_eq _ _ (by omega) hd]
theorem raw_put (n : Int) (h : -2147483648 ≤ n ∧ n ≤ 2147483647) : rawInt (putInt n) = n := by
  by_cases c1 : -128 ≤ n ∧ n ≤ 127
  · rw [putInt_1 n c1, raw1]
    unfold top
    split <;> omega
  by_cases c2 : -32768 ≤ n ∧ n ≤ 32767
  · rw [putInt_2 n c1 c2, raw2 _ _ (by omega) (by omega)]
    unfold top
    split <;> omega
  by_cases c3 : -8388608 ≤ n ∧ n ≤ 8388607
  · rw [putInt_3 n c2 c3, raw3 _ _ _ (by omega) (by omega) (by omega)]
    unfold top
    split <;> omega
  · rw [putInt_4 n c3, raw4 _ _ _ _ (by omega) (by omega) (by omega) (by omega)]
    unfold top
    split <;> omega
theorem putInt_pos (n : Int) : 1 ≤ (putInt n).length := by
  unfold putInt
  split
  · simp
  · split
    · simp
    · split <;> simp
theorem getInt_put (n : Int) : getInt (putInt (clip n)) = (clip n, true) := by
  have h := clip_bd n
  have h1 := putInt_pos (clip n)
  have h2 := putInt_len (clip n)
  unfold getInt
  rw [if_pos (by omega), raw_put _ h, clip_in _ h, if_pos rfl]
theorem rd_1 (pre rest : List Int) (t y : Int) : rd (pre ++ t :: y :: rest) ((pre.length : Int) + 1) = y := by
  have h := rd_mid (pre ++ [t]) rest y
  simp only [List.append_assoc, List.cons_append, List.nil_append] at h
  rw [show ((pre ++ [t]).length : Int) = (pre.length : Int) + 1 by simp] at h
  exact h
theorem rd_2 (pre rest : List Int) (t u y : Int) : rd (pre ++ t :: u :: y :: rest) ((pre.length : Int) + 2) = y := by
  have h := rd_mid (pre ++ [t, u]) rest y
  simp only [List.append_assoc, List.cons_append, List.nil_append] at h
  rw [show ((pre ++ [t, u]).length : Int) = (pre.length : Int) + 2 by simp] at h
  exact h
theorem tail_full (L A body : List Int) (a x n t : Int) (hL : L = A ++ body) (hx : (A.length : Int) = x + 1) (hn : n = (body.length : Int)) (hr : rd L x = n) (ht : rd L a = t) (h : n ≤ 250) :
    tlvTail L a x = (t, body, (L.length : Int), true) := by
  have hll : (L.length : Int) = (A.length : Int) + body.length := by rw [hL, List.length_append]; omega
  have e1 : (x + 1 + n).toNat = L.length := by omega
  have e2 : (x + 1).toNat = A.length := by omega
  unfold tlvTail
  rw [hr, ht, if_neg (by omega), if_neg (by omega), e1, e2, List.take_length, show x + 1 + n = (L.length : Int) by omega, hL, List.drop_left]
theorem tail_cut (L A body : List Int) (a x n : Int) (hL : L = A ++ body) (hx : (A.length : Int) = x + 1) (hn : n > (body.length : Int)) (hr : rd L x = n) : tlvTail L a x = no4 := by
  have hll : (L.length : Int) = (A.length : Int) + body.length := by rw [hL, List.length_append]; omega
  unfold tlvTail
  rw [hr]
  split
  · rfl
  · rw [if_pos (by omega)]
theorem get_short (pre body : List Int) (t n : Int) (h1 : n ≤ 127) :
    getTlv (pre ++ t :: n :: body) (pre.length : Int) = tlvTail (pre ++ t :: n :: body) (pre.length : Int) ((pre.length : Int) + 1) := by
  unfold getTlv
  rw [if_neg (by simp only [List.length_append, List.length_cons]; omega), rd_1, if_neg (by omega)]
theorem get_long (pre body : List Int) (t n : Int) (h1 : 128 ≤ n) :
    getTlv (pre ++ t :: 129 :: n :: body) (pre.length : Int) = tlvTail (pre ++ t :: 129 :: n :: body) (pre.length : Int) ((pre.length : Int) + 2) := by
  unfold getTlv
  rw [if_neg (by simp only [List.length_append, List.length_cons]; omega), rd_1, if_pos (by omega), if_pos rfl, if_neg (by simp only [List.length_append, List.length_cons]; omega), rd_2, if_neg (by omega)]
theorem get_full (pre body : List Int) (t : Int) (ht : 0 ≤ t ∧ t ≤ 255) (h : body.length ≤ 250) : getTlv (pre ++ tlvBytes t body) (pre.length : Int) = (t, body, ((pre ++ tlvBytes t body).length : Int), true) := by
  by_cases c : body.length ≤ 127
  · rw [tlvBytes_short t body ht c, get_short _ _ _ _ (by omega)]
    exact tail_full _ (pre ++ [t, (body.length : Int)]) body _ _ _ t (by simp) (by simp only [List.length_append, List.length_cons, List.length_nil]; omega) rfl (rd_1 _ _ _ _) (rd_mid _ _ _) (by omega)
  · rw [tlvBytes_long t body ht (by omega) h, get_long _ _ _ _ (by omega)]
    exact tail_full _ (pre ++ [t, 129, (body.length : Int)]) body _ _ _ t (by simp) (by simp only [List.length_append, List.length_cons, List.length_nil]; omega) rfl (rd_2 _ _ _ _ _) (rd_mid _ _ _) (by omega)

def noVal : Int × Int × ByteArray × List Int × Int × Bool := (0, 0, ⟨#[]⟩, [], 0, false)
theorem iVal_ev (t n : Int) (s : ByteArray) (o : List Int) (p : Int) (h : o.length ≤ 1048576) : Ev (fun k => (impl_ValOk.f k t n s o).bind fun v => if v = true then some (t, n, s, o, p, true) else some (0, 0, (⟨#[]⟩ : ByteArray), ([] : List Int), 0, false)) (if valOk t n s o = true then (t, n, s, o, p, true) else noVal) := by
  refine Ev.bind (iValOk_ev t n s o h) ?_
  exact Ev.ite (fun _ => Ev.now _) (fun _ => Ev.now _)
def putBody (t n : Int) (s : ByteArray) (o : List Int) : List Int := if t = 2 then putInt (clip n) else if t = 4 then bytesOf s else if t = 6 then putOid o else []
def putVal (l : List Int) (t n : Int) (s : ByteArray) (o : List Int) : List Int := if valOk t n s o = true then putTlv l t (putBody t n s o) else l
theorem putVal_len (l : List Int) (t n : Int) (s : ByteArray) (o : List Int) : (putVal l t n s o).length ≤ l.length + 253 := by
  unfold putVal
  split
  · exact putTlv_len _ _ _
  · omega
theorem valOk_text (n : Int) (s : ByteArray) (o : List Int) (h : valOk 4 n s o = true) : (s.size : Int) ≤ 20 := by
  unfold valOk at h
  rw [if_neg (by omega), if_neg (by omega), if_pos rfl] at h
  by_cases c : (s.size : Int) ≤ 20
  · exact c
  · rw [if_neg c] at h
    simp at h

theorem sPutVal_ev (l : List Int) (t n : Int) (s : ByteArray) (o : List Int) (hl : l.length ≤ 1048576) (ho : o.length ≤ 1048576) : Ev (fun k => spec_PutVal.f k l t n s o) (putVal l t n s o) := by
  unfold spec_PutVal.f putVal
  refine Ev.bind (sValOk_ev t n s o ho) ?_
  refine Ev.ite (fun hv => ?_) (fun _ => ?_)
  · unfold putBody
    by_cases c2 : t = 2
    · simp only [if_pos c2]
      refine Ev.bind (sPutInt_ev n) (Ev.bind (sPutTlv_ev l t _ (by omega) (by have := putInt_len (clip n); omega)) (Ev.now _))
    by_cases c4 : t = 4
    · subst c4
      have hs := valOk_text n s o hv
      simp only [if_neg c2, if_true, if_pos (show (s.size : Int) < 140737488355328 by omega)]
      refine Ev.bind (sPutTlv_ev l 4 _ (by omega) (by rw [bytesOf_length]; omega)) (Ev.now _)
    by_cases c6 : t = 6
    · simp only [if_neg c2, if_neg c4, if_pos c6]
      refine Ev.bind (sPutOid_ev o ho) (Ev.bind (sPutTlv_ev l t _ (by omega) (by have := putOid_len o; omega)) (Ev.now _))
    · simp only [if_neg c2, if_neg c4, if_neg c6]
      exact Ev.bind (sPutTlv_ev l t [] (by omega) (by simp)) (Ev.now _)
  · simp only [Option.bind_some, List.nil_append, List.length_nil, if_pos (show 0 + l.length < 140737488355328 by omega)]
    exact Ev.now _

theorem iPutVal_ev (l : List Int) (t n : Int) (s : ByteArray) (o : List Int) (hl : l.length ≤ 1048576) (ho : o.length ≤ 1048576) : Ev (fun k => impl_PutVal.f k l t n s o) (putVal l t n s o) := by
  unfold impl_PutVal.f putVal
  refine Ev.bind (iValOk_ev t n s o ho) ?_
  refine Ev.ite (fun hv => ?_) (fun _ => ?_)
  · unfold putBody
    by_cases c2 : t = 2
    · simp only [if_pos c2]
      refine Ev.bind (iPutInt_ev n) (Ev.bind (iPutTlv_ev l t _ (by omega) (by have := putInt_len (clip n); omega)) (Ev.now _))
    by_cases c4 : t = 4
    · subst c4
      have hs := valOk_text n s o hv
      simp only [if_neg c2, if_true, if_pos (show (s.size : Int) < 140737488355328 by omega)]
      refine Ev.bind (iPutTlv_ev l 4 _ (by omega) (by rw [bytesOf_length]; omega)) (Ev.now _)
    by_cases c6 : t = 6
    · simp only [if_neg c2, if_neg c4, if_pos c6]
      refine Ev.bind (iPutOid_ev o ho) (Ev.bind (iPutTlv_ev l t _ (by omega) (by have := putOid_len o; omega)) (Ev.now _))
    · simp only [if_neg c2, if_neg c4, if_neg c6]
      exact Ev.bind (iPutTlv_ev l t [] (by omega) (by simp)) (Ev.now _)
  · rw [iCopyBytes_eq l (by omega)]
    exact Ev.now _

theorem getOid_back (o : List Int) (ho : oidOk o = true) : Ev (fun k => impl_GetOid.f k (putOid o)) (o, true) ∧ ∀ y, y ∈ putOid o → 0 ≤ y ∧ y ≤ 255 := by
  refine ⟨?_, putOid_bytes o⟩
  have hl := putOid_len o
  obtain ⟨R, hs, hi, _⟩ := getOid_both (putOid o) (putOid_bytes o) (by omega)
  have ho' := ho
  simp only [oidOk, Bool.and_eq_true, decide_eq_true_eq] at ho'
  have e := sGetOid_yes o [] [] (by simpa using ho) (by simp only [List.length_nil]; omega)
  have hp : putOid o = o.flatMap group := by unfold putOid; rw [if_pos ho]
  have e2 : Ev (fun k => spec_GetOid.f k (putOid o)) (o, true) := by
    unfold spec_GetOid.f
    rw [hp]
    simpa using e
  rw [← Ev.uniq hs e2]
  exact hi
theorem bytesOf_bys (s : ByteArray) : ∀ y ∈ bytesOf s, 0 ≤ y ∧ y ≤ 255 := by
  intro y hy
  unfold bytesOf at hy
  obtain ⟨b, _, rfl⟩ := List.mem_map.1 hy
  have := b.toNat_lt
  omega
theorem ofNums_bytes (s : ByteArray) : strOfNums (bytesOf s) = s := by
  obtain ⟨d⟩ := s
  unfold strOfNums bytesOf
  congr 1
  rw [List.map_map]
  have h : ((fun n : Int => UInt8.ofNat n.toNat) ∘ fun b : UInt8 => (b.toNat : Int)) = id := by
    funext b
    simp
  rw [h, List.map_id]
theorem val_kinds (t n : Int) (s : ByteArray) (o : List Int) (h : valOk t n s o = true) : (t = 2 ∧ clip n = n ∧ s.toList = [] ∧ o = []) ∨ (t = 4 ∧ (s.size : Int) ≤ 20 ∧ n = 0 ∧ o = []) ∨ (t = 6 ∧ oidOk o = true ∧ n = 0 ∧ s.toList = []) ∨ ((t = 5 ∨ t = 128 ∨ t = 130) ∧ n = 0 ∧ s.toList = [] ∧ o = []) := by
  unfold valOk at h
  by_cases c5 : t = 5 ∨ t = 128 ∨ t = 130
  · rw [if_pos c5] at h
    unfold valNil at h
    by_cases a1 : n = 0
    · by_cases a2 : s.toList = ([] : List UInt8)
      · rw [if_pos a1, if_pos a2, beq_iff_eq] at h
        exact Or.inr (Or.inr (Or.inr ⟨c5, a1, a2, List.length_eq_zero_iff.1 (by omega)⟩))
      · rw [if_pos a1, if_neg a2] at h
        simp at h
    · rw [if_neg a1] at h
      simp at h
  rw [if_neg c5] at h
  by_cases c2 : t = 2
  · rw [if_pos c2] at h
    by_cases a1 : clip n = n
    · by_cases a2 : s.toList = ([] : List UInt8)
      · rw [if_pos a1, if_pos a2, beq_iff_eq] at h
        exact Or.inl ⟨c2, a1, a2, List.length_eq_zero_iff.1 (by omega)⟩
      · rw [if_pos a1, if_neg a2] at h
        simp at h
    · rw [if_neg a1] at h
      simp at h
  rw [if_neg c2] at h
  by_cases c4 : t = 4
  · rw [if_pos c4] at h
    by_cases a1 : (s.size : Int) ≤ 20
    · by_cases a2 : n = 0
      · rw [if_pos a1, if_pos a2, beq_iff_eq] at h
        exact Or.inr (Or.inl ⟨c4, a1, a2, List.length_eq_zero_iff.1 (by omega)⟩)
      · rw [if_pos a1, if_neg a2] at h
        simp at h
    · rw [if_neg a1] at h
      simp at h
  rw [if_neg c4] at h
  by_cases c6 : t = 6
  · rw [if_pos c6] at h
    by_cases a1 : oidOk o = true
    · by_cases a2 : n = 0
      · rw [if_pos a1, if_pos a2, beq_iff_eq] at h
        exact Or.inr (Or.inr (Or.inl ⟨c6, a1, a2, h⟩))
      · rw [if_pos a1, if_neg a2] at h
        simp at h
    · rw [if_neg a1] at h
      simp at h
  · rw [if_neg c6] at h
    simp at h
theorem noStr : (⟨#[]⟩ : ByteArray).toList = ([] : List UInt8) := emptyStr
theorem putBody_len (t n : Int) (s : ByteArray) (o : List Int) (h : valOk t n s o = true) : (putBody t n s o).length ≤ 30 := by
  have h1 := putInt_len (clip n)
  have h2 := putOid_len o
  unfold putBody
  by_cases c2 : t = 2
  · rw [if_pos c2]; omega
  by_cases c4 : t = 4
  · subst c4
    have := valOk_text n s o h
    rw [if_neg c2, if_pos rfl, bytesOf_length]; omega
  rw [if_neg c2, if_neg c4]
  split
  · omega
  · simp

def partP (l : List Int) (p : Int) (b : Bool) (t : Int) : List Int × Int × Bool :=
  if b = true then ([], p, true) else if (getTlv l p).2.2.2 = true then (if (getTlv l p).1 = t then ((getTlv l p).2.1, (getTlv l p).2.2.1, b) else ([], p, true)) else ([], p, true)
def numP (l : List Int) (p : Int) (b : Bool) (t : Int) : Int × Int × Bool :=
  if (partP l p b t).2.2 = true then ((getInt (partP l p b t).1).1, (partP l p b t).2.1, true) else ((getInt (partP l p b t).1).1, (partP l p b t).2.1, !(getInt (partP l p b t).1).2)
theorem tlvTail_in (l : List Int) (a x : Int) (hb : ∀ y ∈ l, 0 ≤ y ∧ y ≤ 255) (hx : -1 ≤ x) : (0 ≤ (tlvTail l a x).2.2.1 ∧ (tlvTail l a x).2.2.1 ≤ (l.length : Int)) ∧ ∀ y ∈ (tlvTail l a x).2.1, 0 ≤ y ∧ y ≤ 255 := by
  have hr := rd_bd l hb x
  unfold tlvTail no4
  split
  · exact ⟨⟨by simp, by simp⟩, by simp⟩
  · split
    · exact ⟨⟨by simp, by simp⟩, by simp⟩
    · exact ⟨⟨by show 0 ≤ x + 1 + rd l x; omega, by show x + 1 + rd l x ≤ _; omega⟩, fun y hy => hb y (List.mem_of_mem_take (List.mem_of_mem_drop hy))⟩
theorem getTlv_in (l : List Int) (a : Int) (hb : ∀ y ∈ l, 0 ≤ y ∧ y ≤ 255) : (0 ≤ (getTlv l a).2.2.1 ∧ (getTlv l a).2.2.1 ≤ (l.length : Int)) ∧ ∀ y ∈ (getTlv l a).2.1, 0 ≤ y ∧ y ≤ 255 := by
  have hz : (0 ≤ no4.2.2.1 ∧ no4.2.2.1 ≤ (l.length : Int)) ∧ ∀ y ∈ no4.2.1, 0 ≤ y ∧ y ≤ 255 := ⟨⟨by simp [no4], by simp [no4]⟩, by simp [no4]⟩
  unfold getTlv
  split
  · exact hz
  · rename_i h
    split
    · split
      · split
        · exact hz
        · split
          · exact hz
          · exact tlvTail_in l a _ hb (by omega)
      · exact hz
    · exact tlvTail_in l a _ hb (by omega)
theorem partP_in (l : List Int) (p : Int) (b : Bool) (t : Int) (hb : ∀ y ∈ l, 0 ≤ y ∧ y ≤ 255) (hp : 0 ≤ p ∧ p ≤ (l.length : Int)) : (0 ≤ (partP l p b t).2.1 ∧ (partP l p b t).2.1 ≤ (l.length : Int)) ∧ (∀ y ∈ (partP l p b t).1, 0 ≤ y ∧ y ≤ 255) ∧ (partP l p b t).1.length ≤ l.length := by
  have h := getTlv_in l p hb
  have hl := getTlv_len l p
  unfold partP
  split
  · exact ⟨hp, by simp, by simp⟩
  · split
    · split
      · exact ⟨h.1, h.2, hl⟩
      · exact ⟨hp, by simp, by simp⟩
    · exact ⟨hp, by simp, by simp⟩
theorem iPart_ev (l : List Int) (p : Int) (b : Bool) (t : Int) (hb : ∀ y ∈ l, 0 ≤ y ∧ y ≤ 255) (hl : l.length ≤ 1048576) (hp : 0 ≤ p ∧ p ≤ (l.length : Int)) : Ev (fun k => impl_parts_part.f k l p b t) (partP l p b t) := by
  unfold impl_parts_part.f partP
  refine Ev.bind (iGetTlv_ev l p hb hl (by omega)) ?_
  exact Ev.ite (fun _ => Ev.now _) (fun _ => Ev.ite (fun _ => Ev.ite (fun _ => Ev.now _) (fun _ => Ev.now _)) (fun _ => Ev.now _))
theorem iNum_ev (l : List Int) (p : Int) (b : Bool) (t : Int) (hb : ∀ y ∈ l, 0 ≤ y ∧ y ≤ 255) (hl : l.length ≤ 1048576) (hp : 0 ≤ p ∧ p ≤ (l.length : Int)) : Ev (fun k => impl_parts_num.f k l p b t) (numP l p b t) := by
  obtain ⟨_, h1, h2⟩ := partP_in l p b t hb hp
  unfold impl_parts_num.f numP
  refine Ev.bind (iPart_ev l p b t hb hl hp) (Ev.bind (iGetInt_ev _ h1 (by omega)) ?_)
  exact Ev.ite (fun _ => Ev.now _) (fun _ => Ev.now _)

theorem tail_mid (L A body rest : List Int) (a x n t : Int) (hL : L = A ++ (body ++ rest)) (hx : (A.length : Int) = x + 1) (hn : n = (body.length : Int)) (hr : rd L x = n) (ht : rd L a = t) (h : n ≤ 250) :
    tlvTail L a x = (t, body, (A.length : Int) + body.length, true) := by
  have hll : (L.length : Int) = (A.length : Int) + (body.length + rest.length) := by rw [hL, List.length_append, List.length_append]; omega
  have e1 : (x + 1 + n).toNat = (A ++ body).length := by rw [List.length_append]; omega
  have e2 : (x + 1).toNat = A.length := by omega
  unfold tlvTail
  rw [hr, ht, if_neg (by omega), if_neg (by omega), e1, e2, show x + 1 + n = (A.length : Int) + body.length by omega, hL, ← List.append_assoc, List.take_left, List.drop_left]
theorem get_mid (pre body rest : List Int) (t : Int) (ht : 0 ≤ t ∧ t ≤ 255) (h : body.length ≤ 127) : getTlv (pre ++ (tlvBytes t body ++ rest)) (pre.length : Int) = (t, body, ((pre ++ tlvBytes t body).length : Int), true) := by
  rw [tlvBytes_short t body ht h, List.cons_append, List.cons_append, get_short _ _ _ _ (by omega)]
  rw [tail_mid _ (pre ++ [t, (body.length : Int)]) body rest _ _ _ t (by simp) (by simp only [List.length_append, List.length_cons, List.length_nil]; omega) rfl (rd_1 _ _ _ _) (rd_mid _ _ _) (by omega)]
  simp only [List.length_append, List.length_cons, List.length_nil, Prod.mk.injEq, true_and, and_true]
  omega
theorem part_back (pre body rest : List Int) (t : Int) (ht : 0 ≤ t ∧ t ≤ 255) (h : body.length ≤ 127) : partP (pre ++ (tlvBytes t body ++ rest)) (pre.length : Int) false t = (body, ((pre ++ tlvBytes t body).length : Int), false) := by
  unfold partP
  rw [get_mid pre body rest t ht h]
  simp only [Bool.false_eq_true, if_false, if_true]
theorem num_back (pre rest : List Int) (t n : Int) (ht : 0 ≤ t ∧ t ≤ 255) (hn : -2147483648 ≤ n ∧ n ≤ 2147483647) : numP (pre ++ (tlvBytes t (putInt (clip n)) ++ rest)) (pre.length : Int) false t = (n, ((pre ++ tlvBytes t (putInt (clip n))).length : Int), false) := by
  have hl := putInt_len (clip n)
  unfold numP
  rw [part_back pre _ rest t ht (by omega)]
  simp only [getInt_put, Bool.false_eq_true, if_false, Bool.not_true]
  rw [clip_in n hn]
theorem put_ok (l : List Int) (t n : Int) (ht : 0 ≤ t ∧ t ≤ 255) : putTlv l t (putInt (clip n)) = l ++ tlvBytes t (putInt (clip n)) := by
  have := putInt_len (clip n)
  unfold putTlv tlvOk
  rw [decide_eq_true ht, decide_eq_true (show ((putInt (clip n)).length : Int) ≤ 250 by omega)]
  rfl

theorem rdIB_mid (pre rest : List S116) (r : S116) : rd_T116 (pre ++ r :: rest) (pre.length : Int) = r := by
  unfold rd_T116
  simp [List.getD_eq_getElem?_getD]
def smallI (x : S116) : Prop := x.f0.length ≤ 1048576 ∧ x.f1.f3.length ≤ 1048576
theorem rdIB_mid' (pre rest : List S116) (r : S116) (n : Nat) (h : pre.length = n) : rd_T116 (pre ++ r :: rest) (n : Int) = r := by
  subst h
  exact rdIB_mid pre rest r

def bindsOk : List S116 → Bool → Bool
  | [], z => z
  | r :: a, z => if oidOk r.f0 = true then (if valOk r.f1.f0 r.f1.f1 r.f1.f2 r.f1.f3 = true then bindsOk a z else false) else false
theorem bindsOk_false (l : List S116) : bindsOk l false = false := by
  induction l with
  | nil => rfl
  | cons r l ih => simp only [bindsOk, ih, ite_self]
def pduHd (t es ei : Int) : Bool := if t = 160 ∨ t = 161 ∨ t = 163 then decide (es = 0 ∧ ei = 0) else if t = 162 ∨ t = 165 then decide ((0 ≤ es ∧ es ≤ 1000) ∧ (0 ≤ ei ∧ ei ≤ 1000)) else false
def pduOk (t id es ei : Int) (l : List S116) : Bool := if pduHd t es ei = true then (if (l.length : Int) ≤ 10 then bindsOk l (decide (clip id = id)) else false) else false
theorem sKind_eq (t : Int) : spec_l4Kind.f t = some (decide (t = 160 ∨ t = 161 ∨ t = 162 ∨ t = 163 ∨ t = 165)) := by
  unfold spec_l4Kind.f
  by_cases h0 : t = 160
  · simp [h0]
  by_cases h1 : t = 161
  · simp [h1]
  by_cases h2 : t = 162
  · simp [h2]
  by_cases h3 : t = 163
  · simp [h3]
  by_cases h4 : t = 165
  · simp [h4]
  rw [if_neg h0, if_neg h1, if_neg h2, if_neg h3, decide_eq_false (by omega)]
  exact congrArg some (beq_eq_false_iff_ne.2 h4)
def sHd (q : Bool) (t id es ei : Int) (l : List S116) : Bool :=
  if q = true then false else if decide (t = 160 ∨ t = 161 ∨ t = 162 ∨ t = 163 ∨ t = 165) = true then (if clip id = id then (if decide (0 ≤ es ∧ es ≤ 1000) = true then (if decide (0 ≤ ei ∧ ei ≤ 1000) = true then decide ((l.length : Int) ≤ 10) else false) else false) else false) else false
theorem sPdu_j1 (q : Bool) (t id es ei : Int) (l : List S116) : Ev (fun k => spec_PduOk.j1 k q t id es ei l) (sHd q t id es ei l) := by
  refine Ev.succ ?_
  simp only [spec_PduOk.j1]
  unfold sHd
  simp only [sKind_eq, sClip_eq, l1In_eq, Option.bind_some]
  refine Ev.ite (fun _ => Ev.now _) (fun _ => ?_)
  refine Ev.ite (fun _ => ?_) (fun _ => Ev.now _)
  refine Ev.ite (fun _ => ?_) (fun _ => Ev.now _)
  refine Ev.ite (fun _ => ?_) (fun _ => Ev.now _)
  refine Ev.ite (fun _ => Ev.now _) (fun _ => Ev.now _)
def sEnd (t id es ei : Int) (l : List S116) : Bool := if t = 162 then sHd false t id es ei l else if t = 165 then sHd false t id es ei l else if es = 0 then sHd (ei != 0) t id es ei l else sHd true t id es ei l
theorem sEnd_eq (t id es ei : Int) (l : List S116) : sEnd t id es ei l = (if pduHd t es ei = true then (if (l.length : Int) ≤ 10 then decide (clip id = id) else false) else false) := by
  unfold sEnd sHd pduHd
  rw [Bool.eq_iff_iff]
  by_cases h2 : t = 162
  · simp [h2]
    by_cases a1 : 0 ≤ es ∧ es ≤ 1000 <;> by_cases a2 : 0 ≤ ei ∧ ei ≤ 1000 <;> simp [a1, a2]
    exact and_comm
  by_cases h5 : t = 165
  · simp [h5]
    by_cases a1 : 0 ≤ es ∧ es ≤ 1000 <;> by_cases a2 : 0 ≤ ei ∧ ei ≤ 1000 <;> simp [a1, a2]
    exact and_comm
  by_cases hk : t = 160 ∨ t = 161 ∨ t = 163
  · have hk' : t = 160 ∨ t = 161 ∨ t = 162 ∨ t = 163 ∨ t = 165 := by omega
    by_cases e1 : es = 0
    · by_cases e2 : ei = 0
      · simp [h2, h5, hk, hk', e1, e2]
        exact and_comm
      · simp [h2, h5, hk, e1, e2]
    · simp [h2, h5, hk, e1]
  · have hk' : ¬ (t = 160 ∨ t = 161 ∨ t = 162 ∨ t = 163 ∨ t = 165) := by omega
    have hk2 : ¬ (t = 162 ∨ t = 165) := by omega
    rw [if_neg hk, if_neg hk2, decide_eq_false hk']
    simp [h2, h5]
theorem sPduOk_loop (t id es ei : Int) (rest : List S116) : ∀ (pre : List S116), pre.length + rest.length ≤ 1048576 → (∀ y ∈ rest, smallI y) →
    Ev (fun k => spec_PduOk.l0 k (pre.length : Int) t id es ei (pre ++ rest)) (bindsOk rest (sEnd t id es ei (pre ++ rest))) := by
  induction rest with
  | nil =>
    intro pre _ _
    refine Ev.succ ?_
    simp only [spec_PduOk.l0]
    simp only [List.append_nil, if_neg (show ¬ (pre.length : Int) < (pre.length : Int) by omega), bindsOk]
    unfold sEnd
    refine Ev.ite (fun _ => sPdu_j1 _ _ _ _ _ _) (fun _ => ?_)
    refine Ev.ite (fun _ => sPdu_j1 _ _ _ _ _ _) (fun _ => ?_)
    exact Ev.ite (fun _ => sPdu_j1 _ _ _ _ _ _) (fun _ => sPdu_j1 _ _ _ _ _ _)
  | cons r rest ih =>
    intro pre hn hw
    simp only [List.length_cons] at hn
    have hr := hw r List.mem_cons_self
    have h1 := hr.1
    have h2 := hr.2
    have h := ih (pre ++ [r]) (by simp only [List.length_append, List.length_cons, List.length_nil]; omega) (fun y hy => hw y (List.mem_cons_of_mem _ hy))
    simp only [List.append_assoc, List.cons_append, List.nil_append] at h
    rw [show ((pre ++ [r]).length : Int) = (pre.length : Int) + 1 by simp] at h
    refine Ev.succ ?_
    simp only [spec_PduOk.l0]
    simp only [if_pos (show (pre.length : Int) < ((pre ++ r :: rest).length : Int) by simp only [List.length_append, List.length_cons]; omega), if_pos (show (0 : Int) ≤ (pre.length : Int) by omega), rdIB_mid, w64 (x := (pre.length : Int) + 1) (by omega) (by omega), bindsOk]
    refine Ev.bind (sOidOk_ev _ (by omega)) ?_
    refine Ev.ite (fun _ => ?_) (fun _ => Ev.now _)
    refine Ev.bind (sValOk_ev _ _ _ _ h2) ?_
    exact Ev.ite (fun _ => h) (fun _ => Ev.now _)
theorem sPduOk_ev (t id es ei : Int) (l : List S116) (h : l.length ≤ 1048576) (hw : ∀ y ∈ l, smallI y) : Ev (fun k => spec_PduOk.f k t id es ei l) (pduOk t id es ei l) := by
  unfold spec_PduOk.f
  have e := sPduOk_loop t id es ei l [] (by simp only [List.length_nil]; omega) hw
  have hv : bindsOk l (sEnd t id es ei l) = pduOk t id es ei l := by
    rw [sEnd_eq]
    unfold pduOk
    by_cases c : pduHd t es ei = true
    · simp only [if_pos c]
      by_cases d : (l.length : Int) ≤ 10
      · simp only [if_pos d]
      · simp only [if_neg d, bindsOk_false]
    · simp only [if_neg c, bindsOk_false]
  simp only [List.nil_append] at e
  rw [hv] at e
  exact e
theorem iPduOk_loop (t id es ei : Int) (L : List S116) (rest : List S116) : ∀ (pre : List S116) (m : Int), m = (pre.length : Int) + rest.length → pre.length ≤ 10 → (∀ y ∈ rest, smallI y) →
    Ev (fun k => impl_PduOk.l0 k (pre ++ rest) m (pre.length : Int) t id es ei L) (if (pre.length : Int) + rest.length ≤ 10 then bindsOk rest (decide (clip id = id)) else false) := by
  induction rest with
  | nil =>
    intro pre m hm hp _
    simp only [List.length_nil] at hm
    refine Ev.succ ?_
    simp only [impl_PduOk.l0]
    simp only [if_neg (show ¬ (pre.length : Int) < m by omega), iIsInt_eq, clip_same, Option.bind_some, List.length_nil, if_pos (show (pre.length : Int) + ((0 : Nat) : Int) ≤ 10 by omega), bindsOk]
    exact Ev.now _
  | cons r rest ih =>
    intro pre m hm hp hw
    simp only [List.length_cons] at hm
    have hr := hw r List.mem_cons_self
    have h1 := hr.1
    have h2 := hr.2
    refine Ev.succ ?_
    simp only [impl_PduOk.l0]
    simp only [if_pos (show (pre.length : Int) < m by omega), if_pos (show (pre.length : Int) < ((pre ++ r :: rest).length : Int) by simp only [List.length_append, List.length_cons]; omega), if_pos (show (0 : Int) ≤ (pre.length : Int) by omega), rdIB_mid, w64 (x := (pre.length : Int) + 1) (by omega) (by omega)]
    by_cases c : (pre.length : Int) ≥ 10
    · simp only [if_pos c, if_neg (show ¬ (pre.length : Int) + ((r :: rest).length : Int) ≤ 10 by simp only [List.length_cons]; omega)]
      exact Ev.now _
    · have h := ih (pre ++ [r]) m (by simp only [List.length_append, List.length_cons, List.length_nil]; omega) (by simp only [List.length_append, List.length_cons, List.length_nil]; omega) (fun y hy => hw y (List.mem_cons_of_mem _ hy))
      simp only [List.append_assoc, List.cons_append, List.nil_append] at h
      rw [show ((pre ++ [r]).length : Int) = (pre.length : Int) + 1 by simp] at h
      simp only [if_neg c]
      have hv : (if (pre.length : Int) + ((r :: rest).length : Int) ≤ 10 then bindsOk (r :: rest) (decide (clip id = id)) else false) = (if oidOk r.f0 = true then (if valOk r.f1.f0 r.f1.f1 r.f1.f2 r.f1.f3 = true then (if (pre.length : Int) + 1 + rest.length ≤ 10 then bindsOk rest (decide (clip id = id)) else false) else false) else false) := by
        by_cases d : (pre.length : Int) + 1 + rest.length ≤ 10
        · simp only [if_pos (show (pre.length : Int) + ((r :: rest).length : Int) ≤ 10 by simp only [List.length_cons]; omega), if_pos d, bindsOk]
        · simp only [if_neg (show ¬ (pre.length : Int) + ((r :: rest).length : Int) ≤ 10 by simp only [List.length_cons]; omega), if_neg d, ite_self]
      rw [hv]
      refine Ev.bind (iOidOk_ev _ (by omega)) ?_
      refine Ev.ite (fun _ => ?_) (fun _ => Ev.now _)
      refine Ev.bind (iValOk_ev _ _ _ _ h2) ?_
      exact Ev.ite (fun _ => h) (fun _ => Ev.now _)
theorem iPdu_j2 (t id es ei : Int) (l : List S116) (hw : ∀ y ∈ l, smallI y) : Ev (fun k => impl_PduOk.j2 k t id es ei l) (if (l.length : Int) ≤ 10 then bindsOk l (decide (clip id = id)) else false) := by
  refine Ev.succ ?_
  simp only [impl_PduOk.j2]
  have h := iPduOk_loop t id es ei l l [] (l.length : Int) (by simp) (by simp) hw
  simpa using h
theorem iPdu_j1 (q : Bool) (t id es ei : Int) (l : List S116) (hw : ∀ y ∈ l, smallI y) : Ev (fun k => impl_PduOk.j1 k q t id es ei l) (if q = true then (if decide (0 ≤ es ∧ es ≤ 1000) = true then (if decide (0 ≤ ei ∧ ei ≤ 1000) = true then (if (l.length : Int) ≤ 10 then bindsOk l (decide (clip id = id)) else false) else false) else false) else false) := by
  refine Ev.succ ?_
  simp only [impl_PduOk.j1]
  simp only [in_eq, Option.bind_some]
  refine Ev.ite (fun _ => ?_) (fun _ => Ev.now _)
  refine Ev.ite (fun _ => ?_) (fun _ => Ev.now _)
  refine Ev.ite (fun _ => ?_) (fun _ => Ev.now _)
  exact iPdu_j2 t id es ei l hw
theorem iPdu_j0 (q : Bool) (t id es ei : Int) (l : List S116) (hw : ∀ y ∈ l, smallI y) (hq : q = true ↔ (t = 160 ∨ t = 161 ∨ t = 163)) : Ev (fun k => impl_PduOk.j0 k t q t id es ei l) (pduOk t id es ei l) := by
  refine Ev.succ ?_
  simp only [impl_PduOk.j0]
  unfold pduOk pduHd
  by_cases c : t = 160 ∨ t = 161 ∨ t = 163
  · simp only [if_pos c, if_pos (hq.2 c)]
    by_cases e1 : es = 0
    · by_cases e2 : ei = 0
      · simp only [if_pos e1, if_pos e2, decide_eq_true (show es = 0 ∧ ei = 0 from ⟨e1, e2⟩), if_true]
        exact iPdu_j2 t id es ei l hw
      · simp only [if_pos e1, if_neg e2, decide_eq_false (show ¬ (es = 0 ∧ ei = 0) from fun h => e2 h.2), Bool.false_eq_true, if_false]
        exact Ev.now _
    · simp only [if_neg e1, decide_eq_false (show ¬ (es = 0 ∧ ei = 0) from fun h => e1 h.1), Bool.false_eq_true, if_false]
      exact Ev.now _
  · have hq' : ¬ q = true := fun e => c (hq.1 e)
    simp only [if_neg c, if_neg hq']
    by_cases d : t = 162 ∨ t = 165
    · have hb : (t == 162) = true ∨ (t == 165) = true := by rcases d with rfl | rfl <;> simp
      have hgo : ∀ q' : Bool, q' = true → Ev (fun k => impl_PduOk.j1 k q' t id es ei l) (if (if t = 162 ∨ t = 165 then decide ((0 ≤ es ∧ es ≤ 1000) ∧ (0 ≤ ei ∧ ei ≤ 1000)) else false) = true then (if (l.length : Int) ≤ 10 then bindsOk l (decide (clip id = id)) else false) else false) := by
        intro q' h'
        have e := iPdu_j1 q' t id es ei l hw
        rw [if_pos h'] at e
        rw [if_pos d]
        by_cases a1 : 0 ≤ es ∧ es ≤ 1000
        · by_cases a2 : 0 ≤ ei ∧ ei ≤ 1000
          · rw [decide_eq_true a1, decide_eq_true a2, if_pos rfl, if_pos rfl] at e
            rw [decide_eq_true (show (0 ≤ es ∧ es ≤ 1000) ∧ (0 ≤ ei ∧ ei ≤ 1000) from ⟨a1, a2⟩), if_pos rfl]
            exact e
          · rw [decide_eq_true a1, decide_eq_false a2, if_pos rfl, if_neg (by decide)] at e
            rw [decide_eq_false (show ¬ ((0 ≤ es ∧ es ≤ 1000) ∧ (0 ≤ ei ∧ ei ≤ 1000)) from fun h => a2 h.2), if_neg (by decide)]
            exact e
        · rw [decide_eq_false a1, if_neg (by decide)] at e
          rw [decide_eq_false (show ¬ ((0 ≤ es ∧ es ≤ 1000) ∧ (0 ≤ ei ∧ ei ≤ 1000)) from fun h => a1 h.1), if_neg (by decide)]
          exact e
      by_cases d2 : t = 162
      · simp only [if_pos d2]
        exact hgo _ (beq_iff_eq.2 d2)
      · simp only [if_neg d2]
        exact hgo _ (beq_iff_eq.2 (d.resolve_left d2))
    · have hf : ∀ q' : Bool, q' = false → Ev (fun k => impl_PduOk.j1 k q' t id es ei l) false := by
        intro q' h'
        have e := iPdu_j1 q' t id es ei l hw
        rw [h', if_neg (by decide)] at e
        rw [h']
        exact e
      simp only [if_neg d, Bool.false_eq_true, if_false, if_neg (show ¬ t = 162 from fun e => d (Or.inl e))]
      exact hf _ (beq_eq_false_iff_ne.2 fun e => d (Or.inr e))
theorem iPduOk_ev (t id es ei : Int) (l : List S116) (_h : l.length ≤ 1048576) (hw : ∀ y ∈ l, smallI y) : Ev (fun k => impl_PduOk.f k t id es ei l) (pduOk t id es ei l) := by
  unfold impl_PduOk.f
  by_cases c1 : t = 160
  · simp only [if_pos c1]
    exact iPdu_j0 _ t id es ei l hw (by simp [c1])
  · simp only [if_neg c1]
    by_cases c2 : t = 161
    · simp only [if_pos c2]
      exact iPdu_j0 _ t id es ei l hw (by simp [c2])
    · simp only [if_neg c2]
      exact iPdu_j0 _ t id es ei l hw (by simp [c1, c2])

def bindB (x : S116) : List Int := putVal (putTlv [] 6 (putOid x.f0)) x.f1.f0 x.f1.f1 x.f1.f2 x.f1.f3
def bindsB : List S116 → List Int
  | [] => []
  | x :: r => tlvBytes 48 (bindB x) ++ bindsB r
def goodI (x : S116) : Prop := oidOk x.f0 = true ∧ valOk x.f1.f0 x.f1.f1 x.f1.f2 x.f1.f3 = true
theorem bindsOk_good : ∀ (l : List S116) (z : Bool), bindsOk l z = true → (∀ x ∈ l, goodI x) ∧ z = true
  | [], z, h => ⟨fun x hx => by simp at hx, h⟩
  | r :: a, z, h => by
    simp only [bindsOk] at h
    by_cases h1 : oidOk r.f0 = true
    · rw [if_pos h1] at h
      by_cases h2 : valOk r.f1.f0 r.f1.f1 r.f1.f2 r.f1.f3 = true
      · rw [if_pos h2] at h
        obtain ⟨i1, i2⟩ := bindsOk_good a z h
        refine ⟨fun x hx => ?_, i2⟩
        rcases List.mem_cons.1 hx with rfl | hx
        · exact ⟨h1, h2⟩
        · exact i1 x hx
      · rw [if_neg h2] at h
        cases h
    · rw [if_neg h1] at h
      cases h
theorem putTlv_len2 (b : List Int) (t : Int) (y : List Int) : (putTlv b t y).length ≤ b.length + y.length + 3 := by
  have := tlvBytes_len t y
  unfold putTlv
  split
  · rw [List.length_append]
    omega
  · omega
theorem bindB_len (x : S116) (h : goodI x) : (bindB x).length ≤ 66 := by
  have h1 := putOid_len x.f0
  have h2 := putTlv_len2 [] 6 (putOid x.f0)
  have h3 := putBody_len _ _ _ _ h.2
  have h4 := putTlv_len2 (putTlv [] 6 (putOid x.f0)) x.f1.f0 (putBody x.f1.f0 x.f1.f1 x.f1.f2 x.f1.f3)
  simp only [List.length_nil] at h2
  unfold bindB putVal
  rw [if_pos h.2]
  omega
theorem tlvOk48 (y : List Int) (h : (y.length : Int) ≤ 250) : tlvOk 48 y = true := by
  unfold tlvOk
  rw [decide_eq_true h, decide_eq_true (show (0 : Int) ≤ 48 ∧ (48 : Int) ≤ 255 by omega)]
  rfl
theorem put48 (b y : List Int) (h : (y.length : Int) ≤ 250) : putTlv b 48 y = b ++ tlvBytes 48 y := by
  unfold putTlv
  rw [if_pos (tlvOk48 y h)]
theorem bindsB_len : ∀ l : List S116, (∀ x ∈ l, goodI x) → (bindsB l).length ≤ 69 * l.length
  | [], _ => by simp [bindsB]
  | x :: r, h => by
    have h1 := bindB_len x (h x List.mem_cons_self)
    have h2 := tlvBytes_len 48 (bindB x)
    have h3 := bindsB_len r (fun y hy => h y (List.mem_cons_of_mem _ hy))
    simp only [bindsB, List.length_append, List.length_cons]
    omega
def addP (l : List Int) (n : Int) : List Int := putTlv l 2 (putInt (clip n))
theorem addP_len (l : List Int) (n : Int) : (addP l n).length ≤ l.length + 7 := by
  have h := putInt_len (clip n)
  have := putTlv_len2 l 2 (putInt (clip n))
  unfold addP
  omega
def numsB (a b c : Int) : List Int := addP (addP (addP [] a) b) c
theorem numsB_len (a b c : Int) : (numsB a b c).length ≤ 21 := by
  have h1 := addP_len [] a
  have h2 := addP_len (addP [] a) b
  have h3 := addP_len (addP (addP [] a) b) c
  simp only [List.length_nil] at h1
  unfold numsB
  omega
def finP (t a b c : Int) (y : List Int) : List Int := if (y.length : Int) ≤ 250 then (if ((numsB a b c ++ tlvBytes 48 y).length : Int) ≤ 250 then tlvBytes t (numsB a b c ++ tlvBytes 48 y) else []) else []
def putPdu (t a b c : Int) (l : List S116) : List Int := if pduOk t a b c l = true then finP t a b c (bindsB l) else []
theorem finP_len (t a b c : Int) (y : List Int) : (finP t a b c y).length ≤ 253 := by
  unfold finP
  split
  · split
    · have := tlvBytes_len t (numsB a b c ++ tlvBytes 48 y)
      omega
    · simp
  · simp
theorem putPdu_len (t a b c : Int) (l : List S116) : (putPdu t a b c l).length ≤ 253 := by
  unfold putPdu
  split
  · exact finP_len _ _ _ _ _
  · simp
theorem pduOk_kind {t a b c : Int} {l : List S116} (h : pduOk t a b c l = true) : (160 ≤ t ∧ t ≤ 165) ∧ l.length ≤ 10 ∧ ∀ x ∈ l, goodI x := by
  unfold pduOk at h
  by_cases h1 : pduHd t b c = true
  · rw [if_pos h1] at h
    by_cases h2 : (l.length : Int) ≤ 10
    · rw [if_pos h2] at h
      refine ⟨?_, by omega, (bindsOk_good l _ h).1⟩
      unfold pduHd at h1
      split at h1
      · omega
      · split at h1
        · omega
        · cases h1
    · rw [if_neg h2] at h
      cases h
  · rw [if_neg h1] at h
    cases h
theorem tlvOkT (t : Int) (y : List Int) (ht : 160 ≤ t ∧ t ≤ 165) : tlvOk t y = decide ((y.length : Int) ≤ 250) := by
  unfold tlvOk
  rw [decide_eq_true (show (0 : Int) ≤ t ∧ t ≤ 255 by omega), Bool.true_and]

theorem sBinds_loop (rest : List S116) : ∀ (pre : List S116) (out : List Int), pre.length + rest.length ≤ 10 → out.length ≤ 69 * pre.length → (∀ y ∈ rest, goodI y ∧ smallI y) →
    Ev (fun k => spec_l4Binds.l0 k (pre ++ rest) out (pre.length : Int)) (out ++ bindsB rest) := by
  induction rest with
  | nil =>
    intro pre out _ _ _
    refine Ev.succ ?_
    simp only [spec_l4Binds.l0, bindsB, List.append_nil, if_neg (show ¬ (pre.length : Int) < (pre.length : Int) by omega)]
    exact Ev.now _
  | cons r rest ih =>
    intro pre out hn ho hw
    obtain ⟨g, s⟩ := hw r List.mem_cons_self
    simp only [List.length_cons] at hn
    have hb := bindB_len r g
    have hp := putOid_len r.f0
    have ht := putTlv_len2 [] 6 (putOid r.f0)
    simp only [List.length_nil] at ht
    have hl := tlvBytes_len 48 (bindB r)
    have h := ih (pre ++ [r]) (out ++ tlvBytes 48 (bindB r)) (by simp only [List.length_append, List.length_cons, List.length_nil]; omega) (by simp only [List.length_append, List.length_cons, List.length_nil]; omega) (fun y hy => hw y (List.mem_cons_of_mem _ hy))
    simp only [List.append_assoc, List.cons_append, List.nil_append] at h
    rw [show ((pre ++ [r]).length : Int) = (pre.length : Int) + 1 by simp] at h
    refine Ev.succ ?_
    simp only [spec_l4Binds.l0, if_pos (show (pre.length : Int) < ((pre ++ r :: rest).length : Int) by simp only [List.length_append, List.length_cons]; omega), if_pos (show (0 : Int) ≤ (pre.length : Int) by omega), rdIB_mid]
    refine Ev.bind (sPutOid_ev r.f0 s.1) ?_
    refine Ev.bind (sPutTlv_ev [] 6 _ (by simp) (by omega)) ?_
    refine Ev.bind (sPutVal_ev _ _ _ _ _ (by omega) s.2) ?_
    refine Ev.bind (sPutTlv_ev out 48 _ (by omega) (show (bindB r).length ≤ 1099511627776 by omega)) ?_
    rw [show putVal (putTlv [] 6 (putOid r.f0)) r.f1.f0 r.f1.f1 r.f1.f2 r.f1.f3 = bindB r from rfl, put48 out _ (by omega), w64 (x := (pre.length : Int) + 1) (by omega) (by omega)]
    exact h
theorem sPutPdu_ev (t a b c : Int) (l : List S116) (h : l.length ≤ 1048576) (hw : ∀ y ∈ l, smallI y) : Ev (fun k => spec_PutPdu.f k t a b c l) (putPdu t a b c l) := by
  unfold spec_PutPdu.f putPdu
  refine Ev.bind (sPduOk_ev t a b c l h hw) ?_
  refine Ev.ite (fun hk => ?_) (fun _ => Ev.now _)
  obtain ⟨ht, h10, hg⟩ := pduOk_kind hk
  have hl := bindsB_len l hg
  have e1 : Ev (fun k => spec_l4Binds.f k l) (bindsB l) := by
    unfold spec_l4Binds.f
    simpa using sBinds_loop l [] [] (by simpa using h10) (by simp) (fun y hy => ⟨hg y hy, hw y hy⟩)
  unfold finP
  by_cases q : ((bindsB l).length : Int) ≤ 250
  · rw [if_pos q]
    have p1 := putInt_len (clip a)
    have p2 := putInt_len (clip b)
    have p3 := putInt_len (clip c)
    have n1 := addP_len [] a
    have n2 := addP_len (addP [] a) b
    have n3 := numsB_len a b c
    simp only [List.length_nil] at n1
    have e2 : Ev (fun k => spec_l4Body.f k t a b c l) (numsB a b c ++ tlvBytes 48 (bindsB l), decide (((numsB a b c ++ tlvBytes 48 (bindsB l)).length : Int) ≤ 250)) := by
      unfold spec_l4Body.f
      refine Ev.bind e1 ?_
      simp only [if_neg (show ¬ ((bindsB l).length : Int) > 250 by omega)]
      refine Ev.bind (sPutInt_ev a) (Ev.bind (sPutTlv_ev [] 2 _ (by simp) (by omega)) ?_)
      refine Ev.bind (sPutInt_ev b) (Ev.bind (sPutTlv_ev (addP [] a) 2 _ (by omega) (by omega)) ?_)
      refine Ev.bind (sPutInt_ev c) (Ev.bind (sPutTlv_ev (addP (addP [] a) b) 2 _ (by omega) (by omega)) ?_)
      refine Ev.bind (sPutTlv_ev (numsB a b c) 48 _ (by omega) (by omega)) ?_
      rw [put48 _ _ q]
      exact Ev.now _
    refine Ev.bind e2 ?_
    by_cases q2 : ((numsB a b c ++ tlvBytes 48 (bindsB l)).length : Int) ≤ 250
    · simp only [decide_eq_true q2, if_true, if_pos q2]
      refine Ev.bind (sPutTlv_ev [] t _ (by simp) (by omega)) ?_
      rw [show putTlv [] t (numsB a b c ++ tlvBytes 48 (bindsB l)) = tlvBytes t (numsB a b c ++ tlvBytes 48 (bindsB l)) by unfold putTlv; rw [tlvOkT t _ ht, decide_eq_true q2]; rfl]
      exact Ev.now _
    · simp only [decide_eq_false q2, Bool.false_eq_true, if_false, if_neg q2]
      exact Ev.now _
  · rw [if_neg q]
    have e2 : Ev (fun k => spec_l4Body.f k t a b c l) ([], false) := by
      unfold spec_l4Body.f
      refine Ev.bind e1 ?_
      simp only [if_pos (show ((bindsB l).length : Int) > 250 by omega)]
      exact Ev.now _
    refine Ev.bind e2 ?_
    simp only [Bool.false_eq_true, if_false]
    exact Ev.now _

theorem iAddP_ev (l : List Int) (n : Int) (h : l.length ≤ 1099511627776) : Ev (fun k => impl_addNum.f k l 2 n) (addP l n) := by
  have hp := putInt_len (clip n)
  unfold impl_addNum.f
  exact Ev.bind (iPutInt_ev n) (Ev.bind (iPutTlv_ev l 2 _ h (by omega)) (Ev.now _))
theorem iBinds_loop (t a b c : Int) (L : List S116) (ht : 160 ≤ t ∧ t ≤ 165) (rest : List S116) : ∀ (pre : List S116) (out : List Int) (m : Int), m = (pre.length : Int) + rest.length → pre.length + rest.length ≤ 10 → out.length ≤ 69 * pre.length → (∀ y ∈ rest, goodI y ∧ smallI y) →
    Ev (fun k => impl_PutPdu.l0 k out (pre ++ rest) m (pre.length : Int) t a b c L) (finP t a b c (out ++ bindsB rest)) := by
  induction rest with
  | nil =>
    intro pre out m hm hn ho _
    simp only [List.length_nil] at hm
    have n1 := addP_len [] a
    have n2 := addP_len (addP [] a) b
    have n3 := numsB_len a b c
    simp only [List.length_nil] at n1
    refine Ev.succ ?_
    simp only [impl_PutPdu.l0, bindsB, List.append_nil, if_neg (show ¬ (pre.length : Int) < m by omega)]
    refine Ev.bind (iTlv_ev 48 out (by omega)) ?_
    unfold finP
    by_cases q : (out.length : Int) ≤ 250
    · have hl := tlvBytes_len 48 out
      simp only [tlvOk48 out q, if_true, if_pos q]
      refine Ev.bind (iAddP_ev [] a (by simp)) (Ev.bind (iAddP_ev _ b (by omega)) (Ev.bind (iAddP_ev _ c (by omega)) ?_))
      rw [show addP (addP (addP [] a) b) c = numsB a b c from rfl]
      simp only [if_pos (show (numsB a b c).length + (tlvBytes 48 out).length < 140737488355328 by omega)]
      refine Ev.bind (iTlv_ev t (numsB a b c ++ tlvBytes 48 out) (by rw [List.length_append]; omega)) ?_
      rw [tlvOkT t _ ht]
      by_cases q2 : ((numsB a b c ++ tlvBytes 48 out).length : Int) ≤ 250
      · simp only [decide_eq_true q2, if_true, if_pos q2]
        exact Ev.now _
      · simp only [decide_eq_false q2, Bool.false_eq_true, if_false, if_neg q2]
        exact Ev.now _
    · have e : tlvOk 48 out = false := by
        unfold tlvOk
        rw [decide_eq_false q, Bool.and_false]
      simp only [e, Bool.false_eq_true, if_false, if_neg q]
      exact Ev.now _
  | cons r rest ih =>
    intro pre out m hm hn ho hw
    obtain ⟨g, s⟩ := hw r List.mem_cons_self
    simp only [List.length_cons] at hm hn
    have hb := bindB_len r g
    have hp := putOid_len r.f0
    have hq := putTlv_len2 [] 6 (putOid r.f0)
    simp only [List.length_nil] at hq
    have hl := tlvBytes_len 48 (bindB r)
    have h := ih (pre ++ [r]) (out ++ tlvBytes 48 (bindB r)) m (by simp only [List.length_append, List.length_cons, List.length_nil]; omega) (by simp only [List.length_append, List.length_cons, List.length_nil]; omega) (by simp only [List.length_append, List.length_cons, List.length_nil]; omega) (fun y hy => hw y (List.mem_cons_of_mem _ hy))
    simp only [List.append_assoc, List.cons_append, List.nil_append] at h
    rw [show ((pre ++ [r]).length : Int) = (pre.length : Int) + 1 by simp] at h
    refine Ev.succ ?_
    simp only [impl_PutPdu.l0, if_pos (show (pre.length : Int) < m by omega), if_pos (show (0 : Int) ≤ (pre.length : Int) by omega), if_pos (show (pre.length : Int) < ((pre ++ r :: rest).length : Int) by simp only [List.length_append, List.length_cons]; omega), rdIB_mid]
    refine Ev.bind (iPutOid_ev r.f0 s.1) ?_
    refine Ev.bind (iPutTlv_ev [] 6 _ (by simp) (by omega)) ?_
    refine Ev.bind (iPutVal_ev _ _ _ _ _ (by omega) s.2) ?_
    rw [show putVal (putTlv [] 6 (putOid r.f0)) r.f1.f0 r.f1.f1 r.f1.f2 r.f1.f3 = bindB r from rfl]
    refine Ev.bind (iTlv_ev 48 (bindB r) (by omega)) ?_
    simp only [tlvOk48 _ (show ((bindB r).length : Int) ≤ 250 by omega), if_true, if_pos (show out.length + (tlvBytes 48 (bindB r)).length < 140737488355328 by omega), w64 (x := (pre.length : Int) + 1) (by omega) (by omega)]
    exact h
theorem iPutPdu_ev (t a b c : Int) (l : List S116) (h : l.length ≤ 1048576) (hw : ∀ y ∈ l, smallI y) : Ev (fun k => impl_PutPdu.f k t a b c l) (putPdu t a b c l) := by
  unfold impl_PutPdu.f putPdu
  refine Ev.bind (iPduOk_ev t a b c l h hw) ?_
  refine Ev.ite (fun hk => ?_) (fun _ => Ev.now _)
  obtain ⟨ht, h10, hg⟩ := pduOk_kind hk
  simpa using iBinds_loop t a b c l ht l [] [] (l.length : Int) (by simp) (by simpa using h10) (by simp) (fun y hy => ⟨hg y hy, hw y hy⟩)

def msgBody (s : ByteArray) (x : List Int) : List Int := putTlv (addP [] 1) 4 (bytesOf s) ++ x
def putMsg (s : ByteArray) (t a b c : Int) (l : List S116) : List Int := if (putPdu t a b c l).length = 0 then [] else if (s.size : Int) > 20 then [] else if ((msgBody s (putPdu t a b c l)).length : Int) ≤ 250 then tlvBytes 48 (msgBody s (putPdu t a b c l)) else []
theorem msgBody_len (s : ByteArray) (x : List Int) : (msgBody s x).length ≤ s.size + x.length + 10 := by
  have h1 := addP_len [] 1
  have h2 := putTlv_len2 (addP [] 1) 4 (bytesOf s)
  have h3 := bytesOf_length s
  simp only [List.length_nil] at h1
  unfold msgBody
  rw [List.length_append]
  omega
theorem putMsg_len (s : ByteArray) (t a b c : Int) (l : List S116) : (putMsg s t a b c l).length ≤ 253 := by
  unfold putMsg
  split
  · simp
  · split
    · simp
    · split
      · have := tlvBytes_len 48 (msgBody s (putPdu t a b c l))
        omega
      · simp

theorem sPutMsg_j0 (s : ByteArray) (x : List Int) (q : Bool) (hq : q = decide ((s.size : Int) > 20)) (hx : x.length ≤ 253) : Ev (fun k => spec_PutMsg.j0 k s x q) (if (s.size : Int) > 20 then [] else if ((msgBody s x).length : Int) ≤ 250 then tlvBytes 48 (msgBody s x) else []) := by
  refine Ev.succ ?_
  simp only [spec_PutMsg.j0]
  by_cases h : (s.size : Int) > 20
  · rw [hq, decide_eq_true h, if_pos h]
    exact Ev.now _
  · rw [hq, decide_eq_false h, if_neg h]
    simp only [Bool.false_eq_true, if_false]
    have p1 := putInt_len (clip 1)
    have h1 := addP_len [] 1
    have h3 := bytesOf_length s
    have h2 := putTlv_len2 (addP [] 1) 4 (bytesOf s)
    have h4 := msgBody_len s x
    simp only [List.length_nil] at h1
    refine Ev.bind (sPutInt_ev 1) (Ev.bind (sPutTlv_ev [] 2 _ (by simp) (by omega)) ?_)
    simp only [if_pos (show (s.size : Int) < 140737488355328 by omega)]
    refine Ev.bind (sPutTlv_ev (addP [] 1) 4 (bytesOf s) (by omega) (by omega)) ?_
    simp only [if_pos (show (putTlv (addP [] 1) 4 (bytesOf s)).length + x.length < 140737488355328 by omega), Option.bind_some]
    rw [show putTlv (addP [] 1) 4 (bytesOf s) ++ x = msgBody s x from rfl]
    by_cases q2 : ((msgBody s x).length : Int) ≤ 250
    · simp only [if_neg (show ¬ ((msgBody s x).length : Int) > 250 by omega), if_pos q2]
      refine Ev.bind (sPutTlv_ev [] 48 _ (by simp) (by omega)) ?_
      rw [put48 [] _ q2]
      exact Ev.now _
    · simp only [if_pos (show ((msgBody s x).length : Int) > 250 by omega), if_neg q2]
      exact Ev.now _
theorem sPutMsg_ev (s : ByteArray) (t a b c : Int) (l : List S116) (h : l.length ≤ 1048576) (hw : ∀ y ∈ l, smallI y) : Ev (fun k => spec_PutMsg.f k s t a b c l) (putMsg s t a b c l) := by
  have hp := putPdu_len t a b c l
  unfold spec_PutMsg.f putMsg
  refine Ev.bind (sPutPdu_ev t a b c l h hw) ?_
  by_cases q : (putPdu t a b c l).length = 0
  · simp only [if_pos q, if_pos (show ((putPdu t a b c l).length : Int) = 0 by omega)]
    refine Ev.succ ?_
    simp only [spec_PutMsg.j0, if_true]
    exact Ev.now _
  · simp only [if_neg q, if_neg (show ¬ ((putPdu t a b c l).length : Int) = 0 by omega)]
    exact sPutMsg_j0 s _ _ rfl hp

theorem iPutMsg_j0 (s : ByteArray) (x : List Int) (q : Bool) (hq : q = decide ((s.size : Int) > 20)) (hx : x.length ≤ 253) : Ev (fun k => impl_PutMsg.j0 k s x q) (if (s.size : Int) > 20 then [] else if ((msgBody s x).length : Int) ≤ 250 then tlvBytes 48 (msgBody s x) else []) := by
  refine Ev.succ ?_
  simp only [impl_PutMsg.j0]
  by_cases h : (s.size : Int) > 20
  · rw [hq, decide_eq_true h, if_pos h]
    exact Ev.now _
  · rw [hq, decide_eq_false h, if_neg h]
    simp only [Bool.false_eq_true, if_false]
    have h1 := addP_len [] 1
    have h3 := bytesOf_length s
    have h2 := putTlv_len2 (addP [] 1) 4 (bytesOf s)
    have h4 := msgBody_len s x
    simp only [List.length_nil] at h1
    refine Ev.bind (iAddP_ev [] 1 (by simp)) ?_
    simp only [if_pos (show (s.size : Int) < 140737488355328 by omega)]
    refine Ev.bind (iPutTlv_ev (addP [] 1) 4 (bytesOf s) (by omega) (by omega)) ?_
    simp only [if_pos (show (putTlv (addP [] 1) 4 (bytesOf s)).length + x.length < 140737488355328 by omega)]
    rw [show putTlv (addP [] 1) 4 (bytesOf s) ++ x = msgBody s x from rfl]
    refine Ev.bind (iTlv_ev 48 (msgBody s x) (by omega)) ?_
    by_cases q2 : ((msgBody s x).length : Int) ≤ 250
    · simp only [tlvOk48 _ q2, if_true, if_pos q2]
      exact Ev.now _
    · have e : tlvOk 48 (msgBody s x) = false := by
        unfold tlvOk
        rw [decide_eq_false q2, Bool.and_false]
      simp only [e, Bool.false_eq_true, if_false, if_neg q2]
      exact Ev.now _
theorem iPutMsg_ev (s : ByteArray) (t a b c : Int) (l : List S116) (h : l.length ≤ 1048576) (hw : ∀ y ∈ l, smallI y) : Ev (fun k => impl_PutMsg.f k s t a b c l) (putMsg s t a b c l) := by
  have hp := putPdu_len t a b c l
  unfold impl_PutMsg.f putMsg
  refine Ev.bind (iPutPdu_ev t a b c l h hw) ?_
  by_cases q : (putPdu t a b c l).length = 0
  · simp only [if_pos q, if_pos (show ((putPdu t a b c l).length : Int) = 0 by omega)]
    refine Ev.succ ?_
    simp only [impl_PutMsg.j0, if_true]
    exact Ev.now _
  · simp only [if_neg q, if_neg (show ¬ ((putPdu t a b c l).length : Int) = 0 by omega)]
    exact iPutMsg_j0 s _ _ rfl hp

-- models of functions that the law does not reach
mutual
def spec_GetPdu.l0 : Nat → List Int → List Int → Int → Bool → List Int → Int → Bool → Int → Int → Int → Int → List (S116) → List Int → Int → Bool → Option (Int × Int × Int × Int × (List (S116)) × Bool)
 | 0, _, _, _, _, _, _, _, _, _, _, _, _, _, _, _ => none
 | k + 1, x0, x5, x6, x7, x587000, x587001, x587002, x588000, x588001, x588002, x588003, x588004, x603000, x603001, x603002 => if x587002 = true then (spec_GetPdu.j1 k x0 x5 x6 x7 false x587000 x587001 x587002 x588000 x588001 x588002 x588003 x588004 x603000 x603001 x603002) else (if x603001 < (x603000.length : Int) then (spec_GetPdu.j1 k x0 x5 x6 x7 (decide ((x588004.length : Int) ≤ 10)) x587000 x587001 x587002 x588000 x588001 x588002 x588003 x588004 x603000 x603001 x603002) else (spec_GetPdu.j1 k x0 x5 x6 x7 false x587000 x587001 x587002 x588000 x588001 x588002 x588003 x588004 x603000 x603001 x603002))
def spec_GetPdu.j1 : Nat → List Int → List Int → Int → Bool → Bool → List Int → Int → Bool → Int → Int → Int → Int → List (S116) → List Int → Int → Bool → Option (Int × Int × Int × Int × (List (S116)) × Bool)
 | 0, _, _, _, _, _, _, _, _, _, _, _, _, _, _, _, _ => none
 | k + 1, x0, x5, x6, x7, x60, x587000, x587001, x587002, x588000, x588001, x588002, x588003, x588004, x603000, x603001, x603002 => if x60 = true then ((spec_l4Part.f k x603000 x603001 x603002 48).bind fun bt603 => ((spec_l4Bind.f k bt603.1).bind fun bt608 => (if bt603.2.2 = true then (if x588004.length < 1759218604441 then (spec_GetPdu.l0 k x0 x5 x6 x7 x587000 x587001 true x588000 x588001 x588002 x588003 (x588004 ++ [(⟨bt608.1, (⟨bt608.2.1, bt608.2.2.1, bt608.2.2.2.1, bt608.2.2.2.2.1⟩ : S29)⟩ : S116)]) x603000 bt603.2.1 bt603.2.2) else (none)) else (if x588004.length < 1759218604441 then (spec_GetPdu.l0 k x0 x5 x6 x7 x587000 x587001 (!bt608.2.2.2.2.2) x588000 x588001 x588002 x588003 (x588004 ++ [(⟨bt608.1, (⟨bt608.2.1, bt608.2.2.1, bt608.2.2.2.1, bt608.2.2.2.2.1⟩ : S29)⟩ : S116)]) x603000 bt603.2.1 bt603.2.2) else (none))))) else (if x7 = true then (if x6 = (x0.length : Int) then (if x587002 = true then (some (0, 0, 0, 0, ([] : List (S116)), false)) else (if x587001 = (x5.length : Int) then (if x603001 = (x603000.length : Int) then ((spec_PduOk.f k x588000 x588001 x588002 x588003 x588004).bind fun t625 => (if t625 = true then (some (x588000, x588001, x588002, x588003, x588004, true)) else (some (0, 0, 0, 0, ([] : List (S116)), false)))) else (some (0, 0, 0, 0, ([] : List (S116)), false))) else (some (0, 0, 0, 0, ([] : List (S116)), false)))) else (some (0, 0, 0, 0, ([] : List (S116)), false))) else (some (0, 0, 0, 0, ([] : List (S116)), false)))
end
theorem bindsB_append : ∀ (a b : List S116), bindsB (a ++ b) = bindsB a ++ bindsB b
  | [], b => rfl
  | x :: r, b => by simp only [List.cons_append, bindsB, bindsB_append r b, List.append_assoc]
theorem tlvBytes_pos (t : Int) (y : List Int) : 1 ≤ (tlvBytes t y).length := by
  unfold tlvBytes
  simp only [List.length_append, List.length_cons, List.length_nil]
  omega
def noMsg (c : Int) : Int × Int × Int × Int × List S116 × Int := (0, 0, 0, 0, [], c)
theorem putBody_bys (t n : Int) (s : ByteArray) (o : List Int) : bys (putBody t n s o) := by
  unfold putBody
  split
  · exact putInt_bys _
  · split
    · exact bytesOf_bys s
    · split
      · exact putOid_bytes o
      · intro z hz; simp at hz
theorem val_tag (t n : Int) (s : ByteArray) (o : List Int) (h : valOk t n s o = true) : 0 ≤ t ∧ t ≤ 255 := by
  rcases val_kinds t n s o h with h | h | h | h <;> omega
theorem putVal_form (b : List Int) (t n : Int) (s : ByteArray) (o : List Int) (h : valOk t n s o = true) : putVal b t n s o = b ++ tlvBytes t (putBody t n s o) := by
  have hl := putBody_len t n s o h
  unfold putVal putTlv tlvOk
  rw [if_pos h, decide_eq_true (val_tag t n s o h), decide_eq_true (show ((putBody t n s o).length : Int) ≤ 250 by omega)]
  rfl
theorem putVal_bys (b : List Int) (t n : Int) (s : ByteArray) (o : List Int) (hb : bys b) : bys (putVal b t n s o) := by
  by_cases h : valOk t n s o = true
  · rw [putVal_form b t n s o h]
    exact bys_app hb (tlvBytes_bys t _ (val_tag t n s o h) (putBody_bys t n s o) (by have := putBody_len t n s o h; omega))
  · unfold putVal
    rw [if_neg h]
    exact hb
theorem sameVal_of (t n : Int) (s : ByteArray) (o : List Int) (n' : Int) (s' : ByteArray) (o' : List Int) (h1 : n' = n) (h2 : s'.toList = s.toList) (h3 : o' = o) : sameVal t n' s' o' t n s o = true := by
  unfold sameVal
  rw [if_pos rfl, if_pos h1, if_pos h2]
  exact decide_eq_true h3
theorem iGetVal_back (b : List Int) (t n : Int) (s : ByteArray) (o : List Int) (hb : bys b) (hl : b.length ≤ 1000) (h : valOk t n s o = true) : ∃ n' s' o', Ev (fun k => impl_GetVal.f k (putVal b t n s o) (b.length : Int)) (t, n', s', o', ((putVal b t n s o).length : Int), true) ∧ sameVal t n' s' o' t n s o = true ∧ o'.length ≤ 10 := by
  have hbl := putBody_len t n s o h
  have hln := putVal_len b t n s o
  have hbys := putVal_bys b t n s o hb
  have hi := iGetTlv_ev (putVal b t n s o) (b.length : Int) hbys (by omega) (by omega)
  rw [putVal_form b t n s o h] at hi ⊢
  rw [get_full b (putBody t n s o) t (val_tag t n s o h) (by omega)] at hi
  unfold impl_GetVal.f
  generalize ((b ++ tlvBytes t (putBody t n s o)).length : Int) = p at hi ⊢
  have hv := fun (n' : Int) (s' : ByteArray) (o' : List Int) (ho : o'.length ≤ 10) (hok : valOk t n' s' o' = true) => (by
    have e := iVal_ev t n' s' o' p (by omega)
    rw [if_pos hok] at e
    exact e : Ev (fun k => (impl_ValOk.f k t n' s' o').bind fun v => if v = true then some (t, n', s', o', p, true) else some (0, 0, (⟨#[]⟩ : ByteArray), ([] : List Int), 0, false)) (t, n', s', o', p, true))
  rcases val_kinds t n s o h with ⟨rfl, h1, h2, rfl⟩ | ⟨rfl, h1, rfl, rfl⟩ | ⟨rfl, h1, rfl, h2⟩ | ⟨h1, rfl, h2, rfl⟩
  · have gi := iGetInt_ev (putInt (clip n)) (putInt_bys _) (by have := putInt_len (clip n); omega)
    rw [getInt_put, h1] at gi
    refine ⟨n, ⟨#[]⟩, [], Ev.bind hi ?_, sameVal_of 2 n s [] n _ [] rfl (by rw [noStr, h2]) rfl, by simp⟩
    simp only [if_true]
    have hpb : putBody 2 n s [] = putInt n := by unfold putBody; rw [if_pos rfl, h1]
    rw [hpb]
    refine Ev.bind gi ?_
    simp only [if_true]
    refine hv n ⟨#[]⟩ [] (by simp) ?_
    unfold valOk
    rw [if_neg (by omega), if_pos rfl, if_pos h1, if_pos noStr]
    rfl
  · refine ⟨0, s, [], Ev.bind hi ?_, sameVal_of 4 0 s [] 0 s [] rfl rfl rfl, by simp⟩
    have hpb : putBody 4 0 s [] = bytesOf s := by unfold putBody; rw [if_neg (by omega), if_pos rfl]
    simp only [if_neg (show ¬ (4 : Int) = 2 by omega), if_true]
    rw [hpb, ofNums_bytes]
    exact hv 0 s [] (by simp) h
  · obtain ⟨gi, _⟩ := getOid_back o h1
    have hol : o.length ≤ 10 := by
      have := h1
      simp only [oidOk, Bool.and_eq_true, decide_eq_true_eq] at this
      omega
    refine ⟨0, ⟨#[]⟩, o, Ev.bind hi ?_, sameVal_of 6 0 s o 0 _ o rfl (by rw [noStr, h2]) rfl, hol⟩
    have hpb : putBody 6 0 s o = putOid o := by unfold putBody; rw [if_neg (by omega), if_neg (by omega), if_pos rfl]
    simp only [if_neg (show ¬ (6 : Int) = 2 by omega), if_neg (show ¬ (6 : Int) = 4 by omega), if_true]
    rw [hpb]
    refine Ev.bind gi ?_
    simp only [if_true]
    refine hv 0 ⟨#[]⟩ o hol ?_
    unfold valOk
    rw [if_neg (by omega), if_neg (by omega), if_neg (by omega), if_pos rfl, if_pos h1, if_pos rfl, noStr]
    rfl
  · refine ⟨0, ⟨#[]⟩, [], Ev.bind hi ?_, sameVal_of t 0 s [] 0 _ [] rfl (by rw [noStr, h2]) rfl, by simp⟩
    have hpb : putBody t 0 s [] = [] := by unfold putBody; rw [if_neg (by omega), if_neg (by omega), if_neg (by omega)]
    simp only [if_neg (show ¬ t = 2 by omega), if_neg (show ¬ t = 4 by omega), if_neg (show ¬ t = 6 by omega), if_true]
    rw [hpb]
    simp only [List.length_nil]
    refine hv 0 ⟨#[]⟩ [] (by simp) ?_
    unfold valOk valNil
    rw [if_pos h1, if_pos rfl, if_pos noStr]
    rfl

theorem put6 (o : List Int) : putTlv [] 6 (putOid o) = tlvBytes 6 (putOid o) := by
  have := putOid_len o
  unfold putTlv tlvOk
  rw [decide_eq_true (show (0 : Int) ≤ 6 ∧ (6 : Int) ≤ 255 by omega), decide_eq_true (show ((putOid o).length : Int) ≤ 250 by omega)]
  simp
theorem bind_back (x : S116) (h : goodI x) : ∃ n' s' o', Ev (fun k => impl_bindOf.f k (bindB x)) (x.f0, x.f1.f0, n', s', o', true) ∧ sameVal x.f1.f0 n' s' o' x.f1.f0 x.f1.f1 x.f1.f2 x.f1.f3 = true ∧ o'.length ≤ 10 := by
  have hp := putOid_len x.f0
  have ht := tlvBytes_len 6 (putOid x.f0)
  have hb6 : bys (tlvBytes 6 (putOid x.f0)) := tlvBytes_bys 6 _ (by omega) (putOid_bytes x.f0) (by omega)
  obtain ⟨n', s', o', hv, hs, ho⟩ := iGetVal_back (tlvBytes 6 (putOid x.f0)) x.f1.f0 x.f1.f1 x.f1.f2 x.f1.f3 hb6 (by omega) h.2
  have e : bindB x = putVal (tlvBytes 6 (putOid x.f0)) x.f1.f0 x.f1.f1 x.f1.f2 x.f1.f3 := by
    unfold bindB
    rw [put6]
  have ef := putVal_form (tlvBytes 6 (putOid x.f0)) _ _ _ _ h.2
  have hl := bindB_len x h
  have hB : bys (bindB x) := by rw [e]; exact putVal_bys _ _ _ _ _ hb6
  have ip := iPart_ev (bindB x) 0 false 6 hB (by omega) (by omega)
  have hq := part_back [] (putOid x.f0) (tlvBytes x.f1.f0 (putBody x.f1.f0 x.f1.f1 x.f1.f2 x.f1.f3)) 6 (by omega) (by omega)
  simp only [List.nil_append, List.length_nil, Int.natCast_zero] at hq
  rw [← ef, ← e] at hq
  rw [hq] at ip
  obtain ⟨io, _⟩ := getOid_back x.f0 h.1
  refine ⟨n', s', o', ?_, hs, ho⟩
  rw [← e] at hv
  unfold impl_bindOf.f
  refine Ev.bind ip (Ev.bind io (Ev.bind hv ?_))
  simp only [Bool.false_eq_true, if_false, if_true]
  exact Ev.now _

def sameBs : List S116 → List S116 → Bool
  | r :: a, r' :: b => if decide (r.f0 = r'.f0) = true then (if sameVal r.f1.f0 r.f1.f1 r.f1.f2 r.f1.f3 r'.f1.f0 r'.f1.f1 r'.f1.f2 r'.f1.f3 = true then sameBs a b else false) else false
  | _, _ => true
theorem iSameBinds_loop (a : List S116) : ∀ (b pre pre' : List S116) (m : Int), m = (pre.length : Int) + a.length → a.length = b.length → pre.length = pre'.length → pre.length + a.length ≤ 1048576 → (∀ y ∈ a, smallI y) →
    Ev (fun k => impl_SameBinds.l0 k (pre ++ a) (pre' ++ b) m (pre.length : Int)) (sameBs a b) := by
  induction a with
  | nil =>
    intro b pre pre' m hm _ _ _ _
    simp only [List.length_nil] at hm
    refine Ev.succ ?_
    simp only [impl_SameBinds.l0]
    simp only [if_neg (show ¬ (pre.length : Int) < m by omega), sameBs]
    exact Ev.now _
  | cons r a ih =>
    intro b pre pre' m hm hb hp hn hw
    rcases b with _ | ⟨r', b⟩
    · simp at hb
    simp only [List.length_cons] at hn hb hm
    have hr := hw r List.mem_cons_self
    have h1 := hr.1
    have h2 := hr.2
    have h := ih b (pre ++ [r]) (pre' ++ [r']) m (by simp only [List.length_append, List.length_cons, List.length_nil]; omega) (by omega) (by simp only [List.length_append, List.length_cons, List.length_nil]; omega) (by simp only [List.length_append, List.length_cons, List.length_nil]; omega) (fun y hy => hw y (List.mem_cons_of_mem _ hy))
    simp only [List.append_assoc, List.cons_append, List.nil_append] at h
    rw [show ((pre ++ [r]).length : Int) = (pre.length : Int) + 1 by simp] at h
    refine Ev.succ ?_
    simp only [impl_SameBinds.l0]
    simp only [if_pos (show (pre.length : Int) < m by omega), if_pos (show (pre.length : Int) < ((pre ++ r :: a).length : Int) by simp only [List.length_append, List.length_cons]; omega), if_pos (show (0 : Int) ≤ (pre.length : Int) by omega), if_pos (show (pre.length : Int) < ((pre' ++ r' :: b).length : Int) by simp only [List.length_append, List.length_cons]; omega), rdIB_mid, rdIB_mid' pre' b r' pre.length hp.symm, w64 (x := (pre.length : Int) + 1) (by omega) (by omega), sameBs]
    refine Ev.bind (iSameOid_ev _ _ (by omega)) ?_
    refine Ev.ite (fun _ => ?_) (fun _ => Ev.now _)
    refine Ev.bind (iSameVal_ev _ _ _ _ _ _ _ _ (by omega)) ?_
    refine Ev.ite (fun _ => ?_) (fun _ => Ev.now _)
    exact h
theorem iSameBinds_ev (a b : List S116) (h : a.length ≤ 1048576) (hw : ∀ y ∈ a, smallI y) : Ev (fun k => impl_SameBinds.f k a b) (if (a.length : Int) = (b.length : Int) then sameBs a b else false) := by
  unfold impl_SameBinds.f
  refine Ev.ite (fun e => ?_) (fun _ => Ev.now _)
  have h := iSameBinds_loop a b [] [] (a.length : Int) (by simp) (by omega) rfl (by simp only [List.length_nil]; omega) hw
  simpa using h

theorem putTlv_bys (b : List Int) (t : Int) (y : List Int) (hb : bys b) (hy : bys y) : bys (putTlv b t y) := by
  unfold putTlv
  split
  · rename_i h
    unfold tlvOk at h
    simp only [Bool.and_eq_true, decide_eq_true_eq] at h
    exact bys_app hb (tlvBytes_bys t y (by omega) hy (by omega))
  · exact hb
theorem nil_bys : bys [] := by intro z hz; simp at hz
theorem addP_bys (b : List Int) (n : Int) (hb : bys b) : bys (addP b n) := putTlv_bys b 2 _ hb (putInt_bys _)
theorem bodyV_bys (t n : Int) (s : ByteArray) (o : List Int) : bys (putBody t n s o) := by
  unfold putBody
  split
  · exact putInt_bys _
  · split
    · exact bytesOf_bys s
    · split
      · exact putOid_bytes o
      · exact nil_bys
theorem bindB_bys (x : S116) : bys (bindB x) := by
  have h := putTlv_bys [] 6 (putOid x.f0) nil_bys (putOid_bytes _)
  unfold bindB putVal
  split
  · exact putTlv_bys _ _ _ h (bodyV_bys _ _ _ _)
  · exact h
theorem bindsB_bys : ∀ l : List S116, (∀ x ∈ l, goodI x) → bys (bindsB l)
  | [], _ => nil_bys
  | x :: r, h => by
    have h1 := bindB_len x (h x List.mem_cons_self)
    exact bys_app (tlvBytes_bys 48 _ (by omega) (bindB_bys x) (by omega)) (bindsB_bys r (fun y hy => h y (List.mem_cons_of_mem _ hy)))
theorem putPdu_bys (t a b c : Int) (l : List S116) : bys (putPdu t a b c l) := by
  unfold putPdu
  split
  · rename_i h
    obtain ⟨ht, _, hg⟩ := pduOk_kind h
    unfold finP
    split
    · rename_i h1
      split
      · rename_i h2
        exact tlvBytes_bys t _ (by omega) (bys_app (addP_bys _ _ (addP_bys _ _ (addP_bys _ _ nil_bys))) (tlvBytes_bys 48 _ (by omega) (bindsB_bys l hg) (by omega))) (by omega)
      · exact nil_bys
    · exact nil_bys
  · exact nil_bys
theorem putMsg_bys (s : ByteArray) (t a b c : Int) (l : List S116) : bys (putMsg s t a b c l) := by
  unfold putMsg
  split
  · exact nil_bys
  · split
    · exact nil_bys
    · split
      · rename_i h
        exact tlvBytes_bys 48 _ (by omega) (bys_app (putTlv_bys _ _ _ (addP_bys _ _ nil_bys) (bytesOf_bys s)) (putPdu_bys t a b c l)) (by omega)
      · exact nil_bys

theorem bytes_ext (s s' : ByteArray) (h : s.toList = s'.toList) : s = s' := by
  obtain ⟨a⟩ := s
  obtain ⟨b⟩ := s'
  rw [ByteArray.toList_mk, ByteArray.toList_mk] at h
  rw [Array.ext' h]
theorem sameVal_is (t n : Int) (s : ByteArray) (o : List Int) (n' : Int) (s' : ByteArray) (o' : List Int) (h : sameVal t n' s' o' t n s o = true) : n' = n ∧ s' = s ∧ o' = o := by
  unfold sameVal at h
  rw [if_pos rfl] at h
  by_cases h1 : n' = n
  · rw [if_pos h1] at h
    by_cases h2 : s'.toList = s.toList
    · rw [if_pos h2] at h
      exact ⟨h1, bytes_ext _ _ h2, of_decide_eq_true h⟩
    · rw [if_neg h2] at h
      cases h
  · rw [if_neg h1] at h
    cases h
theorem loop_back (x0 : List Int) (t a b c : Int) (rest : List S116) : ∀ (pre : List S116), (∀ x ∈ pre ++ rest, goodI x) → pre.length + rest.length ≤ 10 →
    ∀ r, Ev (fun k => impl_GetPdu.l0 k x0 t a b c (pre ++ rest) (bindsB (pre ++ rest)) ((bindsB (pre ++ rest)).length : Int) false) r → Ev (fun k => impl_GetPdu.l0 k x0 t a b c pre (bindsB (pre ++ rest)) ((bindsB pre).length : Int) false) r := by
  induction rest with
  | nil =>
    intro pre _ _ r hr
    simpa using hr
  | cons x rest ih =>
    intro pre hg hn r hr
    have gx := hg x (List.mem_append_right _ List.mem_cons_self)
    obtain ⟨n', s', o', ib, sv, _⟩ := bind_back x gx
    obtain ⟨rfl, rfl, rfl⟩ := sameVal_is _ _ _ _ _ _ _ sv
    have hbl := bindB_len x gx
    have hQ : bindsB (pre ++ x :: rest) = bindsB pre ++ (tlvBytes 48 (bindB x) ++ bindsB rest) := by
      rw [bindsB_append]
      rfl
    have hQ2 : bindsB (pre ++ [x]) = bindsB pre ++ tlvBytes 48 (bindB x) := by
      rw [bindsB_append]
      simp [bindsB]
    have hqb := bindsB_bys (pre ++ x :: rest) hg
    have hql := bindsB_len (pre ++ x :: rest) hg
    simp only [List.length_append, List.length_cons] at hn hql
    have hi := ih (pre ++ [x]) (by simpa using hg) (by simp only [List.length_append, List.length_cons, List.length_nil]; omega)
    simp only [List.append_assoc, List.cons_append, List.nil_append] at hi
    have hll := congrArg List.length hQ
    have htp := tlvBytes_pos 48 (bindB x)
    simp only [List.length_append] at hll
    have ip := iPart_ev (bindsB (pre ++ x :: rest)) ((bindsB pre).length : Int) false 48 hqb (by omega) (by omega)
    have hpt := part_back (bindsB pre) (bindB x) (bindsB rest) 48 (by omega) (by omega)
    rw [← hQ, ← hQ2] at hpt
    rw [hpt] at ip
    refine Ev.succ ?_
    simp only [impl_GetPdu.l0, if_pos (show ((bindsB pre).length : Int) < ((bindsB (pre ++ x :: rest)).length : Int) by omega)]
    refine Ev.bind ip (Ev.bind ib ?_)
    simp only [if_true, if_neg (show ¬ (pre.length : Int) ≥ 10 by omega), if_pos (show pre.length < 1759218604441 by omega)]
    exact hi r hr

theorem part_full (pre body : List Int) (t : Int) (ht : 0 ≤ t ∧ t ≤ 255) (h : body.length ≤ 250) : partP (pre ++ tlvBytes t body) (pre.length : Int) false t = (body, ((pre ++ tlvBytes t body).length : Int), false) := by
  unfold partP
  rw [get_full pre body t ht h]
  simp only [Bool.false_eq_true, if_false, if_true]
theorem addP_is (l : List Int) (n : Int) : addP l n = l ++ tlvBytes 2 (putInt (clip n)) := put_ok l 2 n (by omega)
theorem goodI_small (x : S116) (h : goodI x) : smallI x := by
  obtain ⟨h1, h2⟩ := h
  simp only [oidOk, Bool.and_eq_true, decide_eq_true_eq] at h1
  refine ⟨by omega, ?_⟩
  rcases val_kinds _ _ _ _ h2 with ⟨_, _, _, h⟩ | ⟨_, _, _, h⟩ | ⟨_, h, _, _⟩ | ⟨_, _, _, h⟩
  · rw [h]; simp
  · rw [h]; simp
  · simp only [oidOk, Bool.and_eq_true, decide_eq_true_eq] at h
    omega
  · rw [h]; simp
theorem clip_of (id : Int) (h : clip id = id) : -2147483648 ≤ id ∧ id ≤ 2147483647 := by
  have := clip_bd id
  rw [h] at this
  exact this
theorem pduOk_nums {t a b c : Int} {l : List S116} (h : pduOk t a b c l = true) : (-2147483648 ≤ a ∧ a ≤ 2147483647) ∧ (0 ≤ b ∧ b ≤ 1000) ∧ (0 ≤ c ∧ c ≤ 1000) := by
  unfold pduOk at h
  by_cases h1 : pduHd t b c = true
  · rw [if_pos h1] at h
    by_cases h2 : (l.length : Int) ≤ 10
    · rw [if_pos h2] at h
      refine ⟨clip_of a (of_decide_eq_true (bindsOk_good l _ h).2), ?_⟩
      unfold pduHd at h1
      split at h1
      · have := of_decide_eq_true h1
        omega
      · split at h1
        · exact of_decide_eq_true h1
        · cases h1
    · rw [if_neg h2] at h
      cases h
  · rw [if_neg h1] at h
    cases h
theorem pdu_back (t a b c : Int) (l : List S116) (h : (putPdu t a b c l).length ≠ 0) : (∀ x ∈ l, smallI x) ∧ l.length ≤ 10 ∧ Ev (fun k => impl_GetPdu.f k (putPdu t a b c l)) (t, a, b, c, l, true) := by
  have hok : pduOk t a b c l = true := by
    cases e : pduOk t a b c l with
    | true => rfl
    | false =>
      unfold putPdu at h
      rw [e] at h
      simp at h
  obtain ⟨ht, hl, hg⟩ := pduOk_kind hok
  obtain ⟨ha, hb, hc⟩ := pduOk_nums hok
  have hsm : ∀ x ∈ l, smallI x := fun x hx => goodI_small x (hg x hx)
  have hqb := bindsB_bys l hg
  have e0 : putPdu t a b c l = finP t a b c (bindsB l) := by unfold putPdu; rw [if_pos hok]
  have h1 : ((bindsB l).length : Int) ≤ 250 := by
    by_cases c1 : ((bindsB l).length : Int) ≤ 250
    · exact c1
    · rw [e0] at h
      unfold finP at h
      rw [if_neg c1] at h
      simp at h
  have h2 : ((numsB a b c ++ tlvBytes 48 (bindsB l)).length : Int) ≤ 250 := by
    by_cases c1 : ((numsB a b c ++ tlvBytes 48 (bindsB l)).length : Int) ≤ 250
    · exact c1
    · rw [e0] at h
      unfold finP at h
      rw [if_pos h1, if_neg c1] at h
      simp at h
  have e1 : putPdu t a b c l = tlvBytes t (numsB a b c ++ tlvBytes 48 (bindsB l)) := by
    rw [e0]
    unfold finP
    rw [if_pos h1, if_pos h2]
  have hL := putPdu_len t a b c l
  have hbys := putPdu_bys t a b c l
  have hT := iGetTlv_ev (putPdu t a b c l) 0 hbys (by omega) (by omega)
  have gf := get_full [] (numsB a b c ++ tlvBytes 48 (bindsB l)) t (by omega) (by omega)
  simp only [List.nil_append, List.length_nil, Int.natCast_zero] at gf
  rw [← e1] at gf
  rw [gf] at hT
  have hB : bys (numsB a b c ++ tlvBytes 48 (bindsB l)) := bys_app (addP_bys _ _ (addP_bys _ _ (addP_bys _ _ nil_bys))) (tlvBytes_bys 48 _ (by omega) hqb (by omega))
  have p3 := part_full (numsB a b c) (bindsB l) 48 (by omega) (by omega)
  have f1 : numsB a b c ++ tlvBytes 48 (bindsB l) = [] ++ (tlvBytes 2 (putInt (clip a)) ++ (tlvBytes 2 (putInt (clip b)) ++ (tlvBytes 2 (putInt (clip c)) ++ tlvBytes 48 (bindsB l)))) := by
    unfold numsB
    rw [addP_is, addP_is, addP_is]
    simp
  have f2 : numsB a b c ++ tlvBytes 48 (bindsB l) = tlvBytes 2 (putInt (clip a)) ++ (tlvBytes 2 (putInt (clip b)) ++ (tlvBytes 2 (putInt (clip c)) ++ tlvBytes 48 (bindsB l))) := by
    rw [f1]
    rfl
  have f3 : numsB a b c ++ tlvBytes 48 (bindsB l) = (tlvBytes 2 (putInt (clip a)) ++ tlvBytes 2 (putInt (clip b))) ++ (tlvBytes 2 (putInt (clip c)) ++ tlvBytes 48 (bindsB l)) := by
    rw [f2, List.append_assoc]
  have f4 : (tlvBytes 2 (putInt (clip a)) ++ tlvBytes 2 (putInt (clip b))) ++ tlvBytes 2 (putInt (clip c)) = numsB a b c := by
    unfold numsB
    rw [addP_is, addP_is, addP_is]
    simp
  have n0 := num_back [] (tlvBytes 2 (putInt (clip b)) ++ (tlvBytes 2 (putInt (clip c)) ++ tlvBytes 48 (bindsB l))) 2 a (by omega) ha
  have n1 := num_back (tlvBytes 2 (putInt (clip a))) (tlvBytes 2 (putInt (clip c)) ++ tlvBytes 48 (bindsB l)) 2 b (by omega) (by omega)
  have n2 := num_back (tlvBytes 2 (putInt (clip a)) ++ tlvBytes 2 (putInt (clip b))) (tlvBytes 48 (bindsB l)) 2 c (by omega) (by omega)
  rw [← f1] at n0
  rw [← f2] at n1
  rw [← f3, f4] at n2
  simp only [List.length_nil, Int.natCast_zero, List.nil_append] at n0
  have hB1 := congrArg List.length f2
  have d2 := congrArg List.length f4
  simp only [List.length_append] at hB1 d2 h2
  obtain ⟨B, hBe⟩ : ∃ B, numsB a b c ++ tlvBytes 48 (bindsB l) = B := ⟨_, rfl⟩
  have hBl : B.length = (numsB a b c).length + (tlvBytes 48 (bindsB l)).length := by rw [← hBe, List.length_append]
  rw [hBe] at hT hB p3 n0 n1 n2
  have i0 := iNum_ev B 0 false 2 hB (by omega) (by omega)
  rw [n0] at i0
  have i1 := iNum_ev B _ false 2 hB (by omega) (show 0 ≤ ((tlvBytes 2 (putInt (clip a))).length : Int) ∧ ((tlvBytes 2 (putInt (clip a))).length : Int) ≤ (B.length : Int) by omega)
  rw [n1] at i1
  have i2 := iNum_ev B _ false 2 hB (by omega) (show 0 ≤ ((tlvBytes 2 (putInt (clip a)) ++ tlvBytes 2 (putInt (clip b))).length : Int) ∧ ((tlvBytes 2 (putInt (clip a)) ++ tlvBytes 2 (putInt (clip b))).length : Int) ≤ (B.length : Int) by rw [List.length_append]; omega)
  rw [n2] at i2
  have i3 := iPart_ev B ((numsB a b c).length : Int) false 48 hB (by omega) (by omega)
  rw [p3] at i3
  have hlp := loop_back (putPdu t a b c l) t a b c l [] (by simpa using hg) (by simpa using hl)
  simp only [List.nil_append, bindsB, List.length_nil, Int.natCast_zero] at hlp
  have ip := iPutPdu_ev t a b c l (by omega) hsm
  refine ⟨hsm, hl, ?_⟩
  unfold impl_GetPdu.f
  refine Ev.bind hT ?_
  simp only [if_true]
  refine Ev.succ ?_
  simp only [impl_GetPdu.j0, bne_self_eq_false, Bool.false_eq_true, if_false]
  refine Ev.bind i0 (Ev.bind i1 (Ev.bind i2 (Ev.bind i3 ?_)))
  unfold impl_parts_done.f
  simp only [Bool.false_eq_true, if_false, beq_self_eq_true, Option.bind_some, if_true]
  refine hlp _ ?_
  refine Ev.succ ?_
  simp only [impl_GetPdu.l0, if_neg (show ¬ ((bindsB l).length : Int) < ((bindsB l).length : Int) by omega)]
  refine Ev.bind ip ?_
  simp only [if_neg (show ¬ ((putPdu t a b c l).length : Int) = 0 by omega), if_true]
  exact Ev.now _
theorem putMsg_form (s : ByteArray) (t a b c : Int) (l : List S116) (h : (putMsg s t a b c l).length ≠ 0) : (putPdu t a b c l).length ≠ 0 ∧ s.size ≤ 20 ∧ (msgBody s (putPdu t a b c l)).length ≤ 250 ∧ putMsg s t a b c l = tlvBytes 48 (msgBody s (putPdu t a b c l)) := by
  unfold putMsg at h ⊢
  by_cases c1 : (putPdu t a b c l).length = 0
  · rw [if_pos c1] at h
    simp at h
  rw [if_neg c1] at h ⊢
  by_cases c2 : (s.size : Int) > 20
  · rw [if_pos c2] at h
    simp at h
  rw [if_neg c2] at h ⊢
  by_cases c3 : ((msgBody s (putPdu t a b c l)).length : Int) ≤ 250
  · rw [if_pos c3]
    exact ⟨c1, by omega, by omega, rfl⟩
  · rw [if_neg c3] at h
    simp at h
theorem msg_back (w s : ByteArray) (t a b c : Int) (l : List S116) (h : (putMsg s t a b c l).length ≠ 0) : (∀ x ∈ l, smallI x) ∧ l.length ≤ 10 ∧ Ev (fun k => impl_GetMsg.f k w (putMsg s t a b c l)) (if s.toList = w.toList then (t, a, b, c, l, 0) else noMsg 3) := by
  obtain ⟨h0, hs, hm, e⟩ := putMsg_form s t a b c l h
  obtain ⟨hsm, hl, hP⟩ := pdu_back t a b c l h0
  have hL := putMsg_len s t a b c l
  have hT := iGetTlv_ev (putMsg s t a b c l) 0 (putMsg_bys s t a b c l) (by omega) (by omega)
  have gf := get_full [] (msgBody s (putPdu t a b c l)) 48 (by omega) hm
  simp only [List.nil_append, List.length_nil, Int.natCast_zero] at gf
  rw [← e] at gf
  rw [gf] at hT
  have hsb := bytesOf_length s
  have f2 : msgBody s (putPdu t a b c l) = tlvBytes 2 (putInt (clip 1)) ++ (tlvBytes 4 (bytesOf s) ++ putPdu t a b c l) := by
    unfold msgBody putTlv tlvOk
    rw [addP_is, decide_eq_true (show (0 : Int) ≤ 4 ∧ (4 : Int) ≤ 255 by omega), decide_eq_true (show ((bytesOf s).length : Int) ≤ 250 by omega)]
    simp
  have f1 : msgBody s (putPdu t a b c l) = [] ++ (tlvBytes 2 (putInt (clip 1)) ++ (tlvBytes 4 (bytesOf s) ++ putPdu t a b c l)) := by
    rw [f2]
    rfl
  have hB : bys (msgBody s (putPdu t a b c l)) := by
    rw [f2]
    exact bys_app (tlvBytes_bys 2 _ (by omega) (putInt_bys _) (by have := putInt_len (clip 1); omega)) (bys_app (tlvBytes_bys 4 _ (by omega) (bytesOf_bys s) (by omega)) (putPdu_bys t a b c l))
  have n0 := num_back [] (tlvBytes 4 (bytesOf s) ++ putPdu t a b c l) 2 1 (by omega) (by omega)
  have n1 := part_back (tlvBytes 2 (putInt (clip 1))) (bytesOf s) (putPdu t a b c l) 4 (by omega) (by omega)
  rw [← f1] at n0
  rw [← f2] at n1
  simp only [List.nil_append, List.length_nil, Int.natCast_zero] at n0
  have hd : (msgBody s (putPdu t a b c l)).drop (tlvBytes 2 (putInt (clip 1)) ++ tlvBytes 4 (bytesOf s)).length = putPdu t a b c l := by
    rw [f2, ← List.append_assoc, List.drop_left]
  have hBl := congrArg List.length f2
  simp only [List.length_append] at hBl
  generalize msgBody s (putPdu t a b c l) = B at hm hT hB n0 n1 hd hBl
  have i0 := iNum_ev B 0 false 2 hB (by omega) (by omega)
  rw [n0] at i0
  have i1 := iPart_ev B _ false 4 hB (by omega) (show 0 ≤ ((tlvBytes 2 (putInt (clip 1))).length : Int) ∧ ((tlvBytes 2 (putInt (clip 1))).length : Int) ≤ (B.length : Int) by omega)
  rw [n1] at i1
  refine ⟨hsm, hl, ?_⟩
  unfold impl_GetMsg.f
  refine Ev.bind hT ?_
  simp only [if_true, bne_self_eq_false]
  refine Ev.succ ?_
  simp only [impl_GetMsg.j0, Bool.false_eq_true, if_false]
  refine Ev.bind i0 (Ev.bind i1 ?_)
  simp only [Bool.false_eq_true, if_false, if_true, ofNums_bytes]
  by_cases q : s.toList = w.toList
  · simp only [if_pos q, Int.toNat_natCast, if_pos (show (0 : Int) ≤ ((tlvBytes 2 (putInt (clip 1)) ++ tlvBytes 4 (bytesOf s)).length : Int) by omega), if_pos (show ((tlvBytes 2 (putInt (clip 1)) ++ tlvBytes 4 (bytesOf s)).length : Int) ≤ (B.length : Int) by rw [List.length_append]; omega), hd]
    refine Ev.bind hP ?_
    simp only [if_true]
    exact Ev.now _
  · simp only [if_neg q]
    exact Ev.now _
theorem get_less (body : List Int) (t : Int) (n : Nat) (ht : 0 ≤ t ∧ t ≤ 255) (h : body.length ≤ 250) (hn : n < (tlvBytes t body).length) : getTlv ((tlvBytes t body).take n) 0 = no4 := by
  by_cases c : body.length ≤ 127
  · rw [tlvBytes_short t body ht c] at hn ⊢
    match n, hn with
    | 0, _ => rfl
    | 1, _ => rfl
    | m + 2, hn =>
      simp only [List.length_cons] at hn
      simp only [List.take_succ_cons]
      have g := get_short [] (body.take m) t (body.length : Int) (by omega)
      simp only [List.nil_append, List.length_nil, Int.natCast_zero] at g
      rw [g]
      exact tail_cut _ [t, (body.length : Int)] (body.take m) _ _ (body.length : Int) rfl rfl (by rw [List.length_take]; omega) rfl
  · rw [tlvBytes_long t body ht (by omega) h] at hn ⊢
    match n, hn with
    | 0, _ => rfl
    | 1, _ => rfl
    | 2, _ =>
      show getTlv [t, 129] 0 = no4
      unfold getTlv
      rw [if_neg (by simp), show rd [t, 129] (0 + 1) = 129 from rfl, if_pos (by omega), if_pos rfl, if_pos (by simp)]
    | m + 3, hn =>
      simp only [List.length_cons] at hn
      simp only [List.take_succ_cons]
      have g := get_long [] (body.take m) t (body.length : Int) (by omega)
      simp only [List.nil_append, List.length_nil, Int.natCast_zero] at g
      rw [g]
      exact tail_cut _ [t, 129, (body.length : Int)] (body.take m) _ _ (body.length : Int) rfl rfl (by rw [List.length_take]; omega) rfl
theorem msg_cut (w : ByteArray) (body : List Int) (n : Nat) (hb : bys (tlvBytes 48 body)) (h : body.length ≤ 250) (hn : n < (tlvBytes 48 body).length) : Ev (fun k => impl_GetMsg.f k w ((tlvBytes 48 body).take n)) (noMsg 1) := by
  have hl := tlvBytes_len 48 body
  have hT := iGetTlv_ev ((tlvBytes 48 body).take n) 0 (bys_take hb n) (by rw [List.length_take]; omega) (by omega)
  rw [get_less body 48 n (by omega) h hn] at hT
  unfold impl_GetMsg.f
  refine Ev.bind hT ?_
  simp only [no4, Bool.false_eq_true, if_false]
  refine Ev.succ ?_
  simp only [impl_GetMsg.j0, if_true]
  exact Ev.now _

/- a draw's state: the bytes, a place in them, a seed -/
def atOk (l : List Int) (p : Int) : Prop := 0 ≤ p ∧ p ≤ (l.length : Int)
theorem and_low (x : Int) (m : Nat) (hm : m < 9223372036854775808) : 0 ≤ Go.bits .and .i64 x (m : Int) ∧ Go.bits .and .i64 x (m : Int) ≤ m := by
  have e : m % 2 ^ IntKind.i64.bits = m := Nat.mod_eq_of_lt (show m < 2 ^ 64 by omega)
  simp only [Go.bits, BitVec.ofInt_natCast, BitVec.toNat_and, BitVec.toNat_ofNat, e]
  have h := Nat.and_le_right (n := (BitVec.ofInt IntKind.i64.bits x).toNat) (m := m)
  generalize (BitVec.ofInt IntKind.i64.bits x).toNat &&& m = q at h ⊢
  rw [IntKind.wrap_i64]
  omega
theorem and255 (x : Int) : 0 ≤ Go.bits .and .i64 x 255 ∧ Go.bits .and .i64 x 255 ≤ 255 := and_low x 255 (by decide)
theorem l1Byte_ok (l : List Int) (p s : Int) (hl : l.length ≤ 1048576) (h : atOk l p) : ∃ v p' s', spec_l1Byte.f l p s = some (v, p', s') ∧ (0 ≤ v ∧ v ≤ 255) ∧ atOk l p' := by
  unfold atOk at h
  unfold spec_l1Byte.f atOk
  by_cases c : p < (l.length : Int)
  · refine ⟨_, _, _, if_pos c |>.trans (if_pos h.1), and255 _, ?_⟩
    rw [w64 (by omega) (by omega)]
    omega
  · exact ⟨_, _, _, if_neg c, and255 _, h⟩
theorem l1Below_ok (l : List Int) (p s n : Int) (hl : l.length ≤ 1048576) (h : atOk l p) (hn : 0 < n) : ∃ v p' s', spec_l1Below.f l p s n = some (v, p', s') ∧ (0 ≤ v ∧ v < n) ∧ atOk l p' := by
  unfold spec_l1Below.f
  rw [if_neg (by omega)]
  obtain ⟨v1, p1, s1, e1, b1, h1⟩ := l1Byte_ok l p s hl h
  rw [e1]
  simp only [Option.bind_some, if_neg (show ¬ n = 0 by omega)]
  by_cases c : n ≤ 256
  · simp only [if_pos c]
    exact ⟨_, _, _, rfl, ⟨Int.tmod_nonneg _ b1.1, Int.tmod_lt_of_pos _ hn⟩, h1⟩
  · simp only [if_neg c]
    obtain ⟨v2, p2, s2, e2, b2, h2⟩ := l1Byte_ok l p1 s1 hl h1
    rw [e2]
    simp only [Option.bind_some]
    obtain ⟨v3, p3, s3, e3, b3, h3⟩ := l1Byte_ok l p2 s2 hl h2
    rw [e3]
    simp only [Option.bind_some]
    rw [w64 (x := v1 * 65536) (by omega) (by omega), w64 (x := v2 * 256) (by omega) (by omega), w64 (x := v1 * 65536 + v2 * 256) (by omega) (by omega), w64 (by omega) (by omega)]
    exact ⟨_, _, _, rfl, ⟨Int.tmod_nonneg _ (by omega), Int.tmod_lt_of_pos _ hn⟩, h3⟩
theorem rd_mem (xs : List Int) (i : Int) (h0 : 0 ≤ i) (h1 : i < (xs.length : Int)) : rd xs i ∈ xs := by
  unfold rd
  rw [List.getD_eq_getElem?_getD]
  have hi : i.toNat < xs.length := by omega
  rw [List.getElem?_eq_getElem hi]
  exact List.getElem_mem hi
theorem l1New_loop (l : List Int) (rest : List Int) : ∀ (pre : List Int) (s : Int), pre.length + rest.length ≤ 1048576 → ∃ s', Ev (fun k => spec_l1New.l0 k (pre ++ rest) s (pre.length : Int)) (pre ++ rest, 0, s') := by
  induction rest with
  | nil =>
    intro pre s _
    refine ⟨s, Ev.succ ?_⟩
    simp only [spec_l1New.l0]
    simp only [List.append_nil, if_neg (show ¬ (pre.length : Int) < (pre.length : Int) by omega)]
    exact Ev.now _
  | cons r rest ih =>
    intro pre s hn
    simp only [List.length_cons] at hn
    by_cases c : (pre.length : Int) < 4000
    · obtain ⟨s', h⟩ := ih (pre ++ [r]) (Go.bits .and .i64 (wrap64 ((wrap64 ((wrap64 (s * 137)) + (wrap64 r))) + 11)) 1073741823) (by simp only [List.length_append, List.length_cons, List.length_nil]; omega)
      simp only [List.append_assoc, List.cons_append, List.nil_append] at h
      rw [show ((pre ++ [r]).length : Int) = (pre.length : Int) + 1 by simp] at h
      refine ⟨s', Ev.succ ?_⟩
      simp only [spec_l1New.l0]
      simp only [if_pos (show (pre.length : Int) < ((pre ++ r :: rest).length : Int) by simp only [List.length_append, List.length_cons]; omega), if_pos c, if_pos (show (0 : Int) ≤ (pre.length : Int) by omega), rd_mid, w64 (x := (pre.length : Int) + 1) (by omega) (by omega)]
      exact h
    · refine ⟨s, Ev.succ ?_⟩
      simp only [spec_l1New.l0]
      simp only [if_pos (show (pre.length : Int) < ((pre ++ r :: rest).length : Int) by simp only [List.length_append, List.length_cons]; omega), if_neg c]
      exact Ev.now _
theorem l1New_ok (l : List Int) (hl : l.length ≤ 1048576) : ∃ s', Ev (fun k => spec_l1New.f k l) (l, 0, s') := by
  unfold spec_l1New.f
  have h := l1New_loop l l [] (wrap64 (762762 + (l.length : Int))) (by simp only [List.length_nil]; omega)
  simpa using h
theorem at0 (l : List Int) : atOk l 0 := ⟨by omega, by omega⟩

theorem l1Int_ok (l : List Int) (p s : Int) (xs : List Int) (hl : l.length ≤ 1048576) (h : atOk l p) (hx : 0 < xs.length) : ∃ v p' s', spec_l1Int.f l p s xs = some (v, p', s') ∧ v ∈ xs ∧ atOk l p' := by
  unfold spec_l1Int.f
  obtain ⟨v1, p1, s1, e1, b1, h1⟩ := l1Below_ok l p s (xs.length : Int) hl h (by omega)
  rw [e1]
  simp only [Option.bind_some, if_pos b1.1, if_pos b1.2]
  exact ⟨_, _, _, rfl, rd_mem xs v1 b1.1 b1.2, h1⟩

theorem l1Num_ok (l : List Int) (p s : Int) (hl : l.length ≤ 1048576) (h : atOk l p) : ∃ v p' s', spec_l1Num.f l p s = some (v, p', s') ∧ atOk l p' := by
  unfold spec_l1Num.f
  obtain ⟨v1, p1, s1, e1, b1, h1⟩ := l1Below_ok l p s 1000 hl h (by omega)
  obtain ⟨v2, p2, s2, e2, b2, h2⟩ := l1Int_ok l p1 s1 [0, 1, -1, 127, 128, -128, -129, 255, 256, 32767, 32768, -32769, 8388608, 2147483647, -2147483648, 2147483648, -2147483649, 9223372036854775807, -9223372036854775808, v1] hl h1 (by simp)
  simp only [e1, e2, Option.bind_some]
  exact ⟨_, _, _, rfl, h2⟩

def oids : List Int := [0, 1, 2, 3, 127, 128, 16384, 100000]
theorem l2Draw_loop (l : List Int) (hl : l.length ≤ 1048576) (n : Nat) : ∀ (x : List Int) (p s : Int), n ≤ 10 → x.length + n ≤ 1000 → atOk l p →
    ∃ o p' s', Ev (fun k => spec_l2Draw.l0 k x (n : Int) l p s) (o, p', s') ∧ o.length = x.length + n ∧ atOk l p' := by
  induction n with
  | zero =>
    intro x p s _ _ h
    refine ⟨x, p, s, Ev.succ ?_, by omega, h⟩
    simp only [spec_l2Draw.l0]
    simp only [if_neg (show ¬ ((0 : Nat) : Int) > 0 by omega)]
    exact Ev.now _
  | succ n ih =>
    intro x p s hn hx h
    obtain ⟨v1, p1, s1, e1, b1, h1⟩ := l1Int_ok l p s oids hl h (by decide)
    obtain ⟨o, p', s', e, ho, hp⟩ := ih (x ++ [v1]) p1 s1 (by omega) (by simp only [List.length_append, List.length_cons, List.length_nil]; omega) h1
    refine ⟨o, p', s', Ev.succ ?_, by simp only [List.length_append, List.length_cons, List.length_nil] at ho; omega, hp⟩
    unfold oids at e1
    simp only [spec_l2Draw.l0]
    simp only [if_pos (show ((n + 1 : Nat) : Int) > 0 by omega), e1, Option.bind_some, if_pos (show x.length < 17592186044416 by omega), show ((n + 1 : Nat) : Int) - 1 = (n : Int) by omega, w64 (x := (n : Int)) (by omega) (by omega)]
    exact e
theorem l2Draw_ok (l : List Int) (p s : Int) (hl : l.length ≤ 1048576) (h : atOk l p) : ∃ o p' s', Ev (fun k => spec_l2Draw.f k l p s) (o, p', s') ∧ (1 ≤ o.length ∧ o.length ≤ 6) ∧ atOk l p' := by
  unfold spec_l2Draw.f
  obtain ⟨v1, p1, s1, e1, b1, h1⟩ := l1Below_ok l p s 6 hl h (by omega)
  rw [e1]
  simp only [Option.bind_some]
  obtain ⟨n, hn⟩ := Int.eq_ofNat_of_zero_le (show 0 ≤ 1 + v1 by omega)
  obtain ⟨o, p', s', e, ho, hp⟩ := l2Draw_loop l hl n [] p1 s1 (by omega) (by simp only [List.length_nil]; omega) h1
  rw [w64 (by omega) (by omega), hn]
  exact ⟨o, p', s', e, by simp only [List.length_nil] at ho; omega, hp⟩
theorem l2Any_loop (l : List Int) (hl : l.length ≤ 1048576) (n : Nat) : ∀ (x : List Int) (p s : Int), 11 - x.length ≤ n → x.length ≤ 11 → atOk l p →
    ∃ o p' s', Ev (fun k => spec_l2Any.l0 k x l p s) (o, p', s') ∧ o.length ≤ 11 ∧ atOk l p' := by
  induction n with
  | zero =>
    intro x p s hn hx h
    obtain ⟨v1, p1, s1, e1, b1, h1⟩ := l1Below_ok l p s 2 hl h (by omega)
    refine ⟨x, p1, s1, Ev.succ ?_, hx, h1⟩
    simp only [spec_l2Any.l0]
    simp only [e1, Option.bind_some, w64 (x := 10 + v1) (by omega) (by omega), if_neg (show ¬ (x.length : Int) < 10 + v1 by omega)]
    exact Ev.now _
  | succ n ih =>
    intro x p s hn hx h
    obtain ⟨v1, p1, s1, e1, b1, h1⟩ := l1Below_ok l p s 2 hl h (by omega)
    by_cases c : (x.length : Int) < 10 + v1
    · obtain ⟨o, p', s', e, ho, hp⟩ := ih (x ++ [1]) p1 s1 (by simp only [List.length_append, List.length_cons, List.length_nil]; omega) (by simp only [List.length_append, List.length_cons, List.length_nil]; omega) h1
      refine ⟨o, p', s', Ev.succ ?_, ho, hp⟩
      simp only [spec_l2Any.l0]
      simp only [e1, Option.bind_some, w64 (x := 10 + v1) (by omega) (by omega), if_pos c, if_pos (show x.length < 17592186044416 by omega)]
      exact e
    · refine ⟨x, p1, s1, Ev.succ ?_, hx, h1⟩
      simp only [spec_l2Any.l0]
      simp only [e1, Option.bind_some, w64 (x := 10 + v1) (by omega) (by omega), if_neg c]
      exact Ev.now _
theorem l2Any_ok (l : List Int) (p s : Int) (hl : l.length ≤ 1048576) (h : atOk l p) : ∃ o p' s', Ev (fun k => spec_l2Any.f k l p s) (o, p', s') ∧ o.length ≤ 11 ∧ atOk l p' := by
  unfold spec_l2Any.f
  obtain ⟨o1, p1, s1, e1, b1, h1⟩ := l2Draw_ok l p s hl h
  obtain ⟨v2, p2, s2, e2, b2, h2⟩ := l1Below_ok l p1 s1 10 hl h1 (by omega)
  by_cases c0 : v2 = 0
  · refine ⟨[], p2, s2, Ev.bind e1 ?_, by simp, h2⟩
    simp only [e2, Option.bind_some, if_pos c0]
    exact Ev.now _
  by_cases c1 : v2 = 1
  · obtain ⟨v3, p3, s3, e3, b3, h3⟩ := l1Int_ok l p2 s2 [-1, 100001] hl h2 (by decide)
    refine ⟨o1.set (0 : Int).toNat v3, p3, s3, Ev.bind e1 ?_, by rw [List.length_set]; omega, h3⟩
    simp only [e2, Option.bind_some, if_neg c0, if_pos c1, e3, if_pos (show 0 < (o1.length : Int) by omega)]
    exact Ev.now _
  by_cases c2 : v2 = 2
  · obtain ⟨o, p', s', e, ho, hp⟩ := l2Any_loop l hl 11 o1 p2 s2 (by omega) (by omega) h2
    refine ⟨o, p', s', Ev.bind e1 ?_, ho, hp⟩
    simp only [e2, Option.bind_some, if_neg c0, if_neg c1, if_pos c2]
    exact e
  · refine ⟨o1, p2, s2, Ev.bind e1 ?_, by omega, h2⟩
    simp only [e2, Option.bind_some, if_neg c0, if_neg c1, if_neg c2]
    exact Ev.now _

theorem l1Str_ok (l : List Int) (p s : Int) (xs : List ByteArray) (hl : l.length ≤ 1048576) (h : atOk l p) (hx : 0 < xs.length) (hx2 : xs.length ≤ 1000) : ∃ v p' s', spec_l1Str.f l p s xs = some (v, p', s') ∧ atOk l p' := by
  unfold spec_l1Str.f
  obtain ⟨v1, p1, s1, e1, b1, h1⟩ := l1Below_ok l p s (xs.length : Int) hl h (by omega)
  simp only [e1, Option.bind_some, if_pos b1.1, if_pos b1.2]
  exact ⟨_, _, _, rfl, h1⟩
theorem l3Draw_j0 (l : List Int) (v : Int) (q : Bool) (p s : Int) (hl : l.length ≤ 1048576) (h : atOk l p) : ∃ t n z o p' s', Ev (fun k => spec_l3Draw.j0 k v q l p s) (t, n, z, o, p', s') ∧ o.length ≤ 6 ∧ atOk l p' := by
  cases q with
  | true =>
    obtain ⟨v1, p1, s1, e1, h1⟩ := l1Num_ok l p s hl h
    refine ⟨2, clip v1, ⟨#[]⟩, [], p1, s1, Ev.succ ?_, by simp, h1⟩
    simp only [spec_l3Draw.j0, if_true, e1, Option.bind_some, sClip_eq, spec_l3Int.f]
    exact Ev.now _
  | false =>
    by_cases c3 : v = 3
    · obtain ⟨v1, p1, s1, e1, h1⟩ := l1Str_ok l p s [(⟨#[]⟩ : ByteArray), (⟨#[97]⟩ : ByteArray), (⟨#[121, 97, 114, 100]⟩ : ByteArray), (⟨#[0]⟩ : ByteArray)] hl h (by decide) (by decide)
      refine ⟨4, 0, v1, [], p1, s1, Ev.succ ?_, by simp, h1⟩
      simp only [spec_l3Draw.j0, Bool.false_eq_true, if_false, if_pos c3, e1, Option.bind_some]
      exact Ev.now _
    · by_cases c4 : v = 4
      · obtain ⟨o, p1, s1, e1, n1, h1⟩ := l2Draw_ok l p s hl h
        refine ⟨6, 0, ⟨#[]⟩, o, p1, s1, Ev.succ ?_, by omega, h1⟩
        simp only [spec_l3Draw.j0, Bool.false_eq_true, if_false, if_neg c3, if_pos c4]
        exact Ev.bind e1 (Ev.now _)
      · obtain ⟨v1, p1, s1, e1, b1, h1⟩ := l1Int_ok l p s [128, 130] hl h (by decide)
        refine ⟨v1, 0, ⟨#[]⟩, [], p1, s1, Ev.succ ?_, by simp, h1⟩
        simp only [spec_l3Draw.j0, Bool.false_eq_true, if_false, if_neg c3, if_neg c4, e1, Option.bind_some]
        exact Ev.now _
theorem l3Draw_ok (l : List Int) (p s : Int) (hl : l.length ≤ 1048576) (h : atOk l p) : ∃ t n z o p' s', Ev (fun k => spec_l3Draw.f k l p s) (t, n, z, o, p', s') ∧ o.length ≤ 6 ∧ atOk l p' := by
  unfold spec_l3Draw.f
  obtain ⟨v1, p1, s1, e1, b1, h1⟩ := l1Below_ok l p s 6 hl h (by omega)
  simp only [e1, Option.bind_some]
  by_cases c0 : v1 = 0
  · simp only [if_pos c0]
    exact ⟨5, 0, ⟨#[]⟩, [], p1, s1, Ev.now _, by simp, h1⟩
  · by_cases c1 : v1 = 1
    · simp only [if_neg c0, if_pos c1]
      exact l3Draw_j0 l v1 _ p1 s1 hl h1
    · simp only [if_neg c0, if_neg c1]
      exact l3Draw_j0 l v1 _ p1 s1 hl h1

theorem l3Any_ok (l : List Int) (p s : Int) (hl : l.length ≤ 1048576) (h : atOk l p) : ∃ t n z o p' s', Ev (fun k => spec_l3Any.f k l p s) (t, n, z, o, p', s') ∧ o.length ≤ 11 ∧ atOk l p' := by
  unfold spec_l3Any.f
  obtain ⟨t, n, z, o, p1, s1, e1, n1, h1⟩ := l3Draw_ok l p s hl h
  obtain ⟨v2, p2, s2, e2, b2, h2⟩ := l1Below_ok l p1 s1 12 hl h1 (by omega)
  have n2 : o.length ≤ 11 := by omega
  by_cases c0 : v2 = 0
  · obtain ⟨v3, p3, s3, e3, b3, h3⟩ := l1Int_ok l p2 s2 [0, 1, 2, 4, 5, 6, 128, 129, 130] hl h2 (by decide)
    refine ⟨v3, n, z, o, p3, s3, Ev.bind e1 ?_, n2, h3⟩
    simp only [e2, Option.bind_some, if_pos c0, e3]
    exact Ev.now _
  by_cases c1 : v2 = 1
  · obtain ⟨v3, p3, s3, e3, h3⟩ := l1Num_ok l p2 s2 hl h2
    refine ⟨t, v3, z, o, p3, s3, Ev.bind e1 ?_, n2, h3⟩
    simp only [e2, Option.bind_some, if_neg c0, if_pos c1, e3]
    exact Ev.now _
  by_cases c2 : v2 = 2
  · obtain ⟨v3, p3, s3, e3, b3, h3⟩ := l1Below_ok l p2 s2 2 hl h2 (by omega)
    refine ⟨t, n, strOfNums (List.replicate (20 + v3).toNat 0), o, p3, s3, Ev.bind e1 ?_, n2, h3⟩
    simp only [e2, Option.bind_some, if_neg c0, if_neg c1, if_pos c2, e3, w64 (x := 20 + v3) (by omega) (by omega), if_pos (show (0 : Int) ≤ 20 + v3 by omega), if_pos (show (20 + v3).toNat ≤ 281474976710656 by omega)]
    exact Ev.now _
  by_cases c3 : v2 = 3
  · obtain ⟨o3, p3, s3, e3, n3, h3⟩ := l2Any_ok l p2 s2 hl h2
    refine ⟨t, n, z, o3, p3, s3, Ev.bind e1 ?_, n3, h3⟩
    simp only [e2, Option.bind_some, if_neg c0, if_neg c1, if_neg c2, if_pos c3]
    exact Ev.bind e3 (Ev.now _)
  · refine ⟨t, n, z, o, p2, s2, Ev.bind e1 ?_, n2, h2⟩
    simp only [e2, Option.bind_some, if_neg c0, if_neg c1, if_neg c2, if_neg c3]
    exact Ev.now _

theorem l4Draw_loop (l : List Int) (hl : l.length ≤ 1048576) (t a b c : Int) (n : Nat) : ∀ (L : List S116) (p s : Int), n ≤ 10 → L.length + n ≤ 1000 → (∀ y ∈ L, smallI y) → atOk l p →
    ∃ L' p' s', Ev (fun k => spec_l4Draw.l0 k (n : Int) l p s t a b c L) (t, a, b, c, L', p', s') ∧ L'.length ≤ 1000 ∧ (∀ y ∈ L', smallI y) ∧ atOk l p' := by
  induction n with
  | zero =>
    intro L p s _ hL hw h
    refine ⟨L, p, s, Ev.succ ?_, by omega, hw, h⟩
    simp only [spec_l4Draw.l0]
    simp only [if_neg (show ¬ ((0 : Nat) : Int) > 0 by omega)]
    exact Ev.now _
  | succ n ih =>
    intro L p s hn hL hw h
    obtain ⟨o, p1, s1, e1, n1, h1⟩ := l2Draw_ok l p s hl h
    obtain ⟨vt, vn, vz, vo, p2, s2, e2, n2, h2⟩ := l3Draw_ok l p1 s1 hl h1
    obtain ⟨L', p', s', e, nL, hw', hp⟩ := ih (L ++ [⟨o, ⟨vt, vn, vz, vo⟩⟩]) p2 s2 (by omega) (by simp only [List.length_append, List.length_cons, List.length_nil]; omega) (by
      intro y hy
      rcases List.mem_append.1 hy with hy | hy
      · exact hw y hy
      · rw [List.mem_singleton.1 hy]
        exact ⟨show o.length ≤ _ by omega, show vo.length ≤ _ by omega⟩) h2
    refine ⟨L', p', s', Ev.succ ?_, nL, hw', hp⟩
    simp only [spec_l4Draw.l0]
    simp only [if_pos (show ((n + 1 : Nat) : Int) > 0 by omega)]
    refine Ev.bind e1 (Ev.bind e2 ?_)
    simp only [if_pos (show L.length < 1759218604441 by omega), show ((n + 1 : Nat) : Int) - 1 = (n : Int) by omega, w64 (x := (n : Int)) (by omega) (by omega)]
    exact e
theorem l4Draw_j1 (l : List Int) (hl : l.length ≤ 1048576) (t a b c p s : Int) (h : atOk l p) : ∃ L p' s', Ev (fun k => spec_l4Draw.j1 k l p s t a b c) (t, a, b, c, L, p', s') ∧ L.length ≤ 1000 ∧ (∀ y ∈ L, smallI y) ∧ atOk l p' := by
  obtain ⟨v, p1, s1, e1, b1, h1⟩ := l1Below_ok l p s 4 hl h (by omega)
  obtain ⟨n, rfl⟩ := Int.eq_ofNat_of_zero_le b1.1
  obtain ⟨L, p', s', e, nL, hw, hp⟩ := l4Draw_loop l hl t a b c n [] p1 s1 (by omega) (by simp only [List.length_nil]; omega) (by simp) h1
  refine ⟨L, p', s', Ev.succ ?_, nL, hw, hp⟩
  simp only [spec_l4Draw.j1, e1, Option.bind_some]
  exact e
theorem l4Draw_j0 (l : List Int) (hl : l.length ≤ 1048576) (q : Bool) (t a p s : Int) (h : atOk l p) : ∃ b c L p' s', Ev (fun k => spec_l4Draw.j0 k q l p s t a 0 0) (t, a, b, c, L, p', s') ∧ L.length ≤ 1000 ∧ (∀ y ∈ L, smallI y) ∧ atOk l p' := by
  cases q with
  | true =>
    obtain ⟨b, p1, s1, e1, b1, h1⟩ := l1Below_ok l p s 4 hl h (by omega)
    obtain ⟨c, p2, s2, e2, b2, h2⟩ := l1Below_ok l p1 s1 5 hl h1 (by omega)
    obtain ⟨L, p', s', e, nL, hw, hp⟩ := l4Draw_j1 l hl t a b c p2 s2 h2
    refine ⟨b, c, L, p', s', Ev.succ ?_, nL, hw, hp⟩
    simp only [spec_l4Draw.j0, if_true, e1, e2, Option.bind_some]
    exact e
  | false =>
    obtain ⟨L, p', s', e, nL, hw, hp⟩ := l4Draw_j1 l hl t a 0 0 p s h
    refine ⟨0, 0, L, p', s', Ev.succ ?_, nL, hw, hp⟩
    simp only [spec_l4Draw.j0, Bool.false_eq_true, if_false]
    exact e
theorem l4Draw_ok (l : List Int) (p s : Int) (hl : l.length ≤ 1048576) (h : atOk l p) : ∃ t a b c L p' s', Ev (fun k => spec_l4Draw.f k l p s) (t, a, b, c, L, p', s') ∧ L.length ≤ 1000 ∧ (∀ y ∈ L, smallI y) ∧ atOk l p' := by
  unfold spec_l4Draw.f
  obtain ⟨t, p1, s1, e1, b1, h1⟩ := l1Int_ok l p s [160, 161, 162, 163, 165] hl h (by decide)
  obtain ⟨v, p2, s2, e2, h2⟩ := l1Num_ok l p1 s1 hl h1
  simp only [e1, e2, Option.bind_some, sClip_eq]
  by_cases q : t = 162
  · obtain ⟨b, c, L, p', s', e, nL, hw, hp⟩ := l4Draw_j0 l hl true t (clip v) p2 s2 h2
    refine ⟨t, clip v, b, c, L, p', s', ?_, nL, hw, hp⟩
    simp only [if_pos q]
    exact e
  · obtain ⟨b, c, L, p', s', e, nL, hw, hp⟩ := l4Draw_j0 l hl (t == 165) t (clip v) p2 s2 h2
    refine ⟨t, clip v, b, c, L, p', s', ?_, nL, hw, hp⟩
    simp only [if_neg q]
    exact e

theorem rdOf_mem {α : Type} (d : α) (xs : List α) (i : Int) (h0 : 0 ≤ i) (h1 : i < (xs.length : Int)) : rdOf d xs i ∈ xs := by
  unfold rdOf
  rw [List.getD_eq_getElem?_getD]
  have hi : i.toNat < xs.length := by omega
  rw [List.getElem?_eq_getElem hi]
  exact List.getElem_mem hi
theorem l1Str_in (l : List Int) (p s : Int) (xs : List ByteArray) (hl : l.length ≤ 1048576) (h : atOk l p) (hx : 0 < xs.length) (hx2 : xs.length ≤ 1000) : ∃ v p' s', spec_l1Str.f l p s xs = some (v, p', s') ∧ v ∈ xs ∧ atOk l p' := by
  unfold spec_l1Str.f
  obtain ⟨v1, p1, s1, e1, b1, h1⟩ := l1Below_ok l p s (xs.length : Int) hl h (by omega)
  simp only [e1, Option.bind_some, if_pos b1.1, if_pos b1.2]
  exact ⟨_, _, _, rfl, rdOf_mem _ _ _ b1.1 b1.2, h1⟩
theorem l4Any_loop (l : List Int) (hl : l.length ≤ 1048576) (t a b c : Int) (n : Nat) : ∀ (L : List S116) (p s : Int), 11 - L.length ≤ n → L.length ≤ 1001 → (∀ y ∈ L, smallI y) → atOk l p →
    ∃ L' p' s', Ev (fun k => spec_l4Any.l0 k l p s t a b c L) (t, a, b, c, L', p', s') ∧ L'.length ≤ 1001 ∧ (∀ y ∈ L', smallI y) ∧ atOk l p' := by
  induction n with
  | zero =>
    intro L p s hn hL hw h
    obtain ⟨v1, p1, s1, e1, b1, h1⟩ := l1Below_ok l p s 2 hl h (by omega)
    refine ⟨L, p1, s1, Ev.succ ?_, hL, hw, h1⟩
    simp only [spec_l4Any.l0]
    simp only [e1, Option.bind_some, w64 (x := 10 + v1) (by omega) (by omega), if_neg (show ¬ (L.length : Int) < 10 + v1 by omega)]
    exact Ev.now _
  | succ n ih =>
    intro L p s hn hL hw h
    obtain ⟨v1, p1, s1, e1, b1, h1⟩ := l1Below_ok l p s 2 hl h (by omega)
    by_cases c0 : (L.length : Int) < 10 + v1
    · obtain ⟨o, p2, s2, e2, n2, h2⟩ := l2Draw_ok l p1 s1 hl h1
      obtain ⟨L', p', s', e, nL, hw', hp⟩ := ih (L ++ [⟨o, ⟨4, 0, ⟨#[116, 119, 101, 110, 116, 121, 45, 98, 121, 116, 101, 115, 45, 111, 102, 45, 116, 101, 120, 116]⟩, []⟩⟩]) p2 s2 (by simp only [List.length_append, List.length_cons, List.length_nil]; omega) (by simp only [List.length_append, List.length_cons, List.length_nil]; omega) (by
        intro y hy
        rcases List.mem_append.1 hy with hy | hy
        · exact hw y hy
        · rw [List.mem_singleton.1 hy]
          exact ⟨show o.length ≤ _ by omega, by simp⟩) h2
      refine ⟨L', p', s', Ev.succ ?_, nL, hw', hp⟩
      simp only [spec_l4Any.l0]
      simp only [e1, Option.bind_some, w64 (x := 10 + v1) (by omega) (by omega), if_pos c0]
      refine Ev.bind e2 ?_
      simp only [if_pos (show L.length < 1759218604441 by omega)]
      exact e
    · refine ⟨L, p1, s1, Ev.succ ?_, hL, hw, h1⟩
      simp only [spec_l4Any.l0]
      simp only [e1, Option.bind_some, w64 (x := 10 + v1) (by omega) (by omega), if_neg c0]
      exact Ev.now _
theorem l4Any_ok (l : List Int) (p s : Int) (hl : l.length ≤ 1048576) (h : atOk l p) : ∃ t a b c L p' s', Ev (fun k => spec_l4Any.f k l p s) (t, a, b, c, L, p', s') ∧ L.length ≤ 1001 ∧ (∀ y ∈ L, smallI y) ∧ atOk l p' := by
  unfold spec_l4Any.f
  obtain ⟨t, a, b, c, L, p1, s1, e1, nL, hw, h1⟩ := l4Draw_ok l p s hl h
  obtain ⟨v2, p2, s2, e2, b2, h2⟩ := l1Below_ok l p1 s1 12 hl h1 (by omega)
  have nL' : L.length ≤ 1001 := by omega
  by_cases c0 : v2 = 0
  · obtain ⟨v3, p3, s3, e3, b3, h3⟩ := l1Below_ok l p2 s2 256 hl h2 (by omega)
    refine ⟨v3, a, b, c, L, p3, s3, Ev.bind e1 ?_, nL', hw, h3⟩
    simp only [e2, Option.bind_some, if_pos c0, e3]
    exact Ev.now _
  by_cases c1 : v2 = 1
  · obtain ⟨v3, p3, s3, e3, b3, h3⟩ := l1Int_ok l p2 s2 [(-1), 1, 1000, 1001] hl h2 (by decide)
    refine ⟨t, a, v3, c, L, p3, s3, Ev.bind e1 ?_, nL', hw, h3⟩
    simp only [e2, Option.bind_some, if_neg c0, if_pos c1, e3]
    exact Ev.now _
  by_cases c2 : v2 = 2
  · obtain ⟨o, p3, s3, e3, n3, h3⟩ := l2Any_ok l p2 s2 hl h2
    obtain ⟨vt, vn, vz, vo, p4, s4, e4, n4, h4⟩ := l3Any_ok l p3 s3 hl h3
    refine ⟨t, a, b, c, L ++ [⟨o, ⟨vt, vn, vz, vo⟩⟩], p4, s4, Ev.bind e1 ?_, by simp only [List.length_append, List.length_cons, List.length_nil]; omega, ?_, h4⟩
    · simp only [e2, Option.bind_some, if_neg c0, if_neg c1, if_pos c2]
      refine Ev.bind e3 (Ev.bind e4 ?_)
      simp only [if_pos (show L.length < 1759218604441 by omega)]
      exact Ev.now _
    · intro y hy
      rcases List.mem_append.1 hy with hy | hy
      · exact hw y hy
      · rw [List.mem_singleton.1 hy]
        exact ⟨show o.length ≤ _ by omega, show vo.length ≤ _ by omega⟩
  by_cases c3 : v2 = 3
  · obtain ⟨L', p', s', e, nL2, hw', hp⟩ := l4Any_loop l hl t a b c 11 L p2 s2 (by omega) nL' hw h2
    refine ⟨t, a, b, c, L', p', s', Ev.bind e1 ?_, nL2, hw', hp⟩
    simp only [e2, Option.bind_some, if_neg c0, if_neg c1, if_neg c2, if_pos c3]
    exact e
  · refine ⟨t, a, b, c, L, p2, s2, Ev.bind e1 ?_, nL', hw, h2⟩
    simp only [e2, Option.bind_some, if_neg c0, if_neg c1, if_neg c2, if_neg c3]
    exact Ev.now _
theorem drawPutMsg_ok (l : List Int) (hl : l.length ≤ 1048576) : ∃ w t a b c L, Ev (fun k => spec_DrawPutMsg.f k l) (w, t, a, b, c, L) ∧ w.size ≤ 21 ∧ L.length ≤ 1001 ∧ (∀ y ∈ L, smallI y) := by
  unfold spec_DrawPutMsg.f
  obtain ⟨s0, e0⟩ := l1New_ok l hl
  obtain ⟨w, p1, s1, e1, b1, h1⟩ := l1Str_in l 0 s0 [(⟨#[121, 97, 114, 100]⟩ : ByteArray), (⟨#[]⟩ : ByteArray), (⟨#[111, 112, 101, 110]⟩ : ByteArray), (⟨#[116, 119, 101, 110, 116, 121, 45, 111, 110, 101, 45, 98, 121, 116, 101, 115, 45, 116, 101, 120, 116]⟩ : ByteArray)] hl (at0 l) (by simp) (by simp)
  obtain ⟨t, a, b, c, L, p2, s2, e2, nL, hw, h2⟩ := l4Any_ok l p1 s1 hl h1
  refine ⟨w, t, a, b, c, L, Ev.bind e0 ?_, ?_, nL, hw⟩
  · simp only [e1, Option.bind_some]
    exact Ev.bind e2 (Ev.now _)
  · simp only [List.mem_cons, List.not_mem_nil, or_false] at b1
    rcases b1 with rfl | rfl | rfl | rfl <;> decide
theorem at_ok (l : List Int) (hb : bys l) (hl : l.length ≤ 1048576) : ∃ v, laws_at.f l 2 = some v ∧ 0 ≤ v := by
  unfold laws_at.f
  by_cases c : (2 : Int) < (l.length : Int)
  · have h := rd_bd l hb 2
    refine ⟨wrap64 (rd l 2), by rw [if_pos c, if_pos (by omega)], ?_⟩
    rw [w64 (by omega) (by omega)]
    omega
  · refine ⟨_, if_neg c, ?_⟩
    rw [w64 (x := (2 : Int) * 31) (by omega) (by omega), w64 (x := (l.length : Int) * 7) (by omega) (by omega), w64 (by omega) (by omega)]
    exact Int.tmod_nonneg _ (by omega)
theorem word_ne (s x : ByteArray) (hx : x.size = 1) : ¬ s.toList = (s ++ x).toList := by
  intro h
  have e := congrArg ByteArray.size (bytes_ext _ _ h)
  rw [ByteArray.size_append] at e
  omega

theorem sameVal_self (t n : Int) (s : ByteArray) (o : List Int) : sameVal t n s o t n s o = true := by
  unfold sameVal
  simp
theorem sameBs_self : ∀ l : List S116, sameBs l l = true
  | [] => rfl
  | r :: a => by
    simp only [sameBs, decide_true, if_true, sameVal_self]
    exact sameBs_self a
theorem samePdu_ev (t a b c : Int) (l : List S116) (h : l.length ≤ 1048576) (hw : ∀ y ∈ l, smallI y) : Ev (fun k => laws_samePdu.f k t a b c l t a b c l) true := by
  unfold laws_samePdu.f
  simp only [if_true]
  have e := iSameBinds_ev l l h hw
  rw [if_pos rfl, sameBs_self] at e
  exact Ev.bind e (Ev.now _)

theorem FnMsgs : laws_FnMsgs.Pure := by
  intro l0 _ _
  refine Ev.rounds ?_
  unfold laws_FnMsgs.f
  unfold laws_big.f
  simp only [Option.bind_some]
  by_cases hbig : (l0.length : Int) > 1048576
  · simp only [decide_eq_true hbig, if_true]
    exact Ev.now _
  have hsm : l0.length ≤ 1048576 := by omega
  simp only [decide_eq_false hbig, Bool.false_eq_true, if_false]
  obtain ⟨w, t, a, b, c, L, hD, nw, nL, hw⟩ := drawPutMsg_ok l0 hsm
  have nM := putMsg_len w t a b c L
  refine Ev.bind hD (Ev.bind (iPutMsg_ev w t a b c L (by omega) hw) (Ev.bind (sPutMsg_ev w t a b c L (by omega) hw) (Ev.bind (sameBytes_ev _ _ (by omega)) ?_)))
  simp only [decide_true, if_true]
  by_cases h : ((putMsg w t a b c L).length : Int) = 0
  · simp only [if_pos h]
    exact Ev.now _
  simp only [if_neg h]
  have h0 : (putMsg w t a b c L).length ≠ 0 := by omega
  obtain ⟨_, _, m1⟩ := msg_back w w t a b c L h0
  obtain ⟨_, _, m2⟩ := msg_back (w ++ (⟨#[120]⟩ : ByteArray)) w t a b c L h0
  rw [if_pos rfl] at m1
  rw [if_neg (word_ne w _ rfl)] at m2
  obtain ⟨v, e, hv⟩ := at_ok l0 (fun y hy => wf8 (‹∀ (y : Int), y ∈ l0 → (Lit.int .u8 y).wf = true› y hy)) hsm
  obtain ⟨_, _, hm, eM⟩ := putMsg_form w t a b c L h0
  have k1 := Int.tmod_nonneg ((putMsg w t a b c L).length : Int) hv
  have k2 := Int.tmod_lt_of_pos v (show (0 : Int) < ((putMsg w t a b c L).length : Int) by omega)
  refine Ev.bind m1 ?_
  simp only [if_pos (show w.size + 1 ≤ 9223372036854775807 by omega)]
  refine Ev.bind m2 ?_
  simp only [e, Option.bind_some, if_pos k1, if_pos (show Int.tmod v ((putMsg w t a b c L).length : Int) ≤ ((putMsg w t a b c L).length : Int) by omega)]
  have m3 := msg_cut w (msgBody w (putPdu t a b c L)) (Int.tmod v ((putMsg w t a b c L).length : Int)).toNat (by rw [← eM]; exact putMsg_bys _ _ _ _ _ _) hm (by rw [← eM]; omega)
  rw [← eM] at m3
  refine Ev.bind m3 ?_
  simp only [if_true]
  refine Ev.bind (samePdu_ev t a b c L (by omega) hw) ?_
  simp only [noMsg, if_true, beq_self_eq_true]
  exact Ev.now _

end Go.Proofs.Ythhnfmbfgplelaa.Pure
