/- The pure side of FnInts: what stands for a number reads back, and what reads stands for its number. No conditions but those of the given statement. -/
import Derived.Test.YtndfokcnogpeiaaXFnIntsx3
namespace Go.Proofs.Ytndfokcnogpeiaa.Pure
open Go.RowKit Go.Proofs.Ytndfokcnogpeiaa.XFnInts Go.Proofs.YtndfokcnogpeiaaW.PrintWords Go.Proofs.YtndfokcnogpeiaaW.PrintLast Go.Proofs.YtndfokcnogpeiaaW.PrintMore
set_option linter.unusedVariables false
set_option linter.unusedSimpArgs false

theorem w64 {x : Int} (h0 : -9223372036854775808 ≤ x) (h1 : x ≤ 9223372036854775807) : wrap64 x = x := by
  unfold wrap64
  omega
theorem wf64 {x : Int} (h : (Lit.int .i64 x).wf = true) : -9223372036854775808 ≤ x ∧ x ≤ 9223372036854775807 := by
  simp only [Lit.wf, Bool.and_eq_true, decide_eq_true_eq] at h
  exact h
theorem wf8 {x : Int} (h : (Lit.int .u8 x).wf = true) : 0 ≤ x ∧ x ≤ 255 := by
  simp only [Lit.wf, Bool.and_eq_true, decide_eq_true_eq] at h
  exact h
theorem rd_mid (pre rest : List Int) (r : Int) : rd (pre ++ r :: rest) (pre.length : Int) = r := by
  unfold rd
  simp [List.getD_eq_getElem?_getD]
theorem set_mid {α : Type} (pre rest : List α) (r v : α) : (pre ++ r :: rest).set (pre.length : Int).toNat v = pre ++ v :: rest := by
  rw [Int.toNat_natCast, List.set_append_right _ _ (Nat.le_refl _)]
  simp
theorem succ_of {d k : Nat} (h : d < k) : ∃ m, k = m + 1 := ⟨k - 1, by omega⟩
theorem Ev.at_ {α : Type} {g : Nat → Option α} {r : α} (n : Nat) (h : ∀ k, n < k → g k = some r) : Ev g r := ⟨n + 1, fun k hk => h k (by omega)⟩
theorem Ev.some_ {α : Type} {v : Option α} {r : α} (h : v = some r) : Ev (fun _ => v) r := ⟨0, fun _ _ => h⟩
theorem Ev.succ {α : Type} {g : Nat → Option α} {r : α} (h : Ev (fun k => g (k + 1)) r) : Ev g r := by
  obtain ⟨K, h⟩ := h
  refine ⟨K + 1, fun n hn => ?_⟩
  obtain ⟨m, rfl⟩ : ∃ m, n = m + 1 := ⟨n - 1, by omega⟩
  exact h m (by omega)
theorem Ev.some_const {α : Type} {g : Nat → Option α} {r : α} (h : ∀ k, g k = some r) : Ev g r := ⟨0, fun k _ => h k⟩

theorem l1In_eq (a b c : Int) : spec_l1In.f a b c = some (decide (b ≤ a ∧ a ≤ c)) := by
  unfold spec_l1In.f
  by_cases h : b ≤ a
  · rw [if_pos h]; simp [h]
  · rw [if_neg h]; simp [h]

theorem in_eq (a b c : Int) : impl_in.f a b c = some (decide (b ≤ a ∧ a ≤ c)) := by
  unfold impl_in.f
  by_cases h : b ≤ a
  · rw [if_pos h]; simp [h]
  · rw [if_neg h]; simp [h]

theorem sameBytes_loop (a : List Int) : ∀ (b pre pre' : List Int) (k : Nat), pre.length = pre'.length → a.length = b.length → pre.length + a.length ≤ 1099511627776 → a.length < k →
    laws_sameBytes.l0 k (pre ++ a) (pre' ++ b) (pre.length : Int) = some (decide (a = b)) := by
  induction a with
  | nil =>
    intro b pre pre' k hp hab hn hk
    obtain ⟨k, rfl⟩ := succ_of hk
    obtain rfl : b = [] := List.eq_nil_of_length_eq_zero hab.symm
    simp only [laws_sameBytes.l0]
    rw [if_neg (by simp only [List.length_append, List.length_nil] at *; omega)]
    simp
  | cons r a ih =>
    intro b pre pre' k hp hab hn hk
    obtain ⟨k, rfl⟩ := succ_of hk
    cases b with
    | nil => simp at hab
    | cons s b =>
      simp only [List.length_cons] at hab hn hk
      simp only [laws_sameBytes.l0]
      have e : rd (pre' ++ s :: b) (pre.length : Int) = s := by rw [hp, rd_mid]
      rw [if_pos (by simp only [List.length_append, List.length_cons]; omega), if_pos (by omega), if_pos (by simp only [List.length_append, List.length_cons]; omega), rd_mid, e]
      by_cases hrs : r = s
      · subst hrs
        rw [if_pos rfl, w64 (by omega) (by omega)]
        have h := ih b (pre ++ [r]) (pre' ++ [r]) k (by simp [hp]) (by omega) (by simp only [List.length_append, List.length_cons, List.length_nil]; omega) (by omega)
        simpa using h
      · rw [if_neg hrs]
        simp [hrs]
theorem sameBytes_ev (a b : List Int) (h : a.length ≤ 1099511627776) : Ev (fun k => laws_sameBytes.f k a b) (decide (a = b)) := by
  refine Ev.at_ a.length fun k hk => ?_
  simp only [laws_sameBytes.f]
  by_cases e : a.length = b.length
  · rw [if_pos (by omega)]
    have h := sameBytes_loop a b [] [] k rfl e (by simp only [List.length_nil]; omega) hk
    simpa using h
  · rw [if_neg (by omega)]
    have hne : ¬ a = b := fun h => e (by rw [h])
    simp [hne]

def clip (n : Int) : Int := if n > 2147483647 then 2147483647 else if n < -2147483648 then -2147483648 else n
theorem clip_bd (n : Int) : -2147483648 ≤ clip n ∧ clip n ≤ 2147483647 := by
  unfold clip
  split
  · omega
  · split <;> omega
def putInt (n : Int) : List Int :=
  if -128 ≤ n ∧ n ≤ 127 then [n % 256]
  else if -32768 ≤ n ∧ n ≤ 32767 then [n / 256 % 256, n % 256]
  else if -8388608 ≤ n ∧ n ≤ 8388607 then [n / 65536 % 256, n / 256 % 256, n % 256]
  else [n / 16777216 % 256, n / 65536 % 256, n / 256 % 256, n % 256]
theorem putInt_len (n : Int) : (putInt n).length ≤ 4 := by
  unfold putInt
  split
  · simp
  · split
    · simp
    · split <;> simp

theorem sClip_eq (n : Int) : spec_l1Clip.f n = some (clip n) := by
  unfold spec_l1Clip.f clip
  split
  · rfl
  · split <;> rfl
theorem sPutInt_stop (k : Nat) (n : Int) (out : List Int) (h0 : -128 ≤ n) (h1 : n ≤ 127) : spec_PutInt.l0 (k + 1) n out = some out := by
  simp only [spec_PutInt.l0]
  rw [if_neg (by omega), if_neg (by omega)]
theorem sPutInt_go (k : Nat) (n : Int) (out : List Int) (h : n < -128 ∨ n > 127) (ho : out.length < 1000) : spec_PutInt.l0 (k + 1) n out = spec_PutInt.l0 k (n / 256) ([n / 256 % 256] ++ out) := by
  simp only [spec_PutInt.l0]
  by_cases h0 : n < -128
  · rw [if_pos h0]
    simp only [Option.bind_some]
    rw [if_pos (by simp only [List.length_cons, List.length_nil]; omega)]
  · rw [if_neg h0, if_pos (by omega)]
    simp only [Option.bind_some]
    rw [if_pos (by simp only [List.length_cons, List.length_nil]; omega)]
theorem sPutInt_at (m : Nat) (n : Int) (h0 : -2147483648 ≤ n) (h1 : n ≤ 2147483647) : spec_PutInt.l0 (m + 4) n [n % 256] = some (putInt n) := by
  unfold putInt
  by_cases c1 : -128 ≤ n ∧ n ≤ 127
  · rw [if_pos c1, sPutInt_stop _ _ _ c1.1 c1.2]
  · rw [if_neg c1, sPutInt_go _ _ _ (by omega) (by simp)]
    by_cases c2 : -32768 ≤ n ∧ n ≤ 32767
    · rw [if_pos c2, sPutInt_stop _ _ _ (by omega) (by omega)]
      rfl
    · rw [if_neg c2, sPutInt_go _ _ _ (by omega) (by simp), show n / 256 / 256 = n / 65536 by omega]
      by_cases c3 : -8388608 ≤ n ∧ n ≤ 8388607
      · rw [if_pos c3, sPutInt_stop _ _ _ (by omega) (by omega)]
        rfl
      · rw [if_neg c3, sPutInt_go _ _ _ (by omega) (by simp), show n / 65536 / 256 = n / 16777216 by omega, sPutInt_stop _ _ _ (by omega) (by omega)]
        rfl
theorem sPutInt_ev (n : Int) : Ev (fun k => spec_PutInt.f k n) (putInt (clip n)) := by
  refine Ev.at_ 4 fun k hk => ?_
  obtain ⟨m, rfl⟩ : ∃ m, k = m + 4 := ⟨k - 4, by omega⟩
  simp only [spec_PutInt.f, sClip_eq, Option.bind_some]
  exact sPutInt_at m _ (clip_bd n).1 (clip_bd n).2

theorem iClip_eq (n : Int) : mx (-2147483648) (mn n 2147483647) = clip n := by
  unfold mx mn clip
  split <;> split <;> (try split) <;> omega
theorem iPutInt_l1 (k : Nat) (n i : Int) (out : List Int) (s q : Int) (h0 : 0 ≤ i) (hi : wrap64 (8 * i) = s) (hs : 0 ≤ s) (hq : shr .i64 n s = q) (ho : out.length < 1000) :
    impl_PutInt.l1 (k + 1) n out i = impl_PutInt.l1 k n (out ++ [q % 256]) (wrap64 (i - 1)) := by
  simp only [impl_PutInt.l1]
  rw [if_pos h0, hi, if_pos hs, if_pos (by omega), hq]
theorem iPutInt_l1_end (k : Nat) (n : Int) (out : List Int) : impl_PutInt.l1 (k + 1) n out (-1) = some out := by
  simp only [impl_PutInt.l1]
  rw [if_neg (by omega)]
theorem shr0 (n : Int) : shr .i64 n 0 = n := by
  show n / 1 = n
  omega
theorem shr8 (n : Int) : shr .i64 n 8 = n / 256 := rfl
theorem shr16 (n : Int) : shr .i64 n 16 = n / 65536 := rfl
theorem shr24 (n : Int) : shr .i64 n 24 = n / 16777216 := rfl
theorem iPutInt_j1 (m : Nat) (n : Int) : impl_PutInt.j1 (m + 3) n 1 = some [n % 256] ∧ impl_PutInt.j1 (m + 4) n 2 = some [n / 256 % 256, n % 256] ∧
    impl_PutInt.j1 (m + 5) n 3 = some [n / 65536 % 256, n / 256 % 256, n % 256] ∧ impl_PutInt.j1 (m + 6) n 4 = some [n / 16777216 % 256, n / 65536 % 256, n / 256 % 256, n % 256] := by
  have t1 : wrap64 (1 - 1) = 0 := by decide +kernel
  have t2 : wrap64 (2 - 1) = 1 := by decide +kernel
  have t3 : wrap64 (3 - 1) = 2 := by decide +kernel
  have t4 : wrap64 (4 - 1) = 3 := by decide +kernel
  have s0 : wrap64 (0 - 1) = -1 := by decide +kernel
  have e0 : ∀ k out, out.length < 1000 → impl_PutInt.l1 (k + 2) n out 0 = some (out ++ [n % 256]) := fun k out ho => by
    rw [iPutInt_l1 (k + 1) n 0 out 0 n (by decide +kernel) (by decide +kernel) (by decide +kernel) (shr0 n) ho, s0, iPutInt_l1_end]
  have e1 : ∀ k out, out.length < 900 → impl_PutInt.l1 (k + 3) n out 1 = some (out ++ [n / 256 % 256] ++ [n % 256]) := fun k out ho => by
    rw [iPutInt_l1 (k + 2) n 1 out 8 _ (by decide +kernel) (by decide +kernel) (by decide +kernel) (shr8 n) (by omega), t1, e0 _ _ (by simp only [List.length_append, List.length_cons, List.length_nil]; omega)]
  have e2 : ∀ k out, out.length < 800 → impl_PutInt.l1 (k + 4) n out 2 = some (out ++ [n / 65536 % 256] ++ [n / 256 % 256] ++ [n % 256]) := fun k out ho => by
    rw [iPutInt_l1 (k + 3) n 2 out 16 _ (by decide +kernel) (by decide +kernel) (by decide +kernel) (shr16 n) (by omega), t2, e1 _ _ (by simp only [List.length_append, List.length_cons, List.length_nil]; omega)]
  have e3 : ∀ k out, out.length < 700 → impl_PutInt.l1 (k + 5) n out 3 = some (out ++ [n / 16777216 % 256] ++ [n / 65536 % 256] ++ [n / 256 % 256] ++ [n % 256]) := fun k out ho => by
    rw [iPutInt_l1 (k + 4) n 3 out 24 _ (by decide +kernel) (by decide +kernel) (by decide +kernel) (shr24 n) (by omega), t3, e2 _ _ (by simp only [List.length_append, List.length_cons, List.length_nil]; omega)]
  refine ⟨?_, ?_, ?_, ?_⟩
  · simp only [impl_PutInt.j1]
    rw [t1, e0 _ _ (by simp)]
    rfl
  · simp only [impl_PutInt.j1]
    rw [t2, e1 _ _ (by simp)]
    rfl
  · simp only [impl_PutInt.j1]
    rw [t3, e2 _ _ (by simp)]
    rfl
  · simp only [impl_PutInt.j1]
    rw [t4, e3 _ _ (by simp)]
    rfl
theorem iPutInt_l0 (k : Nat) (n j s lo hi : Int) (h4 : j < 4) (hs : wrap64 (wrap64 (8 * j) - 1) = s) (h0 : 0 ≤ s) (hl : shl .i64 (-1) s = lo) (hh : wrap64 (shl .i64 1 s - 1) = hi) :
    impl_PutInt.l0 (k + 1) n j = if lo ≤ n ∧ n ≤ hi then impl_PutInt.j1 k n j else impl_PutInt.l0 k n (wrap64 (j + 1)) := by
  simp only [impl_PutInt.l0]
  rw [if_pos h4, hs, if_pos h0, hl, hh, in_eq]
  simp only [Option.bind_some, decide_eq_true_eq]
theorem iPutInt_ev (n : Int) : Ev (fun k => impl_PutInt.f k n) (putInt (clip n)) := by
  refine Ev.at_ 12 fun k hk => ?_
  obtain ⟨m, rfl⟩ : ∃ m, k = m + 12 := ⟨k - 12, by omega⟩
  simp only [impl_PutInt.f]
  rw [iClip_eq]
  generalize clip n = c
  unfold putInt
  rw [iPutInt_l0 (m + 11) c 1 7 (-128) 127 (by decide +kernel) (by decide +kernel) (by decide +kernel) (by decide +kernel) (by decide +kernel)]
  by_cases c1 : -128 ≤ c ∧ c ≤ 127
  · rw [if_pos c1, if_pos c1]
    exact (iPutInt_j1 (m + 8) c).1
  · rw [if_neg c1, if_neg c1, show wrap64 (1 + 1) = 2 by decide +kernel, iPutInt_l0 (m + 10) c 2 15 (-32768) 32767 (by decide +kernel) (by decide +kernel) (by decide +kernel) (by decide +kernel) (by decide +kernel)]
    by_cases c2 : -32768 ≤ c ∧ c ≤ 32767
    · rw [if_pos c2, if_pos c2]
      exact (iPutInt_j1 (m + 6) c).2.1
    · rw [if_neg c2, if_neg c2, show wrap64 (2 + 1) = 3 by decide +kernel, iPutInt_l0 (m + 9) c 3 23 (-8388608) 8388607 (by decide +kernel) (by decide +kernel) (by decide +kernel) (by decide +kernel) (by decide +kernel)]
      by_cases c3 : -8388608 ≤ c ∧ c ≤ 8388607
      · rw [if_pos c3, if_pos c3]
        exact (iPutInt_j1 (m + 4) c).2.2.1
      · rw [if_neg c3, if_neg c3, show wrap64 (3 + 1) = 4 by decide +kernel]
        simp only [impl_PutInt.l0]
        rw [if_neg (by omega)]
        exact (iPutInt_j1 (m + 2) c).2.2.2

def joinI (n x : Int) : Int := Go.bits .or .i64 (wrap64 (n * 256)) (wrap64 x)
def rawInt : List Int → Int
  | [] => 0
  | b :: rest => rest.foldl joinI (if b > 127 then b - 256 else b)
def getInt (l : List Int) : Int × Bool := if (1 ≤ (l.length : Int) ∧ (l.length : Int) ≤ 4) then (if ((putInt (clip (rawInt l))).length : Int) = (l.length : Int) then (rawInt l, true) else (0, false)) else (0, false)
theorem sGetInt_loop (rest : List Int) : ∀ (pre : List Int) (n : Int), pre.length + rest.length ≤ 1099511627776 →
    Ev (fun k => spec_GetInt.l0 k (pre ++ rest) n (pre.length : Int)) (if ((putInt (clip (rest.foldl joinI n))).length : Int) = ((pre ++ rest).length : Int) then (rest.foldl joinI n, true) else (0, false)) := by
  induction rest with
  | nil =>
    intro pre n _
    refine Ev.succ ?_
    simp only [spec_GetInt.l0]
    simp only [List.append_nil, if_neg (show ¬ (pre.length : Int) < (pre.length : Int) by omega), List.foldl_nil]
    refine Ev.bind (sPutInt_ev n) ?_
    split <;> exact Ev.now _
  | cons r rest ih =>
    intro pre n hn
    simp only [List.length_cons] at hn
    have h := ih (pre ++ [r]) (joinI n r) (by simp only [List.length_append, List.length_cons, List.length_nil]; omega)
    simp only [List.append_assoc, List.cons_append, List.nil_append] at h
    refine Ev.succ ?_
    simp only [spec_GetInt.l0]
    simp only [if_pos (show (pre.length : Int) < ((pre ++ r :: rest).length : Int) by simp only [List.length_append, List.length_cons]; omega), if_pos (show (0 : Int) ≤ (pre.length : Int) by omega), rd_mid, w64 (x := (pre.length : Int) + 1) (by omega) (by omega), List.foldl_cons]
    rw [show ((pre ++ [r]).length : Int) = (pre.length : Int) + 1 by simp] at h
    exact h
theorem iGetInt_loop (all : List Int) (rest : List Int) : ∀ (pre : List Int) (n m : Int), m = (pre.length : Int) + rest.length → pre.length + rest.length ≤ 1099511627776 →
    Ev (fun k => impl_GetInt.l0 k all n (pre ++ rest) m (pre.length : Int)) (if ((putInt (clip (rest.foldl joinI n))).length : Int) = (all.length : Int) then (rest.foldl joinI n, true) else (0, false)) := by
  induction rest with
  | nil =>
    intro pre n m hm _
    simp only [List.length_nil] at hm
    show Ev _ (if ((putInt (clip n)).length : Int) = (all.length : Int) then (n, true) else (0, false))
    refine Ev.succ ?_
    simp only [impl_GetInt.l0]
    simp only [if_neg (show ¬ (pre.length : Int) < m by omega)]
    refine Ev.bind (iPutInt_ev n) ?_
    by_cases e : ((putInt (clip n)).length : Int) = (all.length : Int)
    · simp only [if_pos e]
      exact Ev.now _
    · simp only [if_neg e]
      exact Ev.now _
  | cons r rest ih =>
    intro pre n m hm hn
    simp only [List.length_cons] at hm hn
    have h := ih (pre ++ [r]) (joinI n r) m (by simp only [List.length_append, List.length_cons, List.length_nil]; omega) (by simp only [List.length_append, List.length_cons, List.length_nil]; omega)
    simp only [List.append_assoc, List.cons_append, List.nil_append] at h
    refine Ev.succ ?_
    simp only [impl_GetInt.l0]
    simp only [if_pos (show (pre.length : Int) < m by omega), if_pos (show (0 : Int) ≤ (pre.length : Int) by omega), if_pos (show (pre.length : Int) < ((pre ++ r :: rest).length : Int) by simp only [List.length_append, List.length_cons]; omega), rd_mid, w64 (x := (pre.length : Int) + 1) (by omega) (by omega), List.foldl_cons]
    rw [show ((pre ++ [r]).length : Int) = (pre.length : Int) + 1 by simp] at h
    exact h
theorem wrap8 {b : Int} (h0 : 0 ≤ b) (h1 : b ≤ 255) : IntKind.i8.wrap b = if b > 127 then b - 256 else b := by
  simp only [IntKind.wrap, IntKind.bits, IntKind.signed, Bool.true_and]
  split <;> split <;> simp_all <;> omega
theorem sGetInt_ev (l : List Int) (hb : ∀ y ∈ l, 0 ≤ y ∧ y ≤ 255) (h : l.length ≤ 1048576) : Ev (fun k => spec_GetInt.f k l) (getInt l) := by
  unfold spec_GetInt.f getInt
  simp only [l1In_eq, Option.bind_some, decide_eq_true_eq]
  by_cases c : 1 ≤ (l.length : Int) ∧ (l.length : Int) ≤ 4
  · simp only [if_pos c, if_pos (show 0 < (l.length : Int) by omega)]
    cases l with
    | nil => simp at c
    | cons b rest =>
      obtain ⟨h0, h1⟩ := hb b List.mem_cons_self
      have e1 : rd (b :: rest) 0 = b := rd_mid [] rest b
      simp only [List.length_cons] at h
      simp only [e1, w64 (x := b) (by omega) (by omega), w64 (x := b - 256) (by omega) (by omega), rawInt]
      by_cases d : b > 127
      · simp only [if_pos d]
        refine Ev.succ ?_
        simp only [spec_GetInt.j0]
        have e := sGetInt_loop rest [b] (b - 256) (by simp only [List.length_cons, List.length_nil]; omega)
        simpa using e
      · simp only [if_neg d]
        refine Ev.succ ?_
        simp only [spec_GetInt.j0]
        have e := sGetInt_loop rest [b] b (by simp only [List.length_cons, List.length_nil]; omega)
        simpa using e
  · simp only [if_neg c]
    exact Ev.now _
theorem iGetInt_ev (l : List Int) (hb : ∀ y ∈ l, 0 ≤ y ∧ y ≤ 255) (h : l.length ≤ 1048576) : Ev (fun k => impl_GetInt.f k l) (getInt l) := by
  unfold impl_GetInt.f getInt
  simp only [in_eq, Option.bind_some, decide_eq_true_eq]
  by_cases c : 1 ≤ (l.length : Int) ∧ (l.length : Int) ≤ 4
  · simp only [if_pos c, if_pos (show 0 < (l.length : Int) by omega), if_pos (show 1 ≤ (l.length : Int) by omega)]
    cases l with
    | nil => simp at c
    | cons b rest =>
      obtain ⟨h0, h1⟩ := hb b List.mem_cons_self
      have e1 : rd (b :: rest) 0 = b := rd_mid [] rest b
      simp only [List.length_cons] at h
      have hw : wrap64 (if b > 127 then b - 256 else b) = if b > 127 then b - 256 else b := by split <;> exact w64 (by omega) (by omega)
      simp only [e1, wrap8 h0 h1, hw, rawInt, List.drop_succ_cons, List.drop_zero]
      have e := iGetInt_loop (b :: rest) rest [] (if b > 127 then b - 256 else b) (rest.length : Int) (by simp) (by simp only [List.length_nil]; omega)
      simpa using e
  · simp only [if_neg c]
    exact Ev.now _

/- a draw's state: the bytes, a place in them, a seed -/
def atOk (l : List Int) (p : Int) : Prop := 0 ≤ p ∧ p ≤ (l.length : Int)
theorem and_low (x : Int) (m : Nat) (hm : m < 9223372036854775808) : 0 ≤ Go.bits .and .i64 x (m : Int) ∧ Go.bits .and .i64 x (m : Int) ≤ m := by
  have e : m % 2 ^ IntKind.i64.bits = m := Nat.mod_eq_of_lt (show m < 2 ^ 64 by omega)
  simp only [Go.bits, BitVec.ofInt_natCast, BitVec.toNat_and, BitVec.toNat_ofNat, e]
  have h := Nat.and_le_right (n := (BitVec.ofInt IntKind.i64.bits x).toNat) (m := m)
  generalize (BitVec.ofInt IntKind.i64.bits x).toNat &&& m = q at h ⊢
  rw [IntKind.wrap_i64]
  omega
theorem and255 (x : Int) : 0 ≤ Go.bits .and .i64 x 255 ∧ Go.bits .and .i64 x 255 ≤ 255 := and_low x 255 (by decide)
theorem l1Byte_ok (l : List Int) (p s : Int) (hl : l.length ≤ 1048576) (h : atOk l p) : ∃ v p' s', spec_l1Byte.f l p s = some (v, p', s') ∧ (0 ≤ v ∧ v ≤ 255) ∧ atOk l p' := by
  unfold atOk at h
  unfold spec_l1Byte.f atOk
  by_cases c : p < (l.length : Int)
  · refine ⟨_, _, _, if_pos c |>.trans (if_pos h.1), and255 _, ?_⟩
    rw [w64 (by omega) (by omega)]
    omega
  · exact ⟨_, _, _, if_neg c, and255 _, h⟩
theorem l1Below_ok (l : List Int) (p s n : Int) (hl : l.length ≤ 1048576) (h : atOk l p) (hn : 0 < n) : ∃ v p' s', spec_l1Below.f l p s n = some (v, p', s') ∧ (0 ≤ v ∧ v < n) ∧ atOk l p' := by
  unfold spec_l1Below.f
  rw [if_neg (by omega)]
  obtain ⟨v1, p1, s1, e1, b1, h1⟩ := l1Byte_ok l p s hl h
  rw [e1]
  simp only [Option.bind_some, if_neg (show ¬ n = 0 by omega)]
  by_cases c : n ≤ 256
  · simp only [if_pos c]
    exact ⟨_, _, _, rfl, ⟨Int.tmod_nonneg _ b1.1, Int.tmod_lt_of_pos _ hn⟩, h1⟩
  · simp only [if_neg c]
    obtain ⟨v2, p2, s2, e2, b2, h2⟩ := l1Byte_ok l p1 s1 hl h1
    rw [e2]
    simp only [Option.bind_some]
    obtain ⟨v3, p3, s3, e3, b3, h3⟩ := l1Byte_ok l p2 s2 hl h2
    rw [e3]
    simp only [Option.bind_some]
    rw [w64 (x := v1 * 65536) (by omega) (by omega), w64 (x := v2 * 256) (by omega) (by omega), w64 (x := v1 * 65536 + v2 * 256) (by omega) (by omega), w64 (by omega) (by omega)]
    exact ⟨_, _, _, rfl, ⟨Int.tmod_nonneg _ (by omega), Int.tmod_lt_of_pos _ hn⟩, h3⟩
theorem rd_mem (xs : List Int) (i : Int) (h0 : 0 ≤ i) (h1 : i < (xs.length : Int)) : rd xs i ∈ xs := by
  unfold rd
  rw [List.getD_eq_getElem?_getD]
  have hi : i.toNat < xs.length := by omega
  rw [List.getElem?_eq_getElem hi]
  exact List.getElem_mem hi
theorem l1New_loop (l : List Int) (rest : List Int) : ∀ (pre : List Int) (s : Int), pre.length + rest.length ≤ 1048576 → ∃ s', Ev (fun k => spec_l1New.l0 k (pre ++ rest) s (pre.length : Int)) (pre ++ rest, 0, s') := by
  induction rest with
  | nil =>
    intro pre s _
    refine ⟨s, Ev.succ ?_⟩
    simp only [spec_l1New.l0]
    simp only [List.append_nil, if_neg (show ¬ (pre.length : Int) < (pre.length : Int) by omega)]
    exact Ev.now _
  | cons r rest ih =>
    intro pre s hn
    simp only [List.length_cons] at hn
    by_cases c : (pre.length : Int) < 4000
    · obtain ⟨s', h⟩ := ih (pre ++ [r]) (Go.bits .and .i64 (wrap64 ((wrap64 ((wrap64 (s * 137)) + (wrap64 r))) + 11)) 1073741823) (by simp only [List.length_append, List.length_cons, List.length_nil]; omega)
      simp only [List.append_assoc, List.cons_append, List.nil_append] at h
      rw [show ((pre ++ [r]).length : Int) = (pre.length : Int) + 1 by simp] at h
      refine ⟨s', Ev.succ ?_⟩
      simp only [spec_l1New.l0]
      simp only [if_pos (show (pre.length : Int) < ((pre ++ r :: rest).length : Int) by simp only [List.length_append, List.length_cons]; omega), if_pos c, if_pos (show (0 : Int) ≤ (pre.length : Int) by omega), rd_mid, w64 (x := (pre.length : Int) + 1) (by omega) (by omega)]
      exact h
    · refine ⟨s, Ev.succ ?_⟩
      simp only [spec_l1New.l0]
      simp only [if_pos (show (pre.length : Int) < ((pre ++ r :: rest).length : Int) by simp only [List.length_append, List.length_cons]; omega), if_neg c]
      exact Ev.now _
theorem l1New_ok (l : List Int) (hl : l.length ≤ 1048576) : ∃ s', Ev (fun k => spec_l1New.f k l) (l, 0, s') := by
  unfold spec_l1New.f
  have h := l1New_loop l l [] (wrap64 (762762 + (l.length : Int))) (by simp only [List.length_nil]; omega)
  simpa using h
theorem at0 (l : List Int) : atOk l 0 := ⟨by omega, by omega⟩

theorem l1Int_ok (l : List Int) (p s : Int) (xs : List Int) (hl : l.length ≤ 1048576) (h : atOk l p) (hx : 0 < xs.length) : ∃ v p' s', spec_l1Int.f l p s xs = some (v, p', s') ∧ v ∈ xs ∧ atOk l p' := by
  unfold spec_l1Int.f
  obtain ⟨v1, p1, s1, e1, b1, h1⟩ := l1Below_ok l p s (xs.length : Int) hl h (by omega)
  rw [e1]
  simp only [Option.bind_some, if_pos b1.1, if_pos b1.2]
  exact ⟨_, _, _, rfl, rd_mem xs v1 b1.1 b1.2, h1⟩

theorem l1Once_ok (l : List Int) (p s n : Int) (hl : l.length ≤ 1048576) (h : atOk l p) (hn : 0 < n) : ∃ (v : Bool) (p' s' : Int), spec_l1Once.f l p s n = some (v, p', s') ∧ atOk l p' := by
  unfold spec_l1Once.f
  obtain ⟨v1, p1, s1, e1, b1, h1⟩ := l1Below_ok l p s n hl h hn
  rw [e1]
  exact ⟨_, _, _, rfl, h1⟩

def bys (l : List Int) : Prop := ∀ y ∈ l, 0 ≤ y ∧ y ≤ 255
theorem bys_app {a b : List Int} (ha : bys a) (hb : bys b) : bys (a ++ b) := by
  intro y hy
  rcases List.mem_append.1 hy with h | h
  · exact ha y h
  · exact hb y h
theorem bys_one {b : Int} (h : 0 ≤ b ∧ b ≤ 255) : bys [b] := by
  intro y hy
  rw [List.mem_singleton.1 hy]
  exact h
theorem bys_take {a : List Int} (ha : bys a) (n : Nat) : bys (a.take n) := fun y hy => ha y (List.mem_of_mem_take hy)
theorem bys_set {a : List Int} (ha : bys a) (n : Nat) {v : Int} (hv : 0 ≤ v ∧ v ≤ 255) : bys (a.set n v) := by
  intro y hy
  rcases List.mem_or_eq_of_mem_set hy with h | h
  · exact ha y h
  · rw [h]; exact hv

theorem l1Bend_ok (l : List Int) (p s : Int) (xs : List Int) (hl : l.length ≤ 1048576) (h : atOk l p) (hx : bys xs) (hn : xs.length ≤ 1048576) : ∃ o p' s', spec_l1Bend.f l p s xs = some (o, p', s') ∧ bys o ∧ o.length ≤ xs.length + 1 ∧ atOk l p' := by
  unfold spec_l1Bend.f
  by_cases c : (xs.length : Int) = 0
  · simp only [if_pos c]
    exact ⟨_, _, _, rfl, hx, by omega, h⟩
  simp only [if_neg c]
  obtain ⟨v1, p1, s1, e1, b1, h1⟩ := l1Below_ok l p s 5 hl h (by omega)
  simp only [e1, Option.bind_some]
  by_cases c0 : v1 = 0
  · obtain ⟨v2, p2, s2, e2, b2, h2⟩ := l1Below_ok l p1 s1 (xs.length : Int) hl h1 (by omega)
    obtain ⟨v3, p3, s3, e3, b3, h3⟩ := l1Int_ok l p2 s2 [0, 1, 2, 4, 5, 6, 48, 127, 128, 129, 160, 255] hl h2 (by decide)
    simp only [if_pos c0, e2, e3, Option.bind_some, if_pos b2.1, if_pos b2.2]
    exact ⟨_, _, _, rfl, bys_set hx _ (by omega), by rw [List.length_set]; omega, h3⟩
  by_cases c1 : v1 = 1
  · simp only [if_neg c0, if_pos c1, if_pos (show xs.length < 140737488355328 by omega)]
    exact ⟨_, _, _, rfl, bys_app hx (bys_one (by omega)), by simp, h1⟩
  by_cases c2 : v1 = 2
  · obtain ⟨v2, p2, s2, e2, b2, h2⟩ := l1Below_ok l p1 s1 (xs.length : Int) hl h1 (by omega)
    simp only [if_neg c0, if_neg c1, if_pos c2, e2, Option.bind_some, if_pos b2.1, if_pos (show v2 ≤ (xs.length : Int) by omega)]
    exact ⟨_, _, _, rfl, bys_take hx _, by rw [List.length_take]; omega, h2⟩
  · simp only [if_neg c0, if_neg c1, if_neg c2]
    exact ⟨_, _, _, rfl, hx, by omega, h1⟩

theorem l1Num_ok (l : List Int) (p s : Int) (hl : l.length ≤ 1048576) (h : atOk l p) : ∃ v p' s', spec_l1Num.f l p s = some (v, p', s') ∧ atOk l p' := by
  unfold spec_l1Num.f
  obtain ⟨v1, p1, s1, e1, b1, h1⟩ := l1Below_ok l p s 1000 hl h (by omega)
  obtain ⟨v2, p2, s2, e2, b2, h2⟩ := l1Int_ok l p1 s1 [0, 1, -1, 127, 128, -128, -129, 255, 256, 32767, 32768, -32769, 8388608, 2147483647, -2147483648, 2147483648, -2147483649, 9223372036854775807, -9223372036854775808, v1] hl h1 (by simp)
  simp only [e1, e2, Option.bind_some]
  exact ⟨_, _, _, rfl, h2⟩

theorem putInt_bys (n : Int) : bys (putInt n) := by
  unfold putInt
  intro y hy
  split at hy
  · simp only [List.mem_cons, List.not_mem_nil, or_false] at hy; omega
  · split at hy
    · simp only [List.mem_cons, List.not_mem_nil, or_false] at hy; omega
    · split at hy
      · simp only [List.mem_cons, List.not_mem_nil, or_false] at hy; omega
      · simp only [List.mem_cons, List.not_mem_nil, or_false] at hy; omega
theorem joinI_eq (n x : Int) (hn : -2147483648 ≤ n ∧ n ≤ 2147483647) (hx : 0 ≤ x ∧ x ≤ 255) : joinI n x = n * 256 + x := by
  unfold joinI
  rw [w64 (x := n * 256) (by omega) (by omega), w64 (x := x) (by omega) (by omega)]
  simp only [Go.bits, BitVec.toNat_or, BitVec.toNat_ofInt]
  have hk : (2 : Int) ^ IntKind.i64.bits = 18446744073709551616 := by decide
  have hk' : ((2 ^ IntKind.i64.bits : Nat) : Int) = 18446744073709551616 := by decide
  simp only [hk']
  have h2 : (x % 18446744073709551616).toNat < 2 ^ 8 := by omega
  have h3 : ((n * 256) % 18446744073709551616).toNat = 2 ^ 8 * (((n * 256) % 18446744073709551616).toNat / 2 ^ 8) := by omega
  rw [h3, ← Nat.two_pow_add_eq_or_of_lt h2, ← h3, IntKind.wrap_i64]
  omega
def top (b : Int) : Int := if b > 127 then b - 256 else b
theorem top_bd (b : Int) (h : 0 ≤ b ∧ b ≤ 255) : -128 ≤ top b ∧ top b ≤ 127 ∧ top b % 256 = b := by
  unfold top
  split <;> omega
theorem clip_in (n : Int) (h : -2147483648 ≤ n ∧ n ≤ 2147483647) : clip n = n := by
  unfold clip
  rw [if_neg (by omega), if_neg (by omega)]
theorem putInt_1 (n : Int) (h : -128 ≤ n ∧ n ≤ 127) : putInt n = [n % 256] := by unfold putInt; rw [if_pos h]
theorem putInt_2 (n : Int) (h0 : ¬ (-128 ≤ n ∧ n ≤ 127)) (h : -32768 ≤ n ∧ n ≤ 32767) : putInt n = [n / 256 % 256, n % 256] := by unfold putInt; rw [if_neg h0, if_pos h]
theorem putInt_3 (n : Int) (h0 : ¬ (-32768 ≤ n ∧ n ≤ 32767)) (h : -8388608 ≤ n ∧ n ≤ 8388607) : putInt n = [n / 65536 % 256, n / 256 % 256, n % 256] := by unfold putInt; rw [if_neg (by omega), if_neg h0, if_pos h]
theorem putInt_4 (n : Int) (h0 : ¬ (-8388608 ≤ n ∧ n ≤ 8388607)) : putInt n = [n / 16777216 % 256, n / 65536 % 256, n / 256 % 256, n % 256] := by unfold putInt; rw [if_neg (by omega), if_neg (by omega), if_neg h0]
theorem raw1 (a : Int) : rawInt [a] = top a := rfl
theorem raw2 (a b : Int) (ha : 0 ≤ a ∧ a ≤ 255) (hb : 0 ≤ b ∧ b ≤ 255) : rawInt [a, b] = top a * 256 + b := by
  have h := top_bd a ha
  show joinI (top a) b = _
  rw [joinI_eq _ _ (by omega) hb]
theorem raw3 (a b c : Int) (ha : 0 ≤ a ∧ a ≤ 255) (hb : 0 ≤ b ∧ b ≤ 255) (hc : 0 ≤ c ∧ c ≤ 255) : rawInt [a, b, c] = (top a * 256 + b) * 256 + c := by
  have h := top_bd a ha
  show joinI (joinI (top a) b) c = _
  rw [joinI_eq (top a) b (by omega) hb, joinI_eq _ _ (by omega) hc]
theorem raw4 (a b c d : Int) (ha : 0 ≤ a ∧ a ≤ 255) (hb : 0 ≤ b ∧ b ≤ 255) (hc : 0 ≤ c ∧ c ≤ 255) (hd : 0 ≤ d ∧ d ≤ 255) : rawInt [a, b, c, d] = ((top a * 256 + b) * 256 + c) * 256 + d := by
  have h := top_bd a ha
  show joinI (joinI (joinI (top a) b) c) d = _
  rw [joinI_eq (top a) b (by omega) hb, joinI_eq _ c (by omega) hc, joinI_eq _ _ (by omega) hd]
theorem raw_put (n : Int) (h : -2147483648 ≤ n ∧ n ≤ 2147483647) : rawInt (putInt n) = n := by
  by_cases c1 : -128 ≤ n ∧ n ≤ 127
  · rw [putInt_1 n c1, raw1]
    unfold top
    split <;> omega
  by_cases c2 : -32768 ≤ n ∧ n ≤ 32767
  · rw [putInt_2 n c1 c2, raw2 _ _ (by omega) (by omega)]
    unfold top
    split <;> omega
  by_cases c3 : -8388608 ≤ n ∧ n ≤ 8388607
  · rw [putInt_3 n c2 c3, raw3 _ _ _ (by omega) (by omega) (by omega)]
    unfold top
    split <;> omega
  · rw [putInt_4 n c3, raw4 _ _ _ _ (by omega) (by omega) (by omega) (by omega)]
    unfold top
    split <;> omega
theorem putInt_pos (n : Int) : 1 ≤ (putInt n).length := by
  unfold putInt
  split
  · simp
  · split
    · simp
    · split <;> simp
theorem getInt_put (n : Int) : getInt (putInt (clip n)) = (clip n, true) := by
  have h := clip_bd n
  have h1 := putInt_pos (clip n)
  have h2 := putInt_len (clip n)
  unfold getInt
  rw [if_pos (by omega), raw_put _ h, clip_in _ h, if_pos rfl]
theorem put_raw (l : List Int) (hb : bys l) (h1 : 1 ≤ l.length) (h4 : l.length ≤ 4) (he : (putInt (clip (rawInt l))).length = l.length) : putInt (clip (rawInt l)) = l := by
  rcases l with _ | ⟨a, _ | ⟨b, _ | ⟨c, _ | ⟨d, _ | ⟨e, l⟩⟩⟩⟩⟩
  · simp at h1
  · have ha := hb a (by simp)
    have t := top_bd a ha
    rw [raw1, clip_in _ (by omega), putInt_1 _ (by omega), t.2.2]
  · have ha := hb a (by simp)
    have hb' := hb b (by simp)
    have t := top_bd a ha
    rw [raw2 a b ha hb', clip_in _ (by omega)] at he ⊢
    by_cases c1 : -128 ≤ top a * 256 + b ∧ top a * 256 + b ≤ 127
    · rw [putInt_1 _ c1] at he
      simp at he
    · rw [putInt_2 _ c1 (by omega), show (top a * 256 + b) / 256 % 256 = a by omega, show (top a * 256 + b) % 256 = b by omega]
  · have ha := hb a (by simp)
    have hb' := hb b (by simp)
    have hc := hb c (by simp)
    have t := top_bd a ha
    rw [raw3 a b c ha hb' hc, clip_in _ (by omega)] at he ⊢
    by_cases c1 : -128 ≤ (top a * 256 + b) * 256 + c ∧ (top a * 256 + b) * 256 + c ≤ 127
    · rw [putInt_1 _ c1] at he
      simp at he
    by_cases c2 : -32768 ≤ (top a * 256 + b) * 256 + c ∧ (top a * 256 + b) * 256 + c ≤ 32767
    · rw [putInt_2 _ c1 c2] at he
      simp at he
    · rw [putInt_3 _ c2 (by omega), show ((top a * 256 + b) * 256 + c) / 65536 % 256 = a by omega, show ((top a * 256 + b) * 256 + c) / 256 % 256 = b by omega, show ((top a * 256 + b) * 256 + c) % 256 = c by omega]
  · have ha := hb a (by simp)
    have hb' := hb b (by simp)
    have hc := hb c (by simp)
    have hd := hb d (by simp)
    have t := top_bd a ha
    rw [raw4 a b c d ha hb' hc hd, clip_in _ (by omega)] at he ⊢
    by_cases c1 : -128 ≤ ((top a * 256 + b) * 256 + c) * 256 + d ∧ ((top a * 256 + b) * 256 + c) * 256 + d ≤ 127
    · rw [putInt_1 _ c1] at he
      simp at he
    by_cases c2 : -32768 ≤ ((top a * 256 + b) * 256 + c) * 256 + d ∧ ((top a * 256 + b) * 256 + c) * 256 + d ≤ 32767
    · rw [putInt_2 _ c1 c2] at he
      simp at he
    by_cases c3 : -8388608 ≤ ((top a * 256 + b) * 256 + c) * 256 + d ∧ ((top a * 256 + b) * 256 + c) * 256 + d ≤ 8388607
    · rw [putInt_3 _ c2 c3] at he
      simp at he
    · rw [putInt_4 _ c3, show (((top a * 256 + b) * 256 + c) * 256 + d) / 16777216 % 256 = a by omega, show (((top a * 256 + b) * 256 + c) * 256 + d) / 65536 % 256 = b by omega, show (((top a * 256 + b) * 256 + c) * 256 + d) / 256 % 256 = c by omega, show (((top a * 256 + b) * 256 + c) * 256 + d) % 256 = d by omega]
  · simp at h4
theorem getInt_ok (l : List Int) (hb : bys l) (h : (getInt l).2 = true) : putInt (clip (getInt l).1) = l := by
  unfold getInt at h ⊢
  by_cases c : 1 ≤ (l.length : Int) ∧ (l.length : Int) ≤ 4
  · rw [if_pos c] at h ⊢
    by_cases d : ((putInt (clip (rawInt l))).length : Int) = (l.length : Int)
    · rw [if_pos d]
      exact put_raw l hb (by omega) (by omega) (by omega)
    · rw [if_neg d] at h
      simp at h
  · rw [if_neg c] at h
    simp at h
theorem drawPutInt_ok (l : List Int) (hl : l.length ≤ 1048576) : ∃ n, Ev (fun k => spec_DrawPutInt.f k l) n := by
  unfold spec_DrawPutInt.f
  obtain ⟨s0, e0⟩ := l1New_ok l hl
  obtain ⟨v1, p1, s1, e1, h1⟩ := l1Num_ok l 0 s0 hl (at0 l)
  refine ⟨v1, Ev.bind e0 ?_⟩
  simp only [e1, Option.bind_some]
  exact Ev.now _
theorem drawGetInt_ok (l : List Int) (hl : l.length ≤ 1048576) : ∃ b, Ev (fun k => spec_DrawGetInt.f k l) b ∧ bys b ∧ b.length ≤ 10 := by
  unfold spec_DrawGetInt.f
  obtain ⟨s0, e0⟩ := l1New_ok l hl
  obtain ⟨v1, p1, s1, e1, h1⟩ := l1Num_ok l 0 s0 hl (at0 l)
  obtain ⟨v2, p2, s2, e2, h2⟩ := l1Once_ok l p1 s1 4 hl h1 (by omega)
  have hb := putInt_bys (clip v1)
  have hn := putInt_len (clip v1)
  by_cases c0 : v2 = true
  · obtain ⟨v3, p3, s3, e3, b3, h3⟩ := l1Int_ok l p2 s2 [0, 255, 1] hl h2 (by decide)
    refine ⟨[v3 % 256] ++ putInt (clip v1), Ev.bind e0 ?_, bys_app (bys_one (by omega)) hb, by simp only [List.length_append, List.length_cons, List.length_nil]; omega⟩
    simp only [e1, Option.bind_some]
    refine Ev.bind (sPutInt_ev v1) ?_
    simp only [e2, Option.bind_some, if_pos c0, e3, List.length_cons, List.length_nil, if_pos (show 0 + 1 + (putInt (clip v1)).length < 140737488355328 by omega)]
    exact Ev.now _
  · obtain ⟨o, p3, s3, e3, b3, n3, h3⟩ := l1Bend_ok l p2 s2 (putInt (clip v1)) hl h2 hb (by omega)
    refine ⟨o, Ev.bind e0 ?_, b3, by omega⟩
    simp only [e1, Option.bind_some]
    refine Ev.bind (sPutInt_ev v1) ?_
    simp only [e2, Option.bind_some, if_neg c0, e3]
    exact Ev.now _
theorem ints_j0 (n : Int) : Ev (fun k => laws_FnInts.j0 k n (putInt (clip n)) (clip n) true false) true := by
  refine Ev.succ ?_
  simp only [laws_FnInts.j0]
  simp only [Bool.false_eq_true, if_false, if_true]
  by_cases c0 : n > 2147483647
  · have e : clip n = 2147483647 := by unfold clip; rw [if_pos c0]
    simp only [if_pos c0, e, if_true, putInt_4 2147483647 (by omega), List.length_cons, List.length_nil]
    exact Ev.some_ (by decide)
  by_cases c1 : n < -2147483648
  · have e : clip n = -2147483648 := by unfold clip; rw [if_neg c0, if_pos c1]
    simp only [if_neg c0, if_pos c1, e, if_true, putInt_4 (-2147483648) (by omega), List.length_cons, List.length_nil]
    exact Ev.some_ (by decide)
  · have e : clip n = n := clip_in n (by omega)
    have h1 := putInt_pos n
    have h2 := putInt_len n
    simp only [if_neg c0, if_neg c1, e, if_true, if_pos (show ((putInt n).length : Int) ≥ 1 by omega), if_pos (show ((putInt n).length : Int) ≤ 4 by omega)]
    by_cases d1 : n ≥ -128
    · simp only [if_pos d1]
      by_cases d2 : n ≤ 127
      · rw [putInt_1 n ⟨d1, d2⟩, decide_eq_true d2]
        exact Ev.now _
      · have hl : ¬ ((putInt n).length : Int) = 1 := by
          by_cases c2 : -32768 ≤ n ∧ n ≤ 32767
          · rw [putInt_2 n (by omega) c2]; simp
          by_cases c3 : -8388608 ≤ n ∧ n ≤ 8388607
          · rw [putInt_3 n c2 c3]; simp
          · rw [putInt_4 n c3]; simp
        rw [decide_eq_false d2, beq_eq_false_iff_ne.2 hl]
        exact Ev.now _
    · have hl : ¬ ((putInt n).length : Int) = 1 := by
        by_cases c2 : -32768 ≤ n ∧ n ≤ 32767
        · rw [putInt_2 n (by omega) c2]; simp
        by_cases c3 : -8388608 ≤ n ∧ n ≤ 8388607
        · rw [putInt_3 n c2 c3]; simp
        · rw [putInt_4 n c3]; simp
      simp only [if_neg d1, beq_eq_false_iff_ne.2 hl]
      exact Ev.now _

theorem FnInts : laws_FnInts.Pure := by
  intro l0 _ _
  refine Ev.rounds ?_
  unfold laws_FnInts.f
  unfold laws_big.f
  simp only [Option.bind_some]
  by_cases hbig : (l0.length : Int) > 1048576
  · simp only [decide_eq_true hbig, if_true]
    exact Ev.now _
  have hsm : l0.length ≤ 1048576 := by omega
  simp only [decide_eq_false hbig, Bool.false_eq_true, if_false]
  obtain ⟨n, hN⟩ := drawPutInt_ok l0 hsm
  obtain ⟨b, hB, hb, hl⟩ := drawGetInt_ok l0 hsm
  refine Ev.bind hN ?_
  refine Ev.bind (iPutInt_ev n) ?_
  have hp := putInt_len (clip n)
  have hg := iGetInt_ev (putInt (clip n)) (putInt_bys _) (by omega)
  rw [getInt_put] at hg
  refine Ev.bind hg ?_
  refine Ev.bind hB ?_
  refine Ev.bind (iGetInt_ev b hb (by omega)) ?_
  refine Ev.bind (sGetInt_ev b hb (by omega)) ?_
  simp only [bne_self_eq_false, Bool.false_eq_true, if_false]
  by_cases c : (getInt b).2 = true
  · simp only [if_pos c]
    refine Ev.bind (iPutInt_ev _) ?_
    rw [getInt_ok b hb c]
    refine Ev.bind (sameBytes_ev b b (by omega)) ?_
    simp only [decide_true, Bool.not_true]
    exact ints_j0 n
  · simp only [if_neg c]
    exact ints_j0 n

end Go.Proofs.Ytndfokcnogpeiaa.Pure
