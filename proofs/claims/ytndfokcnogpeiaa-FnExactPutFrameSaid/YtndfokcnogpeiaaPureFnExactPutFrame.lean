/- The pure side of FnExactPutFrame: the program's PutFrame and the reference's agree at all arguments. No conditions but those of the given statement. -/
import Derived.Test.YtndfokcnogpeiaaXFnExactPutFramex5
namespace Go.Proofs.Ytndfokcnogpeiaa.Pure
open Go.RowKit Go.Proofs.Ytndfokcnogpeiaa.XFnExactPutFrame Go.Proofs.YtndfokcnogpeiaaW.PrintWords Go.Proofs.YtndfokcnogpeiaaW.PrintLast Go.Proofs.YtndfokcnogpeiaaW.PrintMore
set_option linter.unusedVariables false
set_option linter.unusedSimpArgs false

theorem w64 {x : Int} (h0 : -9223372036854775808 ≤ x) (h1 : x ≤ 9223372036854775807) : wrap64 x = x := by
  unfold wrap64
  omega
theorem wf64 {x : Int} (h : (Lit.int .i64 x).wf = true) : -9223372036854775808 ≤ x ∧ x ≤ 9223372036854775807 := by
  simp only [Lit.wf, Bool.and_eq_true, decide_eq_true_eq] at h
  exact h
theorem wf8 {x : Int} (h : (Lit.int .u8 x).wf = true) : 0 ≤ x ∧ x ≤ 255 := by
  simp only [Lit.wf, Bool.and_eq_true, decide_eq_true_eq] at h
  exact h
theorem rd_mid (pre rest : List Int) (r : Int) : rd (pre ++ r :: rest) (pre.length : Int) = r := by
  unfold rd
  simp [List.getD_eq_getElem?_getD]
theorem set_mid {α : Type} (pre rest : List α) (r v : α) : (pre ++ r :: rest).set (pre.length : Int).toNat v = pre ++ v :: rest := by
  rw [Int.toNat_natCast, List.set_append_right _ _ (Nat.le_refl _)]
  simp
theorem succ_of {d k : Nat} (h : d < k) : ∃ m, k = m + 1 := ⟨k - 1, by omega⟩
theorem Ev.at_ {α : Type} {g : Nat → Option α} {r : α} (n : Nat) (h : ∀ k, n < k → g k = some r) : Ev g r := ⟨n + 1, fun k hk => h k (by omega)⟩
theorem Ev.some_ {α : Type} {v : Option α} {r : α} (h : v = some r) : Ev (fun _ => v) r := ⟨0, fun _ _ => h⟩
theorem Ev.succ {α : Type} {g : Nat → Option α} {r : α} (h : Ev (fun k => g (k + 1)) r) : Ev g r := by
  obtain ⟨K, h⟩ := h
  refine ⟨K + 1, fun n hn => ?_⟩
  obtain ⟨m, rfl⟩ : ∃ m, n = m + 1 := ⟨n - 1, by omega⟩
  exact h m (by omega)
theorem Ev.some_const {α : Type} {g : Nat → Option α} {r : α} (h : ∀ k, g k = some r) : Ev g r := ⟨0, fun k _ => h k⟩

theorem l1In_eq (a b c : Int) : spec_l1In.f a b c = some (decide (b ≤ a ∧ a ≤ c)) := by
  unfold spec_l1In.f
  by_cases h : b ≤ a
  · rw [if_pos h]; simp [h]
  · rw [if_neg h]; simp [h]

theorem in_eq (a b c : Int) : impl_in.f a b c = some (decide (b ≤ a ∧ a ≤ c)) := by
  unfold impl_in.f
  by_cases h : b ≤ a
  · rw [if_pos h]; simp [h]
  · rw [if_neg h]; simp [h]

theorem Ev.ite {α : Type} {c : Prop} [Decidable c] {g1 g2 : Nat → Option α} {r1 r2 : α} (h1 : c → Ev g1 r1) (h2 : ¬ c → Ev g2 r2) : Ev (fun k => if c then g1 k else g2 k) (if c then r1 else r2) := by
  by_cases h : c
  · simp only [if_pos h]; exact h1 h
  · simp only [if_neg h]; exact h2 h

theorem toByteS_loop (rest : List Int) : ∀ (pre : List Int) (k : Nat), pre.length + rest.length ≤ 1099511627776 → rest.length < k →
    laws_toByteS.l0 k (pre ++ rest) (pre ++ List.replicate rest.length 0) (pre.length : Int) = some (pre ++ rest) := by
  induction rest with
  | nil =>
    intro pre k _ hk
    obtain ⟨k, rfl⟩ := succ_of hk
    simp only [laws_toByteS.l0]
    rw [if_neg (by simp only [List.length_append, List.length_nil]; omega)]
    simp
  | cons r rest ih =>
    intro pre k hn hk
    obtain ⟨k, rfl⟩ := succ_of hk
    simp only [List.length_cons] at hn hk
    simp only [laws_toByteS.l0]
    rw [if_pos (by simp only [List.length_append, List.length_cons]; omega), if_pos (by omega), if_pos (by simp only [List.length_append, List.length_cons, List.length_replicate]; omega), rd_mid, List.length_cons, List.replicate_succ, set_mid, w64 (by omega) (by omega)]
    have h := ih (pre ++ [r]) k (by simp only [List.length_append, List.length_cons, List.length_nil]; omega) (by omega)
    simpa using h
theorem toByteS_ev (xs : List Int) (h : xs.length ≤ 1048576) : Ev (fun k => laws_toByteS.f k xs) xs := by
  refine Ev.at_ xs.length fun k hk => ?_
  simp only [laws_toByteS.f]
  rw [if_pos (by omega), if_pos (by omega)]
  have h := toByteS_loop xs [] k (by simp only [List.length_nil]; omega) hk
  simpa using h

theorem eqByteS_loop (a : List Int) : ∀ (b pre pre' : List Int) (k : Nat), pre.length = pre'.length → a.length = b.length → pre.length + a.length ≤ 1099511627776 → a.length < k →
    laws_eqByteS.l0 k (pre ++ a) (pre' ++ b) (pre.length : Int) = some (decide (a = b)) := by
  induction a with
  | nil =>
    intro b pre pre' k hp hab hn hk
    obtain ⟨k, rfl⟩ := succ_of hk
    obtain rfl : b = [] := List.eq_nil_of_length_eq_zero hab.symm
    simp only [laws_eqByteS.l0]
    rw [if_neg (by simp only [List.length_append, List.length_nil] at *; omega)]
    simp
  | cons r a ih =>
    intro b pre pre' k hp hab hn hk
    obtain ⟨k, rfl⟩ := succ_of hk
    cases b with
    | nil => simp at hab
    | cons s b =>
      simp only [List.length_cons] at hab hn hk
      simp only [laws_eqByteS.l0]
      have e : rd (pre' ++ s :: b) (pre.length : Int) = s := by rw [hp, rd_mid]
      rw [if_pos (by simp only [List.length_append, List.length_cons]; omega), if_pos (by omega), if_pos (by simp only [List.length_append, List.length_cons]; omega), rd_mid, e]
      by_cases hrs : r = s
      · subst hrs
        rw [if_pos rfl, w64 (by omega) (by omega)]
        have h := ih b (pre ++ [r]) (pre' ++ [r]) k (by simp [hp]) (by omega) (by simp only [List.length_append, List.length_cons, List.length_nil]; omega) (by omega)
        simpa using h
      · rw [if_neg hrs]
        simp [hrs]
theorem eqByteS_ev (a b : List Int) (h : a.length ≤ 1099511627776) : Ev (fun k => laws_eqByteS.f k a b) (decide (a = b)) := by
  refine Ev.at_ a.length fun k hk => ?_
  simp only [laws_eqByteS.f]
  by_cases e : a.length = b.length
  · rw [if_pos (by omega)]
    have h := eqByteS_loop a b [] [] k rfl e (by simp only [List.length_nil]; omega) hk
    simpa using h
  · rw [if_neg (by omega)]
    have hne : ¬ a = b := fun h => e (by rw [h])
    simp [hne]

def marksByte : Int → Nat → List Int
  | _, 0 => []
  | m, d + 1 => (m % 256) :: marksByte (m + 1) d
theorem marksByte_length (m : Int) (d : Nat) : (marksByte m d).length = d := by
  induction d generalizing m with
  | zero => rfl
  | succ d ih => simp [marksByte, ih]
theorem markByteS_loop (rest : List Int) : ∀ (pre : List Int) (m : Int) (k : Nat), 0 ≤ m → m ≤ 1152921504606846976 - rest.length → pre.length + rest.length ≤ 1099511627776 → rest.length < k →
    laws_markByteS.l0 k (pre ++ rest) m (pre.length : Int) = some (m + rest.length, pre ++ marksByte m rest.length) := by
  induction rest with
  | nil =>
    intro pre m k _ _ _ hk
    obtain ⟨k, rfl⟩ := succ_of hk
    simp only [laws_markByteS.l0]
    rw [if_neg (by simp only [List.length_append, List.length_nil]; omega)]
    simp [marksByte]
  | cons r rest ih =>
    intro pre m k h0 h1 hn hk
    obtain ⟨k, rfl⟩ := succ_of hk
    simp only [List.length_cons] at h1 hn hk
    simp only [laws_markByteS.l0]
    rw [if_pos (by simp only [List.length_append, List.length_cons]; omega), if_pos (by omega), set_mid, w64 (x := m + 1) (by omega) (by omega), w64 (by omega) (by omega)]
    have h := ih (pre ++ [m % 256]) (m + 1) k (by omega) (by omega) (by simp only [List.length_append, List.length_cons, List.length_nil]; omega) (by omega)
    simp only [List.length_append, List.length_cons, List.length_nil, List.append_assoc, List.cons_append, List.nil_append] at h
    simp only [marksByte, List.length_cons]
    rw [show (pre.length : Int) + 1 = ((pre.length + (0 + 1) : Nat) : Int) from by omega, h]
    congr 2
    omega
theorem markByteS_ev (xs : List Int) (m : Int) (h0 : 0 ≤ m) (h1 : m ≤ 1099511627776) (h : xs.length ≤ 1099511627776) : Ev (fun k => laws_markByteS.f k xs m) (m + xs.length, marksByte m xs.length) := by
  refine Ev.at_ xs.length fun k hk => ?_
  simp only [laws_markByteS.f]
  have h := markByteS_loop xs [] m k h0 (by omega) (by simp only [List.length_nil]; omega) hk
  simpa using h
theorem heldByteS_loop (d : Nat) : ∀ (pre : List Int) (m : Int) (k : Nat), 0 ≤ m → m ≤ 1152921504606846976 - d → pre.length + d ≤ 1099511627776 → d < k →
    laws_heldByteS.l0 k (pre ++ marksByte m d) m (pre.length : Int) = some (m + d) := by
  induction d with
  | zero =>
    intro pre m k _ _ _ hk
    obtain ⟨k, rfl⟩ := succ_of hk
    simp only [marksByte]
    simp only [laws_heldByteS.l0]
    rw [if_neg (by simp only [List.length_append, List.length_nil]; omega)]
    simp
  | succ d ih =>
    intro pre m k h0 h1 hn hk
    obtain ⟨k, rfl⟩ := succ_of hk
    simp only [marksByte]
    simp only [laws_heldByteS.l0]
    rw [if_pos (by simp only [List.length_append, List.length_cons]; omega), if_pos (by omega), rd_mid, if_pos rfl, w64 (x := m + 1) (by omega) (by omega), w64 (by omega) (by omega)]
    have h := ih (pre ++ [m % 256]) (m + 1) k (by omega) (by omega) (by simp only [List.length_append, List.length_cons, List.length_nil]; omega) (by omega)
    simp only [List.length_append, List.length_cons, List.length_nil, List.append_assoc, List.cons_append, List.nil_append] at h
    rw [show (pre.length : Int) + 1 = ((pre.length + (0 + 1) : Nat) : Int) from by omega, h]
    congr 1
    omega
theorem heldByteS_ev (m : Int) (d : Nat) (h0 : 0 ≤ m) (h1 : m ≤ 1099511627776) (h : d ≤ 1099511627776) : Ev (fun k => laws_heldByteS.f k (marksByte m d) m) (m + d) := by
  refine Ev.at_ d fun k hk => ?_
  simp only [laws_heldByteS.f]
  have h := heldByteS_loop d [] m k h0 (by omega) (by simp only [List.length_nil]; omega) hk
  simpa using h

def clip (n : Int) : Int := if n > 2147483647 then 2147483647 else if n < -2147483648 then -2147483648 else n
theorem clip_bd (n : Int) : -2147483648 ≤ clip n ∧ clip n ≤ 2147483647 := by
  unfold clip
  split
  · omega
  · split <;> omega
def putInt (n : Int) : List Int :=
  if -128 ≤ n ∧ n ≤ 127 then [n % 256]
  else if -32768 ≤ n ∧ n ≤ 32767 then [n / 256 % 256, n % 256]
  else if -8388608 ≤ n ∧ n ≤ 8388607 then [n / 65536 % 256, n / 256 % 256, n % 256]
  else [n / 16777216 % 256, n / 65536 % 256, n / 256 % 256, n % 256]
theorem putInt_len (n : Int) : (putInt n).length ≤ 4 := by
  unfold putInt
  split
  · simp
  · split
    · simp
    · split <;> simp

theorem sClip_eq (n : Int) : spec_l1Clip.f n = some (clip n) := by
  unfold spec_l1Clip.f clip
  split
  · rfl
  · split <;> rfl
theorem sPutInt_stop (k : Nat) (n : Int) (out : List Int) (h0 : -128 ≤ n) (h1 : n ≤ 127) : spec_PutInt.l0 (k + 1) n out = some out := by
  simp only [spec_PutInt.l0]
  rw [if_neg (by omega), if_neg (by omega)]
theorem sPutInt_go (k : Nat) (n : Int) (out : List Int) (h : n < -128 ∨ n > 127) (ho : out.length < 1000) : spec_PutInt.l0 (k + 1) n out = spec_PutInt.l0 k (n / 256) ([n / 256 % 256] ++ out) := by
  simp only [spec_PutInt.l0]
  by_cases h0 : n < -128
  · rw [if_pos h0]
    simp only [Option.bind_some]
    rw [if_pos (by simp only [List.length_cons, List.length_nil]; omega)]
  · rw [if_neg h0, if_pos (by omega)]
    simp only [Option.bind_some]
    rw [if_pos (by simp only [List.length_cons, List.length_nil]; omega)]
theorem sPutInt_at (m : Nat) (n : Int) (h0 : -2147483648 ≤ n) (h1 : n ≤ 2147483647) : spec_PutInt.l0 (m + 4) n [n % 256] = some (putInt n) := by
  unfold putInt
  by_cases c1 : -128 ≤ n ∧ n ≤ 127
  · rw [if_pos c1, sPutInt_stop _ _ _ c1.1 c1.2]
  · rw [if_neg c1, sPutInt_go _ _ _ (by omega) (by simp)]
    by_cases c2 : -32768 ≤ n ∧ n ≤ 32767
    · rw [if_pos c2, sPutInt_stop _ _ _ (by omega) (by omega)]
      rfl
    · rw [if_neg c2, sPutInt_go _ _ _ (by omega) (by simp), show n / 256 / 256 = n / 65536 by omega]
      by_cases c3 : -8388608 ≤ n ∧ n ≤ 8388607
      · rw [if_pos c3, sPutInt_stop _ _ _ (by omega) (by omega)]
        rfl
      · rw [if_neg c3, sPutInt_go _ _ _ (by omega) (by simp), show n / 65536 / 256 = n / 16777216 by omega, sPutInt_stop _ _ _ (by omega) (by omega)]
        rfl
theorem sPutInt_ev (n : Int) : Ev (fun k => spec_PutInt.f k n) (putInt (clip n)) := by
  refine Ev.at_ 4 fun k hk => ?_
  obtain ⟨m, rfl⟩ : ∃ m, k = m + 4 := ⟨k - 4, by omega⟩
  simp only [spec_PutInt.f, sClip_eq, Option.bind_some]
  exact sPutInt_at m _ (clip_bd n).1 (clip_bd n).2

theorem iClip_eq (n : Int) : mx (-2147483648) (mn n 2147483647) = clip n := by
  unfold mx mn clip
  split <;> split <;> (try split) <;> omega
theorem iPutInt_l1 (k : Nat) (n i : Int) (out : List Int) (s q : Int) (h0 : 0 ≤ i) (hi : wrap64 (8 * i) = s) (hs : 0 ≤ s) (hq : shr .i64 n s = q) (ho : out.length < 1000) :
    impl_PutInt.l1 (k + 1) n out i = impl_PutInt.l1 k n (out ++ [q % 256]) (wrap64 (i - 1)) := by
  simp only [impl_PutInt.l1]
  rw [if_pos h0, hi, if_pos hs, if_pos (by omega), hq]
theorem iPutInt_l1_end (k : Nat) (n : Int) (out : List Int) : impl_PutInt.l1 (k + 1) n out (-1) = some out := by
  simp only [impl_PutInt.l1]
  rw [if_neg (by omega)]
theorem shr0 (n : Int) : shr .i64 n 0 = n := by
  show n / 1 = n
  omega
theorem shr8 (n : Int) : shr .i64 n 8 = n / 256 := rfl
theorem shr16 (n : Int) : shr .i64 n 16 = n / 65536 := rfl
theorem shr24 (n : Int) : shr .i64 n 24 = n / 16777216 := rfl
theorem iPutInt_j1 (m : Nat) (n : Int) : impl_PutInt.j1 (m + 3) n 1 = some [n % 256] ∧ impl_PutInt.j1 (m + 4) n 2 = some [n / 256 % 256, n % 256] ∧
    impl_PutInt.j1 (m + 5) n 3 = some [n / 65536 % 256, n / 256 % 256, n % 256] ∧ impl_PutInt.j1 (m + 6) n 4 = some [n / 16777216 % 256, n / 65536 % 256, n / 256 % 256, n % 256] := by
  have t1 : wrap64 (1 - 1) = 0 := by decide +kernel
  have t2 : wrap64 (2 - 1) = 1 := by decide +kernel
  have t3 : wrap64 (3 - 1) = 2 := by decide +kernel
  have t4 : wrap64 (4 - 1) = 3 := by decide +kernel
  have s0 : wrap64 (0 - 1) = -1 := by decide +kernel
  have e0 : ∀ k out, out.length < 1000 → impl_PutInt.l1 (k + 2) n out 0 = some (out ++ [n % 256]) := fun k out ho => by
    rw [iPutInt_l1 (k + 1) n 0 out 0 n (by decide +kernel) (by decide +kernel) (by decide +kernel) (shr0 n) ho, s0, iPutInt_l1_end]
  have e1 : ∀ k out, out.length < 900 → impl_PutInt.l1 (k + 3) n out 1 = some (out ++ [n / 256 % 256] ++ [n % 256]) := fun k out ho => by
    rw [iPutInt_l1 (k + 2) n 1 out 8 _ (by decide +kernel) (by decide +kernel) (by decide +kernel) (shr8 n) (by omega), t1, e0 _ _ (by simp only [List.length_append, List.length_cons, List.length_nil]; omega)]
  have e2 : ∀ k out, out.length < 800 → impl_PutInt.l1 (k + 4) n out 2 = some (out ++ [n / 65536 % 256] ++ [n / 256 % 256] ++ [n % 256]) := fun k out ho => by
    rw [iPutInt_l1 (k + 3) n 2 out 16 _ (by decide +kernel) (by decide +kernel) (by decide +kernel) (shr16 n) (by omega), t2, e1 _ _ (by simp only [List.length_append, List.length_cons, List.length_nil]; omega)]
  have e3 : ∀ k out, out.length < 700 → impl_PutInt.l1 (k + 5) n out 3 = some (out ++ [n / 16777216 % 256] ++ [n / 65536 % 256] ++ [n / 256 % 256] ++ [n % 256]) := fun k out ho => by
    rw [iPutInt_l1 (k + 4) n 3 out 24 _ (by decide +kernel) (by decide +kernel) (by decide +kernel) (shr24 n) (by omega), t3, e2 _ _ (by simp only [List.length_append, List.length_cons, List.length_nil]; omega)]
  refine ⟨?_, ?_, ?_, ?_⟩
  · simp only [impl_PutInt.j1]
    rw [t1, e0 _ _ (by simp)]
    rfl
  · simp only [impl_PutInt.j1]
    rw [t2, e1 _ _ (by simp)]
    rfl
  · simp only [impl_PutInt.j1]
    rw [t3, e2 _ _ (by simp)]
    rfl
  · simp only [impl_PutInt.j1]
    rw [t4, e3 _ _ (by simp)]
    rfl
theorem iPutInt_l0 (k : Nat) (n j s lo hi : Int) (h4 : j < 4) (hs : wrap64 (wrap64 (8 * j) - 1) = s) (h0 : 0 ≤ s) (hl : shl .i64 (-1) s = lo) (hh : wrap64 (shl .i64 1 s - 1) = hi) :
    impl_PutInt.l0 (k + 1) n j = if lo ≤ n ∧ n ≤ hi then impl_PutInt.j1 k n j else impl_PutInt.l0 k n (wrap64 (j + 1)) := by
  simp only [impl_PutInt.l0]
  rw [if_pos h4, hs, if_pos h0, hl, hh, in_eq]
  simp only [Option.bind_some, decide_eq_true_eq]
theorem iPutInt_ev (n : Int) : Ev (fun k => impl_PutInt.f k n) (putInt (clip n)) := by
  refine Ev.at_ 12 fun k hk => ?_
  obtain ⟨m, rfl⟩ : ∃ m, k = m + 12 := ⟨k - 12, by omega⟩
  simp only [impl_PutInt.f]
  rw [iClip_eq]
  generalize clip n = c
  unfold putInt
  rw [iPutInt_l0 (m + 11) c 1 7 (-128) 127 (by decide +kernel) (by decide +kernel) (by decide +kernel) (by decide +kernel) (by decide +kernel)]
  by_cases c1 : -128 ≤ c ∧ c ≤ 127
  · rw [if_pos c1, if_pos c1]
    exact (iPutInt_j1 (m + 8) c).1
  · rw [if_neg c1, if_neg c1, show wrap64 (1 + 1) = 2 by decide +kernel, iPutInt_l0 (m + 10) c 2 15 (-32768) 32767 (by decide +kernel) (by decide +kernel) (by decide +kernel) (by decide +kernel) (by decide +kernel)]
    by_cases c2 : -32768 ≤ c ∧ c ≤ 32767
    · rw [if_pos c2, if_pos c2]
      exact (iPutInt_j1 (m + 6) c).2.1
    · rw [if_neg c2, if_neg c2, show wrap64 (2 + 1) = 3 by decide +kernel, iPutInt_l0 (m + 9) c 3 23 (-8388608) 8388607 (by decide +kernel) (by decide +kernel) (by decide +kernel) (by decide +kernel) (by decide +kernel)]
      by_cases c3 : -8388608 ≤ c ∧ c ≤ 8388607
      · rw [if_pos c3, if_pos c3]
        exact (iPutInt_j1 (m + 4) c).2.2.1
      · rw [if_neg c3, if_neg c3, show wrap64 (3 + 1) = 4 by decide +kernel]
        simp only [impl_PutInt.l0]
        rw [if_neg (by omega)]
        exact (iPutInt_j1 (m + 2) c).2.2.2

def tlvOk (tag : Int) (body : List Int) : Bool := decide (0 ≤ tag ∧ tag ≤ 255) && decide ((body.length : Int) ≤ 250)
def tlvBytes (tag : Int) (body : List Int) : List Int := [tag % 256] ++ ((if (body.length : Int) > 127 then [129] else []) ++ ([(body.length : Int) % 256] ++ body))
def putTlv (b : List Int) (tag : Int) (body : List Int) : List Int := if tlvOk tag body = true then b ++ tlvBytes tag body else b
theorem tlvBytes_len (tag : Int) (body : List Int) : (tlvBytes tag body).length ≤ body.length + 3 := by
  unfold tlvBytes
  split <;> simp <;> omega
theorem putTlv_len (b : List Int) (tag : Int) (body : List Int) : (putTlv b tag body).length ≤ b.length + 253 := by
  unfold putTlv
  split
  · rename_i h
    have := tlvBytes_len tag body
    simp only [tlvOk, Bool.and_eq_true, decide_eq_true_eq] at h
    simp only [List.length_append]
    omega
  · omega

theorem sPutTlv_ev (b : List Int) (tag : Int) (body : List Int) (hb : b.length ≤ 1099511627776) (hy : body.length ≤ 1099511627776) : Ev (fun k => spec_PutTlv.f k b tag body) (putTlv b tag body) := by
  refine Ev.succ ?_
  refine Ev.some_const (fun k => ?_)
  simp only [spec_PutTlv.f, spec_PutTlv.j0, Option.bind_some, l1In_eq, List.nil_append]
  rw [if_pos (by simp only [List.length_nil]; omega)]
  unfold putTlv tlvOk tlvBytes
  by_cases h1 : 0 ≤ tag ∧ tag ≤ 255
  · simp only [decide_eq_true h1, if_true, Bool.true_and]
    by_cases h2 : (body.length : Int) > 250
    · simp only [decide_eq_true h2, if_true, decide_eq_false (show ¬ (body.length : Int) ≤ 250 by omega), Bool.false_eq_true, if_false]
    · simp only [decide_eq_false h2, Bool.false_eq_true, if_false, decide_eq_true (show (body.length : Int) ≤ 250 by omega), if_true]
      rw [if_pos (by omega)]
      by_cases h3 : (body.length : Int) > 127
      · simp only [if_pos h3]
        rw [if_pos (by simp only [List.length_append, List.length_cons, List.length_nil]; omega), if_pos (by simp only [List.length_append, List.length_cons, List.length_nil]; omega), if_pos (by simp only [List.length_append, List.length_cons, List.length_nil]; omega)]
        simp
      · simp only [if_neg h3]
        rw [if_pos (by simp only [List.length_append, List.length_cons, List.length_nil]; omega), if_pos (by simp only [List.length_append, List.length_cons, List.length_nil]; omega)]
        simp
  · simp only [decide_eq_false h1, Bool.false_and, Bool.false_eq_true, if_false, if_true]

theorem iCopyBytes_eq (b : List Int) (hb : b.length ≤ 1099511627776) : impl_copyBytes.f b = some b := by
  unfold impl_copyBytes.f
  rw [if_pos (by simp only [List.length_nil]; omega)]
  simp
theorem iTlv_ev (tag : Int) (body : List Int) (hy : body.length ≤ 1099511627776) : Ev (fun k => impl_tlv.f k tag body) (if tlvOk tag body = true then (tlvBytes tag body, true) else ([], false)) := by
  refine Ev.succ ?_
  refine Ev.some_const (fun k => ?_)
  simp only [impl_tlv.f, impl_tlv.j0, Option.bind_some, in_eq]
  unfold tlvOk tlvBytes
  by_cases h1 : 0 ≤ tag ∧ tag ≤ 255
  · simp only [decide_eq_true h1, if_true, Bool.true_and]
    by_cases h2 : (body.length : Int) > 250
    · simp only [decide_eq_true h2, if_true, decide_eq_false (show ¬ (body.length : Int) ≤ 250 by omega), Bool.false_eq_true, if_false]
    · simp only [decide_eq_false h2, Bool.false_eq_true, if_false, decide_eq_true (show (body.length : Int) ≤ 250 by omega), if_true]
      by_cases h3 : (body.length : Int) > 127
      · rw [if_pos (show (body.length : Int) ≥ 128 by omega), if_pos (by simp only [List.length_cons, List.length_nil]; omega), if_pos (by simp only [List.length_append, List.length_cons, List.length_nil]; omega), if_pos (by simp only [List.length_append, List.length_cons, List.length_nil]; omega)]
        simp [h3]
      · rw [if_neg (show ¬ (body.length : Int) ≥ 128 by omega), if_pos (by simp only [List.length_cons, List.length_nil]; omega), if_pos (by simp only [List.length_append, List.length_cons, List.length_nil]; omega)]
        simp [h3]
  · simp only [decide_eq_false h1, Bool.false_and, Bool.false_eq_true, if_false, if_true]
theorem iPutTlv_ev (b : List Int) (tag : Int) (body : List Int) (hb : b.length ≤ 1099511627776) (hy : body.length ≤ 1099511627776) : Ev (fun k => impl_PutTlv.f k b tag body) (putTlv b tag body) := by
  unfold impl_PutTlv.f putTlv
  refine Ev.bind (iTlv_ev tag body hy) ?_
  simp only [iCopyBytes_eq b hb, Option.bind_some]
  by_cases h : tlvOk tag body = true
  · have hl := tlvBytes_len tag body
    simp only [if_pos h]
    rw [if_pos (by omega)]
    exact Ev.now _
  · simp only [if_neg h, List.length_nil, List.append_nil]
    rw [if_pos (by omega)]
    exact Ev.now _

theorem szByteS_eq (l : List Int) (a : Int) (h0 : 0 ≤ a) (h1 : a ≤ 1099511627776) (hl : l.length ≤ maxLen) : laws_szByteS.f l a = some (if a - (l.length : Int) < 0 then -1 else a - (l.length : Int)) := by
  have hl' : l.length ≤ 9223372036854775807 := hl
  unfold laws_szByteS.f
  rw [w64 (by omega) (by omega)]
  split <;> rfl
theorem szFrame_eq (a b c : Int) (l : List Int) (n : Int) (h0 : 0 ≤ n) (h1 : n ≤ 1099511627776) (hl : l.length ≤ maxLen) : laws_szFrame.f a b c l n = some (if n - (l.length : Int) < 0 then -1 else n - (l.length : Int)) := by
  unfold laws_szFrame.f
  rw [szByteS_eq l n h0 h1 hl]
  simp only [Option.bind_some]
  by_cases h : n - (l.length : Int) < 0
  · simp only [if_pos h]; rfl
  · simp only [if_neg h]
theorem toFrame_ev (a b c : Int) (l : List Int) (h : l.length ≤ 1048576) : Ev (fun k => laws_toFrame.f k a b c l) (a, b, c, l) := by
  unfold laws_toFrame.f
  refine Ev.bind (toByteS_ev l h) ?_
  exact Ev.now _
theorem eqFrame_ev (a b c : Int) (l : List Int) (h : l.length ≤ 1099511627776) : Ev (fun k => laws_eqFrame.f k a b c l a b c l) true := by
  unfold laws_eqFrame.f
  simp only [↓reduceIte]
  refine Ev.bind (eqByteS_ev l l h) ?_
  simp only [decide_true, ↓reduceIte]
  exact Ev.now _

theorem markFrame_ev (a b c : Int) (l : List Int) (m : Int) (h0 : 0 ≤ m) (h1 : m ≤ 1099511627776) (h : l.length ≤ 1099511627776) : Ev (fun k => laws_markFrame.f k a b c l m) (m + l.length, marksByte m l.length) := by
  unfold laws_markFrame.f
  refine Ev.bind (markByteS_ev l m h0 h1 h) ?_
  exact Ev.now _

def frameOk (a b c : Int) (l : List Int) : Bool := decide (0 ≤ a ∧ a ≤ 9999) && (decide (1 ≤ b ∧ b ≤ 9999) && (decide (0 ≤ c ∧ c ≤ 99) && decide ((l.length : Int) ≤ 20)))

theorem sFrameOk_eq (a b c : Int) (l : List Int) : spec_FrameOk.f a b c l = some (frameOk a b c l) := by
  unfold spec_FrameOk.f frameOk
  simp only [l1In_eq, Option.bind_some]
  generalize decide (0 ≤ a ∧ a ≤ 9999) = p1
  generalize decide (1 ≤ b ∧ b ≤ 9999) = p2
  generalize decide (0 ≤ c ∧ c ≤ 99) = p3
  generalize decide ((l.length : Int) ≤ 20) = p4
  cases p1 <;> cases p2 <;> cases p3 <;> cases p4 <;> rfl

theorem iFrameOk_eq (a b c : Int) (l : List Int) : impl_FrameOk.f a b c l = some (frameOk a b c l) := by
  unfold impl_FrameOk.f frameOk
  simp only [in_eq, Option.bind_some]
  generalize decide (0 ≤ a ∧ a ≤ 9999) = p1
  generalize decide (1 ≤ b ∧ b ≤ 9999) = p2
  generalize decide (0 ≤ c ∧ c ≤ 99) = p3
  generalize decide ((l.length : Int) ≤ 20) = p4
  cases p1 <;> cases p2 <;> cases p3 <;> cases p4 <;> rfl

def addT (l : List Int) (t n : Int) : List Int := putTlv l t (putInt (clip n))
theorem addT_len (l : List Int) (t n : Int) : (addT l t n).length ≤ l.length + 253 := putTlv_len _ _ _
def putFrame (a b c : Int) (l : List Int) : List Int := if frameOk a b c l = true then (if c = 0 then putTlv (addT (addT [] 1 a) 1 b) 3 l else putTlv (addT (addT (addT [] 1 a) 1 b) 2 c) 3 l) else []
theorem putFrame_len (a b c : Int) (l : List Int) : (putFrame a b c l).length ≤ 1012 := by
  have h1 := addT_len [] 1 a
  have h2 := addT_len (addT [] 1 a) 1 b
  have h3 := addT_len (addT (addT [] 1 a) 1 b) 2 c
  have h4 := putTlv_len (addT (addT [] 1 a) 1 b) 3 l
  have h5 := putTlv_len (addT (addT (addT [] 1 a) 1 b) 2 c) 3 l
  simp only [List.length_nil] at h1
  unfold putFrame
  split
  · split <;> omega
  · simp

theorem sAddT_ev (l : List Int) (t n : Int) (h : l.length ≤ 1099511627776) {β : Type} {g : Nat → List Int → Option β} {r : β} (hg : Ev (fun k => g k (addT l t n)) r) :
    Ev (fun k => (spec_PutInt.f k n).bind fun u => (spec_PutTlv.f k l t u).bind fun v => g k v) r := by
  have hp := putInt_len (clip n)
  refine Ev.bind (sPutInt_ev n) ?_
  refine Ev.bind (sPutTlv_ev l t _ h (by omega)) ?_
  exact hg
theorem sPutFrame_ev (a b c : Int) (l : List Int) (hl : l.length ≤ 1048576) : Ev (fun k => spec_PutFrame.f k a b c l) (putFrame a b c l) := by
  unfold spec_PutFrame.f putFrame
  simp only [sFrameOk_eq, Option.bind_some]
  refine Ev.ite (fun _ => ?_) (fun _ => Ev.now _)
  have h1 := addT_len [] 1 a
  have h2 := addT_len (addT [] 1 a) 1 b
  have h3 := addT_len (addT (addT [] 1 a) 1 b) 2 c
  simp only [List.length_nil] at h1
  refine sAddT_ev [] 1 a (by simp) ?_
  refine sAddT_ev _ 1 b (by omega) ?_
  refine Ev.ite (fun _ => ?_) (fun _ => ?_)
  · exact Ev.bind (sPutTlv_ev _ 3 l (by omega) (by omega)) (Ev.now _)
  · refine sAddT_ev _ 2 c (by omega) ?_
    exact Ev.bind (sPutTlv_ev _ 3 l (by omega) (by omega)) (Ev.now _)

theorem iAddT_ev (l : List Int) (t n : Int) (h : l.length ≤ 1099511627776) : Ev (fun k => impl_addNum.f k l t n) (addT l t n) := by
  have hp := putInt_len (clip n)
  unfold impl_addNum.f
  refine Ev.bind (iPutInt_ev n) ?_
  refine Ev.bind (iPutTlv_ev l t _ h (by omega)) ?_
  exact Ev.now _
theorem iPutFrame_ev (a b c : Int) (l : List Int) (hl : l.length ≤ 1048576) : Ev (fun k => impl_PutFrame.f k a b c l) (putFrame a b c l) := by
  unfold impl_PutFrame.f putFrame
  simp only [iFrameOk_eq, Option.bind_some]
  refine Ev.ite (fun _ => ?_) (fun _ => Ev.now _)
  have h1 := addT_len [] 1 a
  have h2 := addT_len (addT [] 1 a) 1 b
  have h3 := addT_len (addT (addT [] 1 a) 1 b) 2 c
  simp only [List.length_nil] at h1
  refine Ev.bind (iAddT_ev [] 1 a (by simp)) ?_
  refine Ev.bind (iAddT_ev _ 1 b (by omega)) ?_
  refine Ev.ite (fun _ => ?_) (fun _ => ?_)
  · exact Ev.bind (iPutTlv_ev _ 3 l (by omega) (by omega)) (Ev.now _)
  · refine Ev.bind (iAddT_ev _ 2 c (by omega)) ?_
    exact Ev.bind (iPutTlv_ev _ 3 l (by omega) (by omega)) (Ev.now _)

theorem FnExactPutFrame : laws_FnExactPutFrame.Pure := by
  intro a b c l _ _ _ hl _
  refine Ev.rounds ?_
  unfold laws_FnExactPutFrame.f
  rw [szFrame_eq _ _ _ l _ (by omega) (by omega) hl]
  simp only [Option.bind_some]
  by_cases h : 1048576 - (l.length : Int) < 0
  · simp only [if_pos h]
    exact Ev.now _
  have hn : ¬ 1048576 - (l.length : Int) < 0 := h
  simp only [if_neg h, if_neg hn]
  have hs := sPutFrame_ev a b c l (by omega)
  have hi := iPutFrame_ev a b c l (by omega)
  have hl2 := putFrame_len a b c l
  have hneg : ¬ ((1 : Int) + (l.length : Int) < 0) := by omega
  have hneg2 : ¬ ((1 : Int) + ((putFrame a b c l).length : Int) < 0) := by omega
  repeat' first
    | exact Ev.now _
    | (with_reducible refine Ev.bind hs ?_)
    | (with_reducible refine Ev.bind hi ?_)
    | ((with_reducible refine Ev.bind (toFrame_ev _ _ _ _ ?s0) ?_); (case s0 => omega))
    | ((with_reducible refine Ev.bind (eqFrame_ev _ _ _ _ ?s0) ?_); (case s0 => omega))
    | ((with_reducible refine Ev.bind (eqByteS_ev _ _ ?s0) ?_); (case s0 => omega))
    | ((with_reducible refine Ev.bind (markFrame_ev _ _ _ _ _ ?s0 ?s1 ?s2) ?_); (case s0 => omega); (case s1 => omega); (case s2 => omega))
    | ((with_reducible refine Ev.bind (markByteS_ev _ _ ?s0 ?s1 ?s2) ?_); (case s0 => omega); (case s1 => omega); (case s2 => omega))
    | ((with_reducible refine Ev.bind (heldByteS_ev _ _ ?s0 ?s1 ?s2) ?_); (case s0 => omega); (case s1 => omega); (case s2 => omega))
    | simp only [bne_self_eq_false, Bool.false_eq_true, Bool.not_true, Bool.not_false, decide_true, Option.bind_some, ↓reduceIte, if_neg hneg, if_neg hneg2]
    | (refine Ev.succ ?_; simp only [laws_FnExactPutFrame.j0])

end Go.Proofs.Ytndfokcnogpeiaa.Pure
