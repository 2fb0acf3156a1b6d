/- The pure side of FnVecs: a vector's bytes read back, and what reads as a vector has these bytes. No conditions but those of the given statement. -/
import Derived.Test.YtebffdmkfkfoaaaXFnVecsx12
namespace Go.Proofs.Ytebffdmkfkfoaaa.Pure
open Go.RowKit Go.Proofs.Ytebffdmkfkfoaaa.XFnVecs Go.Proofs.YtebffdmkfkfoaaaW.PrintWords Go.Proofs.YtebffdmkfkfoaaaW.PrintLast Go.Proofs.YtebffdmkfkfoaaaW.PrintMore
set_option linter.unusedVariables false
set_option linter.unusedSimpArgs false

theorem w64 {x : Int} (h0 : -9223372036854775808 ≤ x) (h1 : x ≤ 9223372036854775807) : wrap64 x = x := by
  unfold wrap64
  omega
theorem wf64 {x : Int} (h : (Lit.int .i64 x).wf = true) : -9223372036854775808 ≤ x ∧ x ≤ 9223372036854775807 := by
  simp only [Lit.wf, Bool.and_eq_true, decide_eq_true_eq] at h
  exact h
theorem wf8 {x : Int} (h : (Lit.int .u8 x).wf = true) : 0 ≤ x ∧ x ≤ 255 := by
  simp only [Lit.wf, Bool.and_eq_true, decide_eq_true_eq] at h
  exact h
theorem rd_mid (pre rest : List Int) (r : Int) : rd (pre ++ r :: rest) (pre.length : Int) = r := by
  unfold rd
  simp [List.getD_eq_getElem?_getD]
theorem set_mid {α : Type} (pre rest : List α) (r v : α) : (pre ++ r :: rest).set (pre.length : Int).toNat v = pre ++ v :: rest := by
  rw [Int.toNat_natCast, List.set_append_right _ _ (Nat.le_refl _)]
  simp
theorem succ_of {d k : Nat} (h : d < k) : ∃ m, k = m + 1 := ⟨k - 1, by omega⟩
theorem Ev.at_ {α : Type} {g : Nat → Option α} {r : α} (n : Nat) (h : ∀ k, n < k → g k = some r) : Ev g r := ⟨n + 1, fun k hk => h k (by omega)⟩
theorem Ev.some_ {α : Type} {v : Option α} {r : α} (h : v = some r) : Ev (fun _ => v) r := ⟨0, fun _ _ => h⟩
theorem Ev.succ {α : Type} {g : Nat → Option α} {r : α} (h : Ev (fun k => g (k + 1)) r) : Ev g r := by
  obtain ⟨K, h⟩ := h
  refine ⟨K + 1, fun n hn => ?_⟩
  obtain ⟨m, rfl⟩ : ∃ m, n = m + 1 := ⟨n - 1, by omega⟩
  exact h m (by omega)
theorem Ev.some_const {α : Type} {g : Nat → Option α} {r : α} (h : ∀ k, g k = some r) : Ev g r := ⟨0, fun k _ => h k⟩

theorem l1In_eq (a b c : Int) : spec_l1In.f a b c = some (decide (b ≤ a ∧ a ≤ c)) := by
  unfold spec_l1In.f
  by_cases h : b ≤ a
  · rw [if_pos h]; simp [h]
  · rw [if_neg h]; simp [h]

theorem in_eq (a b c : Int) : impl_in.f a b c = some (decide (b ≤ a ∧ a ≤ c)) := by
  unfold impl_in.f
  by_cases h : b ≤ a
  · rw [if_pos h]; simp [h]
  · rw [if_neg h]; simp [h]

theorem sameBytes_loop (a : List Int) : ∀ (b pre pre' : List Int) (k : Nat), pre.length = pre'.length → a.length = b.length → pre.length + a.length ≤ 1099511627776 → a.length < k →
    laws_sameBytes.l0 k (pre ++ a) (pre' ++ b) (pre.length : Int) = some (decide (a = b)) := by
  induction a with
  | nil =>
    intro b pre pre' k hp hab hn hk
    obtain ⟨k, rfl⟩ := succ_of hk
    obtain rfl : b = [] := List.eq_nil_of_length_eq_zero hab.symm
    simp only [laws_sameBytes.l0]
    rw [if_neg (by simp only [List.length_append, List.length_nil] at *; omega)]
    simp
  | cons r a ih =>
    intro b pre pre' k hp hab hn hk
    obtain ⟨k, rfl⟩ := succ_of hk
    cases b with
    | nil => simp at hab
    | cons s b =>
      simp only [List.length_cons] at hab hn hk
      simp only [laws_sameBytes.l0]
      have e : rd (pre' ++ s :: b) (pre.length : Int) = s := by rw [hp, rd_mid]
      rw [if_pos (by simp only [List.length_append, List.length_cons]; omega), if_pos (by omega), if_pos (by simp only [List.length_append, List.length_cons]; omega), rd_mid, e]
      by_cases hrs : r = s
      · subst hrs
        rw [if_pos rfl, w64 (by omega) (by omega)]
        have h := ih b (pre ++ [r]) (pre' ++ [r]) k (by simp [hp]) (by omega) (by simp only [List.length_append, List.length_cons, List.length_nil]; omega) (by omega)
        simpa using h
      · rw [if_neg hrs]
        simp [hrs]
theorem sameBytes_ev (a b : List Int) (h : a.length ≤ 1099511627776) : Ev (fun k => laws_sameBytes.f k a b) (decide (a = b)) := by
  refine Ev.at_ a.length fun k hk => ?_
  simp only [laws_sameBytes.f]
  by_cases e : a.length = b.length
  · rw [if_pos (by omega)]
    have h := sameBytes_loop a b [] [] k rfl e (by simp only [List.length_nil]; omega) hk
    simpa using h
  · rw [if_neg (by omega)]
    have hne : ¬ a = b := fun h => e (by rw [h])
    simp [hne]

theorem Ev.ite {α : Type} {c : Prop} [Decidable c] {g1 g2 : Nat → Option α} {r1 r2 : α} (h1 : c → Ev g1 r1) (h2 : ¬ c → Ev g2 r2) : Ev (fun k => if c then g1 k else g2 k) (if c then r1 else r2) := by
  by_cases h : c
  · simp only [if_pos h]; exact h1 h
  · simp only [if_neg h]; exact h2 h

def bys (l : List Int) : Prop := ∀ y ∈ l, 0 ≤ y ∧ y ≤ 255
theorem bys_app {a b : List Int} (ha : bys a) (hb : bys b) : bys (a ++ b) := by
  intro y hy
  rcases List.mem_append.1 hy with h | h
  · exact ha y h
  · exact hb y h
theorem bys_one {b : Int} (h : 0 ≤ b ∧ b ≤ 255) : bys [b] := by
  intro y hy
  rw [List.mem_singleton.1 hy]
  exact h
theorem bys_take {a : List Int} (ha : bys a) (n : Nat) : bys (a.take n) := fun y hy => ha y (List.mem_of_mem_take hy)
theorem bys_set {a : List Int} (ha : bys a) (n : Nat) {v : Int} (hv : 0 ≤ v ∧ v ≤ 255) : bys (a.set n v) := by
  intro y hy
  rcases List.mem_or_eq_of_mem_set hy with h | h
  · exact ha y h
  · rw [h]; exact hv

def clip (n : Int) : Int := if n > 2147483647 then 2147483647 else if n < -2147483648 then -2147483648 else n
theorem clip_bd (n : Int) : -2147483648 ≤ clip n ∧ clip n ≤ 2147483647 := by
  unfold clip
  split
  · omega
  · split <;> omega
def putInt (n : Int) : List Int :=
  if -128 ≤ n ∧ n ≤ 127 then [n % 256]
  else if -32768 ≤ n ∧ n ≤ 32767 then [n / 256 % 256, n % 256]
  else if -8388608 ≤ n ∧ n ≤ 8388607 then [n / 65536 % 256, n / 256 % 256, n % 256]
  else [n / 16777216 % 256, n / 65536 % 256, n / 256 % 256, n % 256]
theorem putInt_len (n : Int) : (putInt n).length ≤ 4 := by
  unfold putInt
  split
  · simp
  · split
    · simp
    · split <;> simp

theorem sClip_eq (n : Int) : spec_l1Clip.f n = some (clip n) := by
  unfold spec_l1Clip.f clip
  split
  · rfl
  · split <;> rfl
theorem sPutInt_stop (k : Nat) (n : Int) (out : List Int) (h0 : -128 ≤ n) (h1 : n ≤ 127) : spec_PutInt.l0 (k + 1) n out = some out := by
  simp only [spec_PutInt.l0]
  rw [if_neg (by omega), if_neg (by omega)]
theorem sPutInt_go (k : Nat) (n : Int) (out : List Int) (h : n < -128 ∨ n > 127) (ho : out.length < 1000) : spec_PutInt.l0 (k + 1) n out = spec_PutInt.l0 k (n / 256) ([n / 256 % 256] ++ out) := by
  simp only [spec_PutInt.l0]
  by_cases h0 : n < -128
  · rw [if_pos h0]
    simp only [Option.bind_some]
    rw [if_pos (by simp only [List.length_cons, List.length_nil]; omega)]
  · rw [if_neg h0, if_pos (by omega)]
    simp only [Option.bind_some]
    rw [if_pos (by simp only [List.length_cons, List.length_nil]; omega)]
theorem sPutInt_at (m : Nat) (n : Int) (h0 : -2147483648 ≤ n) (h1 : n ≤ 2147483647) : spec_PutInt.l0 (m + 4) n [n % 256] = some (putInt n) := by
  unfold putInt
  by_cases c1 : -128 ≤ n ∧ n ≤ 127
  · rw [if_pos c1, sPutInt_stop _ _ _ c1.1 c1.2]
  · rw [if_neg c1, sPutInt_go _ _ _ (by omega) (by simp)]
    by_cases c2 : -32768 ≤ n ∧ n ≤ 32767
    · rw [if_pos c2, sPutInt_stop _ _ _ (by omega) (by omega)]
      rfl
    · rw [if_neg c2, sPutInt_go _ _ _ (by omega) (by simp), show n / 256 / 256 = n / 65536 by omega]
      by_cases c3 : -8388608 ≤ n ∧ n ≤ 8388607
      · rw [if_pos c3, sPutInt_stop _ _ _ (by omega) (by omega)]
        rfl
      · rw [if_neg c3, sPutInt_go _ _ _ (by omega) (by simp), show n / 65536 / 256 = n / 16777216 by omega, sPutInt_stop _ _ _ (by omega) (by omega)]
        rfl
theorem sPutInt_ev (n : Int) : Ev (fun k => spec_PutInt.f k n) (putInt (clip n)) := by
  refine Ev.at_ 4 fun k hk => ?_
  obtain ⟨m, rfl⟩ : ∃ m, k = m + 4 := ⟨k - 4, by omega⟩
  simp only [spec_PutInt.f, sClip_eq, Option.bind_some]
  exact sPutInt_at m _ (clip_bd n).1 (clip_bd n).2

theorem iClip_eq (n : Int) : mx (-2147483648) (mn n 2147483647) = clip n := by
  unfold mx mn clip
  split <;> split <;> (try split) <;> omega
theorem iPutInt_l1 (k : Nat) (n i : Int) (out : List Int) (s q : Int) (h0 : 0 ≤ i) (hi : wrap64 (8 * i) = s) (hs : 0 ≤ s) (hq : shr .i64 n s = q) (ho : out.length < 1000) :
    impl_PutInt.l1 (k + 1) n out i = impl_PutInt.l1 k n (out ++ [q % 256]) (wrap64 (i - 1)) := by
  simp only [impl_PutInt.l1]
  rw [if_pos h0, hi, if_pos hs, if_pos (by omega), hq]
theorem iPutInt_l1_end (k : Nat) (n : Int) (out : List Int) : impl_PutInt.l1 (k + 1) n out (-1) = some out := by
  simp only [impl_PutInt.l1]
  rw [if_neg (by omega)]
theorem shr0 (n : Int) : shr .i64 n 0 = n := by
  show n / 1 = n
  omega
theorem shr8 (n : Int) : shr .i64 n 8 = n / 256 := rfl
theorem shr16 (n : Int) : shr .i64 n 16 = n / 65536 := rfl
theorem shr24 (n : Int) : shr .i64 n 24 = n / 16777216 := rfl
theorem iPutInt_j1 (m : Nat) (n : Int) : impl_PutInt.j1 (m + 3) n 1 = some [n % 256] ∧ impl_PutInt.j1 (m + 4) n 2 = some [n / 256 % 256, n % 256] ∧
    impl_PutInt.j1 (m + 5) n 3 = some [n / 65536 % 256, n / 256 % 256, n % 256] ∧ impl_PutInt.j1 (m + 6) n 4 = some [n / 16777216 % 256, n / 65536 % 256, n / 256 % 256, n % 256] := by
  have t1 : wrap64 (1 - 1) = 0 := by decide +kernel
  have t2 : wrap64 (2 - 1) = 1 := by decide +kernel
  have t3 : wrap64 (3 - 1) = 2 := by decide +kernel
  have t4 : wrap64 (4 - 1) = 3 := by decide +kernel
  have s0 : wrap64 (0 - 1) = -1 := by decide +kernel
  have e0 : ∀ k out, out.length < 1000 → impl_PutInt.l1 (k + 2) n out 0 = some (out ++ [n % 256]) := fun k out ho => by
    rw [iPutInt_l1 (k + 1) n 0 out 0 n (by decide +kernel) (by decide +kernel) (by decide +kernel) (shr0 n) ho, s0, iPutInt_l1_end]
  have e1 : ∀ k out, out.length < 900 → impl_PutInt.l1 (k + 3) n out 1 = some (out ++ [n / 256 % 256] ++ [n % 256]) := fun k out ho => by
    rw [iPutInt_l1 (k + 2) n 1 out 8 _ (by decide +kernel) (by decide +kernel) (by decide +kernel) (shr8 n) (by omega), t1, e0 _ _ (by simp only [List.length_append, List.length_cons, List.length_nil]; omega)]
  have e2 : ∀ k out, out.length < 800 → impl_PutInt.l1 (k + 4) n out 2 = some (out ++ [n / 65536 % 256] ++ [n / 256 % 256] ++ [n % 256]) := fun k out ho => by
    rw [iPutInt_l1 (k + 3) n 2 out 16 _ (by decide +kernel) (by decide +kernel) (by decide +kernel) (shr16 n) (by omega), t2, e1 _ _ (by simp only [List.length_append, List.length_cons, List.length_nil]; omega)]
  have e3 : ∀ k out, out.length < 700 → impl_PutInt.l1 (k + 5) n out 3 = some (out ++ [n / 16777216 % 256] ++ [n / 65536 % 256] ++ [n / 256 % 256] ++ [n % 256]) := fun k out ho => by
    rw [iPutInt_l1 (k + 4) n 3 out 24 _ (by decide +kernel) (by decide +kernel) (by decide +kernel) (shr24 n) (by omega), t3, e2 _ _ (by simp only [List.length_append, List.length_cons, List.length_nil]; omega)]
  refine ⟨?_, ?_, ?_, ?_⟩
  · simp only [impl_PutInt.j1]
    rw [t1, e0 _ _ (by simp)]
    rfl
  · simp only [impl_PutInt.j1]
    rw [t2, e1 _ _ (by simp)]
    rfl
  · simp only [impl_PutInt.j1]
    rw [t3, e2 _ _ (by simp)]
    rfl
  · simp only [impl_PutInt.j1]
    rw [t4, e3 _ _ (by simp)]
    rfl
theorem iPutInt_l0 (k : Nat) (n j s lo hi : Int) (h4 : j < 4) (hs : wrap64 (wrap64 (8 * j) - 1) = s) (h0 : 0 ≤ s) (hl : shl .i64 (-1) s = lo) (hh : wrap64 (shl .i64 1 s - 1) = hi) :
    impl_PutInt.l0 (k + 1) n j = if lo ≤ n ∧ n ≤ hi then impl_PutInt.j1 k n j else impl_PutInt.l0 k n (wrap64 (j + 1)) := by
  simp only [impl_PutInt.l0]
  rw [if_pos h4, hs, if_pos h0, hl, hh, in_eq]
  simp only [Option.bind_some, decide_eq_true_eq]
theorem iPutInt_ev (n : Int) : Ev (fun k => impl_PutInt.f k n) (putInt (clip n)) := by
  refine Ev.at_ 12 fun k hk => ?_
  obtain ⟨m, rfl⟩ : ∃ m, k = m + 12 := ⟨k - 12, by omega⟩
  simp only [impl_PutInt.f]
  rw [iClip_eq]
  generalize clip n = c
  unfold putInt
  rw [iPutInt_l0 (m + 11) c 1 7 (-128) 127 (by decide +kernel) (by decide +kernel) (by decide +kernel) (by decide +kernel) (by decide +kernel)]
  by_cases c1 : -128 ≤ c ∧ c ≤ 127
  · rw [if_pos c1, if_pos c1]
    exact (iPutInt_j1 (m + 8) c).1
  · rw [if_neg c1, if_neg c1, show wrap64 (1 + 1) = 2 by decide +kernel, iPutInt_l0 (m + 10) c 2 15 (-32768) 32767 (by decide +kernel) (by decide +kernel) (by decide +kernel) (by decide +kernel) (by decide +kernel)]
    by_cases c2 : -32768 ≤ c ∧ c ≤ 32767
    · rw [if_pos c2, if_pos c2]
      exact (iPutInt_j1 (m + 6) c).2.1
    · rw [if_neg c2, if_neg c2, show wrap64 (2 + 1) = 3 by decide +kernel, iPutInt_l0 (m + 9) c 3 23 (-8388608) 8388607 (by decide +kernel) (by decide +kernel) (by decide +kernel) (by decide +kernel) (by decide +kernel)]
      by_cases c3 : -8388608 ≤ c ∧ c ≤ 8388607
      · rw [if_pos c3, if_pos c3]
        exact (iPutInt_j1 (m + 4) c).2.2.1
      · rw [if_neg c3, if_neg c3, show wrap64 (3 + 1) = 4 by decide +kernel]
        simp only [impl_PutInt.l0]
        rw [if_neg (by omega)]
        exact (iPutInt_j1 (m + 2) c).2.2.2

def joinI (n x : Int) : Int := Go.bits .or .i64 (wrap64 (n * 256)) (wrap64 x)
def rawInt : List Int → Int
  | [] => 0
  | b :: rest => rest.foldl joinI (if b > 127 then b - 256 else b)
def getInt (l : List Int) : Int × Bool := if (1 ≤ (l.length : Int) ∧ (l.length : Int) ≤ 4) then (if ((putInt (clip (rawInt l))).length : Int) = (l.length : Int) then (rawInt l, true) else (0, false)) else (0, false)
theorem sGetInt_loop (rest : List Int) : ∀ (pre : List Int) (n : Int), pre.length + rest.length ≤ 1099511627776 →
    Ev (fun k => spec_GetInt.l0 k (pre ++ rest) n (pre.length : Int)) (if ((putInt (clip (rest.foldl joinI n))).length : Int) = ((pre ++ rest).length : Int) then (rest.foldl joinI n, true) else (0, false)) := by
  induction rest with
  | nil =>
    intro pre n _
    refine Ev.succ ?_
    simp only [spec_GetInt.l0]
    simp only [List.append_nil, if_neg (show ¬ (pre.length : Int) < (pre.length : Int) by omega), List.foldl_nil]
    refine Ev.bind (sPutInt_ev n) ?_
    split <;> exact Ev.now _
  | cons r rest ih =>
    intro pre n hn
    simp only [List.length_cons] at hn
    have h := ih (pre ++ [r]) (joinI n r) (by simp only [List.length_append, List.length_cons, List.length_nil]; omega)
    simp only [List.append_assoc, List.cons_append, List.nil_append] at h
    refine Ev.succ ?_
    simp only [spec_GetInt.l0]
    simp only [if_pos (show (pre.length : Int) < ((pre ++ r :: rest).length : Int) by simp only [List.length_append, List.length_cons]; omega), if_pos (show (0 : Int) ≤ (pre.length : Int) by omega), rd_mid, w64 (x := (pre.length : Int) + 1) (by omega) (by omega), List.foldl_cons]
    rw [show ((pre ++ [r]).length : Int) = (pre.length : Int) + 1 by simp] at h
    exact h
theorem iGetInt_loop (all : List Int) (rest : List Int) : ∀ (pre : List Int) (n m : Int), m = (pre.length : Int) + rest.length → pre.length + rest.length ≤ 1099511627776 →
    Ev (fun k => impl_GetInt.l0 k all n (pre ++ rest) m (pre.length : Int)) (if ((putInt (clip (rest.foldl joinI n))).length : Int) = (all.length : Int) then (rest.foldl joinI n, true) else (0, false)) := by
  induction rest with
  | nil =>
    intro pre n m hm _
    simp only [List.length_nil] at hm
    show Ev _ (if ((putInt (clip n)).length : Int) = (all.length : Int) then (n, true) else (0, false))
    refine Ev.succ ?_
    simp only [impl_GetInt.l0]
    simp only [if_neg (show ¬ (pre.length : Int) < m by omega)]
    refine Ev.bind (iPutInt_ev n) ?_
    by_cases e : ((putInt (clip n)).length : Int) = (all.length : Int)
    · simp only [if_pos e]
      exact Ev.now _
    · simp only [if_neg e]
      exact Ev.now _
  | cons r rest ih =>
    intro pre n m hm hn
    simp only [List.length_cons] at hm hn
    have h := ih (pre ++ [r]) (joinI n r) m (by simp only [List.length_append, List.length_cons, List.length_nil]; omega) (by simp only [List.length_append, List.length_cons, List.length_nil]; omega)
    simp only [List.append_assoc, List.cons_append, List.nil_append] at h
    refine Ev.succ ?_
    simp only [impl_GetInt.l0]
    simp only [if_pos (show (pre.length : Int) < m by omega), if_pos (show (0 : Int) ≤ (pre.length : Int) by omega), if_pos (show (pre.length : Int) < ((pre ++ r :: rest).length : Int) by simp only [List.length_append, List.length_cons]; omega), rd_mid, w64 (x := (pre.length : Int) + 1) (by omega) (by omega), List.foldl_cons]
    rw [show ((pre ++ [r]).length : Int) = (pre.length : Int) + 1 by simp] at h
    exact h
theorem wrap8 {b : Int} (h0 : 0 ≤ b) (h1 : b ≤ 255) : IntKind.i8.wrap b = if b > 127 then b - 256 else b := by
  simp only [IntKind.wrap, IntKind.bits, IntKind.signed, Bool.true_and]
  split <;> split <;> simp_all <;> omega
theorem sGetInt_ev (l : List Int) (hb : ∀ y ∈ l, 0 ≤ y ∧ y ≤ 255) (h : l.length ≤ 1048576) : Ev (fun k => spec_GetInt.f k l) (getInt l) := by
  unfold spec_GetInt.f getInt
  simp only [l1In_eq, Option.bind_some, decide_eq_true_eq]
  by_cases c : 1 ≤ (l.length : Int) ∧ (l.length : Int) ≤ 4
  · simp only [if_pos c, if_pos (show 0 < (l.length : Int) by omega)]
    cases l with
    | nil => simp at c
    | cons b rest =>
      obtain ⟨h0, h1⟩ := hb b List.mem_cons_self
      have e1 : rd (b :: rest) 0 = b := rd_mid [] rest b
      simp only [List.length_cons] at h
      simp only [e1, w64 (x := b) (by omega) (by omega), w64 (x := b - 256) (by omega) (by omega), rawInt]
      by_cases d : b > 127
      · simp only [if_pos d]
        refine Ev.succ ?_
        simp only [spec_GetInt.j0]
        have e := sGetInt_loop rest [b] (b - 256) (by simp only [List.length_cons, List.length_nil]; omega)
        simpa using e
      · simp only [if_neg d]
        refine Ev.succ ?_
        simp only [spec_GetInt.j0]
        have e := sGetInt_loop rest [b] b (by simp only [List.length_cons, List.length_nil]; omega)
        simpa using e
  · simp only [if_neg c]
    exact Ev.now _
theorem iGetInt_ev (l : List Int) (hb : ∀ y ∈ l, 0 ≤ y ∧ y ≤ 255) (h : l.length ≤ 1048576) : Ev (fun k => impl_GetInt.f k l) (getInt l) := by
  unfold impl_GetInt.f getInt
  simp only [in_eq, Option.bind_some, decide_eq_true_eq]
  by_cases c : 1 ≤ (l.length : Int) ∧ (l.length : Int) ≤ 4
  · simp only [if_pos c, if_pos (show 0 < (l.length : Int) by omega), if_pos (show 1 ≤ (l.length : Int) by omega)]
    cases l with
    | nil => simp at c
    | cons b rest =>
      obtain ⟨h0, h1⟩ := hb b List.mem_cons_self
      have e1 : rd (b :: rest) 0 = b := rd_mid [] rest b
      simp only [List.length_cons] at h
      have hw : wrap64 (if b > 127 then b - 256 else b) = if b > 127 then b - 256 else b := by split <;> exact w64 (by omega) (by omega)
      simp only [e1, wrap8 h0 h1, hw, rawInt, List.drop_succ_cons, List.drop_zero]
      have e := iGetInt_loop (b :: rest) rest [] (if b > 127 then b - 256 else b) (rest.length : Int) (by simp) (by simp only [List.length_nil]; omega)
      simpa using e
  · simp only [if_neg c]
    exact Ev.now _

def tlvOk (tag : Int) (body : List Int) : Bool := decide (0 ≤ tag ∧ tag ≤ 255) && decide ((body.length : Int) ≤ 250)
def tlvBytes (tag : Int) (body : List Int) : List Int := [tag % 256] ++ ((if (body.length : Int) > 127 then [129] else []) ++ ([(body.length : Int) % 256] ++ body))
def putTlv (b : List Int) (tag : Int) (body : List Int) : List Int := if tlvOk tag body = true then b ++ tlvBytes tag body else b
theorem tlvBytes_len (tag : Int) (body : List Int) : (tlvBytes tag body).length ≤ body.length + 3 := by
  unfold tlvBytes
  split <;> simp <;> omega
theorem putTlv_len (b : List Int) (tag : Int) (body : List Int) : (putTlv b tag body).length ≤ b.length + 253 := by
  unfold putTlv
  split
  · rename_i h
    have := tlvBytes_len tag body
    simp only [tlvOk, Bool.and_eq_true, decide_eq_true_eq] at h
    simp only [List.length_append]
    omega
  · omega

theorem sPutTlv_ev (b : List Int) (tag : Int) (body : List Int) (hb : b.length ≤ 1099511627776) (hy : body.length ≤ 1099511627776) : Ev (fun k => spec_PutTlv.f k b tag body) (putTlv b tag body) := by
  refine Ev.succ ?_
  refine Ev.some_const (fun k => ?_)
  simp only [spec_PutTlv.f, spec_PutTlv.j0, Option.bind_some, l1In_eq, List.nil_append]
  rw [if_pos (by simp only [List.length_nil]; omega)]
  unfold putTlv tlvOk tlvBytes
  by_cases h1 : 0 ≤ tag ∧ tag ≤ 255
  · simp only [decide_eq_true h1, if_true, Bool.true_and]
    by_cases h2 : (body.length : Int) > 250
    · simp only [decide_eq_true h2, if_true, decide_eq_false (show ¬ (body.length : Int) ≤ 250 by omega), Bool.false_eq_true, if_false]
    · simp only [decide_eq_false h2, Bool.false_eq_true, if_false, decide_eq_true (show (body.length : Int) ≤ 250 by omega), if_true]
      rw [if_pos (by omega)]
      by_cases h3 : (body.length : Int) > 127
      · simp only [if_pos h3]
        rw [if_pos (by simp only [List.length_append, List.length_cons, List.length_nil]; omega), if_pos (by simp only [List.length_append, List.length_cons, List.length_nil]; omega), if_pos (by simp only [List.length_append, List.length_cons, List.length_nil]; omega)]
        simp
      · simp only [if_neg h3]
        rw [if_pos (by simp only [List.length_append, List.length_cons, List.length_nil]; omega), if_pos (by simp only [List.length_append, List.length_cons, List.length_nil]; omega)]
        simp
  · simp only [decide_eq_false h1, Bool.false_and, Bool.false_eq_true, if_false, if_true]

theorem iCopyBytes_eq (b : List Int) (hb : b.length ≤ 1099511627776) : impl_copyBytes.f b = some b := by
  unfold impl_copyBytes.f
  rw [if_pos (by simp only [List.length_nil]; omega)]
  simp
theorem iTlv_ev (tag : Int) (body : List Int) (hy : body.length ≤ 1099511627776) : Ev (fun k => impl_tlv.f k tag body) (if tlvOk tag body = true then (tlvBytes tag body, true) else ([], false)) := by
  refine Ev.succ ?_
  refine Ev.some_const (fun k => ?_)
  simp only [impl_tlv.f, impl_tlv.j0, Option.bind_some, in_eq]
  unfold tlvOk tlvBytes
  by_cases h1 : 0 ≤ tag ∧ tag ≤ 255
  · simp only [decide_eq_true h1, if_true, Bool.true_and]
    by_cases h2 : (body.length : Int) > 250
    · simp only [decide_eq_true h2, if_true, decide_eq_false (show ¬ (body.length : Int) ≤ 250 by omega), Bool.false_eq_true, if_false]
    · simp only [decide_eq_false h2, Bool.false_eq_true, if_false, decide_eq_true (show (body.length : Int) ≤ 250 by omega), if_true]
      by_cases h3 : (body.length : Int) > 127
      · rw [if_pos (show (body.length : Int) ≥ 128 by omega), if_pos (by simp only [List.length_cons, List.length_nil]; omega), if_pos (by simp only [List.length_append, List.length_cons, List.length_nil]; omega), if_pos (by simp only [List.length_append, List.length_cons, List.length_nil]; omega)]
        simp [h3]
      · rw [if_neg (show ¬ (body.length : Int) ≥ 128 by omega), if_pos (by simp only [List.length_cons, List.length_nil]; omega), if_pos (by simp only [List.length_append, List.length_cons, List.length_nil]; omega)]
        simp [h3]
  · simp only [decide_eq_false h1, Bool.false_and, Bool.false_eq_true, if_false, if_true]
theorem iPutTlv_ev (b : List Int) (tag : Int) (body : List Int) (hb : b.length ≤ 1099511627776) (hy : body.length ≤ 1099511627776) : Ev (fun k => impl_PutTlv.f k b tag body) (putTlv b tag body) := by
  unfold impl_PutTlv.f putTlv
  refine Ev.bind (iTlv_ev tag body hy) ?_
  simp only [iCopyBytes_eq b hb, Option.bind_some]
  by_cases h : tlvOk tag body = true
  · have hl := tlvBytes_len tag body
    simp only [if_pos h]
    rw [if_pos (by omega)]
    exact Ev.now _
  · simp only [if_neg h, List.length_nil, List.append_nil]
    rw [if_pos (by omega)]
    exact Ev.now _

theorem tlvBytes_short (t : Int) (body : List Int) (ht : 0 ≤ t ∧ t ≤ 255) (h : body.length ≤ 127) : tlvBytes t body = t :: (body.length : Int) :: body := by
  unfold tlvBytes
  rw [if_neg (by omega), show t % 256 = t by omega, show (body.length : Int) % 256 = (body.length : Int) by omega]
  rfl
theorem tlvBytes_long (t : Int) (body : List Int) (ht : 0 ≤ t ∧ t ≤ 255) (h : 127 < body.length) (h' : body.length ≤ 250) : tlvBytes t body = t :: 129 :: (body.length : Int) :: body := by
  unfold tlvBytes
  rw [if_pos (by omega), show t % 256 = t by omega, show (body.length : Int) % 256 = (body.length : Int) by omega]
  rfl

theorem tlvBytes_bys (t : Int) (body : List Int) (ht : 0 ≤ t ∧ t ≤ 255) (hb : bys body) (h : body.length ≤ 250) : bys (tlvBytes t body) := by
  by_cases c : body.length ≤ 127
  · rw [tlvBytes_short t body ht c]
    exact bys_app (bys_one ht) (bys_app (bys_one (b := (body.length : Int)) (by omega)) hb)
  · rw [tlvBytes_long t body ht (by omega) h]
    exact bys_app (bys_one ht) (bys_app (bys_one (b := 129) (by omega)) (bys_app (bys_one (b := (body.length : Int)) (by omega)) hb))

def no4 : Int × List Int × Int × Bool := (0, [], 0, false)
def tlvTail (b : List Int) (a x : Int) : Int × List Int × Int × Bool :=
  if rd b x > 250 then no4 else if rd b x > (b.length : Int) - (x + 1) then no4 else (rd b a, (b.take (x + 1 + rd b x).toNat).drop (x + 1).toNat, x + 1 + rd b x, true)
def getTlv (b : List Int) (a : Int) : Int × List Int × Int × Bool :=
  if a < 0 ∨ a + 1 ≥ (b.length : Int) then no4
  else if rd b (a + 1) > 127 then (if rd b (a + 1) = 129 then (if a + 2 ≥ (b.length : Int) then no4 else if rd b (a + 2) < 128 then no4 else tlvTail b a (a + 2)) else no4)
  else tlvTail b a (a + 1)
theorem getTlv_len (b : List Int) (a : Int) : (getTlv b a).2.1.length ≤ b.length := by
  have ht : ∀ x, (tlvTail b a x).2.1.length ≤ b.length := by
    intro x
    unfold tlvTail no4
    split
    · simp
    · split
      · simp
      · simp only [List.length_drop, List.length_take]
        omega
  have hz : (no4).2.1.length ≤ b.length := by simp [no4]
  unfold getTlv
  split
  · exact hz
  · split
    · split
      · split
        · exact hz
        · split
          · exact hz
          · exact ht _
      · exact hz
    · exact ht _
theorem rd_bd (b : List Int) (hb : ∀ y ∈ b, 0 ≤ y ∧ y ≤ 255) (x : Int) : 0 ≤ rd b x ∧ rd b x ≤ 255 := by
  unfold rd
  rw [List.getD_eq_getElem?_getD]
  cases h : b[x.toNat]? with
  | none => simp
  | some v =>
    have := hb v (List.mem_of_getElem? h)
    simpa using this
theorem cut_le (b : List Int) (p q : Nat) : ((b.take p).drop q).length ≤ b.length := by
  simp only [List.length_drop, List.length_take]
  omega

theorem spec_GetTlv_j1_ev (b : List Int) (a x : Int) (hb : ∀ y ∈ b, 0 ≤ y ∧ y ≤ 255) (hl : b.length ≤ 1048576) (ha : 0 ≤ a ∧ a < (b.length : Int)) (hx : 0 ≤ x ∧ x < (b.length : Int)) : Ev (fun k => spec_GetTlv.j1 k b a x false) (tlvTail b a x) := by
  obtain ⟨n0, n1⟩ := rd_bd b hb x
  obtain ⟨m0, m1⟩ := rd_bd b hb a
  refine Ev.succ ?_
  simp only [spec_GetTlv.j1]
  simp only [Bool.false_eq_true, if_false, if_pos hx.1, if_pos hx.2, if_pos ha.1, if_pos ha.2, w64 (x := rd b x) (by omega) (by omega), w64 (x := rd b a) (by omega) (by omega), w64 (x := x + 1) (by omega) (by omega), w64 (x := (b.length : Int) - (x + 1)) (by omega) (by omega), w64 (x := x + 1 + rd b x) (by omega) (by omega)]
  unfold tlvTail no4
  by_cases c1 : rd b x > 250
  · simp only [if_pos c1]
    exact Ev.now _
  by_cases c2 : rd b x > (b.length : Int) - (x + 1)
  · simp only [if_neg c1, if_pos c2]
    exact Ev.now _
  have hc := cut_le b (x + 1 + rd b x).toNat (x + 1).toNat
  simp only [if_neg c1, if_neg c2, if_pos (show 0 ≤ x + 1 by omega), if_pos (show x + 1 ≤ x + 1 + rd b x by omega), if_pos (show x + 1 + rd b x ≤ (b.length : Int) by omega), Option.bind_some, List.length_nil, List.nil_append, if_pos (show 0 + ((b.take (x + 1 + rd b x).toNat).drop (x + 1).toNat).length < 140737488355328 by omega)]
  exact Ev.now _
theorem spec_GetTlv_j1_no (b : List Int) (a x : Int) : Ev (fun k => spec_GetTlv.j1 k b a x true) no4 := by
  refine Ev.succ ?_
  simp only [spec_GetTlv.j1]
  simp only [if_true]
  exact Ev.now _
theorem spec_GetTlv_j0_no (b : List Int) (a : Int) : Ev (fun k => spec_GetTlv.j0 k b a true) no4 := by
  refine Ev.succ ?_
  simp only [spec_GetTlv.j0]
  simp only [if_true]
  exact Ev.now _
theorem spec_GetTlv_j0_ev (b : List Int) (a : Int) (hb : ∀ y ∈ b, 0 ≤ y ∧ y ≤ 255) (hl : b.length ≤ 1048576) (ha : ¬ (a < 0 ∨ a + 1 ≥ (b.length : Int))) : Ev (fun k => spec_GetTlv.j0 k b a false) (getTlv b a) := by
  obtain ⟨n0, n1⟩ := rd_bd b hb (a + 1)
  obtain ⟨m0, m1⟩ := rd_bd b hb a
  refine Ev.succ ?_
  simp only [spec_GetTlv.j0]
  simp only [Bool.false_eq_true, if_false, w64 (x := a + 1) (by omega) (by omega), w64 (x := a + 2) (by omega) (by omega), if_pos (show 0 ≤ a + 1 by omega), if_pos (show a + 1 < (b.length : Int) by omega), w64 (x := rd b (a + 1)) (by omega) (by omega)]
  unfold getTlv
  simp only [if_neg ha]
  by_cases c : rd b (a + 1) > 127
  · simp only [if_pos c, if_pos (show rd b (a + 1) > 127 by omega)]
    refine Ev.ite (fun _ => ?_) (fun _ => spec_GetTlv_j1_no _ _ _)
    refine Ev.ite (fun _ => spec_GetTlv_j1_no _ _ _) (fun d => ?_)
    simp only [if_pos (show 0 ≤ a + 2 by omega), if_pos (show a + 2 < (b.length : Int) by omega)]
    by_cases e : rd b (a + 2) < 128
    · rw [decide_eq_true e, if_pos e]
      exact spec_GetTlv_j1_no _ _ _
    · rw [decide_eq_false e, if_neg e]
      exact spec_GetTlv_j1_ev b a (a + 2) hb hl (by omega) (by omega)
  · simp only [if_neg c, if_neg (show ¬ rd b (a + 1) > 127 by omega)]
    unfold tlvTail no4
    simp only [show a + 1 + 1 = a + 2 by omega, w64 (x := (b.length : Int) - (a + 2)) (by omega) (by omega), w64 (x := a + 2 + rd b (a + 1)) (by omega) (by omega), w64 (x := rd b a) (by omega) (by omega), if_pos (show 0 ≤ a by omega), if_pos (show a < (b.length : Int) by omega)]
    by_cases c1 : rd b (a + 1) > 250
    · simp only [if_pos c1]
      exact Ev.now _
    by_cases c2 : rd b (a + 1) > (b.length : Int) - (a + 2)
    · simp only [if_neg c1, if_pos c2]
      exact Ev.now _
    have hc := cut_le b (a + 2 + rd b (a + 1)).toNat (a + 2).toNat
    simp only [if_neg c1, if_neg c2, if_pos (show 0 ≤ a + 2 by omega), if_pos (show a + 2 ≤ a + 2 + rd b (a + 1) by omega), if_pos (show a + 2 + rd b (a + 1) ≤ (b.length : Int) by omega), Option.bind_some, List.length_nil, List.nil_append, if_pos (show 0 + ((b.take (a + 2 + rd b (a + 1)).toNat).drop (a + 2).toNat).length < 140737488355328 by omega)]
    exact Ev.now _
theorem sGetTlv_ev (b : List Int) (a : Int) (hb : ∀ y ∈ b, 0 ≤ y ∧ y ≤ 255) (hl : b.length ≤ 1048576) (hw : -9223372036854775808 ≤ a ∧ a ≤ 9223372036854775807) : Ev (fun k => spec_GetTlv.f k b a) (getTlv b a) := by
  unfold spec_GetTlv.f
  by_cases c : a < 0 ∨ a + 1 ≥ (b.length : Int)
  · have e : getTlv b a = no4 := by unfold getTlv; rw [if_pos c]
    rw [e]
    by_cases c1 : a < 0
    · simp only [if_pos c1]
      exact spec_GetTlv_j0_no _ _
    · by_cases c2 : a ≥ (b.length : Int)
      · simp only [if_neg c1, if_pos c2]
        exact spec_GetTlv_j0_no _ _
      · simp only [if_neg c1, if_neg c2, w64 (x := a + 1) (by omega) (by omega), decide_eq_true (show a + 1 ≥ (b.length : Int) by omega)]
        exact spec_GetTlv_j0_no _ _
  · simp only [if_neg (show ¬ a < 0 by omega), if_neg (show ¬ a ≥ (b.length : Int) by omega), w64 (x := a + 1) (by omega) (by omega), decide_eq_false (show ¬ a + 1 ≥ (b.length : Int) by omega)]
    exact spec_GetTlv_j0_ev b a hb hl c

theorem impl_GetTlv_j1_ev (b : List Int) (a x : Int) (hb : ∀ y ∈ b, 0 ≤ y ∧ y ≤ 255) (hl : b.length ≤ 1048576) (ha : 0 ≤ a ∧ a < (b.length : Int)) (hx : 0 ≤ x ∧ x < (b.length : Int)) : Ev (fun k => impl_GetTlv.j1 k b a x false) (tlvTail b a x) := by
  obtain ⟨n0, n1⟩ := rd_bd b hb x
  obtain ⟨m0, m1⟩ := rd_bd b hb a
  refine Ev.succ ?_
  simp only [impl_GetTlv.j1]
  simp only [Bool.false_eq_true, if_false, if_pos hx.1, if_pos hx.2, if_pos ha.1, if_pos ha.2, w64 (x := rd b x) (by omega) (by omega), w64 (x := rd b a) (by omega) (by omega), w64 (x := x + 1) (by omega) (by omega), w64 (x := (b.length : Int) - (x + 1)) (by omega) (by omega), w64 (x := x + 1 + rd b x) (by omega) (by omega)]
  unfold tlvTail no4
  by_cases c1 : rd b x > 250
  · simp only [if_pos c1]
    exact Ev.now _
  by_cases c2 : rd b x > (b.length : Int) - (x + 1)
  · simp only [if_neg c1, if_pos c2]
    exact Ev.now _
  have hc := cut_le b (x + 1 + rd b x).toNat (x + 1).toNat
  simp only [if_neg c1, if_neg c2, if_pos (show 0 ≤ x + 1 by omega), if_pos (show x + 1 ≤ x + 1 + rd b x by omega), if_pos (show x + 1 + rd b x ≤ (b.length : Int) by omega), impl_copyBytes.f, Option.bind_some, List.length_nil, List.nil_append, if_pos (show 0 + ((b.take (x + 1 + rd b x).toNat).drop (x + 1).toNat).length < 140737488355328 by omega)]
  exact Ev.now _
theorem impl_GetTlv_j1_no (b : List Int) (a x : Int) : Ev (fun k => impl_GetTlv.j1 k b a x true) no4 := by
  refine Ev.succ ?_
  simp only [impl_GetTlv.j1]
  simp only [if_true]
  exact Ev.now _
theorem impl_GetTlv_j0_no (b : List Int) (a : Int) : Ev (fun k => impl_GetTlv.j0 k b a true) no4 := by
  refine Ev.succ ?_
  simp only [impl_GetTlv.j0]
  simp only [if_true]
  exact Ev.now _
theorem impl_GetTlv_j0_ev (b : List Int) (a : Int) (hb : ∀ y ∈ b, 0 ≤ y ∧ y ≤ 255) (hl : b.length ≤ 1048576) (ha : ¬ (a < 0 ∨ a + 1 ≥ (b.length : Int))) : Ev (fun k => impl_GetTlv.j0 k b a false) (getTlv b a) := by
  obtain ⟨n0, n1⟩ := rd_bd b hb (a + 1)
  obtain ⟨m0, m1⟩ := rd_bd b hb a
  refine Ev.succ ?_
  simp only [impl_GetTlv.j0]
  simp only [Bool.false_eq_true, if_false, w64 (x := a + 1) (by omega) (by omega), w64 (x := a + 2) (by omega) (by omega), if_pos (show 0 ≤ a + 1 by omega), if_pos (show a + 1 < (b.length : Int) by omega), w64 (x := rd b (a + 1)) (by omega) (by omega)]
  unfold getTlv
  simp only [if_neg ha]
  by_cases c : rd b (a + 1) > 127
  · simp only [if_pos c, if_pos (show rd b (a + 1) ≥ 128 by omega)]
    refine Ev.ite (fun _ => ?_) (fun _ => impl_GetTlv_j1_no _ _ _)
    refine Ev.ite (fun _ => impl_GetTlv_j1_no _ _ _) (fun d => ?_)
    simp only [if_pos (show 0 ≤ a + 2 by omega), if_pos (show a + 2 < (b.length : Int) by omega)]
    by_cases e : rd b (a + 2) < 128
    · rw [decide_eq_true e, if_pos e]
      exact impl_GetTlv_j1_no _ _ _
    · rw [decide_eq_false e, if_neg e]
      exact impl_GetTlv_j1_ev b a (a + 2) hb hl (by omega) (by omega)
  · simp only [if_neg c, if_neg (show ¬ rd b (a + 1) ≥ 128 by omega)]
    unfold tlvTail no4
    simp only [show a + 1 + 1 = a + 2 by omega, w64 (x := (b.length : Int) - (a + 2)) (by omega) (by omega), w64 (x := a + 2 + rd b (a + 1)) (by omega) (by omega), w64 (x := rd b a) (by omega) (by omega), if_pos (show 0 ≤ a by omega), if_pos (show a < (b.length : Int) by omega)]
    by_cases c1 : rd b (a + 1) > 250
    · simp only [if_pos c1]
      exact Ev.now _
    by_cases c2 : rd b (a + 1) > (b.length : Int) - (a + 2)
    · simp only [if_neg c1, if_pos c2]
      exact Ev.now _
    have hc := cut_le b (a + 2 + rd b (a + 1)).toNat (a + 2).toNat
    simp only [if_neg c1, if_neg c2, if_pos (show 0 ≤ a + 2 by omega), if_pos (show a + 2 ≤ a + 2 + rd b (a + 1) by omega), if_pos (show a + 2 + rd b (a + 1) ≤ (b.length : Int) by omega), impl_copyBytes.f, Option.bind_some, List.length_nil, List.nil_append, if_pos (show 0 + ((b.take (a + 2 + rd b (a + 1)).toNat).drop (a + 2).toNat).length < 140737488355328 by omega)]
    exact Ev.now _
theorem iGetTlv_ev (b : List Int) (a : Int) (hb : ∀ y ∈ b, 0 ≤ y ∧ y ≤ 255) (hl : b.length ≤ 1048576) (hw : -9223372036854775808 ≤ a ∧ a ≤ 9223372036854775807) : Ev (fun k => impl_GetTlv.f k b a) (getTlv b a) := by
  unfold impl_GetTlv.f
  by_cases c : a < 0 ∨ a + 1 ≥ (b.length : Int)
  · have e : getTlv b a = no4 := by unfold getTlv; rw [if_pos c]
    rw [e]
    by_cases c1 : a < 0
    · simp only [if_pos c1]
      exact impl_GetTlv_j0_no _ _
    · simp only [if_neg c1, w64 (x := (b.length : Int) - 2) (by omega) (by omega), decide_eq_true (show a > (b.length : Int) - 2 by omega)]
      exact impl_GetTlv_j0_no _ _
  · simp only [if_neg (show ¬ a < 0 by omega), w64 (x := (b.length : Int) - 2) (by omega) (by omega), decide_eq_false (show ¬ a > (b.length : Int) - 2 by omega)]
    exact impl_GetTlv_j0_ev b a hb hl c

theorem cut_cons (b : List Int) (P i : Nat) (hP : P ≤ b.length) (hi : i < P) : (b.take P).drop i = rd b (i : Int) :: (b.take P).drop (i + 1) := by
  have hl : i < (b.take P).length := by rw [List.length_take]; omega
  rw [List.drop_eq_getElem_cons hl]
  congr 1
  unfold rd
  rw [List.getElem_take, List.getD_eq_getElem?_getD, Int.toNat_natCast, List.getElem?_eq_getElem (by omega)]
  rfl
theorem tail_true (b : List Int) (a x t p : Int) (y : List Int) (h : tlvTail b a x = (t, y, p, true)) : rd b x ≤ 250 ∧ x + 1 + rd b x ≤ (b.length : Int) ∧ t = rd b a ∧ y = (b.take (x + 1 + rd b x).toNat).drop (x + 1).toNat ∧ p = x + 1 + rd b x := by
  unfold tlvTail no4 at h
  by_cases c1 : rd b x > 250
  · rw [if_pos c1] at h
    simp at h
  by_cases c2 : rd b x > (b.length : Int) - (x + 1)
  · rw [if_neg c1, if_pos c2] at h
    simp at h
  rw [if_neg c1, if_neg c2] at h
  simp only [Prod.mk.injEq, and_true] at h
  exact ⟨by omega, by omega, h.1.symm, h.2.1.symm, h.2.2.symm⟩
theorem getTlv_true (b : List Int) (hb : bys b) (a t p : Int) (y : List Int) (h : getTlv b a = (t, y, p, true)) : (0 ≤ a ∧ a ≤ p ∧ p ≤ (b.length : Int)) ∧ y.length ≤ 250 ∧ (b.take p.toNat).drop a.toNat = putTlv [] t y := by
  unfold getTlv at h
  by_cases c : a < 0 ∨ a + 1 ≥ (b.length : Int)
  · rw [if_pos c] at h
    simp [no4] at h
  rw [if_neg c] at h
  obtain ⟨A, rfl⟩ := Int.eq_ofNat_of_zero_le (show 0 ≤ a by omega)
  obtain ⟨m0, m1⟩ := rd_bd b hb (A : Int)
  by_cases c1 : rd b ((A : Int) + 1) > 127
  · rw [if_pos c1] at h
    by_cases c2 : rd b ((A : Int) + 1) = 129
    · rw [if_pos c2] at h
      by_cases c3 : (A : Int) + 2 ≥ (b.length : Int)
      · rw [if_pos c3] at h
        simp [no4] at h
      rw [if_neg c3] at h
      by_cases c4 : rd b ((A : Int) + 2) < 128
      · rw [if_pos c4] at h
        simp [no4] at h
      rw [if_neg c4] at h
      obtain ⟨h1, h2, rfl, rfl, rfl⟩ := tail_true b _ _ _ _ _ h
      obtain ⟨n, hn⟩ := Int.eq_ofNat_of_zero_le (show 0 ≤ rd b ((A : Int) + 2) by omega)
      rw [hn] at h1 h2 c4 ⊢
      have e1 : ((A : Int) + 2 + 1 + (n : Int)).toNat = A + 3 + n := by omega
      have e2 : ((A : Int) + 2 + 1).toNat = A + 3 := by omega
      rw [e1, e2, Int.toNat_natCast]
      have hlen : ((b.take (A + 3 + n)).drop (A + 3)).length = n := by simp only [List.length_drop, List.length_take]; omega
      refine ⟨by omega, by omega, ?_⟩
      rw [cut_cons b _ A (by omega) (by omega), cut_cons b _ (A + 1) (by omega) (by omega), cut_cons b _ (A + 1 + 1) (by omega) (by omega)]
      unfold putTlv tlvOk
      rw [decide_eq_true (show 0 ≤ rd b (A : Int) ∧ rd b (A : Int) ≤ 255 from ⟨m0, m1⟩), decide_eq_true (show (((b.take (A + 3 + n)).drop (A + 3)).length : Int) ≤ 250 by omega)]
      simp only [Bool.and_self, if_true, List.nil_append]
      rw [tlvBytes_long _ _ ⟨m0, m1⟩ (by omega) (by omega), hlen, show ((A + 1 : Nat) : Int) = (A : Int) + 1 by omega, show ((A + 1 + 1 : Nat) : Int) = (A : Int) + 2 by omega, c2, hn]
    · rw [if_neg c2] at h
      simp [no4] at h
  · rw [if_neg c1] at h
    obtain ⟨h1, h2, rfl, rfl, rfl⟩ := tail_true b _ _ _ _ _ h
    obtain ⟨n, hn⟩ := Int.eq_ofNat_of_zero_le (rd_bd b hb ((A : Int) + 1)).1
    rw [hn] at h1 h2 c1 ⊢
    have e1 : ((A : Int) + 1 + 1 + (n : Int)).toNat = A + 2 + n := by omega
    have e2 : ((A : Int) + 1 + 1).toNat = A + 2 := by omega
    rw [e1, e2, Int.toNat_natCast]
    have hlen : ((b.take (A + 2 + n)).drop (A + 2)).length = n := by simp only [List.length_drop, List.length_take]; omega
    refine ⟨by omega, by omega, ?_⟩
    rw [cut_cons b _ A (by omega) (by omega), cut_cons b _ (A + 1) (by omega) (by omega)]
    unfold putTlv tlvOk
    rw [decide_eq_true (show 0 ≤ rd b (A : Int) ∧ rd b (A : Int) ≤ 255 from ⟨m0, m1⟩), decide_eq_true (show (((b.take (A + 2 + n)).drop (A + 2)).length : Int) ≤ 250 by omega)]
    simp only [Bool.and_self, if_true, List.nil_append]
    rw [tlvBytes_short _ _ ⟨m0, m1⟩ (by omega), hlen, show ((A + 1 : Nat) : Int) = (A : Int) + 1 by omega, hn]

theorem putInt_bys (n : Int) : bys (putInt n) := by
  unfold putInt
  intro y hy
  split at hy
  · simp only [List.mem_cons, List.not_mem_nil, or_false] at hy; omega
  · split at hy
    · simp only [List.mem_cons, List.not_mem_nil, or_false] at hy; omega
    · split at hy
      · simp only [List.mem_cons, List.not_mem_nil, or_false] at hy; omega
      · simp only [List.mem_cons, List.not_mem_nil, or_false] at hy; omega
theorem joinI_eq (n x : Int) (hn : -2147483648 ≤ n ∧ n ≤ 2147483647) (hx : 0 ≤ x ∧ x ≤ 255) : joinI n x = n * 256 + x := by
  unfold joinI
  rw [w64 (x := n * 256) (by omega) (by omega), w64 (x := x) (by omega) (by omega)]
  simp only [Go.bits, BitVec.toNat_or, BitVec.toNat_ofInt]
  have hk : (2 : Int) ^ IntKind.i64.bits = 18446744073709551616 := by decide
  have hk' : ((2 ^ IntKind.i64.bits : Nat) : Int) = 18446744073709551616 := by decide
  simp only [hk']
  have h2 : (x % 18446744073709551616).toNat < 2 ^ 8 := by omega
  have h3 : ((n * 256) % 18446744073709551616).toNat = 2 ^ 8 * (((n * 256) % 18446744073709551616).toNat / 2 ^ 8) := by omega
  rw [h3, ← Nat.two_pow_add_eq_or_of_lt h2, ← h3, IntKind.wrap_i64]
  omega
def top (b : Int) : Int := if b > 127 then b - 256 else b
theorem top_bd (b : Int) (h : 0 ≤ b ∧ b ≤ 255) : -128 ≤ top b ∧ top b ≤ 127 ∧ top b % 256 = b := by
  unfold top
  split <;> omega
theorem clip_in (n : Int) (h : -2147483648 ≤ n ∧ n ≤ 2147483647) : clip n = n := by
  unfold clip
  rw [if_neg (by omega), if_neg (by omega)]
theorem putInt_1 (n : Int) (h : -128 ≤ n ∧ n ≤ 127) : putInt n = [n % 256] := by unfold putInt; rw [if_pos h]
theorem putInt_2 (n : Int) (h0 : ¬ (-128 ≤ n ∧ n ≤ 127)) (h : -32768 ≤ n ∧ n ≤ 32767) : putInt n = [n / 256 % 256, n % 256] := by unfold putInt; rw [if_neg h0, if_pos h]
theorem putInt_3 (n : Int) (h0 : ¬ (-32768 ≤ n ∧ n ≤ 32767)) (h : -8388608 ≤ n ∧ n ≤ 8388607) : putInt n = [n / 65536 % 256, n / 256 % 256, n % 256] := by unfold putInt; rw [if_neg (by omega), if_neg h0, if_pos h]
theorem putInt_4 (n : Int) (h0 : ¬ (-8388608 ≤ n ∧ n ≤ 8388607)) : putInt n = [n / 16777216 % 256, n / 65536 % 256, n / 256 % 256, n % 256] := by unfold putInt; rw [if_neg (by omega), if_neg (by omega), if_neg h0]
theorem raw1 (a : Int) : rawInt [a] = top a := rfl
theorem raw2 (a b : Int) (ha : 0 ≤ a ∧ a ≤ 255) (hb : 0 ≤ b ∧ b ≤ 255) : rawInt [a, b] = top a * 256 + b := by
  have h := top_bd a ha
  show joinI (top a) b = _
  rw [joinI_eq _ _ (by omega) hb]
theorem raw3 (a b c : Int) (ha : 0 ≤ a ∧ a ≤ 255) (hb : 0 ≤ b ∧ b ≤ 255) (hc : 0 ≤ c ∧ c ≤ 255) : rawInt [a, b, c] = (top a * 256 + b) * 256 + c := by
  have h := top_bd a ha
  show joinI (joinI (top a) b) c = _
  rw [joinI_eq (top a) b (by omega) hb, joinI_eq _ _ (by omega) hc]
theorem raw4 (a b c d : Int) (ha : 0 ≤ a ∧ a ≤ 255) (hb : 0 ≤ b ∧ b ≤ 255) (hc : 0 ≤ c ∧ c ≤ 255) (hd : 0 ≤ d ∧ d ≤ 255) : rawInt [a, b, c, d] = ((top a * 256 + b) * 256 + c) * 256 + d := by
  have h := top_bd a ha
  show joinI (joinI (joinI (top a) b) c) d = _
  rw [joinI_eq (top a) b (by omega) hb, joinI_eq _ c (by omega) hc, joinI_eq _ _ (by omega) hd]
theorem raw_put (n : Int) (h : -2147483648 ≤ n ∧ n ≤ 2147483647) : rawInt (putInt n) = n := by
  by_cases c1 : -128 ≤ n ∧ n ≤ 127
  · rw [putInt_1 n c1, raw1]
    unfold top
    split <;> omega
  by_cases c2 : -32768 ≤ n ∧ n ≤ 32767
  · rw [putInt_2 n c1 c2, raw2 _ _ (by omega) (by omega)]
    unfold top
    split <;> omega
  by_cases c3 : -8388608 ≤ n ∧ n ≤ 8388607
  · rw [putInt_3 n c2 c3, raw3 _ _ _ (by omega) (by omega) (by omega)]
    unfold top
    split <;> omega
  · rw [putInt_4 n c3, raw4 _ _ _ _ (by omega) (by omega) (by omega) (by omega)]
    unfold top
    split <;> omega
theorem putInt_pos (n : Int) : 1 ≤ (putInt n).length := by
  unfold putInt
  split
  · simp
  · split
    · simp
    · split <;> simp
theorem getInt_put (n : Int) : getInt (putInt (clip n)) = (clip n, true) := by
  have h := clip_bd n
  have h1 := putInt_pos (clip n)
  have h2 := putInt_len (clip n)
  unfold getInt
  rw [if_pos (by omega), raw_put _ h, clip_in _ h, if_pos rfl]
theorem put_raw (l : List Int) (hb : bys l) (h1 : 1 ≤ l.length) (h4 : l.length ≤ 4) (he : (putInt (clip (rawInt l))).length = l.length) : putInt (clip (rawInt l)) = l := by
  rcases l with _ | ⟨a, _ | ⟨b, _ | ⟨c, _ | ⟨d, _ | ⟨e, l⟩⟩⟩⟩⟩
  · simp at h1
  · have ha := hb a (by simp)
    have t := top_bd a ha
    rw [raw1, clip_in _ (by omega), putInt_1 _ (by omega), t.2.2]
  · have ha := hb a (by simp)
    have hb' := hb b (by simp)
    have t := top_bd a ha
    rw [raw2 a b ha hb', clip_in _ (by omega)] at he ⊢
    by_cases c1 : -128 ≤ top a * 256 + b ∧ top a * 256 + b ≤ 127
    · rw [putInt_1 _ c1] at he
      simp at he
    · rw [putInt_2 _ c1 (by omega), show (top a * 256 + b) / 256 % 256 = a by omega, show (top a * 256 + b) % 256 = b by omega]
  · have ha := hb a (by simp)
    have hb' := hb b (by simp)
    have hc := hb c (by simp)
    have t := top_bd a ha
    rw [raw3 a b c ha hb' hc, clip_in _ (by omega)] at he ⊢
    by_cases c1 : -128 ≤ (top a * 256 + b) * 256 + c ∧ (top a * 256 + b) * 256 + c ≤ 127
    · rw [putInt_1 _ c1] at he
      simp at he
    by_cases c2 : -32768 ≤ (top a * 256 + b) * 256 + c ∧ (top a * 256 + b) * 256 + c ≤ 32767
    · rw [putInt_2 _ c1 c2] at he
      simp at he
    · rw [putInt_3 _ c2 (by omega), show ((top a * 256 + b) * 256 + c) / 65536 % 256 = a by omega, show ((top a * 256 + b) * 256 + c) / 256 % 256 = b by omega, show ((top a * 256 + b) * 256 + c) % 256 = c by omega]
  · have ha := hb a (by simp)
    have hb' := hb b (by simp)
    have hc := hb c (by simp)
    have hd := hb d (by simp)
    have t := top_bd a ha
    rw [raw4 a b c d ha hb' hc hd, clip_in _ (by omega)] at he ⊢
    by_cases c1 : -128 ≤ ((top a * 256 + b) * 256 + c) * 256 + d ∧ ((top a * 256 + b) * 256 + c) * 256 + d ≤ 127
    · rw [putInt_1 _ c1] at he
      simp at he
    by_cases c2 : -32768 ≤ ((top a * 256 + b) * 256 + c) * 256 + d ∧ ((top a * 256 + b) * 256 + c) * 256 + d ≤ 32767
    · rw [putInt_2 _ c1 c2] at he
      simp at he
    by_cases c3 : -8388608 ≤ ((top a * 256 + b) * 256 + c) * 256 + d ∧ ((top a * 256 + b) * 256 + c) * 256 + d ≤ 8388607
    · rw [putInt_3 _ c2 c3] at he
      simp at he
    · rw [putInt_4 _ c3, show (((top a * 256 + b) * 256 + c) * 256 + d) / 16777216 % 256 = a by omega, show (((top a * 256 + b) * 256 + c) * 256 + d) / 65536 % 256 = b by omega, show (((top a * 256 + b) * 256 + c) * 256 + d) / 256 % 256 = c by omega, show (((top a * 256 + b) * 256 + c) * 256 + d) % 256 = d by omega]
  · simp at h4
theorem getInt_ok (l : List Int) (hb : bys l) (h : (getInt l).2 = true) : putInt (clip (getInt l).1) = l := by
  unfold getInt at h ⊢
  by_cases c : 1 ≤ (l.length : Int) ∧ (l.length : Int) ≤ 4
  · rw [if_pos c] at h ⊢
    by_cases d : ((putInt (clip (rawInt l))).length : Int) = (l.length : Int)
    · rw [if_pos d]
      exact put_raw l hb (by omega) (by omega) (by omega)
    · rw [if_neg d] at h
      simp at h
  · rw [if_neg c] at h
    simp at h

def vecOk (a b c d e : Int) : Bool := decide (1 ≤ a ∧ a ≤ 99) && (decide (0 ≤ b ∧ b ≤ 100000) && (decide (0 ≤ c ∧ c ≤ 10) && (decide (1 ≤ d ∧ d ≤ 99) && decide (0 ≤ e ∧ e ≤ 7))))

theorem sVecOk_eq (a b c d e : Int) : spec_VecOk.f a b c d e = some (vecOk a b c d e) := by
  unfold spec_VecOk.f vecOk
  simp only [l1In_eq, Option.bind_some]
  generalize decide (1 ≤ a ∧ a ≤ 99) = p1
  generalize decide (0 ≤ b ∧ b ≤ 100000) = p2
  generalize decide (0 ≤ c ∧ c ≤ 10) = p3
  generalize decide (1 ≤ d ∧ d ≤ 99) = p4
  generalize decide (0 ≤ e ∧ e ≤ 7) = p5
  cases p1 <;> cases p2 <;> cases p3 <;> cases p4 <;> cases p5 <;> rfl

theorem iVecOk_eq (a b c d e : Int) : impl_VecOk.f a b c d e = some (vecOk a b c d e) := by
  unfold impl_VecOk.f vecOk
  simp only [in_eq, Option.bind_some]
  generalize decide (1 ≤ a ∧ a ≤ 99) = p1
  generalize decide (0 ≤ b ∧ b ≤ 100000) = p2
  generalize decide (0 ≤ c ∧ c ≤ 10) = p3
  generalize decide (1 ≤ d ∧ d ≤ 99) = p4
  generalize decide (0 ≤ e ∧ e ≤ 7) = p5
  cases p1 <;> cases p2 <;> cases p3 <;> cases p4 <;> cases p5 <;> rfl

def addN (l : List Int) (n : Int) : List Int := putTlv l 2 (putInt (clip n))
theorem addN_len (l : List Int) (n : Int) : (addN l n).length ≤ l.length + 253 := putTlv_len _ _ _
def putVec (a b c d e : Int) : List Int := if vecOk a b c d e = true then [a, b, c, d, e].foldl addN [] else []
theorem putVec_len (a b c d e : Int) : (putVec a b c d e).length ≤ 1265 := by
  unfold putVec
  split
  · simp only [List.foldl_cons, List.foldl_nil]
    have h1 := addN_len [] a
    have h2 := addN_len (addN [] a) b
    have h3 := addN_len (addN (addN [] a) b) c
    have h4 := addN_len (addN (addN (addN [] a) b) c) d
    have h5 := addN_len (addN (addN (addN (addN [] a) b) c) d) e
    simp only [List.length_nil] at h1
    omega
  · simp

theorem sAdd_ev (l : List Int) (n : Int) (h : l.length ≤ 1099511627776) {β : Type} {g : Nat → List Int → Option β} {r : β} (hg : Ev (fun k => g k (addN l n)) r) :
    Ev (fun k => (spec_PutInt.f k n).bind fun t => (spec_PutTlv.f k l 2 t).bind fun u => g k u) r := by
  have hp := putInt_len (clip n)
  refine Ev.bind (sPutInt_ev n) ?_
  refine Ev.bind (sPutTlv_ev l 2 _ h (by omega)) ?_
  exact hg
theorem sPutVec_ev (a b c d e : Int) : Ev (fun k => spec_PutVec.f k a b c d e) (putVec a b c d e) := by
  unfold spec_PutVec.f putVec
  simp only [sVecOk_eq, Option.bind_some]
  by_cases h : vecOk a b c d e = true
  · simp only [if_pos h, List.foldl_cons, List.foldl_nil]
    have h1 := addN_len [] a
    have h2 := addN_len (addN [] a) b
    have h3 := addN_len (addN (addN [] a) b) c
    have h4 := addN_len (addN (addN (addN [] a) b) c) d
    simp only [List.length_nil] at h1
    refine sAdd_ev [] a (by simp) ?_
    refine sAdd_ev _ b (by omega) ?_
    refine sAdd_ev _ c (by omega) ?_
    refine sAdd_ev _ d (by omega) ?_
    refine sAdd_ev _ e (by omega) ?_
    exact Ev.now _
  · simp only [if_neg h]
    exact Ev.now _

theorem iAddNum_ev (l : List Int) (n : Int) (h : l.length ≤ 1099511627776) : Ev (fun k => impl_addNum.f k l 2 n) (addN l n) := by
  have hp := putInt_len (clip n)
  unfold impl_addNum.f
  refine Ev.bind (iPutInt_ev n) ?_
  refine Ev.bind (iPutTlv_ev l 2 _ h (by omega)) ?_
  exact Ev.now _
theorem iPutVec_loop (rest : List Int) : ∀ (pre out : List Int) (m : Int), m = (pre.length : Int) + rest.length → pre.length + rest.length ≤ 1048576 → out.length ≤ 253 * pre.length →
    Ev (fun k => impl_PutVec.l0 k out (pre ++ rest) m (pre.length : Int)) (rest.foldl addN out) := by
  induction rest with
  | nil =>
    intro pre out m hm _ _
    simp only [List.length_nil] at hm
    refine Ev.succ ?_
    simp only [impl_PutVec.l0]
    simp only [if_neg (show ¬ (pre.length : Int) < m by omega), List.foldl_nil]
    exact Ev.now _
  | cons r rest ih =>
    intro pre out m hm hn ho
    simp only [List.length_cons] at hm hn
    have hg := addN_len out r
    have h := ih (pre ++ [r]) (addN out r) m (by simp only [List.length_append, List.length_cons, List.length_nil]; omega) (by simp only [List.length_append, List.length_cons, List.length_nil]; omega) (by simp only [List.length_append, List.length_cons, List.length_nil]; omega)
    simp only [List.append_assoc, List.cons_append, List.nil_append] at h
    rw [show ((pre ++ [r]).length : Int) = (pre.length : Int) + 1 by simp] at h
    refine Ev.succ ?_
    simp only [impl_PutVec.l0]
    simp only [if_pos (show (pre.length : Int) < m by omega), if_pos (show (0 : Int) ≤ (pre.length : Int) by omega), if_pos (show (pre.length : Int) < ((pre ++ r :: rest).length : Int) by simp only [List.length_append, List.length_cons]; omega), rd_mid, w64 (x := (pre.length : Int) + 1) (by omega) (by omega), List.foldl_cons]
    refine Ev.bind (iAddNum_ev out r (by omega)) ?_
    exact h
theorem iPutVec_ev (a b c d e : Int) : Ev (fun k => impl_PutVec.f k a b c d e) (putVec a b c d e) := by
  unfold impl_PutVec.f putVec
  simp only [iVecOk_eq, Option.bind_some]
  by_cases h : vecOk a b c d e = true
  · simp only [if_pos h]
    have e := iPutVec_loop [a, b, c, d, e] [] [] 5 (by simp) (by simp) (by simp)
    exact e
  · simp only [if_neg h]
    exact Ev.now _

def partP (l : List Int) (p : Int) (b : Bool) (t : Int) : List Int × Int × Bool :=
  if b = true then ([], p, true) else if (getTlv l p).2.2.2 = true then (if (getTlv l p).1 = t then ((getTlv l p).2.1, (getTlv l p).2.2.1, b) else ([], p, true)) else ([], p, true)
def numP (l : List Int) (p : Int) (b : Bool) (t : Int) : Int × Int × Bool :=
  if (partP l p b t).2.2 = true then ((getInt (partP l p b t).1).1, (partP l p b t).2.1, true) else ((getInt (partP l p b t).1).1, (partP l p b t).2.1, !(getInt (partP l p b t).1).2)
theorem tlvTail_in (l : List Int) (a x : Int) (hb : ∀ y ∈ l, 0 ≤ y ∧ y ≤ 255) (hx : -1 ≤ x) : (0 ≤ (tlvTail l a x).2.2.1 ∧ (tlvTail l a x).2.2.1 ≤ (l.length : Int)) ∧ ∀ y ∈ (tlvTail l a x).2.1, 0 ≤ y ∧ y ≤ 255 := by
  have hr := rd_bd l hb x
  unfold tlvTail no4
  split
  · exact ⟨⟨by simp, by simp⟩, by simp⟩
  · split
    · exact ⟨⟨by simp, by simp⟩, by simp⟩
    · exact ⟨⟨by show 0 ≤ x + 1 + rd l x; omega, by show x + 1 + rd l x ≤ _; omega⟩, fun y hy => hb y (List.mem_of_mem_take (List.mem_of_mem_drop hy))⟩
theorem getTlv_in (l : List Int) (a : Int) (hb : ∀ y ∈ l, 0 ≤ y ∧ y ≤ 255) : (0 ≤ (getTlv l a).2.2.1 ∧ (getTlv l a).2.2.1 ≤ (l.length : Int)) ∧ ∀ y ∈ (getTlv l a).2.1, 0 ≤ y ∧ y ≤ 255 := by
  have hz : (0 ≤ no4.2.2.1 ∧ no4.2.2.1 ≤ (l.length : Int)) ∧ ∀ y ∈ no4.2.1, 0 ≤ y ∧ y ≤ 255 := ⟨⟨by simp [no4], by simp [no4]⟩, by simp [no4]⟩
  unfold getTlv
  split
  · exact hz
  · rename_i h
    split
    · split
      · split
        · exact hz
        · split
          · exact hz
          · exact tlvTail_in l a _ hb (by omega)
      · exact hz
    · exact tlvTail_in l a _ hb (by omega)
theorem partP_in (l : List Int) (p : Int) (b : Bool) (t : Int) (hb : ∀ y ∈ l, 0 ≤ y ∧ y ≤ 255) (hp : 0 ≤ p ∧ p ≤ (l.length : Int)) : (0 ≤ (partP l p b t).2.1 ∧ (partP l p b t).2.1 ≤ (l.length : Int)) ∧ (∀ y ∈ (partP l p b t).1, 0 ≤ y ∧ y ≤ 255) ∧ (partP l p b t).1.length ≤ l.length := by
  have h := getTlv_in l p hb
  have hl := getTlv_len l p
  unfold partP
  split
  · exact ⟨hp, by simp, by simp⟩
  · split
    · split
      · exact ⟨h.1, h.2, hl⟩
      · exact ⟨hp, by simp, by simp⟩
    · exact ⟨hp, by simp, by simp⟩
theorem numP_in (l : List Int) (p : Int) (b : Bool) (t : Int) (hb : ∀ y ∈ l, 0 ≤ y ∧ y ≤ 255) (hp : 0 ≤ p ∧ p ≤ (l.length : Int)) : 0 ≤ (numP l p b t).2.1 ∧ (numP l p b t).2.1 ≤ (l.length : Int) := by
  have h := (partP_in l p b t hb hp).1
  unfold numP
  split
  · exact h
  · exact h
theorem sPart_ev (l : List Int) (p : Int) (b : Bool) (t : Int) (hb : ∀ y ∈ l, 0 ≤ y ∧ y ≤ 255) (hl : l.length ≤ 1048576) (hp : 0 ≤ p ∧ p ≤ (l.length : Int)) : Ev (fun k => spec_l4Part.f k l p b t) (partP l p b t) := by
  unfold spec_l4Part.f partP
  refine Ev.bind (sGetTlv_ev l p hb hl (by omega)) ?_
  exact Ev.ite (fun _ => Ev.now _) (fun _ => Ev.ite (fun _ => Ev.ite (fun _ => Ev.now _) (fun _ => Ev.now _)) (fun _ => Ev.now _))
theorem iPart_ev (l : List Int) (p : Int) (b : Bool) (t : Int) (hb : ∀ y ∈ l, 0 ≤ y ∧ y ≤ 255) (hl : l.length ≤ 1048576) (hp : 0 ≤ p ∧ p ≤ (l.length : Int)) : Ev (fun k => impl_parts_part.f k l p b t) (partP l p b t) := by
  unfold impl_parts_part.f partP
  refine Ev.bind (iGetTlv_ev l p hb hl (by omega)) ?_
  exact Ev.ite (fun _ => Ev.now _) (fun _ => Ev.ite (fun _ => Ev.ite (fun _ => Ev.now _) (fun _ => Ev.now _)) (fun _ => Ev.now _))
theorem iNum_ev (l : List Int) (p : Int) (b : Bool) (t : Int) (hb : ∀ y ∈ l, 0 ≤ y ∧ y ≤ 255) (hl : l.length ≤ 1048576) (hp : 0 ≤ p ∧ p ≤ (l.length : Int)) : Ev (fun k => impl_parts_num.f k l p b t) (numP l p b t) := by
  obtain ⟨_, h1, h2⟩ := partP_in l p b t hb hp
  unfold impl_parts_num.f numP
  refine Ev.bind (iPart_ev l p b t hb hl hp) (Ev.bind (iGetInt_ev _ h1 (by omega)) ?_)
  exact Ev.ite (fun _ => Ev.now _) (fun _ => Ev.now _)

theorem sNum_ev (l : List Int) (p : Int) (b : Bool) (hb : ∀ y ∈ l, 0 ≤ y ∧ y ≤ 255) (hl : l.length ≤ 1048576) (hp : 0 ≤ p ∧ p ≤ (l.length : Int)) : Ev (fun k => spec_l4Num.f k l p b) (numP l p b 2) := by
  obtain ⟨_, h1, h2⟩ := partP_in l p b 2 hb hp
  unfold spec_l4Num.f numP
  refine Ev.bind (sPart_ev l p b 2 hb hl hp) (Ev.bind (sGetInt_ev _ h1 (by omega)) ?_)
  exact Ev.ite (fun _ => Ev.now _) (fun _ => Ev.now _)

theorem num_both (l : List Int) (p : Int) (b : Bool) (hb : ∀ y ∈ l, 0 ≤ y ∧ y ≤ 255) (hl : l.length ≤ 1048576) (hp : 0 ≤ p ∧ p ≤ (l.length : Int)) : ∃ R, R = numP l p b 2 ∧ Ev (fun k => spec_l4Num.f k l p b) R ∧ Ev (fun k => impl_parts_num.f k l p b 2) R ∧ 0 ≤ R.2.1 ∧ R.2.1 ≤ (l.length : Int) :=
  ⟨_, rfl, sNum_ev l p b hb hl hp, iNum_ev l p b 2 hb hl hp, numP_in l p b 2 hb hp⟩
theorem getVec_both (l : List Int) (hb : ∀ y ∈ l, 0 ≤ y ∧ y ≤ 255) (hl : l.length ≤ 1048576) : ∃ R, Ev (fun k => spec_GetVec.f k l) R ∧ Ev (fun k => impl_GetVec.f k l) R := by
  obtain ⟨a, ea, s1, i1, h1⟩ := num_both l 0 false hb hl ⟨by omega, by omega⟩
  obtain ⟨b, eb, s2, i2, h2⟩ := num_both l a.2.1 a.2.2 hb hl h1
  obtain ⟨c, ec, s3, i3, h3⟩ := num_both l b.2.1 b.2.2 hb hl h2
  obtain ⟨d, ed, s4, i4, h4⟩ := num_both l c.2.1 c.2.2 hb hl h3
  obtain ⟨e, ee, s5, i5, h5⟩ := num_both l d.2.1 d.2.2 hb hl h4
  clear ea eb ec ed ee
  unfold spec_GetVec.f impl_GetVec.f
  refine ⟨if e.2.2 = true then (0, 0, 0, 0, 0, false) else if e.2.1 = (l.length : Int) then (if vecOk a.1 b.1 c.1 d.1 e.1 = true then (a.1, b.1, c.1, d.1, e.1, true) else (0, 0, 0, 0, 0, false)) else (0, 0, 0, 0, 0, false), Ev.bind s1 (Ev.bind s2 (Ev.bind s3 (Ev.bind s4 (Ev.bind s5 ?_)))), Ev.bind i1 (Ev.bind i2 (Ev.bind i3 (Ev.bind i4 (Ev.bind i5 ?_))))⟩
  · simp only [sVecOk_eq, Option.bind_some]
    exact Ev.ite (fun _ => Ev.now _) (fun _ => Ev.ite (fun _ => Ev.ite (fun _ => Ev.now _) (fun _ => Ev.now _)) (fun _ => Ev.now _))
  · simp only [impl_parts_done.f, iVecOk_eq, Option.bind_some]
    by_cases h : e.2.2 = true
    · simp only [if_pos h, Option.bind_some, Bool.false_eq_true, if_false]
      exact Ev.now _
    · simp only [if_neg h, Option.bind_some, beq_iff_eq]
      exact Ev.ite (fun _ => Ev.ite (fun _ => Ev.now _) (fun _ => Ev.now _)) (fun _ => Ev.now _)

theorem part_true (l : List Int) (hb : bys l) (p p' t : Int) (b : Bool) (y : List Int) (h : partP l p b t = (y, p', false)) : b = false ∧ (0 ≤ p ∧ p ≤ p' ∧ p' ≤ (l.length : Int)) ∧ y.length ≤ 250 ∧ bys y ∧ (l.take p'.toNat).drop p.toNat = putTlv [] t y := by
  unfold partP at h
  cases b with
  | true => simp at h
  | false =>
    simp only [Bool.false_eq_true, if_false] at h
    by_cases c : (getTlv l p).2.2.2 = true
    · rw [if_pos c] at h
      by_cases d : (getTlv l p).1 = t
      · rw [if_pos d] at h
        simp only [Prod.mk.injEq, and_true] at h
        have e : getTlv l p = (t, y, p', true) := Prod.ext d (Prod.ext h.1 (Prod.ext h.2 c))
        obtain ⟨h1, h2, h3⟩ := getTlv_true l hb p t p' y e
        have h4 := (getTlv_in l p hb).2
        rw [e] at h4
        exact ⟨rfl, h1, h2, h4, h3⟩
      · rw [if_neg d] at h
        simp at h
    · rw [if_neg c] at h
      simp at h
theorem num_true (l : List Int) (hb : bys l) (p p' t n : Int) (b : Bool) (h : numP l p b t = (n, p', false)) : b = false ∧ (0 ≤ p ∧ p ≤ p' ∧ p' ≤ (l.length : Int)) ∧ (l.take p'.toNat).drop p.toNat = putTlv [] t (putInt (clip n)) := by
  unfold numP at h
  by_cases c : (partP l p b t).2.2 = true
  · rw [if_pos c] at h
    simp at h
  rw [if_neg c] at h
  simp only [Prod.mk.injEq, Bool.not_eq_false'] at h
  obtain ⟨h1, h2, h3⟩ := h
  obtain ⟨a1, a2, _, a4, a5⟩ := part_true l hb p p' t b (partP l p b t).1 (Prod.ext rfl (Prod.ext h2 (by simpa using c)))
  refine ⟨a1, a2, ?_⟩
  rw [a5, ← h1, getInt_ok _ a4 h3]
theorem part_bad (l : List Int) (p t : Int) : (partP l p true t).2.2 = true := rfl
theorem num_bad (l : List Int) (p t : Int) : (numP l p true t).2.2 = true := rfl
theorem take_join {l x : List Int} {p p' : Int} (h : p ≤ p') (e : (l.take p'.toNat).drop p.toNat = x) : l.take p'.toNat = l.take p.toNat ++ x := by
  have h1 := List.take_append_drop p.toNat (l.take p'.toNat)
  rw [List.take_take, Nat.min_eq_left (by omega), e] at h1
  exact h1.symm
theorem putTlv_app (a : List Int) (t : Int) (y : List Int) : putTlv a t y = a ++ putTlv [] t y := by
  unfold putTlv
  split <;> simp

theorem rd_1 (pre rest : List Int) (t y : Int) : rd (pre ++ t :: y :: rest) ((pre.length : Int) + 1) = y := by
  have h := rd_mid (pre ++ [t]) rest y
  simp only [List.append_assoc, List.cons_append, List.nil_append] at h
  rw [show ((pre ++ [t]).length : Int) = (pre.length : Int) + 1 by simp] at h
  exact h
theorem rd_2 (pre rest : List Int) (t u y : Int) : rd (pre ++ t :: u :: y :: rest) ((pre.length : Int) + 2) = y := by
  have h := rd_mid (pre ++ [t, u]) rest y
  simp only [List.append_assoc, List.cons_append, List.nil_append] at h
  rw [show ((pre ++ [t, u]).length : Int) = (pre.length : Int) + 2 by simp] at h
  exact h

theorem get_short (pre body : List Int) (t n : Int) (h1 : n ≤ 127) :
    getTlv (pre ++ t :: n :: body) (pre.length : Int) = tlvTail (pre ++ t :: n :: body) (pre.length : Int) ((pre.length : Int) + 1) := by
  unfold getTlv
  rw [if_neg (by simp only [List.length_append, List.length_cons]; omega), rd_1, if_neg (by omega)]

theorem tail_mid (L A body rest : List Int) (a x n t : Int) (hL : L = A ++ (body ++ rest)) (hx : (A.length : Int) = x + 1) (hn : n = (body.length : Int)) (hr : rd L x = n) (ht : rd L a = t) (h : n ≤ 250) :
    tlvTail L a x = (t, body, (A.length : Int) + body.length, true) := by
  have hll : (L.length : Int) = (A.length : Int) + (body.length + rest.length) := by rw [hL, List.length_append, List.length_append]; omega
  have e1 : (x + 1 + n).toNat = (A ++ body).length := by rw [List.length_append]; omega
  have e2 : (x + 1).toNat = A.length := by omega
  unfold tlvTail
  rw [hr, ht, if_neg (by omega), if_neg (by omega), e1, e2, show x + 1 + n = (A.length : Int) + body.length by omega, hL, ← List.append_assoc, List.take_left, List.drop_left]
theorem get_mid (pre body rest : List Int) (t : Int) (ht : 0 ≤ t ∧ t ≤ 255) (h : body.length ≤ 127) : getTlv (pre ++ (tlvBytes t body ++ rest)) (pre.length : Int) = (t, body, ((pre ++ tlvBytes t body).length : Int), true) := by
  rw [tlvBytes_short t body ht h, List.cons_append, List.cons_append, get_short _ _ _ _ (by omega)]
  rw [tail_mid _ (pre ++ [t, (body.length : Int)]) body rest _ _ _ t (by simp) (by simp only [List.length_append, List.length_cons, List.length_nil]; omega) rfl (rd_1 _ _ _ _) (rd_mid _ _ _) (by omega)]
  simp only [List.length_append, List.length_cons, List.length_nil, Prod.mk.injEq, true_and, and_true]
  omega
theorem part_back (pre body rest : List Int) (t : Int) (ht : 0 ≤ t ∧ t ≤ 255) (h : body.length ≤ 127) : partP (pre ++ (tlvBytes t body ++ rest)) (pre.length : Int) false t = (body, ((pre ++ tlvBytes t body).length : Int), false) := by
  unfold partP
  rw [get_mid pre body rest t ht h]
  simp only [Bool.false_eq_true, if_false, if_true]
theorem num_back (pre rest : List Int) (t n : Int) (ht : 0 ≤ t ∧ t ≤ 255) (hn : -2147483648 ≤ n ∧ n ≤ 2147483647) : numP (pre ++ (tlvBytes t (putInt (clip n)) ++ rest)) (pre.length : Int) false t = (n, ((pre ++ tlvBytes t (putInt (clip n))).length : Int), false) := by
  have hl := putInt_len (clip n)
  unfold numP
  rw [part_back pre _ rest t ht (by omega)]
  simp only [getInt_put, Bool.false_eq_true, if_false, Bool.not_true]
  rw [clip_in n hn]
theorem put_ok (l : List Int) (t n : Int) (ht : 0 ≤ t ∧ t ≤ 255) : putTlv l t (putInt (clip n)) = l ++ tlvBytes t (putInt (clip n)) := by
  have := putInt_len (clip n)
  unfold putTlv tlvOk
  rw [decide_eq_true ht, decide_eq_true (show ((putInt (clip n)).length : Int) ≤ 250 by omega)]
  rfl
theorem Ev.uniq {α : Type} {g : Nat → Option α} {r1 r2 : α} (h1 : Ev g r1) (h2 : Ev g r2) : r1 = r2 := by
  obtain ⟨a, ha⟩ := h1
  obtain ⟨b, hb⟩ := h2
  exact Option.some.inj ((ha (max a b) (Nat.le_max_left a b)).symm.trans (hb (max a b) (Nat.le_max_right a b)))

/- a draw's state: the bytes, a place in them, a seed -/
def atOk (l : List Int) (p : Int) : Prop := 0 ≤ p ∧ p ≤ (l.length : Int)
theorem and_low (x : Int) (m : Nat) (hm : m < 9223372036854775808) : 0 ≤ Go.bits .and .i64 x (m : Int) ∧ Go.bits .and .i64 x (m : Int) ≤ m := by
  have e : m % 2 ^ IntKind.i64.bits = m := Nat.mod_eq_of_lt (show m < 2 ^ 64 by omega)
  simp only [Go.bits, BitVec.ofInt_natCast, BitVec.toNat_and, BitVec.toNat_ofNat, e]
  have h := Nat.and_le_right (n := (BitVec.ofInt IntKind.i64.bits x).toNat) (m := m)
  generalize (BitVec.ofInt IntKind.i64.bits x).toNat &&& m = q at h ⊢
  rw [IntKind.wrap_i64]
  omega
theorem and255 (x : Int) : 0 ≤ Go.bits .and .i64 x 255 ∧ Go.bits .and .i64 x 255 ≤ 255 := and_low x 255 (by decide)
theorem l1Byte_ok (l : List Int) (p s : Int) (hl : l.length ≤ 1048576) (h : atOk l p) : ∃ v p' s', spec_l1Byte.f l p s = some (v, p', s') ∧ (0 ≤ v ∧ v ≤ 255) ∧ atOk l p' := by
  unfold atOk at h
  unfold spec_l1Byte.f atOk
  by_cases c : p < (l.length : Int)
  · refine ⟨_, _, _, if_pos c |>.trans (if_pos h.1), and255 _, ?_⟩
    rw [w64 (by omega) (by omega)]
    omega
  · exact ⟨_, _, _, if_neg c, and255 _, h⟩
theorem l1Below_ok (l : List Int) (p s n : Int) (hl : l.length ≤ 1048576) (h : atOk l p) (hn : 0 < n) : ∃ v p' s', spec_l1Below.f l p s n = some (v, p', s') ∧ (0 ≤ v ∧ v < n) ∧ atOk l p' := by
  unfold spec_l1Below.f
  rw [if_neg (by omega)]
  obtain ⟨v1, p1, s1, e1, b1, h1⟩ := l1Byte_ok l p s hl h
  rw [e1]
  simp only [Option.bind_some, if_neg (show ¬ n = 0 by omega)]
  by_cases c : n ≤ 256
  · simp only [if_pos c]
    exact ⟨_, _, _, rfl, ⟨Int.tmod_nonneg _ b1.1, Int.tmod_lt_of_pos _ hn⟩, h1⟩
  · simp only [if_neg c]
    obtain ⟨v2, p2, s2, e2, b2, h2⟩ := l1Byte_ok l p1 s1 hl h1
    rw [e2]
    simp only [Option.bind_some]
    obtain ⟨v3, p3, s3, e3, b3, h3⟩ := l1Byte_ok l p2 s2 hl h2
    rw [e3]
    simp only [Option.bind_some]
    rw [w64 (x := v1 * 65536) (by omega) (by omega), w64 (x := v2 * 256) (by omega) (by omega), w64 (x := v1 * 65536 + v2 * 256) (by omega) (by omega), w64 (by omega) (by omega)]
    exact ⟨_, _, _, rfl, ⟨Int.tmod_nonneg _ (by omega), Int.tmod_lt_of_pos _ hn⟩, h3⟩
theorem rd_mem (xs : List Int) (i : Int) (h0 : 0 ≤ i) (h1 : i < (xs.length : Int)) : rd xs i ∈ xs := by
  unfold rd
  rw [List.getD_eq_getElem?_getD]
  have hi : i.toNat < xs.length := by omega
  rw [List.getElem?_eq_getElem hi]
  exact List.getElem_mem hi
theorem l1New_loop (l : List Int) (rest : List Int) : ∀ (pre : List Int) (s : Int), pre.length + rest.length ≤ 1048576 → ∃ s', Ev (fun k => spec_l1New.l0 k (pre ++ rest) s (pre.length : Int)) (pre ++ rest, 0, s') := by
  induction rest with
  | nil =>
    intro pre s _
    refine ⟨s, Ev.succ ?_⟩
    simp only [spec_l1New.l0]
    simp only [List.append_nil, if_neg (show ¬ (pre.length : Int) < (pre.length : Int) by omega)]
    exact Ev.now _
  | cons r rest ih =>
    intro pre s hn
    simp only [List.length_cons] at hn
    by_cases c : (pre.length : Int) < 4000
    · obtain ⟨s', h⟩ := ih (pre ++ [r]) (Go.bits .and .i64 (wrap64 ((wrap64 ((wrap64 (s * 137)) + (wrap64 r))) + 11)) 1073741823) (by simp only [List.length_append, List.length_cons, List.length_nil]; omega)
      simp only [List.append_assoc, List.cons_append, List.nil_append] at h
      rw [show ((pre ++ [r]).length : Int) = (pre.length : Int) + 1 by simp] at h
      refine ⟨s', Ev.succ ?_⟩
      simp only [spec_l1New.l0]
      simp only [if_pos (show (pre.length : Int) < ((pre ++ r :: rest).length : Int) by simp only [List.length_append, List.length_cons]; omega), if_pos c, if_pos (show (0 : Int) ≤ (pre.length : Int) by omega), rd_mid, w64 (x := (pre.length : Int) + 1) (by omega) (by omega)]
      exact h
    · refine ⟨s, Ev.succ ?_⟩
      simp only [spec_l1New.l0]
      simp only [if_pos (show (pre.length : Int) < ((pre ++ r :: rest).length : Int) by simp only [List.length_append, List.length_cons]; omega), if_neg c]
      exact Ev.now _
theorem l1New_ok (l : List Int) (hl : l.length ≤ 1048576) : ∃ s', Ev (fun k => spec_l1New.f k l) (l, 0, s') := by
  unfold spec_l1New.f
  have h := l1New_loop l l [] (wrap64 (762762 + (l.length : Int))) (by simp only [List.length_nil]; omega)
  simpa using h
theorem at0 (l : List Int) : atOk l 0 := ⟨by omega, by omega⟩

theorem l1Int_ok (l : List Int) (p s : Int) (xs : List Int) (hl : l.length ≤ 1048576) (h : atOk l p) (hx : 0 < xs.length) : ∃ v p' s', spec_l1Int.f l p s xs = some (v, p', s') ∧ v ∈ xs ∧ atOk l p' := by
  unfold spec_l1Int.f
  obtain ⟨v1, p1, s1, e1, b1, h1⟩ := l1Below_ok l p s (xs.length : Int) hl h (by omega)
  rw [e1]
  simp only [Option.bind_some, if_pos b1.1, if_pos b1.2]
  exact ⟨_, _, _, rfl, rd_mem xs v1 b1.1 b1.2, h1⟩

theorem l1Bend_ok (l : List Int) (p s : Int) (xs : List Int) (hl : l.length ≤ 1048576) (h : atOk l p) (hx : bys xs) (hn : xs.length ≤ 1048576) : ∃ o p' s', spec_l1Bend.f l p s xs = some (o, p', s') ∧ bys o ∧ o.length ≤ xs.length + 1 ∧ atOk l p' := by
  unfold spec_l1Bend.f
  by_cases c : (xs.length : Int) = 0
  · simp only [if_pos c]
    exact ⟨_, _, _, rfl, hx, by omega, h⟩
  simp only [if_neg c]
  obtain ⟨v1, p1, s1, e1, b1, h1⟩ := l1Below_ok l p s 5 hl h (by omega)
  simp only [e1, Option.bind_some]
  by_cases c0 : v1 = 0
  · obtain ⟨v2, p2, s2, e2, b2, h2⟩ := l1Below_ok l p1 s1 (xs.length : Int) hl h1 (by omega)
    obtain ⟨v3, p3, s3, e3, b3, h3⟩ := l1Int_ok l p2 s2 [0, 1, 2, 4, 5, 6, 48, 127, 128, 129, 160, 255] hl h2 (by decide)
    simp only [if_pos c0, e2, e3, Option.bind_some, if_pos b2.1, if_pos b2.2]
    exact ⟨_, _, _, rfl, bys_set hx _ (by omega), by rw [List.length_set]; omega, h3⟩
  by_cases c1 : v1 = 1
  · simp only [if_neg c0, if_pos c1, if_pos (show xs.length < 140737488355328 by omega)]
    exact ⟨_, _, _, rfl, bys_app hx (bys_one (by omega)), by simp, h1⟩
  by_cases c2 : v1 = 2
  · obtain ⟨v2, p2, s2, e2, b2, h2⟩ := l1Below_ok l p1 s1 (xs.length : Int) hl h1 (by omega)
    simp only [if_neg c0, if_neg c1, if_pos c2, e2, Option.bind_some, if_pos b2.1, if_pos (show v2 ≤ (xs.length : Int) by omega)]
    exact ⟨_, _, _, rfl, bys_take hx _, by rw [List.length_take]; omega, h2⟩
  · simp only [if_neg c0, if_neg c1, if_neg c2]
    exact ⟨_, _, _, rfl, hx, by omega, h1⟩

theorem l7Draw_ok (l : List Int) (p s : Int) (hl : l.length ≤ 1048576) (h : atOk l p) : ∃ a b c d e p' s', spec_l7Draw.f l p s = some (a, b, c, d, e, p', s') ∧ atOk l p' := by
  unfold spec_l7Draw.f
  obtain ⟨v1, p1, s1, e1, b1, h1⟩ := l1Below_ok l p s 5 hl h (by omega)
  obtain ⟨v2, p2, s2, e2, b2, h2⟩ := l1Int_ok l p1 s1 [0, 1, 2, 5, 10, 100] hl h1 (by decide)
  obtain ⟨v3, p3, s3, e3, b3, h3⟩ := l1Int_ok l p2 s2 [0, 1, 2, 9, 10] hl h2 (by decide)
  obtain ⟨v4, p4, s4, e4, b4, h4⟩ := l1Below_ok l p3 s3 5 hl h3 (by omega)
  obtain ⟨v5, p5, s5, e5, b5, h5⟩ := l1Below_ok l p4 s4 4 hl h4 (by omega)
  simp only [e1, e2, e3, e4, e5, Option.bind_some]
  exact ⟨_, _, _, _, _, _, _, rfl, h5⟩
theorem l7Any_ok (l : List Int) (p s : Int) (hl : l.length ≤ 1048576) (h : atOk l p) : ∃ a b c d e p' s', spec_l7Any.f l p s = some (a, b, c, d, e, p', s') ∧ atOk l p' := by
  unfold spec_l7Any.f
  obtain ⟨a, b, c, d, e, p1, s1, e1, h1⟩ := l7Draw_ok l p s hl h
  obtain ⟨v2, p2, s2, e2, b2, h2⟩ := l1Below_ok l p1 s1 12 hl h1 (by omega)
  simp only [e1, e2, Option.bind_some]
  by_cases c0 : v2 = 0
  · obtain ⟨v3, p3, s3, e3, b3, h3⟩ := l1Int_ok l p2 s2 [0, 99, 100] hl h2 (by decide)
    simp only [if_pos c0, e3, Option.bind_some]
    exact ⟨_, _, _, _, _, _, _, rfl, h3⟩
  by_cases c1 : v2 = 1
  · obtain ⟨v3, p3, s3, e3, b3, h3⟩ := l1Int_ok l p2 s2 [-1, 99999, 100000, 100001] hl h2 (by decide)
    simp only [if_neg c0, if_pos c1, e3, Option.bind_some]
    exact ⟨_, _, _, _, _, _, _, rfl, h3⟩
  by_cases c2 : v2 = 2
  · obtain ⟨v3, p3, s3, e3, b3, h3⟩ := l1Int_ok l p2 s2 [-1, 11] hl h2 (by decide)
    simp only [if_neg c0, if_neg c1, if_pos c2, e3, Option.bind_some]
    exact ⟨_, _, _, _, _, _, _, rfl, h3⟩
  by_cases c3 : v2 = 3
  · obtain ⟨v3, p3, s3, e3, b3, h3⟩ := l1Int_ok l p2 s2 [-1, 7, 8] hl h2 (by decide)
    simp only [if_neg c0, if_neg c1, if_neg c2, if_pos c3, e3, Option.bind_some]
    exact ⟨_, _, _, _, _, _, _, rfl, h3⟩
  · simp only [if_neg c0, if_neg c1, if_neg c2, if_neg c3]
    exact ⟨_, _, _, _, _, _, _, rfl, h2⟩

def vecFin (l : List Int) (a b c d e : Int × Int × Bool) : Int × Int × Int × Int × Int × Bool := if e.2.2 = true then (0, 0, 0, 0, 0, false) else if e.2.1 = (l.length : Int) then (if vecOk a.1 b.1 c.1 d.1 e.1 = true then (a.1, b.1, c.1, d.1, e.1, true) else (0, 0, 0, 0, 0, false)) else (0, 0, 0, 0, 0, false)
theorem getVec_five (l : List Int) (hb : ∀ y ∈ l, 0 ≤ y ∧ y ≤ 255) (hl : l.length ≤ 1048576) : ∃ a b c d e, a = numP l 0 false 2 ∧ b = numP l a.2.1 a.2.2 2 ∧ c = numP l b.2.1 b.2.2 2 ∧ d = numP l c.2.1 c.2.2 2 ∧ e = numP l d.2.1 d.2.2 2 ∧ Ev (fun k => spec_GetVec.f k l) (vecFin l a b c d e) := by
  obtain ⟨a, ea, s1, i1, h1⟩ := num_both l 0 false hb hl ⟨by omega, by omega⟩
  obtain ⟨b, eb, s2, i2, h2⟩ := num_both l a.2.1 a.2.2 hb hl h1
  obtain ⟨c, ec, s3, i3, h3⟩ := num_both l b.2.1 b.2.2 hb hl h2
  obtain ⟨d, ed, s4, i4, h4⟩ := num_both l c.2.1 c.2.2 hb hl h3
  obtain ⟨e, ee, s5, i5, h5⟩ := num_both l d.2.1 d.2.2 hb hl h4
  refine ⟨a, b, c, d, e, ea, eb, ec, ed, ee, ?_⟩
  clear ea eb ec ed ee
  unfold spec_GetVec.f vecFin
  refine Ev.bind s1 (Ev.bind s2 (Ev.bind s3 (Ev.bind s4 (Ev.bind s5 ?_))))
  simp only [sVecOk_eq, Option.bind_some]
  exact Ev.ite (fun _ => Ev.now _) (fun _ => Ev.ite (fun _ => Ev.ite (fun _ => Ev.now _) (fun _ => Ev.now _)) (fun _ => Ev.now _))
theorem vec_read (l : List Int) (hb : bys l) (hl : l.length ≤ 1048576) : ∃ R, Ev (fun k => spec_GetVec.f k l) R ∧ Ev (fun k => impl_GetVec.f k l) R ∧ (R.2.2.2.2.2 = true → vecOk R.1 R.2.1 R.2.2.1 R.2.2.2.1 R.2.2.2.2.1 = true ∧ putVec R.1 R.2.1 R.2.2.1 R.2.2.2.1 R.2.2.2.2.1 = l) := by
  obtain ⟨R, hs, hi⟩ := getVec_both l hb hl
  obtain ⟨⟨n1, p1, f1⟩, ⟨n2, p2, f2⟩, ⟨n3, p3, f3⟩, ⟨n4, p4, f4⟩, ⟨n5, p5, f5⟩, ea, eb, ec, ed, ee, h5⟩ := getVec_five l hb hl
  obtain rfl := Ev.uniq hs h5
  refine ⟨_, hs, hi, fun h => ?_⟩
  clear hs hi h5
  unfold vecFin at h ⊢
  simp only at ea eb ec ed ee h ⊢
  cases f5 with
  | true => simp at h
  | false =>
    simp only [Bool.false_eq_true, if_false] at h ⊢
    by_cases e : p5 = (l.length : Int)
    · simp only [if_pos e] at h ⊢
      by_cases o : vecOk n1 n2 n3 n4 n5 = true
      · simp only [if_pos o]
        refine ⟨o, ?_⟩
        obtain ⟨rfl, q5, r5⟩ := num_true l hb _ _ _ _ _ ee.symm
        obtain ⟨rfl, q4, r4⟩ := num_true l hb _ _ _ _ _ ed.symm
        obtain ⟨rfl, q3, r3⟩ := num_true l hb _ _ _ _ _ ec.symm
        obtain ⟨rfl, q2, r2⟩ := num_true l hb _ _ _ _ _ eb.symm
        obtain ⟨_, q1, r1⟩ := num_true l hb _ _ _ _ _ ea.symm
        have j1 := take_join q1.2.1 r1
        have j2 := take_join q2.2.1 r2
        have j3 := take_join q3.2.1 r3
        have j4 := take_join q4.2.1 r4
        have j5 := take_join q5.2.1 r5
        rw [show (0 : Int).toNat = 0 from rfl, List.take_zero, List.nil_append] at j1
        rw [j1, ← putTlv_app] at j2
        rw [j2, ← putTlv_app] at j3
        rw [j3, ← putTlv_app] at j4
        rw [j4, ← putTlv_app, e, Int.toNat_natCast, List.take_length] at j5
        unfold putVec
        rw [if_pos o]
        exact j5.symm
      · simp only [if_neg o] at h
        simp at h
    · simp only [if_neg e] at h
      simp at h
theorem vec_back (a b c d e : Int) (o : vecOk a b c d e = true) (R : Int × Int × Int × Int × Int × Bool) (hb : bys (putVec a b c d e)) (h : Ev (fun k => spec_GetVec.f k (putVec a b c d e)) R) : R = (a, b, c, d, e, true) := by
  have hln := putVec_len a b c d e
  have ho := o
  unfold vecOk at ho
  simp only [Bool.and_eq_true, decide_eq_true_eq] at ho
  have hP : putVec a b c d e = tlvBytes 2 (putInt (clip a)) ++ (tlvBytes 2 (putInt (clip b)) ++ (tlvBytes 2 (putInt (clip c)) ++ (tlvBytes 2 (putInt (clip d)) ++ tlvBytes 2 (putInt (clip e))))) := by
    unfold putVec
    rw [if_pos o]
    simp only [List.foldl_cons, List.foldl_nil, addN]
    rw [put_ok _ 2 e ⟨by omega, by omega⟩, put_ok _ 2 d ⟨by omega, by omega⟩, put_ok _ 2 c ⟨by omega, by omega⟩, put_ok _ 2 b ⟨by omega, by omega⟩, put_ok _ 2 a ⟨by omega, by omega⟩, List.nil_append]
    simp only [List.append_assoc]
  obtain ⟨A, B, C, D, E, ea, eb, ec, ed, ee, h5⟩ := getVec_five (putVec a b c d e) hb (by omega)
  have hR := Ev.uniq h h5
  clear h h5
  have k1 := num_back [] (tlvBytes 2 (putInt (clip b)) ++ (tlvBytes 2 (putInt (clip c)) ++ (tlvBytes 2 (putInt (clip d)) ++ tlvBytes 2 (putInt (clip e))))) 2 a ⟨by omega, by omega⟩ (by omega)
  have k2 := num_back (tlvBytes 2 (putInt (clip a))) (tlvBytes 2 (putInt (clip c)) ++ (tlvBytes 2 (putInt (clip d)) ++ tlvBytes 2 (putInt (clip e)))) 2 b ⟨by omega, by omega⟩ (by omega)
  have k3 := num_back (tlvBytes 2 (putInt (clip a)) ++ tlvBytes 2 (putInt (clip b))) (tlvBytes 2 (putInt (clip d)) ++ tlvBytes 2 (putInt (clip e))) 2 c ⟨by omega, by omega⟩ (by omega)
  have k4 := num_back (tlvBytes 2 (putInt (clip a)) ++ tlvBytes 2 (putInt (clip b)) ++ tlvBytes 2 (putInt (clip c))) (tlvBytes 2 (putInt (clip e))) 2 d ⟨by omega, by omega⟩ (by omega)
  have k5 := num_back (tlvBytes 2 (putInt (clip a)) ++ tlvBytes 2 (putInt (clip b)) ++ tlvBytes 2 (putInt (clip c)) ++ tlvBytes 2 (putInt (clip d))) [] 2 e ⟨by omega, by omega⟩ (by omega)
  simp only [List.nil_append, List.append_nil, List.append_assoc] at k1 k2 k3 k4 k5
  rw [← hP] at k1 k2 k3 k4 k5
  rw [show ((([] : List Int).length : Nat) : Int) = 0 from rfl] at k1
  rw [k1] at ea
  subst ea
  simp only at eb
  rw [k2] at eb
  subst eb
  simp only at ec
  rw [k3] at ec
  subst ec
  simp only at ed
  rw [k4] at ed
  subst ed
  simp only at ee
  rw [k5] at ee
  subst ee
  rw [hR]
  unfold vecFin
  simp only [Bool.false_eq_true, if_false, if_true, o]
theorem addN_bys {l : List Int} (n : Int) (hl : bys l) : bys (addN l n) := by
  unfold addN
  rw [put_ok _ 2 n ⟨by omega, by omega⟩]
  exact bys_app hl (tlvBytes_bys 2 _ ⟨by omega, by omega⟩ (putInt_bys _) (by have := putInt_len (clip n); omega))
theorem putVec_bys (a b c d e : Int) : bys (putVec a b c d e) := by
  have h0 : bys [] := by intro z hz; simp at hz
  unfold putVec
  split
  · exact addN_bys _ (addN_bys _ (addN_bys _ (addN_bys _ (addN_bys _ h0))))
  · exact h0
theorem drawPutVec_ok (l : List Int) (hl : l.length ≤ 1048576) : ∃ a b c d e, Ev (fun k => spec_DrawPutVec.f k l) (a, b, c, d, e) := by
  unfold spec_DrawPutVec.f
  obtain ⟨s0, e0⟩ := l1New_ok l hl
  obtain ⟨a, b, c, d, e, p1, s1, e1, h1⟩ := l7Any_ok l 0 s0 hl (at0 l)
  refine ⟨a, b, c, d, e, Ev.bind e0 ?_⟩
  simp only [e1, Option.bind_some]
  exact Ev.now _
theorem drawGetVec_ok (l : List Int) (hl : l.length ≤ 1048576) : ∃ o, Ev (fun k => spec_DrawGetVec.f k l) o ∧ bys o ∧ o.length ≤ 2000 := by
  unfold spec_DrawGetVec.f
  obtain ⟨s0, e0⟩ := l1New_ok l hl
  obtain ⟨a, b, c, d, e, p1, s1, e1, h1⟩ := l7Draw_ok l 0 s0 hl (at0 l)
  have hn := putVec_len a b c d e
  obtain ⟨o, p2, s2, e2, b2, n2, h2⟩ := l1Bend_ok l p1 s1 (putVec a b c d e) hl h1 (putVec_bys a b c d e) (by omega)
  refine ⟨o, Ev.bind e0 ?_, b2, by omega⟩
  simp only [e1, Option.bind_some]
  refine Ev.bind (sPutVec_ev a b c d e) ?_
  refine Ev.bind (Ev.some_ e2) ?_
  exact Ev.now _
theorem vecs_j0 (a b c d e : Int) : Ev (fun k => laws_FnVecs.j0 k (putVec a b c d e) false a b c d e) true := by
  refine Ev.succ ?_
  simp only [laws_FnVecs.j0, Bool.false_eq_true, if_false, sVecOk_eq, iVecOk_eq, Option.bind_some]
  by_cases o : vecOk a b c d e = true
  · simp only [if_pos o]
    have hln := putVec_len a b c d e
    have hb := putVec_bys a b c d e
    obtain ⟨R, hs, hi, _⟩ := vec_read (putVec a b c d e) hb (by omega)
    obtain rfl := vec_back a b c d e o R hb hs
    refine Ev.bind hi ?_
    simp only [beq_self_eq_true, Bool.and_self, if_true, o]
    exact Ev.now _
  · simp only [if_neg o]
    have hP : putVec a b c d e = [] := by unfold putVec; rw [if_neg o]
    rw [hP]
    simp only [List.length_nil, o]
    exact Ev.now _

theorem FnVecs : laws_FnVecs.Pure := by
  intro l0 _ _
  refine Ev.rounds ?_
  unfold laws_FnVecs.f
  unfold laws_big.f
  simp only [Option.bind_some]
  by_cases hbig : (l0.length : Int) > 1048576
  · simp only [decide_eq_true hbig, if_true]
    exact Ev.now _
  have hsm : l0.length ≤ 1048576 := by omega
  simp only [decide_eq_false hbig, Bool.false_eq_true, if_false]
  obtain ⟨a, b, c, d, e, hD⟩ := drawPutVec_ok l0 hsm
  obtain ⟨o, hG, hb, hl⟩ := drawGetVec_ok l0 hsm
  obtain ⟨R, hs, hi, hr⟩ := vec_read o hb (by omega)
  refine Ev.bind hD (Ev.bind (iPutVec_ev a b c d e) (Ev.bind hG (Ev.bind hi (Ev.bind hs ?_))))
  have hj := vecs_j0 a b c d e
  simp only [bne_self_eq_false, Bool.false_eq_true, if_false]
  by_cases q : R.2.2.2.2.2 = true
  · obtain ⟨h1, h2⟩ := hr q
    simp only [if_pos q, iVecOk_eq, Option.bind_some, if_pos h1]
    refine Ev.bind (iPutVec_ev _ _ _ _ _) ?_
    rw [h2]
    refine Ev.bind (sameBytes_ev o o (by omega)) ?_
    simp only [decide_true, Bool.not_true]
    exact hj
  · simp only [if_neg q]
    exact hj

end Go.Proofs.Ytebffdmkfkfoaaa.Pure
