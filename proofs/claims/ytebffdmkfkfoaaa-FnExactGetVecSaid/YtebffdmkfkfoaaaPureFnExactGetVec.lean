/- The pure side of FnExactGetVec: the program's GetVec and the reference's agree at all arguments. No conditions but those of the given statement. -/
import Derived.Test.YtebffdmkfkfoaaaXFnExactGetVecx8
namespace Go.Proofs.Ytebffdmkfkfoaaa.Pure
open Go.RowKit Go.Proofs.Ytebffdmkfkfoaaa.XFnExactGetVec Go.Proofs.YtebffdmkfkfoaaaW.PrintWords Go.Proofs.YtebffdmkfkfoaaaW.PrintLast Go.Proofs.YtebffdmkfkfoaaaW.PrintMore
set_option linter.unusedVariables false
set_option linter.unusedSimpArgs false

theorem w64 {x : Int} (h0 : -9223372036854775808 ≤ x) (h1 : x ≤ 9223372036854775807) : wrap64 x = x := by
  unfold wrap64
  omega
theorem wf64 {x : Int} (h : (Lit.int .i64 x).wf = true) : -9223372036854775808 ≤ x ∧ x ≤ 9223372036854775807 := by
  simp only [Lit.wf, Bool.and_eq_true, decide_eq_true_eq] at h
  exact h
theorem wf8 {x : Int} (h : (Lit.int .u8 x).wf = true) : 0 ≤ x ∧ x ≤ 255 := by
  simp only [Lit.wf, Bool.and_eq_true, decide_eq_true_eq] at h
  exact h
theorem rd_mid (pre rest : List Int) (r : Int) : rd (pre ++ r :: rest) (pre.length : Int) = r := by
  unfold rd
  simp [List.getD_eq_getElem?_getD]
theorem set_mid {α : Type} (pre rest : List α) (r v : α) : (pre ++ r :: rest).set (pre.length : Int).toNat v = pre ++ v :: rest := by
  rw [Int.toNat_natCast, List.set_append_right _ _ (Nat.le_refl _)]
  simp
theorem succ_of {d k : Nat} (h : d < k) : ∃ m, k = m + 1 := ⟨k - 1, by omega⟩
theorem Ev.at_ {α : Type} {g : Nat → Option α} {r : α} (n : Nat) (h : ∀ k, n < k → g k = some r) : Ev g r := ⟨n + 1, fun k hk => h k (by omega)⟩
theorem Ev.some_ {α : Type} {v : Option α} {r : α} (h : v = some r) : Ev (fun _ => v) r := ⟨0, fun _ _ => h⟩
theorem Ev.succ {α : Type} {g : Nat → Option α} {r : α} (h : Ev (fun k => g (k + 1)) r) : Ev g r := by
  obtain ⟨K, h⟩ := h
  refine ⟨K + 1, fun n hn => ?_⟩
  obtain ⟨m, rfl⟩ : ∃ m, n = m + 1 := ⟨n - 1, by omega⟩
  exact h m (by omega)
theorem Ev.some_const {α : Type} {g : Nat → Option α} {r : α} (h : ∀ k, g k = some r) : Ev g r := ⟨0, fun k _ => h k⟩

theorem l1In_eq (a b c : Int) : spec_l1In.f a b c = some (decide (b ≤ a ∧ a ≤ c)) := by
  unfold spec_l1In.f
  by_cases h : b ≤ a
  · rw [if_pos h]; simp [h]
  · rw [if_neg h]; simp [h]

theorem in_eq (a b c : Int) : impl_in.f a b c = some (decide (b ≤ a ∧ a ≤ c)) := by
  unfold impl_in.f
  by_cases h : b ≤ a
  · rw [if_pos h]; simp [h]
  · rw [if_neg h]; simp [h]

def clip (n : Int) : Int := if n > 2147483647 then 2147483647 else if n < -2147483648 then -2147483648 else n
theorem clip_bd (n : Int) : -2147483648 ≤ clip n ∧ clip n ≤ 2147483647 := by
  unfold clip
  split
  · omega
  · split <;> omega
def putInt (n : Int) : List Int :=
  if -128 ≤ n ∧ n ≤ 127 then [n % 256]
  else if -32768 ≤ n ∧ n ≤ 32767 then [n / 256 % 256, n % 256]
  else if -8388608 ≤ n ∧ n ≤ 8388607 then [n / 65536 % 256, n / 256 % 256, n % 256]
  else [n / 16777216 % 256, n / 65536 % 256, n / 256 % 256, n % 256]
theorem putInt_len (n : Int) : (putInt n).length ≤ 4 := by
  unfold putInt
  split
  · simp
  · split
    · simp
    · split <;> simp

theorem sClip_eq (n : Int) : spec_l1Clip.f n = some (clip n) := by
  unfold spec_l1Clip.f clip
  split
  · rfl
  · split <;> rfl
theorem sPutInt_stop (k : Nat) (n : Int) (out : List Int) (h0 : -128 ≤ n) (h1 : n ≤ 127) : spec_PutInt.l0 (k + 1) n out = some out := by
  simp only [spec_PutInt.l0]
  rw [if_neg (by omega), if_neg (by omega)]
theorem sPutInt_go (k : Nat) (n : Int) (out : List Int) (h : n < -128 ∨ n > 127) (ho : out.length < 1000) : spec_PutInt.l0 (k + 1) n out = spec_PutInt.l0 k (n / 256) ([n / 256 % 256] ++ out) := by
  simp only [spec_PutInt.l0]
  by_cases h0 : n < -128
  · rw [if_pos h0]
    simp only [Option.bind_some]
    rw [if_pos (by simp only [List.length_cons, List.length_nil]; omega)]
  · rw [if_neg h0, if_pos (by omega)]
    simp only [Option.bind_some]
    rw [if_pos (by simp only [List.length_cons, List.length_nil]; omega)]
theorem sPutInt_at (m : Nat) (n : Int) (h0 : -2147483648 ≤ n) (h1 : n ≤ 2147483647) : spec_PutInt.l0 (m + 4) n [n % 256] = some (putInt n) := by
  unfold putInt
  by_cases c1 : -128 ≤ n ∧ n ≤ 127
  · rw [if_pos c1, sPutInt_stop _ _ _ c1.1 c1.2]
  · rw [if_neg c1, sPutInt_go _ _ _ (by omega) (by simp)]
    by_cases c2 : -32768 ≤ n ∧ n ≤ 32767
    · rw [if_pos c2, sPutInt_stop _ _ _ (by omega) (by omega)]
      rfl
    · rw [if_neg c2, sPutInt_go _ _ _ (by omega) (by simp), show n / 256 / 256 = n / 65536 by omega]
      by_cases c3 : -8388608 ≤ n ∧ n ≤ 8388607
      · rw [if_pos c3, sPutInt_stop _ _ _ (by omega) (by omega)]
        rfl
      · rw [if_neg c3, sPutInt_go _ _ _ (by omega) (by simp), show n / 65536 / 256 = n / 16777216 by omega, sPutInt_stop _ _ _ (by omega) (by omega)]
        rfl
theorem sPutInt_ev (n : Int) : Ev (fun k => spec_PutInt.f k n) (putInt (clip n)) := by
  refine Ev.at_ 4 fun k hk => ?_
  obtain ⟨m, rfl⟩ : ∃ m, k = m + 4 := ⟨k - 4, by omega⟩
  simp only [spec_PutInt.f, sClip_eq, Option.bind_some]
  exact sPutInt_at m _ (clip_bd n).1 (clip_bd n).2

theorem iClip_eq (n : Int) : mx (-2147483648) (mn n 2147483647) = clip n := by
  unfold mx mn clip
  split <;> split <;> (try split) <;> omega
theorem iPutInt_l1 (k : Nat) (n i : Int) (out : List Int) (s q : Int) (h0 : 0 ≤ i) (hi : wrap64 (8 * i) = s) (hs : 0 ≤ s) (hq : shr .i64 n s = q) (ho : out.length < 1000) :
    impl_PutInt.l1 (k + 1) n out i = impl_PutInt.l1 k n (out ++ [q % 256]) (wrap64 (i - 1)) := by
  simp only [impl_PutInt.l1]
  rw [if_pos h0, hi, if_pos hs, if_pos (by omega), hq]
theorem iPutInt_l1_end (k : Nat) (n : Int) (out : List Int) : impl_PutInt.l1 (k + 1) n out (-1) = some out := by
  simp only [impl_PutInt.l1]
  rw [if_neg (by omega)]
theorem shr0 (n : Int) : shr .i64 n 0 = n := by
  show n / 1 = n
  omega
theorem shr8 (n : Int) : shr .i64 n 8 = n / 256 := rfl
theorem shr16 (n : Int) : shr .i64 n 16 = n / 65536 := rfl
theorem shr24 (n : Int) : shr .i64 n 24 = n / 16777216 := rfl
theorem iPutInt_j1 (m : Nat) (n : Int) : impl_PutInt.j1 (m + 3) n 1 = some [n % 256] ∧ impl_PutInt.j1 (m + 4) n 2 = some [n / 256 % 256, n % 256] ∧
    impl_PutInt.j1 (m + 5) n 3 = some [n / 65536 % 256, n / 256 % 256, n % 256] ∧ impl_PutInt.j1 (m + 6) n 4 = some [n / 16777216 % 256, n / 65536 % 256, n / 256 % 256, n % 256] := by
  have t1 : wrap64 (1 - 1) = 0 := by decide +kernel
  have t2 : wrap64 (2 - 1) = 1 := by decide +kernel
  have t3 : wrap64 (3 - 1) = 2 := by decide +kernel
  have t4 : wrap64 (4 - 1) = 3 := by decide +kernel
  have s0 : wrap64 (0 - 1) = -1 := by decide +kernel
  have e0 : ∀ k out, out.length < 1000 → impl_PutInt.l1 (k + 2) n out 0 = some (out ++ [n % 256]) := fun k out ho => by
    rw [iPutInt_l1 (k + 1) n 0 out 0 n (by decide +kernel) (by decide +kernel) (by decide +kernel) (shr0 n) ho, s0, iPutInt_l1_end]
  have e1 : ∀ k out, out.length < 900 → impl_PutInt.l1 (k + 3) n out 1 = some (out ++ [n / 256 % 256] ++ [n % 256]) := fun k out ho => by
    rw [iPutInt_l1 (k + 2) n 1 out 8 _ (by decide +kernel) (by decide +kernel) (by decide +kernel) (shr8 n) (by omega), t1, e0 _ _ (by simp only [List.length_append, List.length_cons, List.length_nil]; omega)]
  have e2 : ∀ k out, out.length < 800 → impl_PutInt.l1 (k + 4) n out 2 = some (out ++ [n / 65536 % 256] ++ [n / 256 % 256] ++ [n % 256]) := fun k out ho => by
    rw [iPutInt_l1 (k + 3) n 2 out 16 _ (by decide +kernel) (by decide +kernel) (by decide +kernel) (shr16 n) (by omega), t2, e1 _ _ (by simp only [List.length_append, List.length_cons, List.length_nil]; omega)]
  have e3 : ∀ k out, out.length < 700 → impl_PutInt.l1 (k + 5) n out 3 = some (out ++ [n / 16777216 % 256] ++ [n / 65536 % 256] ++ [n / 256 % 256] ++ [n % 256]) := fun k out ho => by
    rw [iPutInt_l1 (k + 4) n 3 out 24 _ (by decide +kernel) (by decide +kernel) (by decide +kernel) (shr24 n) (by omega), t3, e2 _ _ (by simp only [List.length_append, List.length_cons, List.length_nil]; omega)]
  refine ⟨?_, ?_, ?_, ?_⟩
  · simp only [impl_PutInt.j1]
    rw [t1, e0 _ _ (by simp)]
    rfl
  · simp only [impl_PutInt.j1]
    rw [t2, e1 _ _ (by simp)]
    rfl
  · simp only [impl_PutInt.j1]
    rw [t3, e2 _ _ (by simp)]
    rfl
  · simp only [impl_PutInt.j1]
    rw [t4, e3 _ _ (by simp)]
    rfl
theorem iPutInt_l0 (k : Nat) (n j s lo hi : Int) (h4 : j < 4) (hs : wrap64 (wrap64 (8 * j) - 1) = s) (h0 : 0 ≤ s) (hl : shl .i64 (-1) s = lo) (hh : wrap64 (shl .i64 1 s - 1) = hi) :
    impl_PutInt.l0 (k + 1) n j = if lo ≤ n ∧ n ≤ hi then impl_PutInt.j1 k n j else impl_PutInt.l0 k n (wrap64 (j + 1)) := by
  simp only [impl_PutInt.l0]
  rw [if_pos h4, hs, if_pos h0, hl, hh, in_eq]
  simp only [Option.bind_some, decide_eq_true_eq]
theorem iPutInt_ev (n : Int) : Ev (fun k => impl_PutInt.f k n) (putInt (clip n)) := by
  refine Ev.at_ 12 fun k hk => ?_
  obtain ⟨m, rfl⟩ : ∃ m, k = m + 12 := ⟨k - 12, by omega⟩
  simp only [impl_PutInt.f]
  rw [iClip_eq]
  generalize clip n = c
  unfold putInt
  rw [iPutInt_l0 (m + 11) c 1 7 (-128) 127 (by decide +kernel) (by decide +kernel) (by decide +kernel) (by decide +kernel) (by decide +kernel)]
  by_cases c1 : -128 ≤ c ∧ c ≤ 127
  · rw [if_pos c1, if_pos c1]
    exact (iPutInt_j1 (m + 8) c).1
  · rw [if_neg c1, if_neg c1, show wrap64 (1 + 1) = 2 by decide +kernel, iPutInt_l0 (m + 10) c 2 15 (-32768) 32767 (by decide +kernel) (by decide +kernel) (by decide +kernel) (by decide +kernel) (by decide +kernel)]
    by_cases c2 : -32768 ≤ c ∧ c ≤ 32767
    · rw [if_pos c2, if_pos c2]
      exact (iPutInt_j1 (m + 6) c).2.1
    · rw [if_neg c2, if_neg c2, show wrap64 (2 + 1) = 3 by decide +kernel, iPutInt_l0 (m + 9) c 3 23 (-8388608) 8388607 (by decide +kernel) (by decide +kernel) (by decide +kernel) (by decide +kernel) (by decide +kernel)]
      by_cases c3 : -8388608 ≤ c ∧ c ≤ 8388607
      · rw [if_pos c3, if_pos c3]
        exact (iPutInt_j1 (m + 4) c).2.2.1
      · rw [if_neg c3, if_neg c3, show wrap64 (3 + 1) = 4 by decide +kernel]
        simp only [impl_PutInt.l0]
        rw [if_neg (by omega)]
        exact (iPutInt_j1 (m + 2) c).2.2.2

def joinI (n x : Int) : Int := Go.bits .or .i64 (wrap64 (n * 256)) (wrap64 x)
def rawInt : List Int → Int
  | [] => 0
  | b :: rest => rest.foldl joinI (if b > 127 then b - 256 else b)
def getInt (l : List Int) : Int × Bool := if (1 ≤ (l.length : Int) ∧ (l.length : Int) ≤ 4) then (if ((putInt (clip (rawInt l))).length : Int) = (l.length : Int) then (rawInt l, true) else (0, false)) else (0, false)
theorem sGetInt_loop (rest : List Int) : ∀ (pre : List Int) (n : Int), pre.length + rest.length ≤ 1099511627776 →
    Ev (fun k => spec_GetInt.l0 k (pre ++ rest) n (pre.length : Int)) (if ((putInt (clip (rest.foldl joinI n))).length : Int) = ((pre ++ rest).length : Int) then (rest.foldl joinI n, true) else (0, false)) := by
  induction rest with
  | nil =>
    intro pre n _
    refine Ev.succ ?_
    simp only [spec_GetInt.l0]
    simp only [List.append_nil, if_neg (show ¬ (pre.length : Int) < (pre.length : Int) by omega), List.foldl_nil]
    refine Ev.bind (sPutInt_ev n) ?_
    split <;> exact Ev.now _
  | cons r rest ih =>
    intro pre n hn
    simp only [List.length_cons] at hn
    have h := ih (pre ++ [r]) (joinI n r) (by simp only [List.length_append, List.length_cons, List.length_nil]; omega)
    simp only [List.append_assoc, List.cons_append, List.nil_append] at h
    refine Ev.succ ?_
    simp only [spec_GetInt.l0]
    simp only [if_pos (show (pre.length : Int) < ((pre ++ r :: rest).length : Int) by simp only [List.length_append, List.length_cons]; omega), if_pos (show (0 : Int) ≤ (pre.length : Int) by omega), rd_mid, w64 (x := (pre.length : Int) + 1) (by omega) (by omega), List.foldl_cons]
    rw [show ((pre ++ [r]).length : Int) = (pre.length : Int) + 1 by simp] at h
    exact h
theorem iGetInt_loop (all : List Int) (rest : List Int) : ∀ (pre : List Int) (n m : Int), m = (pre.length : Int) + rest.length → pre.length + rest.length ≤ 1099511627776 →
    Ev (fun k => impl_GetInt.l0 k all n (pre ++ rest) m (pre.length : Int)) (if ((putInt (clip (rest.foldl joinI n))).length : Int) = (all.length : Int) then (rest.foldl joinI n, true) else (0, false)) := by
  induction rest with
  | nil =>
    intro pre n m hm _
    simp only [List.length_nil] at hm
    show Ev _ (if ((putInt (clip n)).length : Int) = (all.length : Int) then (n, true) else (0, false))
    refine Ev.succ ?_
    simp only [impl_GetInt.l0]
    simp only [if_neg (show ¬ (pre.length : Int) < m by omega)]
    refine Ev.bind (iPutInt_ev n) ?_
    by_cases e : ((putInt (clip n)).length : Int) = (all.length : Int)
    · simp only [if_pos e]
      exact Ev.now _
    · simp only [if_neg e]
      exact Ev.now _
  | cons r rest ih =>
    intro pre n m hm hn
    simp only [List.length_cons] at hm hn
    have h := ih (pre ++ [r]) (joinI n r) m (by simp only [List.length_append, List.length_cons, List.length_nil]; omega) (by simp only [List.length_append, List.length_cons, List.length_nil]; omega)
    simp only [List.append_assoc, List.cons_append, List.nil_append] at h
    refine Ev.succ ?_
    simp only [impl_GetInt.l0]
    simp only [if_pos (show (pre.length : Int) < m by omega), if_pos (show (0 : Int) ≤ (pre.length : Int) by omega), if_pos (show (pre.length : Int) < ((pre ++ r :: rest).length : Int) by simp only [List.length_append, List.length_cons]; omega), rd_mid, w64 (x := (pre.length : Int) + 1) (by omega) (by omega), List.foldl_cons]
    rw [show ((pre ++ [r]).length : Int) = (pre.length : Int) + 1 by simp] at h
    exact h
theorem wrap8 {b : Int} (h0 : 0 ≤ b) (h1 : b ≤ 255) : IntKind.i8.wrap b = if b > 127 then b - 256 else b := by
  simp only [IntKind.wrap, IntKind.bits, IntKind.signed, Bool.true_and]
  split <;> split <;> simp_all <;> omega
theorem sGetInt_ev (l : List Int) (hb : ∀ y ∈ l, 0 ≤ y ∧ y ≤ 255) (h : l.length ≤ 1048576) : Ev (fun k => spec_GetInt.f k l) (getInt l) := by
  unfold spec_GetInt.f getInt
  simp only [l1In_eq, Option.bind_some, decide_eq_true_eq]
  by_cases c : 1 ≤ (l.length : Int) ∧ (l.length : Int) ≤ 4
  · simp only [if_pos c, if_pos (show 0 < (l.length : Int) by omega)]
    cases l with
    | nil => simp at c
    | cons b rest =>
      obtain ⟨h0, h1⟩ := hb b List.mem_cons_self
      have e1 : rd (b :: rest) 0 = b := rd_mid [] rest b
      simp only [List.length_cons] at h
      simp only [e1, w64 (x := b) (by omega) (by omega), w64 (x := b - 256) (by omega) (by omega), rawInt]
      by_cases d : b > 127
      · simp only [if_pos d]
        refine Ev.succ ?_
        simp only [spec_GetInt.j0]
        have e := sGetInt_loop rest [b] (b - 256) (by simp only [List.length_cons, List.length_nil]; omega)
        simpa using e
      · simp only [if_neg d]
        refine Ev.succ ?_
        simp only [spec_GetInt.j0]
        have e := sGetInt_loop rest [b] b (by simp only [List.length_cons, List.length_nil]; omega)
        simpa using e
  · simp only [if_neg c]
    exact Ev.now _
theorem iGetInt_ev (l : List Int) (hb : ∀ y ∈ l, 0 ≤ y ∧ y ≤ 255) (h : l.length ≤ 1048576) : Ev (fun k => impl_GetInt.f k l) (getInt l) := by
  unfold impl_GetInt.f getInt
  simp only [in_eq, Option.bind_some, decide_eq_true_eq]
  by_cases c : 1 ≤ (l.length : Int) ∧ (l.length : Int) ≤ 4
  · simp only [if_pos c, if_pos (show 0 < (l.length : Int) by omega), if_pos (show 1 ≤ (l.length : Int) by omega)]
    cases l with
    | nil => simp at c
    | cons b rest =>
      obtain ⟨h0, h1⟩ := hb b List.mem_cons_self
      have e1 : rd (b :: rest) 0 = b := rd_mid [] rest b
      simp only [List.length_cons] at h
      have hw : wrap64 (if b > 127 then b - 256 else b) = if b > 127 then b - 256 else b := by split <;> exact w64 (by omega) (by omega)
      simp only [e1, wrap8 h0 h1, hw, rawInt, List.drop_succ_cons, List.drop_zero]
      have e := iGetInt_loop (b :: rest) rest [] (if b > 127 then b - 256 else b) (rest.length : Int) (by simp) (by simp only [List.length_nil]; omega)
      simpa using e
  · simp only [if_neg c]
    exact Ev.now _

theorem Ev.ite {α : Type} {c : Prop} [Decidable c] {g1 g2 : Nat → Option α} {r1 r2 : α} (h1 : c → Ev g1 r1) (h2 : ¬ c → Ev g2 r2) : Ev (fun k => if c then g1 k else g2 k) (if c then r1 else r2) := by
  by_cases h : c
  · simp only [if_pos h]; exact h1 h
  · simp only [if_neg h]; exact h2 h

def no4 : Int × List Int × Int × Bool := (0, [], 0, false)
def tlvTail (b : List Int) (a x : Int) : Int × List Int × Int × Bool :=
  if rd b x > 250 then no4 else if rd b x > (b.length : Int) - (x + 1) then no4 else (rd b a, (b.take (x + 1 + rd b x).toNat).drop (x + 1).toNat, x + 1 + rd b x, true)
def getTlv (b : List Int) (a : Int) : Int × List Int × Int × Bool :=
  if a < 0 ∨ a + 1 ≥ (b.length : Int) then no4
  else if rd b (a + 1) > 127 then (if rd b (a + 1) = 129 then (if a + 2 ≥ (b.length : Int) then no4 else if rd b (a + 2) < 128 then no4 else tlvTail b a (a + 2)) else no4)
  else tlvTail b a (a + 1)
theorem getTlv_len (b : List Int) (a : Int) : (getTlv b a).2.1.length ≤ b.length := by
  have ht : ∀ x, (tlvTail b a x).2.1.length ≤ b.length := by
    intro x
    unfold tlvTail no4
    split
    · simp
    · split
      · simp
      · simp only [List.length_drop, List.length_take]
        omega
  have hz : (no4).2.1.length ≤ b.length := by simp [no4]
  unfold getTlv
  split
  · exact hz
  · split
    · split
      · split
        · exact hz
        · split
          · exact hz
          · exact ht _
      · exact hz
    · exact ht _
theorem rd_bd (b : List Int) (hb : ∀ y ∈ b, 0 ≤ y ∧ y ≤ 255) (x : Int) : 0 ≤ rd b x ∧ rd b x ≤ 255 := by
  unfold rd
  rw [List.getD_eq_getElem?_getD]
  cases h : b[x.toNat]? with
  | none => simp
  | some v =>
    have := hb v (List.mem_of_getElem? h)
    simpa using this
theorem cut_le (b : List Int) (p q : Nat) : ((b.take p).drop q).length ≤ b.length := by
  simp only [List.length_drop, List.length_take]
  omega

theorem spec_GetTlv_j1_ev (b : List Int) (a x : Int) (hb : ∀ y ∈ b, 0 ≤ y ∧ y ≤ 255) (hl : b.length ≤ 1048576) (ha : 0 ≤ a ∧ a < (b.length : Int)) (hx : 0 ≤ x ∧ x < (b.length : Int)) : Ev (fun k => spec_GetTlv.j1 k b a x false) (tlvTail b a x) := by
  obtain ⟨n0, n1⟩ := rd_bd b hb x
  obtain ⟨m0, m1⟩ := rd_bd b hb a
  refine Ev.succ ?_
  simp only [spec_GetTlv.j1]
  simp only [Bool.false_eq_true, if_false, if_pos hx.1, if_pos hx.2, if_pos ha.1, if_pos ha.2, w64 (x := rd b x) (by omega) (by omega), w64 (x := rd b a) (by omega) (by omega), w64 (x := x + 1) (by omega) (by omega), w64 (x := (b.length : Int) - (x + 1)) (by omega) (by omega), w64 (x := x + 1 + rd b x) (by omega) (by omega)]
  unfold tlvTail no4
  by_cases c1 : rd b x > 250
  · simp only [if_pos c1]
    exact Ev.now _
  by_cases c2 : rd b x > (b.length : Int) - (x + 1)
  · simp only [if_neg c1, if_pos c2]
    exact Ev.now _
  have hc := cut_le b (x + 1 + rd b x).toNat (x + 1).toNat
  simp only [if_neg c1, if_neg c2, if_pos (show 0 ≤ x + 1 by omega), if_pos (show x + 1 ≤ x + 1 + rd b x by omega), if_pos (show x + 1 + rd b x ≤ (b.length : Int) by omega), Option.bind_some, List.length_nil, List.nil_append, if_pos (show 0 + ((b.take (x + 1 + rd b x).toNat).drop (x + 1).toNat).length < 140737488355328 by omega)]
  exact Ev.now _
theorem spec_GetTlv_j1_no (b : List Int) (a x : Int) : Ev (fun k => spec_GetTlv.j1 k b a x true) no4 := by
  refine Ev.succ ?_
  simp only [spec_GetTlv.j1]
  simp only [if_true]
  exact Ev.now _
theorem spec_GetTlv_j0_no (b : List Int) (a : Int) : Ev (fun k => spec_GetTlv.j0 k b a true) no4 := by
  refine Ev.succ ?_
  simp only [spec_GetTlv.j0]
  simp only [if_true]
  exact Ev.now _
theorem spec_GetTlv_j0_ev (b : List Int) (a : Int) (hb : ∀ y ∈ b, 0 ≤ y ∧ y ≤ 255) (hl : b.length ≤ 1048576) (ha : ¬ (a < 0 ∨ a + 1 ≥ (b.length : Int))) : Ev (fun k => spec_GetTlv.j0 k b a false) (getTlv b a) := by
  obtain ⟨n0, n1⟩ := rd_bd b hb (a + 1)
  obtain ⟨m0, m1⟩ := rd_bd b hb a
  refine Ev.succ ?_
  simp only [spec_GetTlv.j0]
  simp only [Bool.false_eq_true, if_false, w64 (x := a + 1) (by omega) (by omega), w64 (x := a + 2) (by omega) (by omega), if_pos (show 0 ≤ a + 1 by omega), if_pos (show a + 1 < (b.length : Int) by omega), w64 (x := rd b (a + 1)) (by omega) (by omega)]
  unfold getTlv
  simp only [if_neg ha]
  by_cases c : rd b (a + 1) > 127
  · simp only [if_pos c, if_pos (show rd b (a + 1) > 127 by omega)]
    refine Ev.ite (fun _ => ?_) (fun _ => spec_GetTlv_j1_no _ _ _)
    refine Ev.ite (fun _ => spec_GetTlv_j1_no _ _ _) (fun d => ?_)
    simp only [if_pos (show 0 ≤ a + 2 by omega), if_pos (show a + 2 < (b.length : Int) by omega)]
    by_cases e : rd b (a + 2) < 128
    · rw [decide_eq_true e, if_pos e]
      exact spec_GetTlv_j1_no _ _ _
    · rw [decide_eq_false e, if_neg e]
      exact spec_GetTlv_j1_ev b a (a + 2) hb hl (by omega) (by omega)
  · simp only [if_neg c, if_neg (show ¬ rd b (a + 1) > 127 by omega)]
    unfold tlvTail no4
    simp only [show a + 1 + 1 = a + 2 by omega, w64 (x := (b.length : Int) - (a + 2)) (by omega) (by omega), w64 (x := a + 2 + rd b (a + 1)) (by omega) (by omega), w64 (x := rd b a) (by omega) (by omega), if_pos (show 0 ≤ a by omega), if_pos (show a < (b.length : Int) by omega)]
    by_cases c1 : rd b (a + 1) > 250
    · simp only [if_pos c1]
      exact Ev.now _
    by_cases c2 : rd b (a + 1) > (b.length : Int) - (a + 2)
    · simp only [if_neg c1, if_pos c2]
      exact Ev.now _
    have hc := cut_le b (a + 2 + rd b (a + 1)).toNat (a + 2).toNat
    simp only [if_neg c1, if_neg c2, if_pos (show 0 ≤ a + 2 by omega), if_pos (show a + 2 ≤ a + 2 + rd b (a + 1) by omega), if_pos (show a + 2 + rd b (a + 1) ≤ (b.length : Int) by omega), Option.bind_some, List.length_nil, List.nil_append, if_pos (show 0 + ((b.take (a + 2 + rd b (a + 1)).toNat).drop (a + 2).toNat).length < 140737488355328 by omega)]
    exact Ev.now _
theorem sGetTlv_ev (b : List Int) (a : Int) (hb : ∀ y ∈ b, 0 ≤ y ∧ y ≤ 255) (hl : b.length ≤ 1048576) (hw : -9223372036854775808 ≤ a ∧ a ≤ 9223372036854775807) : Ev (fun k => spec_GetTlv.f k b a) (getTlv b a) := by
  unfold spec_GetTlv.f
  by_cases c : a < 0 ∨ a + 1 ≥ (b.length : Int)
  · have e : getTlv b a = no4 := by unfold getTlv; rw [if_pos c]
    rw [e]
    by_cases c1 : a < 0
    · simp only [if_pos c1]
      exact spec_GetTlv_j0_no _ _
    · by_cases c2 : a ≥ (b.length : Int)
      · simp only [if_neg c1, if_pos c2]
        exact spec_GetTlv_j0_no _ _
      · simp only [if_neg c1, if_neg c2, w64 (x := a + 1) (by omega) (by omega), decide_eq_true (show a + 1 ≥ (b.length : Int) by omega)]
        exact spec_GetTlv_j0_no _ _
  · simp only [if_neg (show ¬ a < 0 by omega), if_neg (show ¬ a ≥ (b.length : Int) by omega), w64 (x := a + 1) (by omega) (by omega), decide_eq_false (show ¬ a + 1 ≥ (b.length : Int) by omega)]
    exact spec_GetTlv_j0_ev b a hb hl c

theorem impl_GetTlv_j1_ev (b : List Int) (a x : Int) (hb : ∀ y ∈ b, 0 ≤ y ∧ y ≤ 255) (hl : b.length ≤ 1048576) (ha : 0 ≤ a ∧ a < (b.length : Int)) (hx : 0 ≤ x ∧ x < (b.length : Int)) : Ev (fun k => impl_GetTlv.j1 k b a x false) (tlvTail b a x) := by
  obtain ⟨n0, n1⟩ := rd_bd b hb x
  obtain ⟨m0, m1⟩ := rd_bd b hb a
  refine Ev.succ ?_
  simp only [impl_GetTlv.j1]
  simp only [Bool.false_eq_true, if_false, if_pos hx.1, if_pos hx.2, if_pos ha.1, if_pos ha.2, w64 (x := rd b x) (by omega) (by omega), w64 (x := rd b a) (by omega) (by omega), w64 (x := x + 1) (by omega) (by omega), w64 (x := (b.length : Int) - (x + 1)) (by omega) (by omega), w64 (x := x + 1 + rd b x) (by omega) (by omega)]
  unfold tlvTail no4
  by_cases c1 : rd b x > 250
  · simp only [if_pos c1]
    exact Ev.now _
  by_cases c2 : rd b x > (b.length : Int) - (x + 1)
  · simp only [if_neg c1, if_pos c2]
    exact Ev.now _
  have hc := cut_le b (x + 1 + rd b x).toNat (x + 1).toNat
  simp only [if_neg c1, if_neg c2, if_pos (show 0 ≤ x + 1 by omega), if_pos (show x + 1 ≤ x + 1 + rd b x by omega), if_pos (show x + 1 + rd b x ≤ (b.length : Int) by omega), impl_copyBytes.f, Option.bind_some, List.length_nil, List.nil_append, if_pos (show 0 + ((b.take (x + 1 + rd b x).toNat).drop (x + 1).toNat).length < 140737488355328 by omega)]
  exact Ev.now _
theorem impl_GetTlv_j1_no (b : List Int) (a x : Int) : Ev (fun k => impl_GetTlv.j1 k b a x true) no4 := by
  refine Ev.succ ?_
  simp only [impl_GetTlv.j1]
  simp only [if_true]
  exact Ev.now _
theorem impl_GetTlv_j0_no (b : List Int) (a : Int) : Ev (fun k => impl_GetTlv.j0 k b a true) no4 := by
  refine Ev.succ ?_
  simp only [impl_GetTlv.j0]
  simp only [if_true]
  exact Ev.now _
theorem impl_GetTlv_j0_ev (b : List Int) (a : Int) (hb : ∀ y ∈ b, 0 ≤ y ∧ y ≤ 255) (hl : b.length ≤ 1048576) (ha : ¬ (a < 0 ∨ a + 1 ≥ (b.length : Int))) : Ev (fun k => impl_GetTlv.j0 k b a false) (getTlv b a) := by
  obtain ⟨n0, n1⟩ := rd_bd b hb (a + 1)
  obtain ⟨m0, m1⟩ := rd_bd b hb a
  refine Ev.succ ?_
  simp only [impl_GetTlv.j0]
  simp only [Bool.false_eq_true, if_false, w64 (x := a + 1) (by omega) (by omega), w64 (x := a + 2) (by omega) (by omega), if_pos (show 0 ≤ a + 1 by omega), if_pos (show a + 1 < (b.length : Int) by omega), w64 (x := rd b (a + 1)) (by omega) (by omega)]
  unfold getTlv
  simp only [if_neg ha]
  by_cases c : rd b (a + 1) > 127
  · simp only [if_pos c, if_pos (show rd b (a + 1) ≥ 128 by omega)]
    refine Ev.ite (fun _ => ?_) (fun _ => impl_GetTlv_j1_no _ _ _)
    refine Ev.ite (fun _ => impl_GetTlv_j1_no _ _ _) (fun d => ?_)
    simp only [if_pos (show 0 ≤ a + 2 by omega), if_pos (show a + 2 < (b.length : Int) by omega)]
    by_cases e : rd b (a + 2) < 128
    · rw [decide_eq_true e, if_pos e]
      exact impl_GetTlv_j1_no _ _ _
    · rw [decide_eq_false e, if_neg e]
      exact impl_GetTlv_j1_ev b a (a + 2) hb hl (by omega) (by omega)
  · simp only [if_neg c, if_neg (show ¬ rd b (a + 1) ≥ 128 by omega)]
    unfold tlvTail no4
    simp only [show a + 1 + 1 = a + 2 by omega, w64 (x := (b.length : Int) - (a + 2)) (by omega) (by omega), w64 (x := a + 2 + rd b (a + 1)) (by omega) (by omega), w64 (x := rd b a) (by omega) (by omega), if_pos (show 0 ≤ a by omega), if_pos (show a < (b.length : Int) by omega)]
    by_cases c1 : rd b (a + 1) > 250
    · simp only [if_pos c1]
      exact Ev.now _
    by_cases c2 : rd b (a + 1) > (b.length : Int) - (a + 2)
    · simp only [if_neg c1, if_pos c2]
      exact Ev.now _
    have hc := cut_le b (a + 2 + rd b (a + 1)).toNat (a + 2).toNat
    simp only [if_neg c1, if_neg c2, if_pos (show 0 ≤ a + 2 by omega), if_pos (show a + 2 ≤ a + 2 + rd b (a + 1) by omega), if_pos (show a + 2 + rd b (a + 1) ≤ (b.length : Int) by omega), impl_copyBytes.f, Option.bind_some, List.length_nil, List.nil_append, if_pos (show 0 + ((b.take (a + 2 + rd b (a + 1)).toNat).drop (a + 2).toNat).length < 140737488355328 by omega)]
    exact Ev.now _
theorem iGetTlv_ev (b : List Int) (a : Int) (hb : ∀ y ∈ b, 0 ≤ y ∧ y ≤ 255) (hl : b.length ≤ 1048576) (hw : -9223372036854775808 ≤ a ∧ a ≤ 9223372036854775807) : Ev (fun k => impl_GetTlv.f k b a) (getTlv b a) := by
  unfold impl_GetTlv.f
  by_cases c : a < 0 ∨ a + 1 ≥ (b.length : Int)
  · have e : getTlv b a = no4 := by unfold getTlv; rw [if_pos c]
    rw [e]
    by_cases c1 : a < 0
    · simp only [if_pos c1]
      exact impl_GetTlv_j0_no _ _
    · simp only [if_neg c1, w64 (x := (b.length : Int) - 2) (by omega) (by omega), decide_eq_true (show a > (b.length : Int) - 2 by omega)]
      exact impl_GetTlv_j0_no _ _
  · simp only [if_neg (show ¬ a < 0 by omega), w64 (x := (b.length : Int) - 2) (by omega) (by omega), decide_eq_false (show ¬ a > (b.length : Int) - 2 by omega)]
    exact impl_GetTlv_j0_ev b a hb hl c

def vecOk (a b c d e : Int) : Bool := decide (1 ≤ a ∧ a ≤ 99) && (decide (0 ≤ b ∧ b ≤ 100000) && (decide (0 ≤ c ∧ c ≤ 10) && (decide (1 ≤ d ∧ d ≤ 99) && decide (0 ≤ e ∧ e ≤ 7))))

theorem sVecOk_eq (a b c d e : Int) : spec_VecOk.f a b c d e = some (vecOk a b c d e) := by
  unfold spec_VecOk.f vecOk
  simp only [l1In_eq, Option.bind_some]
  generalize decide (1 ≤ a ∧ a ≤ 99) = p1
  generalize decide (0 ≤ b ∧ b ≤ 100000) = p2
  generalize decide (0 ≤ c ∧ c ≤ 10) = p3
  generalize decide (1 ≤ d ∧ d ≤ 99) = p4
  generalize decide (0 ≤ e ∧ e ≤ 7) = p5
  cases p1 <;> cases p2 <;> cases p3 <;> cases p4 <;> cases p5 <;> rfl

theorem iVecOk_eq (a b c d e : Int) : impl_VecOk.f a b c d e = some (vecOk a b c d e) := by
  unfold impl_VecOk.f vecOk
  simp only [in_eq, Option.bind_some]
  generalize decide (1 ≤ a ∧ a ≤ 99) = p1
  generalize decide (0 ≤ b ∧ b ≤ 100000) = p2
  generalize decide (0 ≤ c ∧ c ≤ 10) = p3
  generalize decide (1 ≤ d ∧ d ≤ 99) = p4
  generalize decide (0 ≤ e ∧ e ≤ 7) = p5
  cases p1 <;> cases p2 <;> cases p3 <;> cases p4 <;> cases p5 <;> rfl

def partP (l : List Int) (p : Int) (b : Bool) (t : Int) : List Int × Int × Bool :=
  if b = true then ([], p, true) else if (getTlv l p).2.2.2 = true then (if (getTlv l p).1 = t then ((getTlv l p).2.1, (getTlv l p).2.2.1, b) else ([], p, true)) else ([], p, true)
def numP (l : List Int) (p : Int) (b : Bool) (t : Int) : Int × Int × Bool :=
  if (partP l p b t).2.2 = true then ((getInt (partP l p b t).1).1, (partP l p b t).2.1, true) else ((getInt (partP l p b t).1).1, (partP l p b t).2.1, !(getInt (partP l p b t).1).2)
theorem tlvTail_in (l : List Int) (a x : Int) (hb : ∀ y ∈ l, 0 ≤ y ∧ y ≤ 255) (hx : -1 ≤ x) : (0 ≤ (tlvTail l a x).2.2.1 ∧ (tlvTail l a x).2.2.1 ≤ (l.length : Int)) ∧ ∀ y ∈ (tlvTail l a x).2.1, 0 ≤ y ∧ y ≤ 255 := by
  have hr := rd_bd l hb x
  unfold tlvTail no4
  split
  · exact ⟨⟨by simp, by simp⟩, by simp⟩
  · split
    · exact ⟨⟨by simp, by simp⟩, by simp⟩
    · exact ⟨⟨by show 0 ≤ x + 1 + rd l x; omega, by show x + 1 + rd l x ≤ _; omega⟩, fun y hy => hb y (List.mem_of_mem_take (List.mem_of_mem_drop hy))⟩
theorem getTlv_in (l : List Int) (a : Int) (hb : ∀ y ∈ l, 0 ≤ y ∧ y ≤ 255) : (0 ≤ (getTlv l a).2.2.1 ∧ (getTlv l a).2.2.1 ≤ (l.length : Int)) ∧ ∀ y ∈ (getTlv l a).2.1, 0 ≤ y ∧ y ≤ 255 := by
  have hz : (0 ≤ no4.2.2.1 ∧ no4.2.2.1 ≤ (l.length : Int)) ∧ ∀ y ∈ no4.2.1, 0 ≤ y ∧ y ≤ 255 := ⟨⟨by simp [no4], by simp [no4]⟩, by simp [no4]⟩
  unfold getTlv
  split
  · exact hz
  · rename_i h
    split
    · split
      · split
        · exact hz
        · split
          · exact hz
          · exact tlvTail_in l a _ hb (by omega)
      · exact hz
    · exact tlvTail_in l a _ hb (by omega)
theorem partP_in (l : List Int) (p : Int) (b : Bool) (t : Int) (hb : ∀ y ∈ l, 0 ≤ y ∧ y ≤ 255) (hp : 0 ≤ p ∧ p ≤ (l.length : Int)) : (0 ≤ (partP l p b t).2.1 ∧ (partP l p b t).2.1 ≤ (l.length : Int)) ∧ (∀ y ∈ (partP l p b t).1, 0 ≤ y ∧ y ≤ 255) ∧ (partP l p b t).1.length ≤ l.length := by
  have h := getTlv_in l p hb
  have hl := getTlv_len l p
  unfold partP
  split
  · exact ⟨hp, by simp, by simp⟩
  · split
    · split
      · exact ⟨h.1, h.2, hl⟩
      · exact ⟨hp, by simp, by simp⟩
    · exact ⟨hp, by simp, by simp⟩
theorem numP_in (l : List Int) (p : Int) (b : Bool) (t : Int) (hb : ∀ y ∈ l, 0 ≤ y ∧ y ≤ 255) (hp : 0 ≤ p ∧ p ≤ (l.length : Int)) : 0 ≤ (numP l p b t).2.1 ∧ (numP l p b t).2.1 ≤ (l.length : Int) := by
  have h := (partP_in l p b t hb hp).1
  unfold numP
  split
  · exact h
  · exact h
theorem sPart_ev (l : List Int) (p : Int) (b : Bool) (t : Int) (hb : ∀ y ∈ l, 0 ≤ y ∧ y ≤ 255) (hl : l.length ≤ 1048576) (hp : 0 ≤ p ∧ p ≤ (l.length : Int)) : Ev (fun k => spec_l4Part.f k l p b t) (partP l p b t) := by
  unfold spec_l4Part.f partP
  refine Ev.bind (sGetTlv_ev l p hb hl (by omega)) ?_
  exact Ev.ite (fun _ => Ev.now _) (fun _ => Ev.ite (fun _ => Ev.ite (fun _ => Ev.now _) (fun _ => Ev.now _)) (fun _ => Ev.now _))
theorem iPart_ev (l : List Int) (p : Int) (b : Bool) (t : Int) (hb : ∀ y ∈ l, 0 ≤ y ∧ y ≤ 255) (hl : l.length ≤ 1048576) (hp : 0 ≤ p ∧ p ≤ (l.length : Int)) : Ev (fun k => impl_parts_part.f k l p b t) (partP l p b t) := by
  unfold impl_parts_part.f partP
  refine Ev.bind (iGetTlv_ev l p hb hl (by omega)) ?_
  exact Ev.ite (fun _ => Ev.now _) (fun _ => Ev.ite (fun _ => Ev.ite (fun _ => Ev.now _) (fun _ => Ev.now _)) (fun _ => Ev.now _))
theorem iNum_ev (l : List Int) (p : Int) (b : Bool) (t : Int) (hb : ∀ y ∈ l, 0 ≤ y ∧ y ≤ 255) (hl : l.length ≤ 1048576) (hp : 0 ≤ p ∧ p ≤ (l.length : Int)) : Ev (fun k => impl_parts_num.f k l p b t) (numP l p b t) := by
  obtain ⟨_, h1, h2⟩ := partP_in l p b t hb hp
  unfold impl_parts_num.f numP
  refine Ev.bind (iPart_ev l p b t hb hl hp) (Ev.bind (iGetInt_ev _ h1 (by omega)) ?_)
  exact Ev.ite (fun _ => Ev.now _) (fun _ => Ev.now _)

theorem sNum_ev (l : List Int) (p : Int) (b : Bool) (hb : ∀ y ∈ l, 0 ≤ y ∧ y ≤ 255) (hl : l.length ≤ 1048576) (hp : 0 ≤ p ∧ p ≤ (l.length : Int)) : Ev (fun k => spec_l4Num.f k l p b) (numP l p b 2) := by
  obtain ⟨_, h1, h2⟩ := partP_in l p b 2 hb hp
  unfold spec_l4Num.f numP
  refine Ev.bind (sPart_ev l p b 2 hb hl hp) (Ev.bind (sGetInt_ev _ h1 (by omega)) ?_)
  exact Ev.ite (fun _ => Ev.now _) (fun _ => Ev.now _)

theorem num_both (l : List Int) (p : Int) (b : Bool) (hb : ∀ y ∈ l, 0 ≤ y ∧ y ≤ 255) (hl : l.length ≤ 1048576) (hp : 0 ≤ p ∧ p ≤ (l.length : Int)) : ∃ R, R = numP l p b 2 ∧ Ev (fun k => spec_l4Num.f k l p b) R ∧ Ev (fun k => impl_parts_num.f k l p b 2) R ∧ 0 ≤ R.2.1 ∧ R.2.1 ≤ (l.length : Int) :=
  ⟨_, rfl, sNum_ev l p b hb hl hp, iNum_ev l p b 2 hb hl hp, numP_in l p b 2 hb hp⟩
theorem getVec_both (l : List Int) (hb : ∀ y ∈ l, 0 ≤ y ∧ y ≤ 255) (hl : l.length ≤ 1048576) : ∃ R, Ev (fun k => spec_GetVec.f k l) R ∧ Ev (fun k => impl_GetVec.f k l) R := by
  obtain ⟨a, ea, s1, i1, h1⟩ := num_both l 0 false hb hl ⟨by omega, by omega⟩
  obtain ⟨b, eb, s2, i2, h2⟩ := num_both l a.2.1 a.2.2 hb hl h1
  obtain ⟨c, ec, s3, i3, h3⟩ := num_both l b.2.1 b.2.2 hb hl h2
  obtain ⟨d, ed, s4, i4, h4⟩ := num_both l c.2.1 c.2.2 hb hl h3
  obtain ⟨e, ee, s5, i5, h5⟩ := num_both l d.2.1 d.2.2 hb hl h4
  clear ea eb ec ed ee
  unfold spec_GetVec.f impl_GetVec.f
  refine ⟨if e.2.2 = true then (0, 0, 0, 0, 0, false) else if e.2.1 = (l.length : Int) then (if vecOk a.1 b.1 c.1 d.1 e.1 = true then (a.1, b.1, c.1, d.1, e.1, true) else (0, 0, 0, 0, 0, false)) else (0, 0, 0, 0, 0, false), Ev.bind s1 (Ev.bind s2 (Ev.bind s3 (Ev.bind s4 (Ev.bind s5 ?_)))), Ev.bind i1 (Ev.bind i2 (Ev.bind i3 (Ev.bind i4 (Ev.bind i5 ?_))))⟩
  · simp only [sVecOk_eq, Option.bind_some]
    exact Ev.ite (fun _ => Ev.now _) (fun _ => Ev.ite (fun _ => Ev.ite (fun _ => Ev.now _) (fun _ => Ev.now _)) (fun _ => Ev.now _))
  · simp only [impl_parts_done.f, iVecOk_eq, Option.bind_some]
    by_cases h : e.2.2 = true
    · simp only [if_pos h, Option.bind_some, Bool.false_eq_true, if_false]
      exact Ev.now _
    · simp only [if_neg h, Option.bind_some, beq_iff_eq]
      exact Ev.ite (fun _ => Ev.ite (fun _ => Ev.now _) (fun _ => Ev.now _)) (fun _ => Ev.now _)

theorem toByteS_loop (rest : List Int) : ∀ (pre : List Int) (k : Nat), pre.length + rest.length ≤ 1099511627776 → rest.length < k →
    laws_toByteS.l0 k (pre ++ rest) (pre ++ List.replicate rest.length 0) (pre.length : Int) = some (pre ++ rest) := by
  induction rest with
  | nil =>
    intro pre k _ hk
    obtain ⟨k, rfl⟩ := succ_of hk
    simp only [laws_toByteS.l0]
    rw [if_neg (by simp only [List.length_append, List.length_nil]; omega)]
    simp
  | cons r rest ih =>
    intro pre k hn hk
    obtain ⟨k, rfl⟩ := succ_of hk
    simp only [List.length_cons] at hn hk
    simp only [laws_toByteS.l0]
    rw [if_pos (by simp only [List.length_append, List.length_cons]; omega), if_pos (by omega), if_pos (by simp only [List.length_append, List.length_cons, List.length_replicate]; omega), rd_mid, List.length_cons, List.replicate_succ, set_mid, w64 (by omega) (by omega)]
    have h := ih (pre ++ [r]) k (by simp only [List.length_append, List.length_cons, List.length_nil]; omega) (by omega)
    simpa using h
theorem toByteS_ev (xs : List Int) (h : xs.length ≤ 1048576) : Ev (fun k => laws_toByteS.f k xs) xs := by
  refine Ev.at_ xs.length fun k hk => ?_
  simp only [laws_toByteS.f]
  rw [if_pos (by omega), if_pos (by omega)]
  have h := toByteS_loop xs [] k (by simp only [List.length_nil]; omega) hk
  simpa using h

theorem eqByteS_loop (a : List Int) : ∀ (b pre pre' : List Int) (k : Nat), pre.length = pre'.length → a.length = b.length → pre.length + a.length ≤ 1099511627776 → a.length < k →
    laws_eqByteS.l0 k (pre ++ a) (pre' ++ b) (pre.length : Int) = some (decide (a = b)) := by
  induction a with
  | nil =>
    intro b pre pre' k hp hab hn hk
    obtain ⟨k, rfl⟩ := succ_of hk
    obtain rfl : b = [] := List.eq_nil_of_length_eq_zero hab.symm
    simp only [laws_eqByteS.l0]
    rw [if_neg (by simp only [List.length_append, List.length_nil] at *; omega)]
    simp
  | cons r a ih =>
    intro b pre pre' k hp hab hn hk
    obtain ⟨k, rfl⟩ := succ_of hk
    cases b with
    | nil => simp at hab
    | cons s b =>
      simp only [List.length_cons] at hab hn hk
      simp only [laws_eqByteS.l0]
      have e : rd (pre' ++ s :: b) (pre.length : Int) = s := by rw [hp, rd_mid]
      rw [if_pos (by simp only [List.length_append, List.length_cons]; omega), if_pos (by omega), if_pos (by simp only [List.length_append, List.length_cons]; omega), rd_mid, e]
      by_cases hrs : r = s
      · subst hrs
        rw [if_pos rfl, w64 (by omega) (by omega)]
        have h := ih b (pre ++ [r]) (pre' ++ [r]) k (by simp [hp]) (by omega) (by simp only [List.length_append, List.length_cons, List.length_nil]; omega) (by omega)
        simpa using h
      · rw [if_neg hrs]
        simp [hrs]
theorem eqByteS_ev (a b : List Int) (h : a.length ≤ 1099511627776) : Ev (fun k => laws_eqByteS.f k a b) (decide (a = b)) := by
  refine Ev.at_ a.length fun k hk => ?_
  simp only [laws_eqByteS.f]
  by_cases e : a.length = b.length
  · rw [if_pos (by omega)]
    have h := eqByteS_loop a b [] [] k rfl e (by simp only [List.length_nil]; omega) hk
    simpa using h
  · rw [if_neg (by omega)]
    have hne : ¬ a = b := fun h => e (by rw [h])
    simp [hne]

theorem eqVec_eq (a b c d e : Int) : laws_eqVec.f a b c d e a b c d e = some true := by
  unfold laws_eqVec.f
  simp only [if_true]

theorem FnExactGetVec : laws_FnExactGetVec.Pure := by
  intro l0 _ hw
  refine Ev.rounds ?_
  unfold laws_FnExactGetVec.f
  by_cases bl0 : (l0.length : Int) > 1048576
  · simp only [if_pos bl0]; exact Ev.now _
  simp only [if_neg bl0]
  have hb : ∀ y ∈ l0, 0 ≤ y ∧ y ≤ 255 := fun y hy => wf8 (hw y hy)
  obtain ⟨R, hs, hi⟩ := getVec_both l0 hb (by omega)
  repeat' first
    | exact Ev.now _
    | (with_reducible refine Ev.bind hs ?_)
    | (with_reducible refine Ev.bind hi ?_)
    | ((with_reducible refine Ev.bind (toByteS_ev _ ?s0) ?_); (case s0 => omega))
    | ((with_reducible refine Ev.bind (eqByteS_ev _ _ ?s0) ?_); (case s0 => omega))
    | simp only [bne_self_eq_false, Bool.false_eq_true, Bool.not_true, Bool.not_false, decide_true, Option.bind_some, ↓reduceIte, eqVec_eq]
    | (refine Ev.succ ?_; simp only [laws_FnExactGetVec.j0])

end Go.Proofs.Ytebffdmkfkfoaaa.Pure
