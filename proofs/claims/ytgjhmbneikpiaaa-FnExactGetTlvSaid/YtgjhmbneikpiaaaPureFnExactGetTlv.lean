/- The pure side of FnExactGetTlv: the program's GetTlv and the reference's agree at all arguments. No conditions but those of the given statement. -/
import Derived.Test.YtgjhmbneikpiaaaXFnExactGetTlvx5
namespace Go.Proofs.Ytgjhmbneikpiaaa.Pure
open Go.RowKit Go.Proofs.Ytgjhmbneikpiaaa.XFnExactGetTlv Go.Proofs.YtgjhmbneikpiaaaW.PrintWords Go.Proofs.YtgjhmbneikpiaaaW.PrintLast Go.Proofs.YtgjhmbneikpiaaaW.PrintMore
set_option linter.unusedVariables false
set_option linter.unusedSimpArgs false

theorem w64 {x : Int} (h0 : -9223372036854775808 ≤ x) (h1 : x ≤ 9223372036854775807) : wrap64 x = x := by
  unfold wrap64
  omega
theorem wf64 {x : Int} (h : (Lit.int .i64 x).wf = true) : -9223372036854775808 ≤ x ∧ x ≤ 9223372036854775807 := by
  simp only [Lit.wf, Bool.and_eq_true, decide_eq_true_eq] at h
  exact h
theorem wf8 {x : Int} (h : (Lit.int .u8 x).wf = true) : 0 ≤ x ∧ x ≤ 255 := by
  simp only [Lit.wf, Bool.and_eq_true, decide_eq_true_eq] at h
  exact h
theorem rd_mid (pre rest : List Int) (r : Int) : rd (pre ++ r :: rest) (pre.length : Int) = r := by
  unfold rd
  simp [List.getD_eq_getElem?_getD]
theorem set_mid {α : Type} (pre rest : List α) (r v : α) : (pre ++ r :: rest).set (pre.length : Int).toNat v = pre ++ v :: rest := by
  rw [Int.toNat_natCast, List.set_append_right _ _ (Nat.le_refl _)]
  simp
theorem succ_of {d k : Nat} (h : d < k) : ∃ m, k = m + 1 := ⟨k - 1, by omega⟩
theorem Ev.at_ {α : Type} {g : Nat → Option α} {r : α} (n : Nat) (h : ∀ k, n < k → g k = some r) : Ev g r := ⟨n + 1, fun k hk => h k (by omega)⟩
theorem Ev.some_ {α : Type} {v : Option α} {r : α} (h : v = some r) : Ev (fun _ => v) r := ⟨0, fun _ _ => h⟩
theorem Ev.succ {α : Type} {g : Nat → Option α} {r : α} (h : Ev (fun k => g (k + 1)) r) : Ev g r := by
  obtain ⟨K, h⟩ := h
  refine ⟨K + 1, fun n hn => ?_⟩
  obtain ⟨m, rfl⟩ : ∃ m, n = m + 1 := ⟨n - 1, by omega⟩
  exact h m (by omega)
theorem Ev.some_const {α : Type} {g : Nat → Option α} {r : α} (h : ∀ k, g k = some r) : Ev g r := ⟨0, fun k _ => h k⟩

theorem toByteS_loop (rest : List Int) : ∀ (pre : List Int) (k : Nat), pre.length + rest.length ≤ 1099511627776 → rest.length < k →
    laws_toByteS.l0 k (pre ++ rest) (pre ++ List.replicate rest.length 0) (pre.length : Int) = some (pre ++ rest) := by
  induction rest with
  | nil =>
    intro pre k _ hk
    obtain ⟨k, rfl⟩ := succ_of hk
    simp only [laws_toByteS.l0]
    rw [if_neg (by simp only [List.length_append, List.length_nil]; omega)]
    simp
  | cons r rest ih =>
    intro pre k hn hk
    obtain ⟨k, rfl⟩ := succ_of hk
    simp only [List.length_cons] at hn hk
    simp only [laws_toByteS.l0]
    rw [if_pos (by simp only [List.length_append, List.length_cons]; omega), if_pos (by omega), if_pos (by simp only [List.length_append, List.length_cons, List.length_replicate]; omega), rd_mid, List.length_cons, List.replicate_succ, set_mid, w64 (by omega) (by omega)]
    have h := ih (pre ++ [r]) k (by simp only [List.length_append, List.length_cons, List.length_nil]; omega) (by omega)
    simpa using h
theorem toByteS_ev (xs : List Int) (h : xs.length ≤ 1048576) : Ev (fun k => laws_toByteS.f k xs) xs := by
  refine Ev.at_ xs.length fun k hk => ?_
  simp only [laws_toByteS.f]
  rw [if_pos (by omega), if_pos (by omega)]
  have h := toByteS_loop xs [] k (by simp only [List.length_nil]; omega) hk
  simpa using h

theorem eqByteS_loop (a : List Int) : ∀ (b pre pre' : List Int) (k : Nat), pre.length = pre'.length → a.length = b.length → pre.length + a.length ≤ 1099511627776 → a.length < k →
    laws_eqByteS.l0 k (pre ++ a) (pre' ++ b) (pre.length : Int) = some (decide (a = b)) := by
  induction a with
  | nil =>
    intro b pre pre' k hp hab hn hk
    obtain ⟨k, rfl⟩ := succ_of hk
    obtain rfl : b = [] := List.eq_nil_of_length_eq_zero hab.symm
    simp only [laws_eqByteS.l0]
    rw [if_neg (by simp only [List.length_append, List.length_nil] at *; omega)]
    simp
  | cons r a ih =>
    intro b pre pre' k hp hab hn hk
    obtain ⟨k, rfl⟩ := succ_of hk
    cases b with
    | nil => simp at hab
    | cons s b =>
      simp only [List.length_cons] at hab hn hk
      simp only [laws_eqByteS.l0]
      have e : rd (pre' ++ s :: b) (pre.length : Int) = s := by rw [hp, rd_mid]
      rw [if_pos (by simp only [List.length_append, List.length_cons]; omega), if_pos (by omega), if_pos (by simp only [List.length_append, List.length_cons]; omega), rd_mid, e]
      by_cases hrs : r = s
      · subst hrs
        rw [if_pos rfl, w64 (by omega) (by omega)]
        have h := ih b (pre ++ [r]) (pre' ++ [r]) k (by simp [hp]) (by omega) (by simp only [List.length_append, List.length_cons, List.length_nil]; omega) (by omega)
        simpa using h
      · rw [if_neg hrs]
        simp [hrs]
theorem eqByteS_ev (a b : List Int) (h : a.length ≤ 1099511627776) : Ev (fun k => laws_eqByteS.f k a b) (decide (a = b)) := by
  refine Ev.at_ a.length fun k hk => ?_
  simp only [laws_eqByteS.f]
  by_cases e : a.length = b.length
  · rw [if_pos (by omega)]
    have h := eqByteS_loop a b [] [] k rfl e (by simp only [List.length_nil]; omega) hk
    simpa using h
  · rw [if_neg (by omega)]
    have hne : ¬ a = b := fun h => e (by rw [h])
    simp [hne]

def marksByte : Int → Nat → List Int
  | _, 0 => []
  | m, d + 1 => (m % 256) :: marksByte (m + 1) d
theorem marksByte_length (m : Int) (d : Nat) : (marksByte m d).length = d := by
  induction d generalizing m with
  | zero => rfl
  | succ d ih => simp [marksByte, ih]
theorem markByteS_loop (rest : List Int) : ∀ (pre : List Int) (m : Int) (k : Nat), 0 ≤ m → m ≤ 1152921504606846976 - rest.length → pre.length + rest.length ≤ 1099511627776 → rest.length < k →
    laws_markByteS.l0 k (pre ++ rest) m (pre.length : Int) = some (m + rest.length, pre ++ marksByte m rest.length) := by
  induction rest with
  | nil =>
    intro pre m k _ _ _ hk
    obtain ⟨k, rfl⟩ := succ_of hk
    simp only [laws_markByteS.l0]
    rw [if_neg (by simp only [List.length_append, List.length_nil]; omega)]
    simp [marksByte]
  | cons r rest ih =>
    intro pre m k h0 h1 hn hk
    obtain ⟨k, rfl⟩ := succ_of hk
    simp only [List.length_cons] at h1 hn hk
    simp only [laws_markByteS.l0]
    rw [if_pos (by simp only [List.length_append, List.length_cons]; omega), if_pos (by omega), set_mid, w64 (x := m + 1) (by omega) (by omega), w64 (by omega) (by omega)]
    have h := ih (pre ++ [m % 256]) (m + 1) k (by omega) (by omega) (by simp only [List.length_append, List.length_cons, List.length_nil]; omega) (by omega)
    simp only [List.length_append, List.length_cons, List.length_nil, List.append_assoc, List.cons_append, List.nil_append] at h
    simp only [marksByte, List.length_cons]
    rw [show (pre.length : Int) + 1 = ((pre.length + (0 + 1) : Nat) : Int) from by omega, h]
    congr 2
    omega
theorem markByteS_ev (xs : List Int) (m : Int) (h0 : 0 ≤ m) (h1 : m ≤ 1099511627776) (h : xs.length ≤ 1099511627776) : Ev (fun k => laws_markByteS.f k xs m) (m + xs.length, marksByte m xs.length) := by
  refine Ev.at_ xs.length fun k hk => ?_
  simp only [laws_markByteS.f]
  have h := markByteS_loop xs [] m k h0 (by omega) (by simp only [List.length_nil]; omega) hk
  simpa using h
theorem heldByteS_loop (d : Nat) : ∀ (pre : List Int) (m : Int) (k : Nat), 0 ≤ m → m ≤ 1152921504606846976 - d → pre.length + d ≤ 1099511627776 → d < k →
    laws_heldByteS.l0 k (pre ++ marksByte m d) m (pre.length : Int) = some (m + d) := by
  induction d with
  | zero =>
    intro pre m k _ _ _ hk
    obtain ⟨k, rfl⟩ := succ_of hk
    simp only [marksByte]
    simp only [laws_heldByteS.l0]
    rw [if_neg (by simp only [List.length_append, List.length_nil]; omega)]
    simp
  | succ d ih =>
    intro pre m k h0 h1 hn hk
    obtain ⟨k, rfl⟩ := succ_of hk
    simp only [marksByte]
    simp only [laws_heldByteS.l0]
    rw [if_pos (by simp only [List.length_append, List.length_cons]; omega), if_pos (by omega), rd_mid, if_pos rfl, w64 (x := m + 1) (by omega) (by omega), w64 (by omega) (by omega)]
    have h := ih (pre ++ [m % 256]) (m + 1) k (by omega) (by omega) (by simp only [List.length_append, List.length_cons, List.length_nil]; omega) (by omega)
    simp only [List.length_append, List.length_cons, List.length_nil, List.append_assoc, List.cons_append, List.nil_append] at h
    rw [show (pre.length : Int) + 1 = ((pre.length + (0 + 1) : Nat) : Int) from by omega, h]
    congr 1
    omega
theorem heldByteS_ev (m : Int) (d : Nat) (h0 : 0 ≤ m) (h1 : m ≤ 1099511627776) (h : d ≤ 1099511627776) : Ev (fun k => laws_heldByteS.f k (marksByte m d) m) (m + d) := by
  refine Ev.at_ d fun k hk => ?_
  simp only [laws_heldByteS.f]
  have h := heldByteS_loop d [] m k h0 (by omega) (by simp only [List.length_nil]; omega) hk
  simpa using h

theorem Ev.ite {α : Type} {c : Prop} [Decidable c] {g1 g2 : Nat → Option α} {r1 r2 : α} (h1 : c → Ev g1 r1) (h2 : ¬ c → Ev g2 r2) : Ev (fun k => if c then g1 k else g2 k) (if c then r1 else r2) := by
  by_cases h : c
  · simp only [if_pos h]; exact h1 h
  · simp only [if_neg h]; exact h2 h

def no4 : Int × List Int × Int × Bool := (0, [], 0, false)
def tlvTail (b : List Int) (a x : Int) : Int × List Int × Int × Bool :=
  if rd b x > 250 then no4 else if rd b x > (b.length : Int) - (x + 1) then no4 else (rd b a, (b.take (x + 1 + rd b x).toNat).drop (x + 1).toNat, x + 1 + rd b x, true)
def getTlv (b : List Int) (a : Int) : Int × List Int × Int × Bool :=
  if a < 0 ∨ a + 1 ≥ (b.length : Int) then no4
  else if rd b (a + 1) > 127 then (if rd b (a + 1) = 129 then (if a + 2 ≥ (b.length : Int) then no4 else if rd b (a + 2) < 128 then no4 else tlvTail b a (a + 2)) else no4)
  else tlvTail b a (a + 1)
theorem getTlv_len (b : List Int) (a : Int) : (getTlv b a).2.1.length ≤ b.length := by
  have ht : ∀ x, (tlvTail b a x).2.1.length ≤ b.length := by
    intro x
    unfold tlvTail no4
    split
    · simp
    · split
      · simp
      · simp only [List.length_drop, List.length_take]
        omega
  have hz : (no4).2.1.length ≤ b.length := by simp [no4]
  unfold getTlv
  split
  · exact hz
  · split
    · split
      · split
        · exact hz
        · split
          · exact hz
          · exact ht _
      · exact hz
    · exact ht _
theorem rd_bd (b : List Int) (hb : ∀ y ∈ b, 0 ≤ y ∧ y ≤ 255) (x : Int) : 0 ≤ rd b x ∧ rd b x ≤ 255 := by
  unfold rd
  rw [List.getD_eq_getElem?_getD]
  cases h : b[x.toNat]? with
  | none => simp
  | some v =>
    have := hb v (List.mem_of_getElem? h)
    simpa using this
theorem cut_le (b : List Int) (p q : Nat) : ((b.take p).drop q).length ≤ b.length := by
  simp only [List.length_drop, List.length_take]
  omega

theorem spec_GetTlv_j1_ev (b : List Int) (a x : Int) (hb : ∀ y ∈ b, 0 ≤ y ∧ y ≤ 255) (hl : b.length ≤ 1048576) (ha : 0 ≤ a ∧ a < (b.length : Int)) (hx : 0 ≤ x ∧ x < (b.length : Int)) : Ev (fun k => spec_GetTlv.j1 k b a x false) (tlvTail b a x) := by
  obtain ⟨n0, n1⟩ := rd_bd b hb x
  obtain ⟨m0, m1⟩ := rd_bd b hb a
  refine Ev.succ ?_
  simp only [spec_GetTlv.j1]
  simp only [Bool.false_eq_true, if_false, if_pos hx.1, if_pos hx.2, if_pos ha.1, if_pos ha.2, w64 (x := rd b x) (by omega) (by omega), w64 (x := rd b a) (by omega) (by omega), w64 (x := x + 1) (by omega) (by omega), w64 (x := (b.length : Int) - (x + 1)) (by omega) (by omega), w64 (x := x + 1 + rd b x) (by omega) (by omega)]
  unfold tlvTail no4
  by_cases c1 : rd b x > 250
  · simp only [if_pos c1]
    exact Ev.now _
  by_cases c2 : rd b x > (b.length : Int) - (x + 1)
  · simp only [if_neg c1, if_pos c2]
    exact Ev.now _
  have hc := cut_le b (x + 1 + rd b x).toNat (x + 1).toNat
  simp only [if_neg c1, if_neg c2, if_pos (show 0 ≤ x + 1 by omega), if_pos (show x + 1 ≤ x + 1 + rd b x by omega), if_pos (show x + 1 + rd b x ≤ (b.length : Int) by omega), Option.bind_some, List.length_nil, List.nil_append, if_pos (show 0 + ((b.take (x + 1 + rd b x).toNat).drop (x + 1).toNat).length < 140737488355328 by omega)]
  exact Ev.now _
theorem spec_GetTlv_j1_no (b : List Int) (a x : Int) : Ev (fun k => spec_GetTlv.j1 k b a x true) no4 := by
  refine Ev.succ ?_
  simp only [spec_GetTlv.j1]
  simp only [if_true]
  exact Ev.now _
theorem spec_GetTlv_j0_no (b : List Int) (a : Int) : Ev (fun k => spec_GetTlv.j0 k b a true) no4 := by
  refine Ev.succ ?_
  simp only [spec_GetTlv.j0]
  simp only [if_true]
  exact Ev.now _
theorem spec_GetTlv_j0_ev (b : List Int) (a : Int) (hb : ∀ y ∈ b, 0 ≤ y ∧ y ≤ 255) (hl : b.length ≤ 1048576) (ha : ¬ (a < 0 ∨ a + 1 ≥ (b.length : Int))) : Ev (fun k => spec_GetTlv.j0 k b a false) (getTlv b a) := by
  obtain ⟨n0, n1⟩ := rd_bd b hb (a + 1)
  obtain ⟨m0, m1⟩ := rd_bd b hb a
  refine Ev.succ ?_
  simp only [spec_GetTlv.j0]
  simp only [Bool.false_eq_true, if_false, w64 (x := a + 1) (by omega) (by omega), w64 (x := a + 2) (by omega) (by omega), if_pos (show 0 ≤ a + 1 by omega), if_pos (show a + 1 < (b.length : Int) by omega), w64 (x := rd b (a + 1)) (by omega) (by omega)]
  unfold getTlv
  simp only [if_neg ha]
  by_cases c : rd b (a + 1) > 127
  · simp only [if_pos c, if_pos (show rd b (a + 1) > 127 by omega)]
    refine Ev.ite (fun _ => ?_) (fun _ => spec_GetTlv_j1_no _ _ _)
    refine Ev.ite (fun _ => spec_GetTlv_j1_no _ _ _) (fun d => ?_)
    simp only [if_pos (show 0 ≤ a + 2 by omega), if_pos (show a + 2 < (b.length : Int) by omega)]
    by_cases e : rd b (a + 2) < 128
    · rw [decide_eq_true e, if_pos e]
      exact spec_GetTlv_j1_no _ _ _
    · rw [decide_eq_false e, if_neg e]
      exact spec_GetTlv_j1_ev b a (a + 2) hb hl (by omega) (by omega)
  · simp only [if_neg c, if_neg (show ¬ rd b (a + 1) > 127 by omega)]
    unfold tlvTail no4
    simp only [show a + 1 + 1 = a + 2 by omega, w64 (x := (b.length : Int) - (a + 2)) (by omega) (by omega), w64 (x := a + 2 + rd b (a + 1)) (by omega) (by omega), w64 (x := rd b a) (by omega) (by omega), if_pos (show 0 ≤ a by omega), if_pos (show a < (b.length : Int) by omega)]
    by_cases c1 : rd b (a + 1) > 250
    · simp only [if_pos c1]
      exact Ev.now _
    by_cases c2 : rd b (a + 1) > (b.length : Int) - (a + 2)
    · simp only [if_neg c1, if_pos c2]
      exact Ev.now _
    have hc := cut_le b (a + 2 + rd b (a + 1)).toNat (a + 2).toNat
    simp only [if_neg c1, if_neg c2, if_pos (show 0 ≤ a + 2 by omega), if_pos (show a + 2 ≤ a + 2 + rd b (a + 1) by omega), if_pos (show a + 2 + rd b (a + 1) ≤ (b.length : Int) by omega), Option.bind_some, List.length_nil, List.nil_append, if_pos (show 0 + ((b.take (a + 2 + rd b (a + 1)).toNat).drop (a + 2).toNat).length < 140737488355328 by omega)]
    exact Ev.now _
theorem sGetTlv_ev (b : List Int) (a : Int) (hb : ∀ y ∈ b, 0 ≤ y ∧ y ≤ 255) (hl : b.length ≤ 1048576) (hw : -9223372036854775808 ≤ a ∧ a ≤ 9223372036854775807) : Ev (fun k => spec_GetTlv.f k b a) (getTlv b a) := by
  unfold spec_GetTlv.f
  by_cases c : a < 0 ∨ a + 1 ≥ (b.length : Int)
  · have e : getTlv b a = no4 := by unfold getTlv; rw [if_pos c]
    rw [e]
    by_cases c1 : a < 0
    · simp only [if_pos c1]
      exact spec_GetTlv_j0_no _ _
    · by_cases c2 : a ≥ (b.length : Int)
      · simp only [if_neg c1, if_pos c2]
        exact spec_GetTlv_j0_no _ _
      · simp only [if_neg c1, if_neg c2, w64 (x := a + 1) (by omega) (by omega), decide_eq_true (show a + 1 ≥ (b.length : Int) by omega)]
        exact spec_GetTlv_j0_no _ _
  · simp only [if_neg (show ¬ a < 0 by omega), if_neg (show ¬ a ≥ (b.length : Int) by omega), w64 (x := a + 1) (by omega) (by omega), decide_eq_false (show ¬ a + 1 ≥ (b.length : Int) by omega)]
    exact spec_GetTlv_j0_ev b a hb hl c

theorem impl_GetTlv_j1_ev (b : List Int) (a x : Int) (hb : ∀ y ∈ b, 0 ≤ y ∧ y ≤ 255) (hl : b.length ≤ 1048576) (ha : 0 ≤ a ∧ a < (b.length : Int)) (hx : 0 ≤ x ∧ x < (b.length : Int)) : Ev (fun k => impl_GetTlv.j1 k b a x false) (tlvTail b a x) := by
  obtain ⟨n0, n1⟩ := rd_bd b hb x
  obtain ⟨m0, m1⟩ := rd_bd b hb a
  refine Ev.succ ?_
  simp only [impl_GetTlv.j1]
  simp only [Bool.false_eq_true, if_false, if_pos hx.1, if_pos hx.2, if_pos ha.1, if_pos ha.2, w64 (x := rd b x) (by omega) (by omega), w64 (x := rd b a) (by omega) (by omega), w64 (x := x + 1) (by omega) (by omega), w64 (x := (b.length : Int) - (x + 1)) (by omega) (by omega), w64 (x := x + 1 + rd b x) (by omega) (by omega)]
  unfold tlvTail no4
  by_cases c1 : rd b x > 250
  · simp only [if_pos c1]
    exact Ev.now _
  by_cases c2 : rd b x > (b.length : Int) - (x + 1)
  · simp only [if_neg c1, if_pos c2]
    exact Ev.now _
  have hc := cut_le b (x + 1 + rd b x).toNat (x + 1).toNat
  simp only [if_neg c1, if_neg c2, if_pos (show 0 ≤ x + 1 by omega), if_pos (show x + 1 ≤ x + 1 + rd b x by omega), if_pos (show x + 1 + rd b x ≤ (b.length : Int) by omega), impl_copyBytes.f, Option.bind_some, List.length_nil, List.nil_append, if_pos (show 0 + ((b.take (x + 1 + rd b x).toNat).drop (x + 1).toNat).length < 140737488355328 by omega)]
  exact Ev.now _
theorem impl_GetTlv_j1_no (b : List Int) (a x : Int) : Ev (fun k => impl_GetTlv.j1 k b a x true) no4 := by
  refine Ev.succ ?_
  simp only [impl_GetTlv.j1]
  simp only [if_true]
  exact Ev.now _
theorem impl_GetTlv_j0_no (b : List Int) (a : Int) : Ev (fun k => impl_GetTlv.j0 k b a true) no4 := by
  refine Ev.succ ?_
  simp only [impl_GetTlv.j0]
  simp only [if_true]
  exact Ev.now _
theorem impl_GetTlv_j0_ev (b : List Int) (a : Int) (hb : ∀ y ∈ b, 0 ≤ y ∧ y ≤ 255) (hl : b.length ≤ 1048576) (ha : ¬ (a < 0 ∨ a + 1 ≥ (b.length : Int))) : Ev (fun k => impl_GetTlv.j0 k b a false) (getTlv b a) := by
  obtain ⟨n0, n1⟩ := rd_bd b hb (a + 1)
  obtain ⟨m0, m1⟩ := rd_bd b hb a
  refine Ev.succ ?_
  simp only [impl_GetTlv.j0]
  simp only [Bool.false_eq_true, if_false, w64 (x := a + 1) (by omega) (by omega), w64 (x := a + 2) (by omega) (by omega), if_pos (show 0 ≤ a + 1 by omega), if_pos (show a + 1 < (b.length : Int) by omega), w64 (x := rd b (a + 1)) (by omega) (by omega)]
  unfold getTlv
  simp only [if_neg ha]
  by_cases c : rd b (a + 1) > 127
  · simp only [if_pos c, if_pos (show rd b (a + 1) ≥ 128 by omega)]
    refine Ev.ite (fun _ => ?_) (fun _ => impl_GetTlv_j1_no _ _ _)
    refine Ev.ite (fun _ => impl_GetTlv_j1_no _ _ _) (fun d => ?_)
    simp only [if_pos (show 0 ≤ a + 2 by omega), if_pos (show a + 2 < (b.length : Int) by omega)]
    by_cases e : rd b (a + 2) < 128
    · rw [decide_eq_true e, if_pos e]
      exact impl_GetTlv_j1_no _ _ _
    · rw [decide_eq_false e, if_neg e]
      exact impl_GetTlv_j1_ev b a (a + 2) hb hl (by omega) (by omega)
  · simp only [if_neg c, if_neg (show ¬ rd b (a + 1) ≥ 128 by omega)]
    unfold tlvTail no4
    simp only [show a + 1 + 1 = a + 2 by omega, w64 (x := (b.length : Int) - (a + 2)) (by omega) (by omega), w64 (x := a + 2 + rd b (a + 1)) (by omega) (by omega), w64 (x := rd b a) (by omega) (by omega), if_pos (show 0 ≤ a by omega), if_pos (show a < (b.length : Int) by omega)]
    by_cases c1 : rd b (a + 1) > 250
    · simp only [if_pos c1]
      exact Ev.now _
    by_cases c2 : rd b (a + 1) > (b.length : Int) - (a + 2)
    · simp only [if_neg c1, if_pos c2]
      exact Ev.now _
    have hc := cut_le b (a + 2 + rd b (a + 1)).toNat (a + 2).toNat
    simp only [if_neg c1, if_neg c2, if_pos (show 0 ≤ a + 2 by omega), if_pos (show a + 2 ≤ a + 2 + rd b (a + 1) by omega), if_pos (show a + 2 + rd b (a + 1) ≤ (b.length : Int) by omega), impl_copyBytes.f, Option.bind_some, List.length_nil, List.nil_append, if_pos (show 0 + ((b.take (a + 2 + rd b (a + 1)).toNat).drop (a + 2).toNat).length < 140737488355328 by omega)]
    exact Ev.now _
theorem iGetTlv_ev (b : List Int) (a : Int) (hb : ∀ y ∈ b, 0 ≤ y ∧ y ≤ 255) (hl : b.length ≤ 1048576) (hw : -9223372036854775808 ≤ a ∧ a ≤ 9223372036854775807) : Ev (fun k => impl_GetTlv.f k b a) (getTlv b a) := by
  unfold impl_GetTlv.f
  by_cases c : a < 0 ∨ a + 1 ≥ (b.length : Int)
  · have e : getTlv b a = no4 := by unfold getTlv; rw [if_pos c]
    rw [e]
    by_cases c1 : a < 0
    · simp only [if_pos c1]
      exact impl_GetTlv_j0_no _ _
    · simp only [if_neg c1, w64 (x := (b.length : Int) - 2) (by omega) (by omega), decide_eq_true (show a > (b.length : Int) - 2 by omega)]
      exact impl_GetTlv_j0_no _ _
  · simp only [if_neg (show ¬ a < 0 by omega), w64 (x := (b.length : Int) - 2) (by omega) (by omega), decide_eq_false (show ¬ a > (b.length : Int) - 2 by omega)]
    exact impl_GetTlv_j0_ev b a hb hl c

theorem FnExactGetTlv : laws_FnExactGetTlv.Pure := by
  intro l0 a1 _ hw ha
  refine Ev.rounds ?_
  unfold laws_FnExactGetTlv.f
  by_cases bl0 : (l0.length : Int) > 1048576
  · simp only [if_pos bl0]; exact Ev.now _
  simp only [if_neg bl0]
  have hb : ∀ y ∈ l0, 0 ≤ y ∧ y ≤ 255 := fun y hy => wf8 (hw y hy)
  have hs := sGetTlv_ev l0 a1 hb (by omega) (wf64 ha)
  have hi := iGetTlv_ev l0 a1 hb (by omega) (wf64 ha)
  have hl := getTlv_len l0 a1
  generalize getTlv l0 a1 = R at hs hi hl
  obtain ⟨t, y, p, q⟩ := R
  have hl : y.length ≤ l0.length := hl
  have hneg : ¬ ((1 : Int) + (y.length : Int) < 0) := by omega
  have hneg2 : ¬ ((1 : Int) + (l0.length : Int) < 0) := by omega
  repeat' first
    | exact Ev.now _
    | (with_reducible refine Ev.bind hs ?_)
    | (with_reducible refine Ev.bind hi ?_)
    | ((with_reducible refine Ev.bind (toByteS_ev _ ?s0) ?_); (case s0 => omega))
    | ((with_reducible refine Ev.bind (eqByteS_ev _ _ ?s0) ?_); (case s0 => omega))
    | ((with_reducible refine Ev.bind (markByteS_ev _ _ ?s0 ?s1 ?s2) ?_); (case s0 => omega); (case s1 => omega); (case s2 => omega))
    | ((with_reducible refine Ev.bind (heldByteS_ev _ _ ?s0 ?s1 ?s2) ?_); (case s0 => omega); (case s1 => omega); (case s2 => omega))
    | simp only [bne_self_eq_false, Bool.false_eq_true, Bool.not_true, Bool.not_false, decide_true, Option.bind_some, ↓reduceIte, if_neg hneg, if_neg hneg2]
    | (refine Ev.succ ?_; simp only [laws_FnExactGetTlv.j0])
    | (refine Ev.succ ?_; simp only [laws_FnExactGetTlv.j1])
    | (refine Ev.succ ?_; simp only [laws_FnExactGetTlv.j2])

end Go.Proofs.Ytgjhmbneikpiaaa.Pure
