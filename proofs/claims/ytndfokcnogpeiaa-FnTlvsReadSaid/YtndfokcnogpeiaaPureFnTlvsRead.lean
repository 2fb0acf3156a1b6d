/- The pure side of FnTlvsRead: what reads as a block is the block's own bytes. No conditions but those of the given statement. -/
import Derived.Test.YtndfokcnogpeiaaXFnTlvsReadx5
namespace Go.Proofs.Ytndfokcnogpeiaa.Pure
open Go.RowKit Go.Proofs.Ytndfokcnogpeiaa.XFnTlvsRead Go.Proofs.YtndfokcnogpeiaaW.PrintWords Go.Proofs.YtndfokcnogpeiaaW.PrintLast Go.Proofs.YtndfokcnogpeiaaW.PrintMore
set_option linter.unusedVariables false
set_option linter.unusedSimpArgs false

theorem w64 {x : Int} (h0 : -9223372036854775808 ≤ x) (h1 : x ≤ 9223372036854775807) : wrap64 x = x := by
  unfold wrap64
  omega
theorem wf64 {x : Int} (h : (Lit.int .i64 x).wf = true) : -9223372036854775808 ≤ x ∧ x ≤ 9223372036854775807 := by
  simp only [Lit.wf, Bool.and_eq_true, decide_eq_true_eq] at h
  exact h
theorem wf8 {x : Int} (h : (Lit.int .u8 x).wf = true) : 0 ≤ x ∧ x ≤ 255 := by
  simp only [Lit.wf, Bool.and_eq_true, decide_eq_true_eq] at h
  exact h
theorem rd_mid (pre rest : List Int) (r : Int) : rd (pre ++ r :: rest) (pre.length : Int) = r := by
  unfold rd
  simp [List.getD_eq_getElem?_getD]
theorem set_mid {α : Type} (pre rest : List α) (r v : α) : (pre ++ r :: rest).set (pre.length : Int).toNat v = pre ++ v :: rest := by
  rw [Int.toNat_natCast, List.set_append_right _ _ (Nat.le_refl _)]
  simp
theorem succ_of {d k : Nat} (h : d < k) : ∃ m, k = m + 1 := ⟨k - 1, by omega⟩
theorem Ev.at_ {α : Type} {g : Nat → Option α} {r : α} (n : Nat) (h : ∀ k, n < k → g k = some r) : Ev g r := ⟨n + 1, fun k hk => h k (by omega)⟩
theorem Ev.some_ {α : Type} {v : Option α} {r : α} (h : v = some r) : Ev (fun _ => v) r := ⟨0, fun _ _ => h⟩
theorem Ev.succ {α : Type} {g : Nat → Option α} {r : α} (h : Ev (fun k => g (k + 1)) r) : Ev g r := by
  obtain ⟨K, h⟩ := h
  refine ⟨K + 1, fun n hn => ?_⟩
  obtain ⟨m, rfl⟩ : ∃ m, n = m + 1 := ⟨n - 1, by omega⟩
  exact h m (by omega)
theorem Ev.some_const {α : Type} {g : Nat → Option α} {r : α} (h : ∀ k, g k = some r) : Ev g r := ⟨0, fun k _ => h k⟩

theorem l1In_eq (a b c : Int) : spec_l1In.f a b c = some (decide (b ≤ a ∧ a ≤ c)) := by
  unfold spec_l1In.f
  by_cases h : b ≤ a
  · rw [if_pos h]; simp [h]
  · rw [if_neg h]; simp [h]

theorem in_eq (a b c : Int) : impl_in.f a b c = some (decide (b ≤ a ∧ a ≤ c)) := by
  unfold impl_in.f
  by_cases h : b ≤ a
  · rw [if_pos h]; simp [h]
  · rw [if_neg h]; simp [h]

theorem sameBytes_loop (a : List Int) : ∀ (b pre pre' : List Int) (k : Nat), pre.length = pre'.length → a.length = b.length → pre.length + a.length ≤ 1099511627776 → a.length < k →
    laws_sameBytes.l0 k (pre ++ a) (pre' ++ b) (pre.length : Int) = some (decide (a = b)) := by
  induction a with
  | nil =>
    intro b pre pre' k hp hab hn hk
    obtain ⟨k, rfl⟩ := succ_of hk
    obtain rfl : b = [] := List.eq_nil_of_length_eq_zero hab.symm
    simp only [laws_sameBytes.l0]
    rw [if_neg (by simp only [List.length_append, List.length_nil] at *; omega)]
    simp
  | cons r a ih =>
    intro b pre pre' k hp hab hn hk
    obtain ⟨k, rfl⟩ := succ_of hk
    cases b with
    | nil => simp at hab
    | cons s b =>
      simp only [List.length_cons] at hab hn hk
      simp only [laws_sameBytes.l0]
      have e : rd (pre' ++ s :: b) (pre.length : Int) = s := by rw [hp, rd_mid]
      rw [if_pos (by simp only [List.length_append, List.length_cons]; omega), if_pos (by omega), if_pos (by simp only [List.length_append, List.length_cons]; omega), rd_mid, e]
      by_cases hrs : r = s
      · subst hrs
        rw [if_pos rfl, w64 (by omega) (by omega)]
        have h := ih b (pre ++ [r]) (pre' ++ [r]) k (by simp [hp]) (by omega) (by simp only [List.length_append, List.length_cons, List.length_nil]; omega) (by omega)
        simpa using h
      · rw [if_neg hrs]
        simp [hrs]
theorem sameBytes_ev (a b : List Int) (h : a.length ≤ 1099511627776) : Ev (fun k => laws_sameBytes.f k a b) (decide (a = b)) := by
  refine Ev.at_ a.length fun k hk => ?_
  simp only [laws_sameBytes.f]
  by_cases e : a.length = b.length
  · rw [if_pos (by omega)]
    have h := sameBytes_loop a b [] [] k rfl e (by simp only [List.length_nil]; omega) hk
    simpa using h
  · rw [if_neg (by omega)]
    have hne : ¬ a = b := fun h => e (by rw [h])
    simp [hne]

theorem Ev.ite {α : Type} {c : Prop} [Decidable c] {g1 g2 : Nat → Option α} {r1 r2 : α} (h1 : c → Ev g1 r1) (h2 : ¬ c → Ev g2 r2) : Ev (fun k => if c then g1 k else g2 k) (if c then r1 else r2) := by
  by_cases h : c
  · simp only [if_pos h]; exact h1 h
  · simp only [if_neg h]; exact h2 h

def tlvOk (tag : Int) (body : List Int) : Bool := decide (0 ≤ tag ∧ tag ≤ 255) && decide ((body.length : Int) ≤ 250)
def tlvBytes (tag : Int) (body : List Int) : List Int := [tag % 256] ++ ((if (body.length : Int) > 127 then [129] else []) ++ ([(body.length : Int) % 256] ++ body))
def putTlv (b : List Int) (tag : Int) (body : List Int) : List Int := if tlvOk tag body = true then b ++ tlvBytes tag body else b
theorem tlvBytes_len (tag : Int) (body : List Int) : (tlvBytes tag body).length ≤ body.length + 3 := by
  unfold tlvBytes
  split <;> simp <;> omega
theorem putTlv_len (b : List Int) (tag : Int) (body : List Int) : (putTlv b tag body).length ≤ b.length + 253 := by
  unfold putTlv
  split
  · rename_i h
    have := tlvBytes_len tag body
    simp only [tlvOk, Bool.and_eq_true, decide_eq_true_eq] at h
    simp only [List.length_append]
    omega
  · omega

theorem sPutTlv_ev (b : List Int) (tag : Int) (body : List Int) (hb : b.length ≤ 1099511627776) (hy : body.length ≤ 1099511627776) : Ev (fun k => spec_PutTlv.f k b tag body) (putTlv b tag body) := by
  refine Ev.succ ?_
  refine Ev.some_const (fun k => ?_)
  simp only [spec_PutTlv.f, spec_PutTlv.j0, Option.bind_some, l1In_eq, List.nil_append]
  rw [if_pos (by simp only [List.length_nil]; omega)]
  unfold putTlv tlvOk tlvBytes
  by_cases h1 : 0 ≤ tag ∧ tag ≤ 255
  · simp only [decide_eq_true h1, if_true, Bool.true_and]
    by_cases h2 : (body.length : Int) > 250
    · simp only [decide_eq_true h2, if_true, decide_eq_false (show ¬ (body.length : Int) ≤ 250 by omega), Bool.false_eq_true, if_false]
    · simp only [decide_eq_false h2, Bool.false_eq_true, if_false, decide_eq_true (show (body.length : Int) ≤ 250 by omega), if_true]
      rw [if_pos (by omega)]
      by_cases h3 : (body.length : Int) > 127
      · simp only [if_pos h3]
        rw [if_pos (by simp only [List.length_append, List.length_cons, List.length_nil]; omega), if_pos (by simp only [List.length_append, List.length_cons, List.length_nil]; omega), if_pos (by simp only [List.length_append, List.length_cons, List.length_nil]; omega)]
        simp
      · simp only [if_neg h3]
        rw [if_pos (by simp only [List.length_append, List.length_cons, List.length_nil]; omega), if_pos (by simp only [List.length_append, List.length_cons, List.length_nil]; omega)]
        simp
  · simp only [decide_eq_false h1, Bool.false_and, Bool.false_eq_true, if_false, if_true]

theorem iCopyBytes_eq (b : List Int) (hb : b.length ≤ 1099511627776) : impl_copyBytes.f b = some b := by
  unfold impl_copyBytes.f
  rw [if_pos (by simp only [List.length_nil]; omega)]
  simp
theorem iTlv_ev (tag : Int) (body : List Int) (hy : body.length ≤ 1099511627776) : Ev (fun k => impl_tlv.f k tag body) (if tlvOk tag body = true then (tlvBytes tag body, true) else ([], false)) := by
  refine Ev.succ ?_
  refine Ev.some_const (fun k => ?_)
  simp only [impl_tlv.f, impl_tlv.j0, Option.bind_some, in_eq]
  unfold tlvOk tlvBytes
  by_cases h1 : 0 ≤ tag ∧ tag ≤ 255
  · simp only [decide_eq_true h1, if_true, Bool.true_and]
    by_cases h2 : (body.length : Int) > 250
    · simp only [decide_eq_true h2, if_true, decide_eq_false (show ¬ (body.length : Int) ≤ 250 by omega), Bool.false_eq_true, if_false]
    · simp only [decide_eq_false h2, Bool.false_eq_true, if_false, decide_eq_true (show (body.length : Int) ≤ 250 by omega), if_true]
      by_cases h3 : (body.length : Int) > 127
      · rw [if_pos (show (body.length : Int) ≥ 128 by omega), if_pos (by simp only [List.length_cons, List.length_nil]; omega), if_pos (by simp only [List.length_append, List.length_cons, List.length_nil]; omega), if_pos (by simp only [List.length_append, List.length_cons, List.length_nil]; omega)]
        simp [h3]
      · rw [if_neg (show ¬ (body.length : Int) ≥ 128 by omega), if_pos (by simp only [List.length_cons, List.length_nil]; omega), if_pos (by simp only [List.length_append, List.length_cons, List.length_nil]; omega)]
        simp [h3]
  · simp only [decide_eq_false h1, Bool.false_and, Bool.false_eq_true, if_false, if_true]
theorem iPutTlv_ev (b : List Int) (tag : Int) (body : List Int) (hb : b.length ≤ 1099511627776) (hy : body.length ≤ 1099511627776) : Ev (fun k => impl_PutTlv.f k b tag body) (putTlv b tag body) := by
  unfold impl_PutTlv.f putTlv
  refine Ev.bind (iTlv_ev tag body hy) ?_
  simp only [iCopyBytes_eq b hb, Option.bind_some]
  by_cases h : tlvOk tag body = true
  · have hl := tlvBytes_len tag body
    simp only [if_pos h]
    rw [if_pos (by omega)]
    exact Ev.now _
  · simp only [if_neg h, List.length_nil, List.append_nil]
    rw [if_pos (by omega)]
    exact Ev.now _

def no4 : Int × List Int × Int × Bool := (0, [], 0, false)
def tlvTail (b : List Int) (a x : Int) : Int × List Int × Int × Bool :=
  if rd b x > 250 then no4 else if rd b x > (b.length : Int) - (x + 1) then no4 else (rd b a, (b.take (x + 1 + rd b x).toNat).drop (x + 1).toNat, x + 1 + rd b x, true)
def getTlv (b : List Int) (a : Int) : Int × List Int × Int × Bool :=
  if a < 0 ∨ a + 1 ≥ (b.length : Int) then no4
  else if rd b (a + 1) > 127 then (if rd b (a + 1) = 129 then (if a + 2 ≥ (b.length : Int) then no4 else if rd b (a + 2) < 128 then no4 else tlvTail b a (a + 2)) else no4)
  else tlvTail b a (a + 1)
theorem getTlv_len (b : List Int) (a : Int) : (getTlv b a).2.1.length ≤ b.length := by
  have ht : ∀ x, (tlvTail b a x).2.1.length ≤ b.length := by
    intro x
    unfold tlvTail no4
    split
    · simp
    · split
      · simp
      · simp only [List.length_drop, List.length_take]
        omega
  have hz : (no4).2.1.length ≤ b.length := by simp [no4]
  unfold getTlv
  split
  · exact hz
  · split
    · split
      · split
        · exact hz
        · split
          · exact hz
          · exact ht _
      · exact hz
    · exact ht _
theorem rd_bd (b : List Int) (hb : ∀ y ∈ b, 0 ≤ y ∧ y ≤ 255) (x : Int) : 0 ≤ rd b x ∧ rd b x ≤ 255 := by
  unfold rd
  rw [List.getD_eq_getElem?_getD]
  cases h : b[x.toNat]? with
  | none => simp
  | some v =>
    have := hb v (List.mem_of_getElem? h)
    simpa using this
theorem cut_le (b : List Int) (p q : Nat) : ((b.take p).drop q).length ≤ b.length := by
  simp only [List.length_drop, List.length_take]
  omega

theorem spec_GetTlv_j1_ev (b : List Int) (a x : Int) (hb : ∀ y ∈ b, 0 ≤ y ∧ y ≤ 255) (hl : b.length ≤ 1048576) (ha : 0 ≤ a ∧ a < (b.length : Int)) (hx : 0 ≤ x ∧ x < (b.length : Int)) : Ev (fun k => spec_GetTlv.j1 k b a x false) (tlvTail b a x) := by
  obtain ⟨n0, n1⟩ := rd_bd b hb x
  obtain ⟨m0, m1⟩ := rd_bd b hb a
  refine Ev.succ ?_
  simp only [spec_GetTlv.j1]
  simp only [Bool.false_eq_true, if_false, if_pos hx.1, if_pos hx.2, if_pos ha.1, if_pos ha.2, w64 (x := rd b x) (by omega) (by omega), w64 (x := rd b a) (by omega) (by omega), w64 (x := x + 1) (by omega) (by omega), w64 (x := (b.length : Int) - (x + 1)) (by omega) (by omega), w64 (x := x + 1 + rd b x) (by omega) (by omega)]
  unfold tlvTail no4
  by_cases c1 : rd b x > 250
  · simp only [if_pos c1]
    exact Ev.now _
  by_cases c2 : rd b x > (b.length : Int) - (x + 1)
  · simp only [if_neg c1, if_pos c2]
    exact Ev.now _
  have hc := cut_le b (x + 1 + rd b x).toNat (x + 1).toNat
  simp only [if_neg c1, if_neg c2, if_pos (show 0 ≤ x + 1 by omega), if_pos (show x + 1 ≤ x + 1 + rd b x by omega), if_pos (show x + 1 + rd b x ≤ (b.length : Int) by omega), Option.bind_some, List.length_nil, List.nil_append, if_pos (show 0 + ((b.take (x + 1 + rd b x).toNat).drop (x + 1).toNat).length < 140737488355328 by omega)]
  exact Ev.now _
theorem spec_GetTlv_j1_no (b : List Int) (a x : Int) : Ev (fun k => spec_GetTlv.j1 k b a x true) no4 := by
  refine Ev.succ ?_
  simp only [spec_GetTlv.j1]
  simp only [if_true]
  exact Ev.now _
theorem spec_GetTlv_j0_no (b : List Int) (a : Int) : Ev (fun k => spec_GetTlv.j0 k b a true) no4 := by
  refine Ev.succ ?_
  simp only [spec_GetTlv.j0]
  simp only [if_true]
  exact Ev.now _
theorem spec_GetTlv_j0_ev (b : List Int) (a : Int) (hb : ∀ y ∈ b, 0 ≤ y ∧ y ≤ 255) (hl : b.length ≤ 1048576) (ha : ¬ (a < 0 ∨ a + 1 ≥ (b.length : Int))) : Ev (fun k => spec_GetTlv.j0 k b a false) (getTlv b a) := by
  obtain ⟨n0, n1⟩ := rd_bd b hb (a + 1)
  obtain ⟨m0, m1⟩ := rd_bd b hb a
  refine Ev.succ ?_
  simp only [spec_GetTlv.j0]
  simp only [Bool.false_eq_true, if_false, w64 (x := a + 1) (by omega) (by omega), w64 (x := a + 2) (by omega) (by omega), if_pos (show 0 ≤ a + 1 by omega), if_pos (show a + 1 < (b.length : Int) by omega), w64 (x := rd b (a + 1)) (by omega) (by omega)]
  unfold getTlv
  simp only [if_neg ha]
  by_cases c : rd b (a + 1) > 127
  · simp only [if_pos c, if_pos (show rd b (a + 1) > 127 by omega)]
    refine Ev.ite (fun _ => ?_) (fun _ => spec_GetTlv_j1_no _ _ _)
    refine Ev.ite (fun _ => spec_GetTlv_j1_no _ _ _) (fun d => ?_)
    simp only [if_pos (show 0 ≤ a + 2 by omega), if_pos (show a + 2 < (b.length : Int) by omega)]
    by_cases e : rd b (a + 2) < 128
    · rw [decide_eq_true e, if_pos e]
      exact spec_GetTlv_j1_no _ _ _
    · rw [decide_eq_false e, if_neg e]
      exact spec_GetTlv_j1_ev b a (a + 2) hb hl (by omega) (by omega)
  · simp only [if_neg c, if_neg (show ¬ rd b (a + 1) > 127 by omega)]
    unfold tlvTail no4
    simp only [show a + 1 + 1 = a + 2 by omega, w64 (x := (b.length : Int) - (a + 2)) (by omega) (by omega), w64 (x := a + 2 + rd b (a + 1)) (by omega) (by omega), w64 (x := rd b a) (by omega) (by omega), if_pos (show 0 ≤ a by omega), if_pos (show a < (b.length : Int) by omega)]
    by_cases c1 : rd b (a + 1) > 250
    · simp only [if_pos c1]
      exact Ev.now _
    by_cases c2 : rd b (a + 1) > (b.length : Int) - (a + 2)
    · simp only [if_neg c1, if_pos c2]
      exact Ev.now _
    have hc := cut_le b (a + 2 + rd b (a + 1)).toNat (a + 2).toNat
    simp only [if_neg c1, if_neg c2, if_pos (show 0 ≤ a + 2 by omega), if_pos (show a + 2 ≤ a + 2 + rd b (a + 1) by omega), if_pos (show a + 2 + rd b (a + 1) ≤ (b.length : Int) by omega), Option.bind_some, List.length_nil, List.nil_append, if_pos (show 0 + ((b.take (a + 2 + rd b (a + 1)).toNat).drop (a + 2).toNat).length < 140737488355328 by omega)]
    exact Ev.now _
theorem sGetTlv_ev (b : List Int) (a : Int) (hb : ∀ y ∈ b, 0 ≤ y ∧ y ≤ 255) (hl : b.length ≤ 1048576) (hw : -9223372036854775808 ≤ a ∧ a ≤ 9223372036854775807) : Ev (fun k => spec_GetTlv.f k b a) (getTlv b a) := by
  unfold spec_GetTlv.f
  by_cases c : a < 0 ∨ a + 1 ≥ (b.length : Int)
  · have e : getTlv b a = no4 := by unfold getTlv; rw [if_pos c]
    rw [e]
    by_cases c1 : a < 0
    · simp only [if_pos c1]
      exact spec_GetTlv_j0_no _ _
    · by_cases c2 : a ≥ (b.length : Int)
      · simp only [if_neg c1, if_pos c2]
        exact spec_GetTlv_j0_no _ _
      · simp only [if_neg c1, if_neg c2, w64 (x := a + 1) (by omega) (by omega), decide_eq_true (show a + 1 ≥ (b.length : Int) by omega)]
        exact spec_GetTlv_j0_no _ _
  · simp only [if_neg (show ¬ a < 0 by omega), if_neg (show ¬ a ≥ (b.length : Int) by omega), w64 (x := a + 1) (by omega) (by omega), decide_eq_false (show ¬ a + 1 ≥ (b.length : Int) by omega)]
    exact spec_GetTlv_j0_ev b a hb hl c

theorem impl_GetTlv_j1_ev (b : List Int) (a x : Int) (hb : ∀ y ∈ b, 0 ≤ y ∧ y ≤ 255) (hl : b.length ≤ 1048576) (ha : 0 ≤ a ∧ a < (b.length : Int)) (hx : 0 ≤ x ∧ x < (b.length : Int)) : Ev (fun k => impl_GetTlv.j1 k b a x false) (tlvTail b a x) := by
  obtain ⟨n0, n1⟩ := rd_bd b hb x
  obtain ⟨m0, m1⟩ := rd_bd b hb a
  refine Ev.succ ?_
  simp only [impl_GetTlv.j1]
  simp only [Bool.false_eq_true, if_false, if_pos hx.1, if_pos hx.2, if_pos ha.1, if_pos ha.2, w64 (x := rd b x) (by omega) (by omega), w64 (x := rd b a) (by omega) (by omega), w64 (x := x + 1) (by omega) (by omega), w64 (x := (b.length : Int) - (x + 1)) (by omega) (by omega), w64 (x := x + 1 + rd b x) (by omega) (by omega)]
  unfold tlvTail no4
  by_cases c1 : rd b x > 250
  · simp only [if_pos c1]
    exact Ev.now _
  by_cases c2 : rd b x > (b.length : Int) - (x + 1)
  · simp only [if_neg c1, if_pos c2]
    exact Ev.now _
  have hc := cut_le b (x + 1 + rd b x).toNat (x + 1).toNat
  simp only [if_neg c1, if_neg c2, if_pos (show 0 ≤ x + 1 by omega), if_pos (show x + 1 ≤ x + 1 + rd b x by omega), if_pos (show x + 1 + rd b x ≤ (b.length : Int) by omega), impl_copyBytes.f, Option.bind_some, List.length_nil, List.nil_append, if_pos (show 0 + ((b.take (x + 1 + rd b x).toNat).drop (x + 1).toNat).length < 140737488355328 by omega)]
  exact Ev.now _
theorem impl_GetTlv_j1_no (b : List Int) (a x : Int) : Ev (fun k => impl_GetTlv.j1 k b a x true) no4 := by
  refine Ev.succ ?_
  simp only [impl_GetTlv.j1]
  simp only [if_true]
  exact Ev.now _
theorem impl_GetTlv_j0_no (b : List Int) (a : Int) : Ev (fun k => impl_GetTlv.j0 k b a true) no4 := by
  refine Ev.succ ?_
  simp only [impl_GetTlv.j0]
  simp only [if_true]
  exact Ev.now _
theorem impl_GetTlv_j0_ev (b : List Int) (a : Int) (hb : ∀ y ∈ b, 0 ≤ y ∧ y ≤ 255) (hl : b.length ≤ 1048576) (ha : ¬ (a < 0 ∨ a + 1 ≥ (b.length : Int))) : Ev (fun k => impl_GetTlv.j0 k b a false) (getTlv b a) := by
  obtain ⟨n0, n1⟩ := rd_bd b hb (a + 1)
  obtain ⟨m0, m1⟩ := rd_bd b hb a
  refine Ev.succ ?_
  simp only [impl_GetTlv.j0]
  simp only [Bool.false_eq_true, if_false, w64 (x := a + 1) (by omega) (by omega), w64 (x := a + 2) (by omega) (by omega), if_pos (show 0 ≤ a + 1 by omega), if_pos (show a + 1 < (b.length : Int) by omega), w64 (x := rd b (a + 1)) (by omega) (by omega)]
  unfold getTlv
  simp only [if_neg ha]
  by_cases c : rd b (a + 1) > 127
  · simp only [if_pos c, if_pos (show rd b (a + 1) ≥ 128 by omega)]
    refine Ev.ite (fun _ => ?_) (fun _ => impl_GetTlv_j1_no _ _ _)
    refine Ev.ite (fun _ => impl_GetTlv_j1_no _ _ _) (fun d => ?_)
    simp only [if_pos (show 0 ≤ a + 2 by omega), if_pos (show a + 2 < (b.length : Int) by omega)]
    by_cases e : rd b (a + 2) < 128
    · rw [decide_eq_true e, if_pos e]
      exact impl_GetTlv_j1_no _ _ _
    · rw [decide_eq_false e, if_neg e]
      exact impl_GetTlv_j1_ev b a (a + 2) hb hl (by omega) (by omega)
  · simp only [if_neg c, if_neg (show ¬ rd b (a + 1) ≥ 128 by omega)]
    unfold tlvTail no4
    simp only [show a + 1 + 1 = a + 2 by omega, w64 (x := (b.length : Int) - (a + 2)) (by omega) (by omega), w64 (x := a + 2 + rd b (a + 1)) (by omega) (by omega), w64 (x := rd b a) (by omega) (by omega), if_pos (show 0 ≤ a by omega), if_pos (show a < (b.length : Int) by omega)]
    by_cases c1 : rd b (a + 1) > 250
    · simp only [if_pos c1]
      exact Ev.now _
    by_cases c2 : rd b (a + 1) > (b.length : Int) - (a + 2)
    · simp only [if_neg c1, if_pos c2]
      exact Ev.now _
    have hc := cut_le b (a + 2 + rd b (a + 1)).toNat (a + 2).toNat
    simp only [if_neg c1, if_neg c2, if_pos (show 0 ≤ a + 2 by omega), if_pos (show a + 2 ≤ a + 2 + rd b (a + 1) by omega), if_pos (show a + 2 + rd b (a + 1) ≤ (b.length : Int) by omega), impl_copyBytes.f, Option.bind_some, List.length_nil, List.nil_append, if_pos (show 0 + ((b.take (a + 2 + rd b (a + 1)).toNat).drop (a + 2).toNat).length < 140737488355328 by omega)]
    exact Ev.now _
theorem iGetTlv_ev (b : List Int) (a : Int) (hb : ∀ y ∈ b, 0 ≤ y ∧ y ≤ 255) (hl : b.length ≤ 1048576) (hw : -9223372036854775808 ≤ a ∧ a ≤ 9223372036854775807) : Ev (fun k => impl_GetTlv.f k b a) (getTlv b a) := by
  unfold impl_GetTlv.f
  by_cases c : a < 0 ∨ a + 1 ≥ (b.length : Int)
  · have e : getTlv b a = no4 := by unfold getTlv; rw [if_pos c]
    rw [e]
    by_cases c1 : a < 0
    · simp only [if_pos c1]
      exact impl_GetTlv_j0_no _ _
    · simp only [if_neg c1, w64 (x := (b.length : Int) - 2) (by omega) (by omega), decide_eq_true (show a > (b.length : Int) - 2 by omega)]
      exact impl_GetTlv_j0_no _ _
  · simp only [if_neg (show ¬ a < 0 by omega), w64 (x := (b.length : Int) - 2) (by omega) (by omega), decide_eq_false (show ¬ a > (b.length : Int) - 2 by omega)]
    exact impl_GetTlv_j0_ev b a hb hl c

/- a draw's state: the bytes, a place in them, a seed -/
def atOk (l : List Int) (p : Int) : Prop := 0 ≤ p ∧ p ≤ (l.length : Int)
theorem and_low (x : Int) (m : Nat) (hm : m < 9223372036854775808) : 0 ≤ Go.bits .and .i64 x (m : Int) ∧ Go.bits .and .i64 x (m : Int) ≤ m := by
  have e : m % 2 ^ IntKind.i64.bits = m := Nat.mod_eq_of_lt (show m < 2 ^ 64 by omega)
  simp only [Go.bits, BitVec.ofInt_natCast, BitVec.toNat_and, BitVec.toNat_ofNat, e]
  have h := Nat.and_le_right (n := (BitVec.ofInt IntKind.i64.bits x).toNat) (m := m)
  generalize (BitVec.ofInt IntKind.i64.bits x).toNat &&& m = q at h ⊢
  rw [IntKind.wrap_i64]
  omega
theorem and255 (x : Int) : 0 ≤ Go.bits .and .i64 x 255 ∧ Go.bits .and .i64 x 255 ≤ 255 := and_low x 255 (by decide)
theorem l1Byte_ok (l : List Int) (p s : Int) (hl : l.length ≤ 1048576) (h : atOk l p) : ∃ v p' s', spec_l1Byte.f l p s = some (v, p', s') ∧ (0 ≤ v ∧ v ≤ 255) ∧ atOk l p' := by
  unfold atOk at h
  unfold spec_l1Byte.f atOk
  by_cases c : p < (l.length : Int)
  · refine ⟨_, _, _, if_pos c |>.trans (if_pos h.1), and255 _, ?_⟩
    rw [w64 (by omega) (by omega)]
    omega
  · exact ⟨_, _, _, if_neg c, and255 _, h⟩
theorem l1Below_ok (l : List Int) (p s n : Int) (hl : l.length ≤ 1048576) (h : atOk l p) (hn : 0 < n) : ∃ v p' s', spec_l1Below.f l p s n = some (v, p', s') ∧ (0 ≤ v ∧ v < n) ∧ atOk l p' := by
  unfold spec_l1Below.f
  rw [if_neg (by omega)]
  obtain ⟨v1, p1, s1, e1, b1, h1⟩ := l1Byte_ok l p s hl h
  rw [e1]
  simp only [Option.bind_some, if_neg (show ¬ n = 0 by omega)]
  by_cases c : n ≤ 256
  · simp only [if_pos c]
    exact ⟨_, _, _, rfl, ⟨Int.tmod_nonneg _ b1.1, Int.tmod_lt_of_pos _ hn⟩, h1⟩
  · simp only [if_neg c]
    obtain ⟨v2, p2, s2, e2, b2, h2⟩ := l1Byte_ok l p1 s1 hl h1
    rw [e2]
    simp only [Option.bind_some]
    obtain ⟨v3, p3, s3, e3, b3, h3⟩ := l1Byte_ok l p2 s2 hl h2
    rw [e3]
    simp only [Option.bind_some]
    rw [w64 (x := v1 * 65536) (by omega) (by omega), w64 (x := v2 * 256) (by omega) (by omega), w64 (x := v1 * 65536 + v2 * 256) (by omega) (by omega), w64 (by omega) (by omega)]
    exact ⟨_, _, _, rfl, ⟨Int.tmod_nonneg _ (by omega), Int.tmod_lt_of_pos _ hn⟩, h3⟩
theorem rd_mem (xs : List Int) (i : Int) (h0 : 0 ≤ i) (h1 : i < (xs.length : Int)) : rd xs i ∈ xs := by
  unfold rd
  rw [List.getD_eq_getElem?_getD]
  have hi : i.toNat < xs.length := by omega
  rw [List.getElem?_eq_getElem hi]
  exact List.getElem_mem hi
theorem l1New_loop (l : List Int) (rest : List Int) : ∀ (pre : List Int) (s : Int), pre.length + rest.length ≤ 1048576 → ∃ s', Ev (fun k => spec_l1New.l0 k (pre ++ rest) s (pre.length : Int)) (pre ++ rest, 0, s') := by
  induction rest with
  | nil =>
    intro pre s _
    refine ⟨s, Ev.succ ?_⟩
    simp only [spec_l1New.l0]
    simp only [List.append_nil, if_neg (show ¬ (pre.length : Int) < (pre.length : Int) by omega)]
    exact Ev.now _
  | cons r rest ih =>
    intro pre s hn
    simp only [List.length_cons] at hn
    by_cases c : (pre.length : Int) < 4000
    · obtain ⟨s', h⟩ := ih (pre ++ [r]) (Go.bits .and .i64 (wrap64 ((wrap64 ((wrap64 (s * 137)) + (wrap64 r))) + 11)) 1073741823) (by simp only [List.length_append, List.length_cons, List.length_nil]; omega)
      simp only [List.append_assoc, List.cons_append, List.nil_append] at h
      rw [show ((pre ++ [r]).length : Int) = (pre.length : Int) + 1 by simp] at h
      refine ⟨s', Ev.succ ?_⟩
      simp only [spec_l1New.l0]
      simp only [if_pos (show (pre.length : Int) < ((pre ++ r :: rest).length : Int) by simp only [List.length_append, List.length_cons]; omega), if_pos c, if_pos (show (0 : Int) ≤ (pre.length : Int) by omega), rd_mid, w64 (x := (pre.length : Int) + 1) (by omega) (by omega)]
      exact h
    · refine ⟨s, Ev.succ ?_⟩
      simp only [spec_l1New.l0]
      simp only [if_pos (show (pre.length : Int) < ((pre ++ r :: rest).length : Int) by simp only [List.length_append, List.length_cons]; omega), if_neg c]
      exact Ev.now _
theorem l1New_ok (l : List Int) (hl : l.length ≤ 1048576) : ∃ s', Ev (fun k => spec_l1New.f k l) (l, 0, s') := by
  unfold spec_l1New.f
  have h := l1New_loop l l [] (wrap64 (762762 + (l.length : Int))) (by simp only [List.length_nil]; omega)
  simpa using h
theorem at0 (l : List Int) : atOk l 0 := ⟨by omega, by omega⟩

theorem l1Int_ok (l : List Int) (p s : Int) (xs : List Int) (hl : l.length ≤ 1048576) (h : atOk l p) (hx : 0 < xs.length) : ∃ v p' s', spec_l1Int.f l p s xs = some (v, p', s') ∧ v ∈ xs ∧ atOk l p' := by
  unfold spec_l1Int.f
  obtain ⟨v1, p1, s1, e1, b1, h1⟩ := l1Below_ok l p s (xs.length : Int) hl h (by omega)
  rw [e1]
  simp only [Option.bind_some, if_pos b1.1, if_pos b1.2]
  exact ⟨_, _, _, rfl, rd_mem xs v1 b1.1 b1.2, h1⟩

theorem l1Once_ok (l : List Int) (p s n : Int) (hl : l.length ≤ 1048576) (h : atOk l p) (hn : 0 < n) : ∃ (v : Bool) (p' s' : Int), spec_l1Once.f l p s n = some (v, p', s') ∧ atOk l p' := by
  unfold spec_l1Once.f
  obtain ⟨v1, p1, s1, e1, b1, h1⟩ := l1Below_ok l p s n hl h hn
  rw [e1]
  exact ⟨_, _, _, rfl, h1⟩

def bys (l : List Int) : Prop := ∀ y ∈ l, 0 ≤ y ∧ y ≤ 255
theorem bys_app {a b : List Int} (ha : bys a) (hb : bys b) : bys (a ++ b) := by
  intro y hy
  rcases List.mem_append.1 hy with h | h
  · exact ha y h
  · exact hb y h
theorem bys_one {b : Int} (h : 0 ≤ b ∧ b ≤ 255) : bys [b] := by
  intro y hy
  rw [List.mem_singleton.1 hy]
  exact h
theorem bys_take {a : List Int} (ha : bys a) (n : Nat) : bys (a.take n) := fun y hy => ha y (List.mem_of_mem_take hy)
theorem bys_set {a : List Int} (ha : bys a) (n : Nat) {v : Int} (hv : 0 ≤ v ∧ v ≤ 255) : bys (a.set n v) := by
  intro y hy
  rcases List.mem_or_eq_of_mem_set hy with h | h
  · exact ha y h
  · rw [h]; exact hv

theorem l1Bend_ok (l : List Int) (p s : Int) (xs : List Int) (hl : l.length ≤ 1048576) (h : atOk l p) (hx : bys xs) (hn : xs.length ≤ 1048576) : ∃ o p' s', spec_l1Bend.f l p s xs = some (o, p', s') ∧ bys o ∧ o.length ≤ xs.length + 1 ∧ atOk l p' := by
  unfold spec_l1Bend.f
  by_cases c : (xs.length : Int) = 0
  · simp only [if_pos c]
    exact ⟨_, _, _, rfl, hx, by omega, h⟩
  simp only [if_neg c]
  obtain ⟨v1, p1, s1, e1, b1, h1⟩ := l1Below_ok l p s 5 hl h (by omega)
  simp only [e1, Option.bind_some]
  by_cases c0 : v1 = 0
  · obtain ⟨v2, p2, s2, e2, b2, h2⟩ := l1Below_ok l p1 s1 (xs.length : Int) hl h1 (by omega)
    obtain ⟨v3, p3, s3, e3, b3, h3⟩ := l1Int_ok l p2 s2 [0, 1, 2, 4, 5, 6, 48, 127, 128, 129, 160, 255] hl h2 (by decide)
    simp only [if_pos c0, e2, e3, Option.bind_some, if_pos b2.1, if_pos b2.2]
    exact ⟨_, _, _, rfl, bys_set hx _ (by omega), by rw [List.length_set]; omega, h3⟩
  by_cases c1 : v1 = 1
  · simp only [if_neg c0, if_pos c1, if_pos (show xs.length < 140737488355328 by omega)]
    exact ⟨_, _, _, rfl, bys_app hx (bys_one (by omega)), by simp, h1⟩
  by_cases c2 : v1 = 2
  · obtain ⟨v2, p2, s2, e2, b2, h2⟩ := l1Below_ok l p1 s1 (xs.length : Int) hl h1 (by omega)
    simp only [if_neg c0, if_neg c1, if_pos c2, e2, Option.bind_some, if_pos b2.1, if_pos (show v2 ≤ (xs.length : Int) by omega)]
    exact ⟨_, _, _, rfl, bys_take hx _, by rw [List.length_take]; omega, h2⟩
  · simp only [if_neg c0, if_neg c1, if_neg c2]
    exact ⟨_, _, _, rfl, hx, by omega, h1⟩

theorem l1Bytes_loop (l : List Int) (hl : l.length ≤ 1048576) (n : Nat) : ∀ (m i : Int) (x : List Int) (p s : Int), m = i + n → 0 ≤ i → m ≤ 1000 → bys x → x.length ≤ 1000 → atOk l p → (x.length : Int) = i →
    ∃ o p' s', Ev (fun k => spec_l1Bytes.l0 k m x i l p s) (o, p', s') ∧ bys o ∧ o.length = x.length + n ∧ atOk l p' := by
  induction n with
  | zero =>
    intro m i x p s hm _ _ hx _ h _
    refine ⟨x, p, s, Ev.succ ?_, hx, by omega, h⟩
    simp only [spec_l1Bytes.l0]
    simp only [if_neg (show ¬ i < m by omega)]
    exact Ev.now _
  | succ n ih =>
    intro m i x p s hm hi hm2 hx hn h hxi
    obtain ⟨v1, p1, s1, e1, b1, h1⟩ := l1Byte_ok l p s hl h
    obtain ⟨o, p', s', e, ho, hlo, hp⟩ := ih m (i + 1) (x ++ [v1 % 256]) p1 s1 (by omega) (by omega) hm2 (bys_app hx (bys_one (by omega))) (by simp only [List.length_append, List.length_cons, List.length_nil]; omega) h1 (by simp only [List.length_append, List.length_cons, List.length_nil]; omega)
    refine ⟨o, p', s', Ev.succ ?_, ho, by simp only [List.length_append, List.length_cons, List.length_nil] at hlo; omega, hp⟩
    simp only [spec_l1Bytes.l0]
    simp only [if_pos (show i < m by omega), e1, Option.bind_some, if_pos (show x.length < 140737488355328 by omega), w64 (x := i + 1) (by omega) (by omega)]
    exact e
theorem l1Bytes_ok (l : List Int) (p s m : Int) (hl : l.length ≤ 1048576) (h : atOk l p) (hm : 0 ≤ m ∧ m ≤ 1000) : ∃ o p' s', Ev (fun k => spec_l1Bytes.f k l p s m) (o, p', s') ∧ bys o ∧ (o.length : Int) = m ∧ atOk l p' := by
  unfold spec_l1Bytes.f
  obtain ⟨o, p', s', e, ho, hn, hp⟩ := l1Bytes_loop l hl m.toNat m 0 [] p s (by omega) (by omega) hm.2 (by intro y hy; simp at hy) (by simp) h (by simp)
  exact ⟨o, p', s', e, ho, by simp only [List.length_nil] at hn; omega, hp⟩
theorem l1Some_ok (l : List Int) (p s : Int) (hl : l.length ≤ 1048576) (h : atOk l p) : ∃ o p' s', Ev (fun k => spec_l1Some.f k l p s) (o, p', s') ∧ bys o ∧ o.length ≤ 9 ∧ atOk l p' := by
  unfold spec_l1Some.f
  obtain ⟨v1, p1, s1, e1, b1, h1⟩ := l1Int_ok l p s [0, 1, 2, 5, 9] hl h (by decide)
  have hv : 0 ≤ v1 ∧ v1 ≤ 9 := by
    simp only [List.mem_cons, List.not_mem_nil, or_false] at b1
    omega
  obtain ⟨o, p2, s2, e2, b2, n2, h2⟩ := l1Bytes_ok l p1 s1 v1 hl h1 (by omega)
  refine ⟨o, p2, s2, ?_, b2, by omega, h2⟩
  simp only [e1, Option.bind_some]
  exact Ev.bind e2 (Ev.now _)

theorem l1Body_ok (l : List Int) (p s : Int) (hl : l.length ≤ 1048576) (h : atOk l p) : ∃ o p' s', Ev (fun k => spec_l1Body.f k l p s) (o, p', s') ∧ bys o ∧ o.length ≤ 251 ∧ atOk l p' := by
  unfold spec_l1Body.f
  obtain ⟨v1, p1, s1, e1, h1⟩ := l1Once_ok l p s 8 hl h (by omega)
  simp only [e1, Option.bind_some]
  by_cases c : v1 = true
  · obtain ⟨v2, p2, s2, e2, b2, h2⟩ := l1Int_ok l p1 s1 [127, 128, 250, 251] hl h1 (by decide)
    have hv : 0 ≤ v2 ∧ v2 ≤ 251 := by
      simp only [List.mem_cons, List.not_mem_nil, or_false] at b2
      omega
    refine ⟨List.replicate v2.toNat 0, p2, s2, ?_, ?_, by rw [List.length_replicate]; omega, h2⟩
    · simp only [if_pos c, e2, Option.bind_some, if_pos hv.1, if_pos (show v2.toNat ≤ 281474976710656 by omega)]
      exact Ev.now _
    · intro y hy
      have := (List.mem_replicate.1 hy).2
      omega
  · obtain ⟨o, p2, s2, e2, b2, n2, h2⟩ := l1Some_ok l p1 s1 hl h1
    refine ⟨o, p2, s2, ?_, b2, by omega, h2⟩
    simp only [if_neg c]
    exact Ev.bind e2 (Ev.now _)

theorem tlvBytes_short (t : Int) (body : List Int) (ht : 0 ≤ t ∧ t ≤ 255) (h : body.length ≤ 127) : tlvBytes t body = t :: (body.length : Int) :: body := by
  unfold tlvBytes
  rw [if_neg (by omega), show t % 256 = t by omega, show (body.length : Int) % 256 = (body.length : Int) by omega]
  rfl
theorem tlvBytes_long (t : Int) (body : List Int) (ht : 0 ≤ t ∧ t ≤ 255) (h : 127 < body.length) (h' : body.length ≤ 250) : tlvBytes t body = t :: 129 :: (body.length : Int) :: body := by
  unfold tlvBytes
  rw [if_pos (by omega), show t % 256 = t by omega, show (body.length : Int) % 256 = (body.length : Int) by omega]
  rfl

theorem tlvBytes_bys (t : Int) (body : List Int) (ht : 0 ≤ t ∧ t ≤ 255) (hb : bys body) (h : body.length ≤ 250) : bys (tlvBytes t body) := by
  by_cases c : body.length ≤ 127
  · rw [tlvBytes_short t body ht c]
    exact bys_app (bys_one ht) (bys_app (bys_one (b := (body.length : Int)) (by omega)) hb)
  · rw [tlvBytes_long t body ht (by omega) h]
    exact bys_app (bys_one ht) (bys_app (bys_one (b := 129) (by omega)) (bys_app (bys_one (b := (body.length : Int)) (by omega)) hb))

theorem l1At_ok (l : List Int) (p s : Int) (xs : List Int) (hl : l.length ≤ 1048576) (h : atOk l p) (hx : xs.length ≤ 1048576) : ∃ v p' s', spec_l1At.f l p s xs = some (v, p', s') ∧ (-1 ≤ v ∧ v ≤ 9223372036854775807) ∧ atOk l p' := by
  unfold spec_l1At.f
  rw [w64 (x := (xs.length : Int) + 1) (by omega) (by omega)]
  obtain ⟨v1, p1, s1, e1, b1, h1⟩ := l1Below_ok l p s ((xs.length : Int) + 1) hl h (by omega)
  obtain ⟨v2, p2, s2, e2, b2, h2⟩ := l1Int_ok l p1 s1 [0, 0, 0, (xs.length : Int), v1, -1, 9223372036854775807] hl h1 (by simp)
  simp only [e1, e2, Option.bind_some]
  refine ⟨_, _, _, rfl, ?_, h2⟩
  simp only [List.mem_cons, List.not_mem_nil, or_false] at b2
  omega
theorem drawGetTlv_ok (l : List Int) (hl : l.length ≤ 1048576) : ∃ b a, Ev (fun k => spec_DrawGetTlv.f k l) (b, a) ∧ bys b ∧ b.length ≤ 300 ∧ (-1 ≤ a ∧ a ≤ 9223372036854775807) := by
  unfold spec_DrawGetTlv.f
  obtain ⟨s0, e0⟩ := l1New_ok l hl
  obtain ⟨t, p1, s1, e1, b1, h1⟩ := l1Int_ok l 0 s0 [2, 4, 48] hl (at0 l) (by decide)
  obtain ⟨y, p2, s2, e2, b2, n2, h2⟩ := l1Body_ok l p1 s1 hl h1
  have ht : 0 ≤ t ∧ t ≤ 255 := by
    simp only [List.mem_cons, List.not_mem_nil, or_false] at b1
    omega
  have hby : bys (putTlv [] t y) := by
    unfold putTlv
    split
    · rename_i h
      unfold tlvOk at h
      simp only [Bool.and_eq_true, decide_eq_true_eq] at h
      exact tlvBytes_bys t y ht b2 (by omega)
    · intro z hz; simp at hz
  have hln := putTlv_len [] t y
  simp only [List.length_nil] at hln
  obtain ⟨o, p3, s3, e3, b3, n3, h3⟩ := l1Bend_ok l p2 s2 (putTlv [] t y) hl h2 hby (by omega)
  obtain ⟨v, p4, s4, e4, b4, h4⟩ := l1At_ok l p3 s3 o hl h3 (by omega)
  refine ⟨o, v, Ev.bind e0 ?_, b3, by omega, b4⟩
  simp only [e1, Option.bind_some]
  refine Ev.bind e2 ?_
  refine Ev.bind (sPutTlv_ev [] t y (by simp) (by omega)) ?_
  refine Ev.bind (Ev.some_ e3) ?_
  refine Ev.bind (Ev.some_ e4) ?_
  exact Ev.now _
theorem cut_cons (b : List Int) (P i : Nat) (hP : P ≤ b.length) (hi : i < P) : (b.take P).drop i = rd b (i : Int) :: (b.take P).drop (i + 1) := by
  have hl : i < (b.take P).length := by rw [List.length_take]; omega
  rw [List.drop_eq_getElem_cons hl]
  congr 1
  unfold rd
  rw [List.getElem_take, List.getD_eq_getElem?_getD, Int.toNat_natCast, List.getElem?_eq_getElem (by omega)]
  rfl
theorem tail_true (b : List Int) (a x t p : Int) (y : List Int) (h : tlvTail b a x = (t, y, p, true)) : rd b x ≤ 250 ∧ x + 1 + rd b x ≤ (b.length : Int) ∧ t = rd b a ∧ y = (b.take (x + 1 + rd b x).toNat).drop (x + 1).toNat ∧ p = x + 1 + rd b x := by
  unfold tlvTail no4 at h
  by_cases c1 : rd b x > 250
  · rw [if_pos c1] at h
    simp at h
  by_cases c2 : rd b x > (b.length : Int) - (x + 1)
  · rw [if_neg c1, if_pos c2] at h
    simp at h
  rw [if_neg c1, if_neg c2] at h
  simp only [Prod.mk.injEq, and_true] at h
  exact ⟨by omega, by omega, h.1.symm, h.2.1.symm, h.2.2.symm⟩
theorem getTlv_true (b : List Int) (hb : bys b) (a t p : Int) (y : List Int) (h : getTlv b a = (t, y, p, true)) : (0 ≤ a ∧ a ≤ p ∧ p ≤ (b.length : Int)) ∧ y.length ≤ 250 ∧ (b.take p.toNat).drop a.toNat = putTlv [] t y := by
  unfold getTlv at h
  by_cases c : a < 0 ∨ a + 1 ≥ (b.length : Int)
  · rw [if_pos c] at h
    simp [no4] at h
  rw [if_neg c] at h
  obtain ⟨A, rfl⟩ := Int.eq_ofNat_of_zero_le (show 0 ≤ a by omega)
  obtain ⟨m0, m1⟩ := rd_bd b hb (A : Int)
  by_cases c1 : rd b ((A : Int) + 1) > 127
  · rw [if_pos c1] at h
    by_cases c2 : rd b ((A : Int) + 1) = 129
    · rw [if_pos c2] at h
      by_cases c3 : (A : Int) + 2 ≥ (b.length : Int)
      · rw [if_pos c3] at h
        simp [no4] at h
      rw [if_neg c3] at h
      by_cases c4 : rd b ((A : Int) + 2) < 128
      · rw [if_pos c4] at h
        simp [no4] at h
      rw [if_neg c4] at h
      obtain ⟨h1, h2, rfl, rfl, rfl⟩ := tail_true b _ _ _ _ _ h
      obtain ⟨n, hn⟩ := Int.eq_ofNat_of_zero_le (show 0 ≤ rd b ((A : Int) + 2) by omega)
      rw [hn] at h1 h2 c4 ⊢
      have e1 : ((A : Int) + 2 + 1 + (n : Int)).toNat = A + 3 + n := by omega
      have e2 : ((A : Int) + 2 + 1).toNat = A + 3 := by omega
      rw [e1, e2, Int.toNat_natCast]
      have hlen : ((b.take (A + 3 + n)).drop (A + 3)).length = n := by simp only [List.length_drop, List.length_take]; omega
      refine ⟨by omega, by omega, ?_⟩
      rw [cut_cons b _ A (by omega) (by omega), cut_cons b _ (A + 1) (by omega) (by omega), cut_cons b _ (A + 1 + 1) (by omega) (by omega)]
      unfold putTlv tlvOk
      rw [decide_eq_true (show 0 ≤ rd b (A : Int) ∧ rd b (A : Int) ≤ 255 from ⟨m0, m1⟩), decide_eq_true (show (((b.take (A + 3 + n)).drop (A + 3)).length : Int) ≤ 250 by omega)]
      simp only [Bool.and_self, if_true, List.nil_append]
      rw [tlvBytes_long _ _ ⟨m0, m1⟩ (by omega) (by omega), hlen, show ((A + 1 : Nat) : Int) = (A : Int) + 1 by omega, show ((A + 1 + 1 : Nat) : Int) = (A : Int) + 2 by omega, c2, hn]
    · rw [if_neg c2] at h
      simp [no4] at h
  · rw [if_neg c1] at h
    obtain ⟨h1, h2, rfl, rfl, rfl⟩ := tail_true b _ _ _ _ _ h
    obtain ⟨n, hn⟩ := Int.eq_ofNat_of_zero_le (rd_bd b hb ((A : Int) + 1)).1
    rw [hn] at h1 h2 c1 ⊢
    have e1 : ((A : Int) + 1 + 1 + (n : Int)).toNat = A + 2 + n := by omega
    have e2 : ((A : Int) + 1 + 1).toNat = A + 2 := by omega
    rw [e1, e2, Int.toNat_natCast]
    have hlen : ((b.take (A + 2 + n)).drop (A + 2)).length = n := by simp only [List.length_drop, List.length_take]; omega
    refine ⟨by omega, by omega, ?_⟩
    rw [cut_cons b _ A (by omega) (by omega), cut_cons b _ (A + 1) (by omega) (by omega)]
    unfold putTlv tlvOk
    rw [decide_eq_true (show 0 ≤ rd b (A : Int) ∧ rd b (A : Int) ≤ 255 from ⟨m0, m1⟩), decide_eq_true (show (((b.take (A + 2 + n)).drop (A + 2)).length : Int) ≤ 250 by omega)]
    simp only [Bool.and_self, if_true, List.nil_append]
    rw [tlvBytes_short _ _ ⟨m0, m1⟩ (by omega), hlen, show ((A + 1 : Nat) : Int) = (A : Int) + 1 by omega, hn]

theorem FnTlvsRead : laws_FnTlvsRead.Pure := by
  intro l0 _ _
  refine Ev.rounds ?_
  unfold laws_FnTlvsRead.f
  unfold laws_big.f
  simp only [Option.bind_some]
  by_cases hbig : (l0.length : Int) > 1048576
  · simp only [decide_eq_true hbig, if_true]
    exact Ev.now _
  have hsm : l0.length ≤ 1048576 := by omega
  simp only [decide_eq_false hbig, Bool.false_eq_true, if_false]
  obtain ⟨b, a, hD, hb, nb, ha⟩ := drawGetTlv_ok l0 hsm
  refine Ev.bind hD ?_
  have hs := sGetTlv_ev b a hb (by omega) (by omega)
  have hi := iGetTlv_ev b a hb (by omega) (by omega)
  have ht := getTlv_true b hb a
  generalize getTlv b a = R at hs hi ht
  obtain ⟨t, y, p, q⟩ := R
  refine Ev.bind hi ?_
  refine Ev.bind hs ?_
  simp only [beq_self_eq_true, if_true]
  cases q with
  | false =>
    simp only [Bool.false_eq_true, if_false]
    exact Ev.now _
  | true =>
    obtain ⟨h, hy, e⟩ := ht t p y rfl
    simp only [if_true]
    refine Ev.bind (iPutTlv_ev [] t y (by simp) (by omega)) ?_
    simp only [if_pos h.1, if_pos h.2.1, if_pos h.2.2, e]
    have hl := putTlv_len [] t y
    simp only [List.length_nil] at hl
    refine Ev.bind (sameBytes_ev _ _ (by omega)) ?_
    rw [decide_eq_true rfl]
    exact Ev.now _

end Go.Proofs.Ytndfokcnogpeiaa.Pure
