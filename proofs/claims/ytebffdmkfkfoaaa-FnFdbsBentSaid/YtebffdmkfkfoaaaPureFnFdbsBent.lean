/- The pure side of FnFdbsBent: both answer alike on bent tables, too. No conditions but those of the given statement. -/
import Derived.Test.YtebffdmkfkfoaaaXFnFdbsBentx15
namespace Go.Proofs.Ytebffdmkfkfoaaa.Pure
open Go.RowKit Go.Proofs.Ytebffdmkfkfoaaa.XFnFdbsBent Go.Proofs.YtebffdmkfkfoaaaW.PrintWords Go.Proofs.YtebffdmkfkfoaaaW.PrintLast Go.Proofs.YtebffdmkfkfoaaaW.PrintMore
set_option linter.unusedVariables false
set_option linter.unusedSimpArgs false

theorem w64 {x : Int} (h0 : -9223372036854775808 ≤ x) (h1 : x ≤ 9223372036854775807) : wrap64 x = x := by
  unfold wrap64
  omega
theorem wf64 {x : Int} (h : (Lit.int .i64 x).wf = true) : -9223372036854775808 ≤ x ∧ x ≤ 9223372036854775807 := by
  simp only [Lit.wf, Bool.and_eq_true, decide_eq_true_eq] at h
  exact h
theorem wf8 {x : Int} (h : (Lit.int .u8 x).wf = true) : 0 ≤ x ∧ x ≤ 255 := by
  simp only [Lit.wf, Bool.and_eq_true, decide_eq_true_eq] at h
  exact h
theorem rd_mid (pre rest : List Int) (r : Int) : rd (pre ++ r :: rest) (pre.length : Int) = r := by
  unfold rd
  simp [List.getD_eq_getElem?_getD]
theorem set_mid {α : Type} (pre rest : List α) (r v : α) : (pre ++ r :: rest).set (pre.length : Int).toNat v = pre ++ v :: rest := by
  rw [Int.toNat_natCast, List.set_append_right _ _ (Nat.le_refl _)]
  simp
theorem succ_of {d k : Nat} (h : d < k) : ∃ m, k = m + 1 := ⟨k - 1, by omega⟩
theorem Ev.at_ {α : Type} {g : Nat → Option α} {r : α} (n : Nat) (h : ∀ k, n < k → g k = some r) : Ev g r := ⟨n + 1, fun k hk => h k (by omega)⟩
theorem Ev.some_ {α : Type} {v : Option α} {r : α} (h : v = some r) : Ev (fun _ => v) r := ⟨0, fun _ _ => h⟩
theorem Ev.succ {α : Type} {g : Nat → Option α} {r : α} (h : Ev (fun k => g (k + 1)) r) : Ev g r := by
  obtain ⟨K, h⟩ := h
  refine ⟨K + 1, fun n hn => ?_⟩
  obtain ⟨m, rfl⟩ : ∃ m, n = m + 1 := ⟨n - 1, by omega⟩
  exact h m (by omega)
theorem Ev.some_const {α : Type} {g : Nat → Option α} {r : α} (h : ∀ k, g k = some r) : Ev g r := ⟨0, fun k _ => h k⟩

theorem l1In_eq (a b c : Int) : spec_l1In.f a b c = some (decide (b ≤ a ∧ a ≤ c)) := by
  unfold spec_l1In.f
  by_cases h : b ≤ a
  · rw [if_pos h]; simp [h]
  · rw [if_neg h]; simp [h]

theorem in_eq (a b c : Int) : impl_in.f a b c = some (decide (b ≤ a ∧ a ≤ c)) := by
  unfold impl_in.f
  by_cases h : b ≤ a
  · rw [if_pos h]; simp [h]
  · rw [if_neg h]; simp [h]

theorem Ev.ite {α : Type} {c : Prop} [Decidable c] {g1 g2 : Nat → Option α} {r1 r2 : α} (h1 : c → Ev g1 r1) (h2 : ¬ c → Ev g2 r2) : Ev (fun k => if c then g1 k else g2 k) (if c then r1 else r2) := by
  by_cases h : c
  · simp only [if_pos h]; exact h1 h
  · simp only [if_neg h]; exact h2 h

theorem rdIF_mid (pre rest : List S44) (r : S44) : rd_T44 (pre ++ r :: rest) (pre.length : Int) = r := by
  unfold rd_T44
  simp [List.getD_eq_getElem?_getD]
theorem eta_F (r : S44) : (⟨r.f0, r.f1, r.f2, r.f3, r.f4⟩ : S44) = r := rfl

def aheadB (a b t m : Int) : Bool := if a = t then decide (b < m) else decide (a < t)
theorem l8Ahead_eq (a b c d : Int) (e : Bool) (t m : Int) : spec_l8Ahead.f a b c d e t m = some (aheadB a b t m) := by
  unfold spec_l8Ahead.f aheadB
  split <;> rfl
theorem behind_eq (a b c d : Int) (e : Bool) (t m : Int) : impl_behind.f a b c d e t m = some (decide (a > t ∨ a = t ∧ b > m)) := by
  unfold impl_behind.f
  by_cases h : a > t
  · rw [if_pos h]; simp [h]
  · rw [if_neg h]
    by_cases h2 : a = t
    · rw [if_pos h2]; simp [h2]
    · rw [if_neg h2]; simp [h, h2]

def fentOkB (a b c d : Int) (e : Bool) : Bool := decide (1 ≤ a ∧ a ≤ 99) && (decide (1 ≤ b ∧ b ≤ 9999) && (decide (0 ≤ c ∧ c ≤ 7) && (decide (0 ≤ d ∧ d ≤ 4) && (!e || d == 0))))
theorem sFent_eq (a b c d : Int) (e : Bool) : spec_l8Ent.f a b c d e = some (fentOkB a b c d e) := by
  unfold spec_l8Ent.f fentOkB
  simp only [l1In_eq, Option.bind_some]
  generalize decide (1 ≤ a ∧ a ≤ 99) = p1
  generalize decide (1 ≤ b ∧ b ≤ 9999) = p2
  generalize decide (0 ≤ c ∧ c ≤ 7) = p3
  generalize decide (0 ≤ d ∧ d ≤ 4) = p4
  generalize (d == 0) = p5
  cases p1 <;> cases p2 <;> cases p3 <;> cases p4 <;> cases e <;> rfl
theorem iFent_eq (a b c d : Int) (e : Bool) : impl_fentOk.f a b c d e = some (fentOkB a b c d e) := by
  unfold impl_fentOk.f fentOkB
  simp only [in_eq, Option.bind_some]
  generalize decide (1 ≤ a ∧ a ≤ 99) = p1
  generalize decide (1 ≤ b ∧ b ≤ 9999) = p2
  generalize decide (0 ≤ c ∧ c ≤ 7) = p3
  generalize decide (0 ≤ d ∧ d ≤ 4) = p4
  generalize (d == 0) = p5
  cases p1 <;> cases p2 <;> cases p3 <;> cases p4 <;> cases e <;> rfl
def fentOk (x : S44) : Bool := fentOkB x.f0 x.f1 x.f2 x.f3 x.f4
def chainF (q : S44) : List S44 → Bool
  | [] => true
  | r :: rest => fentOk r && (aheadB q.f0 q.f1 r.f0 r.f1 && chainF r rest)
def sortedF : List S44 → Bool
  | [] => true
  | r :: rest => fentOk r && chainF r rest
def fdbOk (l : List S44) : Bool := sortedF l && decide ((l.length : Int) ≤ 12)
theorem behind_ahead (q r : S44) : decide (r.f0 > q.f0 ∨ r.f0 = q.f0 ∧ r.f1 > q.f1) = aheadB q.f0 q.f1 r.f0 r.f1 := by
  unfold aheadB
  by_cases h : q.f0 = r.f0
  · rw [if_pos h]
    exact decide_eq_decide.2 (by omega)
  · rw [if_neg h]
    exact decide_eq_decide.2 (by omega)
theorem rdIF_last (pre rest : List S44) (q : S44) : rd_T44 (pre ++ q :: rest) ((pre.length : Int) + 1 - 1) = q := by
  rw [show (pre.length : Int) + 1 - 1 = (pre.length : Int) by omega]
  exact rdIF_mid pre rest q
theorem rdIF_next (pre rest : List S44) (q r : S44) : rd_T44 (pre ++ q :: r :: rest) ((pre.length : Int) + 1) = r := by
  have h := rdIF_mid (pre ++ [q]) rest r
  simpa using h
theorem sFdbOk_loop (rest : List S44) : ∀ (pre : List S44) (q : S44) (k : Nat), pre.length + rest.length ≤ 1099511627776 → rest.length < k →
    spec_FdbOk.l0 k (pre ++ q :: rest) ((pre.length : Int) + 1) = some (chainF q rest && decide (((pre ++ q :: rest).length : Int) ≤ 12)) := by
  induction rest with
  | nil =>
    intro pre q k _ hk
    obtain ⟨k, rfl⟩ := succ_of hk
    simp only [spec_FdbOk.l0]
    rw [if_neg (by simp only [List.length_append, List.length_cons, List.length_nil]; omega)]
    simp [chainF]
  | cons r rest ih =>
    intro pre q k hn hk
    obtain ⟨k, rfl⟩ := succ_of hk
    simp only [List.length_cons] at hn hk
    have h := ih (pre ++ [q]) r k (by simp only [List.length_append, List.length_cons, List.length_nil]; omega) (by omega)
    simp only [List.append_assoc, List.cons_append, List.nil_append, List.length_append, List.length_cons, List.length_nil] at h
    simp only [spec_FdbOk.l0]
    rw [if_pos (by simp only [List.length_append, List.length_cons]; omega), if_pos (by omega)]
    simp only [rdIF_next, sFent_eq, Option.bind_some, chainF]
    cases he : fentOkB r.f0 r.f1 r.f2 r.f3 r.f4 with
    | false => simp [fentOk, he]
    | true =>
      simp only [if_true]
      rw [if_pos (by omega), w64 (x := (pre.length : Int) + 1 - 1) (by omega) (by omega), if_pos (by omega), if_pos (by simp only [List.length_append, List.length_cons]; omega)]
      simp only [rdIF_last, l8Ahead_eq, Option.bind_some]
      cases ha : aheadB q.f0 q.f1 r.f0 r.f1 with
      | false => simp
      | true =>
        simp only [if_true, fentOk, he, Bool.true_and]
        rw [w64 (by omega) (by omega)]
        simp only [List.length_append, List.length_cons]
        rw [show (pre.length : Int) + 1 + 1 = ((pre.length + (0 + 1) : Nat) : Int) + 1 from by omega, h]
theorem iFdbOk_loop (rest : List S44) : ∀ (pre : List S44) (q : S44) (all : List S44) (n : Int) (k : Nat), all = pre ++ q :: rest → n = (all.length : Int) → pre.length + rest.length ≤ 1099511627776 → rest.length < k →
    impl_FdbOk.l0 k all all n ((pre.length : Int) + 1) = some (chainF q rest && decide ((all.length : Int) ≤ 12)) := by
  induction rest with
  | nil =>
    intro pre q all n k ha hm _ hk
    obtain ⟨k, rfl⟩ := succ_of hk
    subst ha
    simp only [List.length_append, List.length_cons, List.length_nil] at hm
    simp only [impl_FdbOk.l0]
    rw [if_neg (by omega)]
    simp [chainF]
  | cons r rest ih =>
    intro pre q all n k hall hm hn hk
    obtain ⟨k, rfl⟩ := succ_of hk
    simp only [List.length_cons] at hn hk
    have h := ih (pre ++ [q]) r all n k (by simp [hall]) hm (by simp only [List.length_append, List.length_cons, List.length_nil]; omega) (by omega)
    simp only [List.length_append, List.length_cons, List.length_nil] at h
    have hlen : all.length = pre.length + (rest.length + 1 + 1) := by rw [hall]; simp only [List.length_append, List.length_cons]
    simp only [impl_FdbOk.l0]
    rw [if_pos (by omega), if_pos (by omega), if_pos (by omega)]
    have e1 : rd_T44 all ((pre.length : Int) + 1) = r := by rw [hall]; exact rdIF_next pre rest q r
    have e2 : rd_T44 all ((pre.length : Int) + 1 - 1) = q := by rw [hall]; exact rdIF_last pre (r :: rest) q
    simp only [e1, iFent_eq, Option.bind_some, chainF]
    cases he : fentOkB r.f0 r.f1 r.f2 r.f3 r.f4 with
    | false => simp [fentOk, he]
    | true =>
      simp only [if_true]
      rw [if_pos (by omega), w64 (x := (pre.length : Int) + 1 - 1) (by omega) (by omega), if_pos (by omega), if_pos (by omega)]
      simp only [e2, behind_eq, Option.bind_some, behind_ahead]
      cases ha : aheadB q.f0 q.f1 r.f0 r.f1 with
      | false => simp
      | true =>
        simp only [if_true, fentOk, he, Bool.true_and]
        rw [w64 (by omega) (by omega), show (pre.length : Int) + 1 + 1 = ((pre.length + (0 + 1) : Nat) : Int) + 1 from by omega, h]
theorem sFdbOk_ev (l : List S44) (h : l.length ≤ 1048576) : Ev (fun k => spec_FdbOk.f k l) (fdbOk l) := by
  refine Ev.at_ (l.length + 1) fun k hk => ?_
  obtain ⟨k, rfl⟩ := succ_of hk
  simp only [spec_FdbOk.f]
  cases l with
  | nil =>
    simp only [spec_FdbOk.l0]
    rw [if_neg (by simp)]
    rfl
  | cons r rest =>
    simp only [List.length_cons] at h hk
    have e := sFdbOk_loop rest [] r k (by simp only [List.length_nil]; omega) (by omega)
    simp only [List.nil_append, List.length_nil] at e
    simp only [spec_FdbOk.l0]
    rw [if_pos (by simp only [List.length_cons]; omega), if_pos (by omega)]
    have e1 : rd_T44 (r :: rest) 0 = r := rdIF_mid [] rest r
    simp only [e1, sFent_eq, Option.bind_some, fdbOk, sortedF]
    cases he : fentOkB r.f0 r.f1 r.f2 r.f3 r.f4 with
    | false => simp [fentOk, he]
    | true =>
      simp only [if_true, fentOk, he, Bool.true_and]
      rw [if_neg (by omega), w64 (by omega) (by omega)]
      exact e
theorem iFdbOk_ev (l : List S44) (h : l.length ≤ 1048576) : Ev (fun k => impl_FdbOk.f k l) (fdbOk l) := by
  refine Ev.at_ (l.length + 1) fun k hk => ?_
  obtain ⟨k, rfl⟩ := succ_of hk
  simp only [impl_FdbOk.f]
  cases l with
  | nil =>
    simp only [impl_FdbOk.l0]
    rw [if_neg (by simp)]
    rfl
  | cons r rest =>
    simp only [List.length_cons] at h hk
    have e := iFdbOk_loop rest [] r (r :: rest) ((r :: rest).length : Int) k rfl rfl (by simp only [List.length_nil]; omega) (by omega)
    simp only [List.length_nil] at e
    simp only [impl_FdbOk.l0]
    rw [if_pos (by simp only [List.length_cons]; omega), if_pos (by omega), if_pos (by simp only [List.length_cons]; omega)]
    have e1 : rd_T44 (r :: rest) 0 = r := rdIF_mid [] rest r
    simp only [e1, iFent_eq, Option.bind_some, fdbOk, sortedF]
    cases he : fentOkB r.f0 r.f1 r.f2 r.f3 r.f4 with
    | false => simp [fentOk, he]
    | true =>
      simp only [if_true, fentOk, he, Bool.true_and]
      rw [if_neg (by omega), w64 (by omega) (by omega)]
      exact e

def atFrom (t m : Int) : List S44 → Int → Int
  | [], _ => -1
  | e :: r, i => if e.f0 = t ∧ e.f1 = m then i else atFrom t m r (i + 1)
theorem atFrom_bd (t m : Int) (l : List S44) : ∀ i : Int, 0 ≤ i → atFrom t m l i = -1 ∨ i ≤ atFrom t m l i ∧ atFrom t m l i < i + l.length := by
  induction l with
  | nil => intro i _; left; rfl
  | cons e r ih =>
    intro i hi
    simp only [atFrom, List.length_cons]
    split
    · right; omega
    · rcases ih (i + 1) (by omega) with h | h
      · left; exact h
      · right; omega

theorem sEntAt_loop (t m : Int) (rest : List S44) : ∀ (pre : List S44) (k : Nat), pre.length + rest.length ≤ 1099511627776 → rest.length < k →
    spec_l8At.l0 k (pre ++ rest) t m (pre.length : Int) = some (atFrom t m rest (pre.length : Int)) := by
  induction rest with
  | nil =>
    intro pre k _ hk
    obtain ⟨k, rfl⟩ := succ_of hk
    skip
    simp only [spec_l8At.l0]
    rw [if_neg (by simp only [List.length_append, List.length_nil]; omega)]
    rfl
  | cons r rest ih =>
    intro pre k hn hk
    obtain ⟨k, rfl⟩ := succ_of hk
    simp only [List.length_cons] at hn hk
    have h := ih (pre ++ [r]) k (by simp only [List.length_append, List.length_cons, List.length_nil]; omega) (by omega)
    simp only [List.append_assoc, List.cons_append, List.nil_append] at h
    simp only [spec_l8At.l0]
    rw [if_pos (by simp only [List.length_append, List.length_cons]; omega), if_pos (by omega)]
    simp only [rdIF_mid, atFrom]
    rw [w64 (by omega) (by omega), show (pre.length : Int) + 1 = ((pre ++ [r]).length : Int) from by simp, h]
    by_cases e0 : r.f0 = t
    · by_cases e1 : r.f1 = m
      · rw [if_pos e0, if_pos e1, if_pos ⟨e0, e1⟩]
      · rw [if_pos e0, if_neg e1, if_neg (by omega)]
    · rw [if_neg e0, if_neg (by omega)]
theorem sEntAt_ev (l : List S44) (t m : Int) (h : l.length ≤ 1048576) : Ev (fun k => spec_l8At.f k l t m) (atFrom t m l 0) := by
  refine Ev.at_ l.length fun k hk => ?_
  simp only [spec_l8At.f]
  have h := sEntAt_loop t m l [] k (by simp only [List.length_nil]; omega) hk
  simpa using h

theorem iEntAt_loop (t m : Int) (rest : List S44) : ∀ (pre : List S44) (n : Int) (k : Nat), n = (pre.length : Int) + rest.length → pre.length + rest.length ≤ 1099511627776 → rest.length < k →
    impl_entAt.l0 k t m (pre ++ rest) n (pre.length : Int) = some (atFrom t m rest (pre.length : Int)) := by
  induction rest with
  | nil =>
    intro pre n k hm _ hk
    obtain ⟨k, rfl⟩ := succ_of hk
    simp only [List.length_nil] at hm
    simp only [impl_entAt.l0]
    rw [if_neg (by omega)]
    rfl
  | cons r rest ih =>
    intro pre n k hm hn hk
    obtain ⟨k, rfl⟩ := succ_of hk
    simp only [List.length_cons] at hm hn hk
    have h := ih (pre ++ [r]) n k (by simp only [List.length_append, List.length_cons, List.length_nil]; omega) (by simp only [List.length_append, List.length_cons, List.length_nil]; omega) (by omega)
    simp only [List.append_assoc, List.cons_append, List.nil_append] at h
    simp only [impl_entAt.l0]
    rw [if_pos (by omega), if_pos (by omega), if_pos (by simp only [List.length_append, List.length_cons]; omega)]
    simp only [rdIF_mid, atFrom]
    rw [w64 (by omega) (by omega), show (pre.length : Int) + 1 = ((pre ++ [r]).length : Int) from by simp, h]
    by_cases e0 : r.f0 = t
    · by_cases e1 : r.f1 = m
      · rw [if_pos e0, if_pos e1, if_pos ⟨e0, e1⟩]
      · rw [if_pos e0, if_neg e1, if_neg (by omega)]
    · rw [if_neg e0, if_neg (by omega)]
theorem iEntAt_ev (l : List S44) (t m : Int) (h : l.length ≤ 1048576) : Ev (fun k => impl_entAt.f k l t m) (atFrom t m l 0) := by
  refine Ev.at_ l.length fun k hk => ?_
  simp only [impl_entAt.f]
  have h := iEntAt_loop t m l [] (l.length : Int) k (by simp) (by simp only [List.length_nil]; omega) hk
  simpa using h

def keyEq (r e : S44) : Prop := r.f0 = e.f0 ∧ r.f1 = e.f1
instance (r e : S44) : Decidable (keyEq r e) := by unfold keyEq; exact inferInstance
def dropE (e : S44) : List S44 → List S44
  | [] => []
  | r :: rest => if keyEq r e then dropE e rest else r :: dropE e rest
def putE (e : S44) : List S44 → List S44
  | [] => [e]
  | r :: rest => if aheadB r.f0 r.f1 e.f0 e.f1 = true then r :: putE e rest else e :: dropE e (r :: rest)
theorem dropE_len (e : S44) (l : List S44) : (dropE e l).length ≤ l.length := by
  induction l with
  | nil => exact Nat.le_refl _
  | cons r l ih =>
    simp only [dropE]
    split <;> simp only [List.length_cons] <;> omega
theorem putE_len (e : S44) (l : List S44) : (putE e l).length ≤ l.length + 1 := by
  induction l with
  | nil => exact Nat.le_refl _
  | cons r l ih =>
    simp only [putE]
    split
    · simp only [List.length_cons]; omega
    · have := dropE_len e (r :: l)
      simp only [List.length_cons] at this ⊢
      omega
theorem ahead_ne (r e : S44) (h : aheadB r.f0 r.f1 e.f0 e.f1 = true) : ¬ keyEq r e := by
  unfold aheadB at h
  rintro ⟨h0, h1⟩
  rw [if_pos h0] at h
  simp only [decide_eq_true_eq] at h
  omega
theorem ahead_trans (a b c : S44) (h : aheadB a.f0 a.f1 b.f0 b.f1 = true) (h' : aheadB b.f0 b.f1 c.f0 c.f1 = true) : aheadB a.f0 a.f1 c.f0 c.f1 = true := by
  unfold aheadB at h h' ⊢
  by_cases e : a.f0 = b.f0
  · rw [if_pos e] at h
    by_cases e' : b.f0 = c.f0
    · rw [if_pos e'] at h'
      rw [if_pos (e.trans e')]
      simp only [decide_eq_true_eq] at h h' ⊢
      omega
    · rw [if_neg e'] at h'
      simp only [decide_eq_true_eq] at h h'
      rw [if_neg (by omega)]
      simp only [decide_eq_true_eq]
      omega
  · rw [if_neg e] at h
    by_cases e' : b.f0 = c.f0
    · rw [if_pos e'] at h'
      simp only [decide_eq_true_eq] at h h'
      rw [if_neg (by omega)]
      simp only [decide_eq_true_eq]
      omega
    · rw [if_neg e'] at h'
      simp only [decide_eq_true_eq] at h h'
      rw [if_neg (by omega)]
      simp only [decide_eq_true_eq]
      omega
theorem chain_all (rest : List S44) : ∀ q : S44, chainF q rest = true → ∀ x ∈ rest, aheadB q.f0 q.f1 x.f0 x.f1 = true := by
  induction rest with
  | nil => intro q _ x hx; simp at hx
  | cons r rest ih =>
    intro q h x hx
    simp only [chainF, Bool.and_eq_true] at h
    rcases List.mem_cons.1 hx with rfl | hx
    · exact h.2.1
    · exact ahead_trans q r x h.2.1 (ih r h.2.2 x hx)
theorem drop_none (e : S44) (l : List S44) (h : ∀ x ∈ l, ¬ keyEq x e) : dropE e l = l := by
  induction l with
  | nil => rfl
  | cons r l ih =>
    simp only [dropE]
    rw [if_neg (h r List.mem_cons_self), ih (fun x hx => h x (List.mem_cons_of_mem _ hx))]
theorem atFrom_in (t m : Int) (l : List S44) : ∀ i : Int, 0 ≤ i → 0 ≤ atFrom t m l i → ∃ x ∈ l, x.f0 = t ∧ x.f1 = m := by
  induction l with
  | nil => intro i _ h; simp [atFrom] at h
  | cons r l ih =>
    intro i hi h
    simp only [atFrom] at h
    by_cases c : r.f0 = t ∧ r.f1 = m
    · exact ⟨r, List.mem_cons_self, c⟩
    · rw [if_neg c] at h
      obtain ⟨x, hx, hk⟩ := ih (i + 1) (by omega) h
      exact ⟨x, List.mem_cons_of_mem _ hx, hk⟩
theorem atFrom_out (t m : Int) (l : List S44) : ∀ i : Int, 0 ≤ i → atFrom t m l i < 0 → ∀ x ∈ l, ¬ (x.f0 = t ∧ x.f1 = m) := by
  induction l with
  | nil => intro i _ _ x hx; simp at hx
  | cons r l ih =>
    intro i hi h x hx
    simp only [atFrom] at h
    by_cases c : r.f0 = t ∧ r.f1 = m
    · rw [if_pos c] at h
      omega
    · rw [if_neg c] at h
      rcases List.mem_cons.1 hx with rfl | hx
      · exact c
      · exact ih (i + 1) (by omega) h x hx
/- with the list in order, a place taken is written over -/
theorem set_put (e : S44) (l : List S44) (hs : sortedF l = true) : ∀ i : Int, 0 ≤ i → 0 ≤ atFrom e.f0 e.f1 l i → l.set (atFrom e.f0 e.f1 l i - i).toNat e = putE e l := by
  induction l with
  | nil => intro i _ h; simp [atFrom] at h
  | cons r l ih =>
    intro i hi h
    have hs' : chainF r l = true := by
      simp only [sortedF, Bool.and_eq_true] at hs
      exact hs.2
    simp only [atFrom] at h ⊢
    by_cases c : r.f0 = e.f0 ∧ r.f1 = e.f1
    · rw [if_pos c, show (i - i).toNat = 0 by omega, List.set_cons_zero]
      simp only [putE]
      have hna : ¬ aheadB r.f0 r.f1 e.f0 e.f1 = true := fun z => ahead_ne r e z c
      rw [if_neg hna]
      simp only [dropE]
      rw [if_pos (show keyEq r e from c), drop_none]
      intro x hx hk
      have := chain_all l r hs' x hx
      refine ahead_ne r x this ⟨?_, ?_⟩
      · rw [c.1, hk.1]
      · rw [c.2, hk.2]
    · rw [if_neg c] at h ⊢
      obtain ⟨x, hx, hk⟩ := atFrom_in _ _ l (i + 1) (by omega) h
      have ha := chain_all l r hs' x hx
      rw [hk.1, hk.2] at ha
      have hb := atFrom_bd e.f0 e.f1 l (i + 1) (by omega)
      have hsl : sortedF l = true := by
        cases l with
        | nil => rfl
        | cons y l =>
          simp only [chainF, Bool.and_eq_true] at hs'
          simp only [sortedF, Bool.and_eq_true]
          exact ⟨hs'.1, hs'.2.2⟩
      have := ih hsl (i + 1) (by omega) h
      simp only [putE]
      rw [if_pos ha, ← this]
      obtain ⟨n, hn⟩ : ∃ n : Nat, (atFrom e.f0 e.f1 l (i + 1) - (i + 1)).toNat = n := ⟨_, rfl⟩
      rw [hn, show (atFrom e.f0 e.f1 l (i + 1) - i).toNat = n + 1 by omega, List.set_cons_succ]
def insE (e : S44) : List S44 → List S44
  | [] => [e]
  | r :: rest => if r.f0 > e.f0 ∨ r.f0 = e.f0 ∧ r.f1 > e.f1 then e :: r :: rest else r :: insE e rest
theorem ins_put (e : S44) (l : List S44) (h : ∀ x ∈ l, ¬ keyEq x e) : insE e l = putE e l := by
  induction l with
  | nil => rfl
  | cons r l ih =>
    have hr := h r List.mem_cons_self
    unfold keyEq at hr
    simp only [insE, putE]
    by_cases c : r.f0 > e.f0 ∨ r.f0 = e.f0 ∧ r.f1 > e.f1
    · have hna : ¬ aheadB r.f0 r.f1 e.f0 e.f1 = true := by
        unfold aheadB
        split
        · simp only [decide_eq_true_eq]; omega
        · simp only [decide_eq_true_eq]; omega
      rw [if_pos c, if_neg hna, drop_none e (r :: l) h]
    · have ha : aheadB r.f0 r.f1 e.f0 e.f1 = true := by
        unfold aheadB
        split
        · simp only [decide_eq_true_eq]; omega
        · simp only [decide_eq_true_eq]; omega
      rw [if_neg c, if_pos ha, ih (fun x hx => h x (List.mem_cons_of_mem _ hx))]
def putOr (e : S44) (l : List S44) : List S44 × Bool := if atFrom e.f0 e.f1 l 0 < 0 ∧ (l.length : Int) ≥ 12 then (l, false) else (putE e l, true)
theorem sPut_after (e : S44) (rest : List S44) : ∀ (pre out : List S44), pre.length + rest.length ≤ 1048576 → out.length ≤ pre.length + 1 →
    Ev (fun k => spec_l8Put.l0 k (pre ++ rest) out true (pre.length : Int) e.f0 e.f1 e.f2 e.f3 e.f4) (out ++ dropE e rest) := by
  induction rest with
  | nil =>
    intro pre out _ _
    refine Ev.succ ?_
    simp only [spec_l8Put.l0]
    simp only [List.append_nil, if_neg (show ¬ (pre.length : Int) < (pre.length : Int) by omega), if_true, dropE]
    exact Ev.now _
  | cons r rest ih =>
    intro pre out hn ho
    simp only [List.length_cons] at hn
    have h := fun out' ho' => ih (pre ++ [r]) out' (by simp only [List.length_append, List.length_cons, List.length_nil]; omega) ho'
    simp only [List.append_assoc, List.cons_append, List.nil_append, List.length_append, List.length_cons, List.length_nil] at h
    rw [show ((pre.length + (0 + 1) : Nat) : Int) = (pre.length : Int) + 1 by omega] at h
    refine Ev.succ ?_
    simp only [spec_l8Put.l0]
    simp only [if_pos (show (pre.length : Int) < ((pre ++ r :: rest).length : Int) by simp only [List.length_append, List.length_cons]; omega), if_true]
    refine Ev.succ ?_
    simp only [spec_l8Put.j1]
    simp only [Bool.false_eq_true, if_false, if_pos (show (pre.length : Int) < ((pre ++ r :: rest).length : Int) by simp only [List.length_append, List.length_cons]; omega), if_pos (show (0 : Int) ≤ (pre.length : Int) by omega), rdIF_mid, eta_F, w64 (x := (pre.length : Int) + 1) (by omega) (by omega), if_pos (show out.length < 3518437208883 by omega), dropE]
    by_cases c0 : r.f0 = e.f0
    · by_cases c1 : r.f1 = e.f1
      · simp only [if_pos c0, if_pos c1, if_pos (show keyEq r e from ⟨c0, c1⟩)]
        exact h out (by omega)
      · simp only [if_pos c0, if_neg c1, if_neg (show ¬ keyEq r e from fun z => c1 z.2)]
        have := h (out ++ [r]) (by simp only [List.length_append, List.length_cons, List.length_nil]; omega)
        simpa using this
    · simp only [if_neg c0, if_neg (show ¬ keyEq r e from fun z => c0 z.1)]
      have := h (out ++ [r]) (by simp only [List.length_append, List.length_cons, List.length_nil]; omega)
      simpa using this
theorem sPut_loop (e : S44) (rest : List S44) : ∀ (pre out : List S44), pre.length + rest.length ≤ 1048576 → out.length ≤ pre.length →
    Ev (fun k => spec_l8Put.l0 k (pre ++ rest) out false (pre.length : Int) e.f0 e.f1 e.f2 e.f3 e.f4) (out ++ putE e rest) := by
  induction rest with
  | nil =>
    intro pre out _ _
    refine Ev.succ ?_
    simp only [spec_l8Put.l0]
    simp only [List.append_nil, if_neg (show ¬ (pre.length : Int) < (pre.length : Int) by omega), Bool.false_eq_true, if_false, eta_F, if_pos (show out.length < 3518437208883 by omega), putE]
    exact Ev.now _
  | cons r rest ih =>
    intro pre out hn ho
    simp only [List.length_cons] at hn
    have h := ih (pre ++ [r]) (out ++ [r]) (by simp only [List.length_append, List.length_cons, List.length_nil]; omega) (by simp only [List.length_append, List.length_cons, List.length_nil]; omega)
    have h2 := fun out' ho' => sPut_after e rest (pre ++ [r]) out' (by simp only [List.length_append, List.length_cons, List.length_nil]; omega) ho'
    simp only [List.append_assoc, List.cons_append, List.nil_append, List.length_append, List.length_cons, List.length_nil] at h h2
    rw [show ((pre.length + (0 + 1) : Nat) : Int) = (pre.length : Int) + 1 by omega] at h h2
    refine Ev.succ ?_
    simp only [spec_l8Put.l0]
    simp only [if_pos (show (pre.length : Int) < ((pre ++ r :: rest).length : Int) by simp only [List.length_append, List.length_cons]; omega), Bool.false_eq_true, if_false, if_pos (show (0 : Int) ≤ (pre.length : Int) by omega), rdIF_mid, l8Ahead_eq, Option.bind_some]
    refine Ev.succ ?_
    simp only [spec_l8Put.j1]
    simp only [if_pos (show (pre.length : Int) < ((pre ++ r :: rest).length : Int) by simp only [List.length_append, List.length_cons]; omega), if_pos (show (0 : Int) ≤ (pre.length : Int) by omega), rdIF_mid, eta_F, w64 (x := (pre.length : Int) + 1) (by omega) (by omega), if_pos (show out.length < 3518437208883 by omega), Option.bind_some, putE]
    cases ha : aheadB r.f0 r.f1 e.f0 e.f1 with
    | true =>
      have hne := ahead_ne r e ha
      simp only [Bool.not_true, Bool.false_eq_true, if_false, if_true]
      by_cases c0 : r.f0 = e.f0
      · have c1 : ¬ r.f1 = e.f1 := fun z => hne ⟨c0, z⟩
        simp only [if_pos c0, if_neg c1]
        simpa using h
      · simp only [if_neg c0]
        simpa using h
    | false =>
      simp only [Bool.not_false, if_true, Bool.false_eq_true, if_false, List.length_append, List.length_cons, List.length_nil, if_pos (show out.length + (0 + 1) < 3518437208883 by omega), dropE]
      by_cases c0 : r.f0 = e.f0
      · by_cases c1 : r.f1 = e.f1
        · simp only [if_pos c0, if_pos c1, if_pos (show keyEq r e from ⟨c0, c1⟩)]
          have := h2 (out ++ [e]) (by simp only [List.length_append, List.length_cons, List.length_nil]; omega)
          simpa using this
        · simp only [if_pos c0, if_neg c1, if_neg (show ¬ keyEq r e from fun z => c1 z.2)]
          have := h2 (out ++ [e] ++ [r]) (by simp only [List.length_append, List.length_cons, List.length_nil]; omega)
          simpa using this
      · simp only [if_neg c0, if_neg (show ¬ keyEq r e from fun z => c0 z.1)]
        have := h2 (out ++ [e] ++ [r]) (by simp only [List.length_append, List.length_cons, List.length_nil]; omega)
        simpa using this
theorem sPut_ev (e : S44) (l : List S44) (h : l.length ≤ 1048576) : Ev (fun k => spec_l8Put.f k l e.f0 e.f1 e.f2 e.f3 e.f4) (putE e l) := by
  unfold spec_l8Put.f
  have := sPut_loop e l [] [] (by simp only [List.length_nil]; omega) (by simp)
  simpa using this
theorem sCopy_eq (l : List S44) (h : l.length ≤ 1048576) : spec_l8Copy.f l = some l := by
  unfold spec_l8Copy.f
  simp only [Option.bind_some, List.length_nil, List.nil_append]
  rw [if_pos (by omega)]
theorem iCopy_eq (l : List S44) (h : l.length ≤ 1048576) : impl_copyFdb.f l = some l := by
  unfold impl_copyFdb.f
  simp only [List.length_nil, List.nil_append]
  rw [if_pos (by omega)]
theorem iPut_loop (e : S44) (rest : List S44) : ∀ (pre : List S44), pre.length + rest.length ≤ 1048576 →
    Ev (fun k => impl_put.l0 k (pre ++ rest) (pre.length : Int) e.f0 e.f1 e.f2 e.f3 e.f4) (pre ++ insE e rest, true) := by
  induction rest with
  | nil =>
    intro pre hn
    simp only [List.length_nil] at hn
    refine Ev.succ ?_
    simp only [impl_put.l0]
    simp only [List.append_nil, if_neg (show ¬ (pre.length : Int) < (pre.length : Int) by omega), if_pos (show (0 : Int) ≤ (pre.length : Int) by omega), if_pos (Int.le_refl (pre.length : Int)), Int.toNat_natCast, List.take_length, List.drop_length, iCopy_eq pre (by omega), Option.bind_some, List.length_append, List.length_cons, List.length_nil, eta_F, if_pos (show pre.length + (0 + 1) < 3518437208883 by omega), if_pos (show pre.length + (0 + 1) + 0 < 3518437208883 by omega), insE]
    exact Ev.now _
  | cons r rest ih =>
    intro pre hn
    simp only [List.length_cons] at hn
    have h := ih (pre ++ [r]) (by simp only [List.length_append, List.length_cons, List.length_nil]; omega)
    simp only [List.append_assoc, List.cons_append, List.nil_append, List.length_append, List.length_cons, List.length_nil] at h
    rw [show ((pre.length + (0 + 1) : Nat) : Int) = (pre.length : Int) + 1 by omega] at h
    refine Ev.succ ?_
    simp only [impl_put.l0]
    simp only [if_pos (show (pre.length : Int) < ((pre ++ r :: rest).length : Int) by simp only [List.length_append, List.length_cons]; omega), if_pos (show (pre.length : Int) ≤ ((pre ++ r :: rest).length : Int) by simp only [List.length_append, List.length_cons]; omega), if_pos (show (0 : Int) ≤ (pre.length : Int) by omega), rdIF_mid, behind_eq, Option.bind_some, Int.toNat_natCast, List.take_left, List.drop_left, decide_eq_true_eq, w64 (x := (pre.length : Int) + 1) (by omega) (by omega), insE]
    by_cases c : r.f0 > e.f0 ∨ r.f0 = e.f0 ∧ r.f1 > e.f1
    · simp only [if_pos c, iCopy_eq pre (by omega), Option.bind_some, List.length_append, List.length_cons, List.length_nil, eta_F, if_pos (show pre.length + (0 + 1) < 3518437208883 by omega), if_pos (show pre.length + (0 + 1) + (rest.length + 1) < 3518437208883 by omega)]
      have e1 : pre ++ [e] ++ r :: rest = pre ++ e :: r :: rest := by simp
      rw [e1]
      exact Ev.now _
    · simp only [if_neg c]
      exact h
theorem iPut_ev (e : S44) (l : List S44) (h : l.length ≤ 1048576) (hs : sortedF l = true) : Ev (fun k => impl_put.f k l e.f0 e.f1 e.f2 e.f3 e.f4) (putOr e l) := by
  unfold impl_put.f putOr
  simp only [iCopy_eq l h, Option.bind_some]
  refine Ev.bind (iEntAt_ev l e.f0 e.f1 h) ?_
  have hb := atFrom_bd e.f0 e.f1 l 0 (by omega)
  by_cases c : atFrom e.f0 e.f1 l 0 ≥ 0
  · have hs' := set_put e l hs 0 (by omega) c
    rw [show atFrom e.f0 e.f1 l 0 - 0 = atFrom e.f0 e.f1 l 0 by omega] at hs'
    simp only [if_pos c, if_pos (show (0 : Int) ≤ atFrom e.f0 e.f1 l 0 by omega), if_pos (show atFrom e.f0 e.f1 l 0 < (l.length : Int) by omega), if_neg (show ¬ (atFrom e.f0 e.f1 l 0 < 0 ∧ (l.length : Int) ≥ 12) by omega), eta_F, hs']
    exact Ev.now _
  · simp only [if_neg c]
    by_cases d : (l.length : Int) ≥ 12
    · simp only [if_pos d, if_pos (show atFrom e.f0 e.f1 l 0 < 0 ∧ (l.length : Int) ≥ 12 by omega)]
      exact Ev.now _
    · simp only [if_neg d, if_neg (show ¬ (atFrom e.f0 e.f1 l 0 < 0 ∧ (l.length : Int) ≥ 12) by omega)]
      have := iPut_loop e l [] (by simp only [List.length_nil]; omega)
      rw [ins_put e l (fun x hx hk => atFrom_out e.f0 e.f1 l 0 (by omega) (by omega) x hx hk)] at this
      simpa using this
theorem putOr_len (e : S44) (l : List S44) : (putOr e l).1.length ≤ l.length + 1 := by
  unfold putOr
  split
  · show l.length ≤ _; omega
  · exact putE_len e l

def setStatic (l : List S44) (a b c : Int) : List S44 × Bool := if fdbOk l = true then (if fentOkB a b c 0 true = true then putOr ⟨a, b, c, 0, true⟩ l else (l, false)) else (l, false)
theorem setStatic_len (l : List S44) (a b c : Int) : (setStatic l a b c).1.length ≤ l.length + 1 := by
  unfold setStatic
  split
  · split
    · exact putOr_len _ _
    · show l.length ≤ _; omega
  · show l.length ≤ _; omega
theorem sStatic_j0 (l : List S44) (q : Bool) (e : S44) (h : l.length ≤ 1048576) : Ev (fun k => spec_SetStatic.j0 k l q e.f0 e.f1 e.f2 e.f3 e.f4) (if q = true then (l, false) else (putE e l, true)) := by
  refine Ev.succ ?_
  simp only [spec_SetStatic.j0]
  simp only [sCopy_eq l h, Option.bind_some]
  refine Ev.ite (fun _ => Ev.now _) (fun _ => ?_)
  exact Ev.bind (sPut_ev e l h) (Ev.now _)
theorem sSetStatic_ev (l : List S44) (a b c : Int) (h : l.length ≤ 1048576) : Ev (fun k => spec_SetStatic.f k l a b c) (setStatic l a b c) := by
  unfold spec_SetStatic.f setStatic
  refine Ev.bind (sFdbOk_ev l h) ?_
  simp only [sFent_eq, Option.bind_some]
  refine Ev.ite (fun _ => ?_) (fun _ => sStatic_j0 l true ⟨a, b, c, 0, true⟩ h)
  refine Ev.ite (fun _ => ?_) (fun _ => sStatic_j0 l true ⟨a, b, c, 0, true⟩ h)
  refine Ev.bind (sEntAt_ev l a b h) ?_
  unfold putOr
  by_cases d : atFrom a b l 0 < 0
  · simp only [if_pos d]
    have := sStatic_j0 l (decide ((l.length : Int) ≥ 12)) ⟨a, b, c, 0, true⟩ h
    simpa [d] using this
  · simp only [if_neg d, if_neg (show ¬ (atFrom a b l 0 < 0 ∧ (l.length : Int) ≥ 12) from fun z => d z.1)]
    exact sStatic_j0 l false ⟨a, b, c, 0, true⟩ h
theorem iStatic_no (l : List S44) (e : S44) (h : l.length ≤ 1048576) : Ev (fun k => impl_SetStatic.j0 k l true e.f0 e.f1 e.f2 e.f3 e.f4) (l, false) := by
  refine Ev.succ ?_
  simp only [impl_SetStatic.j0]
  simp only [iCopy_eq l h, Option.bind_some, if_true]
  exact Ev.now _
theorem iStatic_yes (l : List S44) (e : S44) (h : l.length ≤ 1048576) (hs : sortedF l = true) : Ev (fun k => impl_SetStatic.j0 k l false e.f0 e.f1 e.f2 e.f3 e.f4) (putOr e l) := by
  refine Ev.succ ?_
  simp only [impl_SetStatic.j0]
  simp only [Bool.false_eq_true, if_false]
  exact Ev.bind (iPut_ev e l h hs) (Ev.now _)
theorem iSetStatic_ev (l : List S44) (a b c : Int) (h : l.length ≤ 1048576) : Ev (fun k => impl_SetStatic.f k l a b c) (setStatic l a b c) := by
  unfold impl_SetStatic.f setStatic
  refine Ev.bind (iFdbOk_ev l h) ?_
  simp only [iFent_eq, Option.bind_some]
  refine Ev.ite (fun d => ?_) (fun _ => iStatic_no l ⟨a, b, c, 0, true⟩ h)
  have hs : sortedF l = true := by
    unfold fdbOk at d
    simp only [Bool.and_eq_true] at d
    exact d.1
  cases z : fentOkB a b c 0 true with
  | true =>
    simp only [Bool.not_true, if_true]
    exact iStatic_yes l ⟨a, b, c, 0, true⟩ h hs
  | false =>
    simp only [Bool.not_false, Bool.false_eq_true, if_false]
    exact iStatic_no l ⟨a, b, c, 0, true⟩ h

def heldF (l : List S44) (i : Int) : Bool := if i ≥ 0 then (rd_T44 l i).f4 else false
def learn (l : List S44) (a b c : Int) : List S44 := if fdbOk l = true then (if fentOkB a b c 0 false = true then (if heldF l (atFrom a b l 0) = true then l else (putOr ⟨a, b, c, 0, false⟩ l).1) else l) else l
theorem learn_len (l : List S44) (a b c : Int) : (learn l a b c).length ≤ l.length + 1 := by
  unfold learn
  split
  · split
    · split
      · omega
      · exact putOr_len _ _
    · omega
  · omega
theorem sLearn_j0 (l : List S44) (q : Bool) (e : S44) (h : l.length ≤ 1048576) : Ev (fun k => spec_Learn.j0 k l q e.f0 e.f1 e.f2 e.f3 e.f4) (if q = true then l else putE e l) := by
  refine Ev.succ ?_
  simp only [spec_Learn.j0]
  simp only [sCopy_eq l h, Option.bind_some]
  refine Ev.ite (fun _ => Ev.now _) (fun _ => ?_)
  exact Ev.bind (sPut_ev e l h) (Ev.now _)
theorem sLearn_ev (l : List S44) (a b c : Int) (h : l.length ≤ 1048576) : Ev (fun k => spec_Learn.f k l a b c) (learn l a b c) := by
  unfold spec_Learn.f learn
  refine Ev.bind (sEntAt_ev l a b h) ?_
  refine Ev.bind (sFdbOk_ev l h) ?_
  simp only [sFent_eq, Option.bind_some]
  refine Ev.ite (fun _ => ?_) (fun _ => sLearn_j0 l true ⟨a, b, c, 0, false⟩ h)
  refine Ev.ite (fun _ => ?_) (fun _ => sLearn_j0 l true ⟨a, b, c, 0, false⟩ h)
  have hb := atFrom_bd a b l 0 (by omega)
  unfold heldF putOr
  by_cases d : atFrom a b l 0 < 0
  · simp only [if_pos d, if_neg (show ¬ atFrom a b l 0 ≥ 0 by omega), Bool.false_eq_true, if_false]
    have := sLearn_j0 l (decide ((l.length : Int) ≥ 12)) ⟨a, b, c, 0, false⟩ h
    by_cases z : (l.length : Int) ≥ 12
    · rw [if_pos (show atFrom a b l 0 < 0 ∧ (l.length : Int) ≥ 12 from ⟨d, z⟩)]
      rw [decide_eq_true z] at this ⊢
      exact this
    · rw [if_neg (show ¬ (atFrom a b l 0 < 0 ∧ (l.length : Int) ≥ 12) from fun y => z y.2)]
      rw [decide_eq_false z] at this ⊢
      exact this
  · simp only [if_neg d, if_pos (show atFrom a b l 0 ≥ 0 by omega), if_pos (show (0 : Int) ≤ atFrom a b l 0 by omega), if_pos (show atFrom a b l 0 < (l.length : Int) by omega), if_neg (show ¬ (atFrom a b l 0 < 0 ∧ (l.length : Int) ≥ 12) from fun z => d z.1)]
    refine Ev.ite (fun _ => sLearn_j0 l true ⟨a, b, c, 0, false⟩ h) (fun _ => sLearn_j0 l false ⟨a, b, c, 0, false⟩ h)
theorem iLearn_no (l : List S44) (e : S44) (h : l.length ≤ 1048576) : Ev (fun k => impl_Learn.j0 k l true e.f0 e.f1 e.f2 e.f3 e.f4) l := by
  refine Ev.succ ?_
  simp only [impl_Learn.j0]
  simp only [iCopy_eq l h, Option.bind_some, if_true]
  exact Ev.now _
theorem iLearn_yes (l : List S44) (e : S44) (h : l.length ≤ 1048576) (hs : sortedF l = true) : Ev (fun k => impl_Learn.j0 k l false e.f0 e.f1 e.f2 e.f3 e.f4) (putOr e l).1 := by
  refine Ev.succ ?_
  simp only [impl_Learn.j0]
  simp only [Bool.false_eq_true, if_false]
  exact Ev.bind (iPut_ev e l h hs) (Ev.now _)
theorem iLearn_ev (l : List S44) (a b c : Int) (h : l.length ≤ 1048576) : Ev (fun k => impl_Learn.f k l a b c) (learn l a b c) := by
  unfold impl_Learn.f learn
  refine Ev.bind (iEntAt_ev l a b h) ?_
  refine Ev.bind (iFdbOk_ev l h) ?_
  simp only [iFent_eq, Option.bind_some]
  refine Ev.ite (fun d => ?_) (fun _ => iLearn_no l ⟨a, b, c, 0, false⟩ h)
  have hs : sortedF l = true := by
    unfold fdbOk at d
    simp only [Bool.and_eq_true] at d
    exact d.1
  refine Ev.ite (fun _ => ?_) (fun _ => iLearn_no l ⟨a, b, c, 0, false⟩ h)
  have hb := atFrom_bd a b l 0 (by omega)
  unfold heldF
  by_cases z : atFrom a b l 0 ≥ 0
  · simp only [if_pos z, if_pos (show (0 : Int) ≤ atFrom a b l 0 by omega), if_pos (show atFrom a b l 0 < (l.length : Int) by omega)]
    cases y : (rd_T44 l (atFrom a b l 0)).f4 with
    | true =>
      simp only [if_true]
      exact iLearn_no l ⟨a, b, c, 0, false⟩ h
    | false =>
      simp only [Bool.false_eq_true, if_false]
      exact iLearn_yes l ⟨a, b, c, 0, false⟩ h hs
  · simp only [if_neg z, Bool.false_eq_true, if_false]
    exact iLearn_yes l ⟨a, b, c, 0, false⟩ h hs

def ageAll : List S44 → List S44
  | [] => []
  | e :: r => if e.f4 = true then e :: ageAll r else if e.f3 < 4 then ⟨e.f0, e.f1, e.f2, wrap64 (e.f3 + 1), e.f4⟩ :: ageAll r else ageAll r
theorem ageAll_len (l : List S44) : (ageAll l).length ≤ l.length := by
  induction l with
  | nil => exact Nat.le_refl _
  | cons e r ih =>
    simp only [ageAll]
    split
    · simp only [List.length_cons]; omega
    · split <;> simp only [List.length_cons] <;> omega
theorem sAgeAll_loop (rest : List S44) : ∀ (pre out : List S44) (k : Nat), pre.length + rest.length ≤ 1048576 → out.length ≤ pre.length → rest.length < k →
    spec_AgeAll.l0 k (pre ++ rest) out (pre.length : Int) = some (out ++ ageAll rest) := by
  induction rest with
  | nil =>
    intro pre out k _ _ hk
    obtain ⟨k, rfl⟩ := succ_of hk
    simp only [spec_AgeAll.l0]
    rw [if_neg (by simp only [List.length_append, List.length_nil]; omega)]
    simp [ageAll]
  | cons r rest ih =>
    intro pre out k hn ho hk
    obtain ⟨k, rfl⟩ := succ_of hk
    simp only [List.length_cons] at hn hk
    have h := fun out' ho' => ih (pre ++ [r]) out' k (by simp only [List.length_append, List.length_cons, List.length_nil]; omega) ho' (by omega)
    simp only [List.append_assoc, List.cons_append, List.nil_append] at h
    simp only [spec_AgeAll.l0]
    rw [if_pos (by simp only [List.length_append, List.length_cons]; omega), if_pos (by omega)]
    simp only [rdIF_mid, eta_F, ageAll]
    rw [w64 (x := (pre.length : Int) + 1) (by omega) (by omega), show (pre.length : Int) + 1 = ((pre ++ [r]).length : Int) from by simp]
    by_cases c : r.f4 = true
    · rw [if_pos c, if_pos (by omega), h _ (by simp only [List.length_append, List.length_cons, List.length_nil]; omega), if_pos c]
      simp
    · rw [if_neg c, if_neg c]
      by_cases e : r.f3 < 4
      · rw [if_pos e, if_pos (by omega), h _ (by simp only [List.length_append, List.length_cons, List.length_nil]; omega), if_pos e]
        simp
      · rw [if_neg e, h _ (by simp only [List.length_append, List.length_cons, List.length_nil]; omega), if_neg e]
theorem sAgeAll_ev (l : List S44) (h : l.length ≤ 1048576) : Ev (fun k => spec_AgeAll.f k l) (ageAll l) := by
  refine Ev.at_ l.length fun k hk => ?_
  simp only [spec_AgeAll.f]
  have h := sAgeAll_loop l [] [] k (by simp only [List.length_nil]; omega) (Nat.le_refl _) hk
  simpa using h

def dropS (t m : Int) : List S44 → List S44 × Bool
  | [] => ([], false)
  | e :: r => if e.f4 = true ∧ e.f0 = t ∧ e.f1 = m then (r, true) else (e :: (dropS t m r).1, (dropS t m r).2)
theorem dropS_len (t m : Int) (l : List S44) : (dropS t m l).1.length ≤ l.length := by
  induction l with
  | nil => exact Nat.le_refl _
  | cons e r ih =>
    simp only [dropS]
    split <;> simp only [List.length_cons] <;> omega
theorem sDropStatic_gone (t m : Int) (rest : List S44) : ∀ (pre out : List S44) (k : Nat), pre.length + rest.length ≤ 1048576 → out.length ≤ pre.length → rest.length < k →
    spec_DropStatic.l0 k (pre ++ rest) t m out true (pre.length : Int) = some (out ++ rest, true) := by
  induction rest with
  | nil =>
    intro pre out k _ _ hk
    obtain ⟨k, rfl⟩ := succ_of hk
    simp only [spec_DropStatic.l0]
    rw [if_neg (by simp only [List.length_append, List.length_nil]; omega)]
    simp
  | cons r rest ih =>
    intro pre out k hn ho hk
    obtain ⟨k, rfl⟩ := succ_of hk
    simp only [List.length_cons] at hn hk
    have h := fun out' ho' => ih (pre ++ [r]) out' k (by simp only [List.length_append, List.length_cons, List.length_nil]; omega) ho' (by omega)
    simp only [List.append_assoc, List.cons_append, List.nil_append] at h
    simp only [spec_DropStatic.l0]
    rw [if_pos (by simp only [List.length_append, List.length_cons]; omega), if_pos trivial, if_pos (by omega), if_pos (by omega)]
    simp only [rdIF_mid, eta_F]
    rw [w64 (by omega) (by omega), show (pre.length : Int) + 1 = ((pre ++ [r]).length : Int) from by simp, h _ (by simp only [List.length_append, List.length_cons, List.length_nil]; omega)]
    simp
theorem sDropStatic_loop (t m : Int) (rest : List S44) : ∀ (pre out : List S44) (k : Nat), pre.length + rest.length ≤ 1048576 → out.length ≤ pre.length → rest.length < k →
    spec_DropStatic.l0 k (pre ++ rest) t m out false (pre.length : Int) = some (out ++ (dropS t m rest).1, (dropS t m rest).2) := by
  induction rest with
  | nil =>
    intro pre out k _ _ hk
    obtain ⟨k, rfl⟩ := succ_of hk
    simp only [spec_DropStatic.l0]
    rw [if_neg (by simp only [List.length_append, List.length_nil]; omega)]
    simp [dropS]
  | cons r rest ih =>
    intro pre out k hn ho hk
    obtain ⟨k, rfl⟩ := succ_of hk
    simp only [List.length_cons] at hn hk
    have h := fun out' ho' => ih (pre ++ [r]) out' k (by simp only [List.length_append, List.length_cons, List.length_nil]; omega) ho' (by omega)
    have g := fun out' ho' => sDropStatic_gone t m rest (pre ++ [r]) out' k (by simp only [List.length_append, List.length_cons, List.length_nil]; omega) ho' (by omega)
    simp only [List.append_assoc, List.cons_append, List.nil_append] at h g
    simp only [spec_DropStatic.l0]
    rw [if_pos (by simp only [List.length_append, List.length_cons]; omega), if_neg (by simp), if_pos (by omega)]
    simp only [rdIF_mid, eta_F]
    rw [w64 (by omega) (by omega), show (pre.length : Int) + 1 = ((pre ++ [r]).length : Int) from by simp]
    have ho2 : out.length < 3518437208883 := by omega
    simp only [if_pos ho2]
    rw [h (out ++ [r]) (by simp only [List.length_append, List.length_cons, List.length_nil]; omega), g out (by simp only [List.length_append, List.length_cons, List.length_nil]; omega)]
    simp only [dropS]
    by_cases c : r.f4 = true
    · by_cases c1 : r.f0 = t
      · by_cases c2 : r.f1 = m
        · rw [if_pos c, if_pos c1, if_pos c2, if_pos ⟨c, c1, c2⟩]
        · rw [if_pos c, if_pos c1, if_neg c2, if_neg (fun z => c2 z.2.2)]
          simp
      · rw [if_pos c, if_neg c1, if_neg (fun z => c1 z.2.1)]
        simp
    · rw [if_neg c, if_neg (fun z => c z.1)]
      simp
theorem iCopyFdb_eq (b : List S44) (hb : b.length ≤ 1099511627776) : impl_copyFdb.f b = some b := by
  unfold impl_copyFdb.f
  rw [if_pos (by simp only [List.length_nil]; omega)]
  simp
theorem iDropStatic_loop (t m : Int) (rest : List S44) : ∀ (pre all : List S44) (n : Int) (k : Nat), all = pre ++ rest → n = (all.length : Int) → pre.length + rest.length ≤ 1048576 → rest.length < k →
    impl_DropStatic.l0 k all t m all n (pre.length : Int) = some (pre ++ (dropS t m rest).1, (dropS t m rest).2) := by
  induction rest with
  | nil =>
    intro pre all n k ha hm hn hk
    obtain ⟨k, rfl⟩ := succ_of hk
    simp only [List.append_nil] at ha
    subst ha
    simp only [List.length_nil] at hn
    simp only [impl_DropStatic.l0]
    rw [if_neg (by omega), iCopyFdb_eq _ (by omega)]
    simp [dropS]
  | cons r rest ih =>
    intro pre all n k ha hm hn hk
    obtain ⟨k, rfl⟩ := succ_of hk
    simp only [List.length_cons] at hn hk
    have h := ih (pre ++ [r]) all n k (by simp [ha]) hm (by simp only [List.length_append, List.length_cons, List.length_nil]; omega) (by omega)
    have hlen : all.length = pre.length + (rest.length + 1) := by rw [ha]; simp only [List.length_append, List.length_cons]
    have e1 : rd_T44 all (pre.length : Int) = r := by rw [ha]; exact rdIF_mid pre rest r
    have e2 : all.take ((pre.length : Int) : Int).toNat = pre := by rw [ha, Int.toNat_natCast]; simp
    have e3 : all.drop (((pre.length : Int) + 1 : Int)).toNat = rest := by
      rw [ha, show (((pre.length : Int) + 1 : Int)).toNat = pre.length + 1 by omega]
      simp
    simp only [impl_DropStatic.l0]
    rw [if_pos (by omega), if_pos (by omega), if_pos (by omega), w64 (by omega) (by omega)]
    simp only [e1, e2, e3]
    rw [iCopyFdb_eq pre (by omega)]
    simp only [Option.bind_some]
    rw [show (pre.length : Int) + 1 = ((pre ++ [r]).length : Int) from by simp, h]
    simp only [dropS]
    by_cases c : r.f4 = true
    · by_cases c1 : r.f0 = t
      · by_cases c2 : r.f1 = m
        · rw [if_pos c, if_pos c1, if_pos c2, if_pos (by omega), if_pos (by omega), if_pos (by simp only [List.length_append, List.length_cons, List.length_nil]; omega), if_pos (by omega), if_pos ⟨c, c1, c2⟩]
        · rw [if_pos c, if_pos c1, if_neg c2, if_neg (fun z => c2 z.2.2)]
          simp
      · rw [if_pos c, if_neg c1, if_neg (fun z => c1 z.2.1)]
        simp
    · rw [if_neg c, if_neg (fun z => c z.1)]
      simp
theorem sDropStatic_ev (l : List S44) (t m : Int) (h : l.length ≤ 1048576) : Ev (fun k => spec_DropStatic.f k l t m) (dropS t m l) := by
  refine Ev.at_ l.length fun k hk => ?_
  simp only [spec_DropStatic.f]
  have h := sDropStatic_loop t m l [] [] k (by simp only [List.length_nil]; omega) (Nat.le_refl _) hk
  simpa using h
theorem iDropStatic_ev (l : List S44) (t m : Int) (h : l.length ≤ 1048576) : Ev (fun k => impl_DropStatic.f k l t m) (dropS t m l) := by
  refine Ev.at_ l.length fun k hk => ?_
  simp only [impl_DropStatic.f]
  have h := iDropStatic_loop t m l [] l (l.length : Int) k rfl rfl (by simp only [List.length_nil]; omega) hk
  simpa using h

def flushP (p : Int) : List S44 → List S44
  | [] => []
  | e :: r => if (e.f4 = true ∨ e.f2 ≠ p) then e :: flushP p r else flushP p r
theorem flushP_len (p : Int) (l : List S44) : (flushP p l).length ≤ l.length := by
  induction l with
  | nil => exact Nat.le_refl _
  | cons e r ih =>
    simp only [flushP]
    split <;> simp only [List.length_cons] <;> omega
theorem sFlushPort_loop (p : Int) (rest : List S44) : ∀ (pre out : List S44) (k : Nat), pre.length + rest.length ≤ 1048576 → out.length ≤ pre.length → rest.length < k →
    spec_FlushPort.l0 k (pre ++ rest) p out (pre.length : Int) = some (out ++ flushP p rest) := by
  induction rest with
  | nil =>
    intro pre out k _ _ hk
    obtain ⟨k, rfl⟩ := succ_of hk
    simp only [spec_FlushPort.l0]
    rw [if_neg (by simp only [List.length_append, List.length_nil]; omega)]
    simp [flushP]
  | cons r rest ih =>
    intro pre out k hn ho hk
    obtain ⟨k, rfl⟩ := succ_of hk
    simp only [List.length_cons] at hn hk
    have h := fun out' ho' => ih (pre ++ [r]) out' k (by simp only [List.length_append, List.length_cons, List.length_nil]; omega) ho' (by omega)
    simp only [List.append_assoc, List.cons_append, List.nil_append] at h
    simp only [spec_FlushPort.l0]
    rw [if_pos (by simp only [List.length_append, List.length_cons]; omega), if_pos (by omega)]
    simp only [rdIF_mid, eta_F, flushP]
    rw [w64 (by omega) (by omega), show (pre.length : Int) + 1 = ((pre ++ [r]).length : Int) from by simp]
    by_cases c : r.f4 = true
    · rw [if_pos c, if_pos (by omega), h _ (by simp only [List.length_append, List.length_cons, List.length_nil]; omega), if_pos (.inl c)]
      simp
    · rw [if_neg c]
      by_cases e : r.f2 = p
      · rw [if_pos e, h _ (by simp only [List.length_append, List.length_cons, List.length_nil]; omega), if_neg (fun z => z.elim c (fun z => z e))]
      · rw [if_neg e, if_pos (by omega), h _ (by simp only [List.length_append, List.length_cons, List.length_nil]; omega), if_pos (.inr e)]
        simp
theorem iFlushPort_loop (p : Int) (rest : List S44) : ∀ (pre out : List S44) (n : Int) (k : Nat), n = (pre.length : Int) + rest.length → pre.length + rest.length ≤ 1048576 → out.length ≤ pre.length → rest.length < k →
    impl_FlushPort.l0 k p out (pre ++ rest) n (pre.length : Int) = some (out ++ flushP p rest) := by
  induction rest with
  | nil =>
    intro pre out n k hm _ _ hk
    obtain ⟨k, rfl⟩ := succ_of hk
    simp only [List.length_nil] at hm
    simp only [impl_FlushPort.l0]
    rw [if_neg (by omega)]
    simp [flushP]
  | cons r rest ih =>
    intro pre out n k hm hn ho hk
    obtain ⟨k, rfl⟩ := succ_of hk
    simp only [List.length_cons] at hm hn hk
    have h := fun out' ho' => ih (pre ++ [r]) out' n k (by simp only [List.length_append, List.length_cons, List.length_nil]; omega) (by simp only [List.length_append, List.length_cons, List.length_nil]; omega) ho' (by omega)
    simp only [List.append_assoc, List.cons_append, List.nil_append] at h
    simp only [impl_FlushPort.l0]
    rw [if_pos (by omega), if_pos (by omega), if_pos (by simp only [List.length_append, List.length_cons]; omega)]
    simp only [rdIF_mid, eta_F, flushP]
    rw [w64 (by omega) (by omega), show (pre.length : Int) + 1 = ((pre ++ [r]).length : Int) from by simp]
    by_cases c : r.f4 = true
    · rw [if_pos c, if_pos (by omega), h _ (by simp only [List.length_append, List.length_cons, List.length_nil]; omega), if_pos (.inl c)]
      simp
    · rw [if_neg c]
      by_cases e : r.f2 = p
      · rw [if_pos e, h _ (by simp only [List.length_append, List.length_cons, List.length_nil]; omega), if_neg (fun z => z.elim c (fun z => z e))]
      · rw [if_neg e, if_pos (by omega), h _ (by simp only [List.length_append, List.length_cons, List.length_nil]; omega), if_pos (.inr e)]
        simp
theorem sFlushPort_ev (l : List S44) (p : Int) (h : l.length ≤ 1048576) : Ev (fun k => spec_FlushPort.f k l p) (flushP p l) := by
  refine Ev.at_ l.length fun k hk => ?_
  simp only [spec_FlushPort.f]
  have h := sFlushPort_loop p l [] [] k (by simp only [List.length_nil]; omega) (Nat.le_refl _) hk
  simpa using h
theorem iFlushPort_ev (l : List S44) (p : Int) (h : l.length ≤ 1048576) : Ev (fun k => impl_FlushPort.f k l p) (flushP p l) := by
  refine Ev.at_ l.length fun k hk => ?_
  simp only [impl_FlushPort.f]
  have h := iFlushPort_loop p l [] [] (l.length : Int) k (by simp) (by simp only [List.length_nil]; omega) (Nat.le_refl _) hk
  simpa using h

def nextFrom (t m : Int) : List S44 → Int → Int
  | [], _ => -1
  | e :: r, i => if (e.f0 > t ∨ e.f0 = t ∧ e.f1 > m) then i else nextFrom t m r (i + 1)
theorem sNextEnt_loop (t m : Int) (rest : List S44) : ∀ (pre : List S44) (k : Nat), pre.length + rest.length ≤ 1099511627776 → rest.length < k →
    spec_NextEnt.l0 k (pre ++ rest) t m (pre.length : Int) = some (nextFrom t m rest (pre.length : Int)) := by
  induction rest with
  | nil =>
    intro pre k _ hk
    obtain ⟨k, rfl⟩ := succ_of hk
    simp only [spec_NextEnt.l0]
    rw [if_neg (by simp only [List.length_append, List.length_nil]; omega)]
    rfl
  | cons r rest ih =>
    intro pre k hn hk
    obtain ⟨k, rfl⟩ := succ_of hk
    simp only [List.length_cons] at hn hk
    have h := ih (pre ++ [r]) k (by simp only [List.length_append, List.length_cons, List.length_nil]; omega) (by omega)
    simp only [List.append_assoc, List.cons_append, List.nil_append] at h
    simp only [spec_NextEnt.l0]
    rw [if_pos (by simp only [List.length_append, List.length_cons]; omega), if_pos (by omega)]
    simp only [rdIF_mid, l8Ahead_eq, Option.bind_some, nextFrom]
    rw [w64 (by omega) (by omega), show (pre.length : Int) + 1 = ((pre ++ [r]).length : Int) from by simp, h]
    unfold aheadB
    by_cases e0 : r.f0 = t
    · by_cases e1 : r.f1 < m
      · simp only [if_pos e0, if_true, decide_eq_true e1]
        rw [if_neg (by omega)]
      · simp only [if_pos e0, decide_eq_false e1, Bool.false_eq_true, if_false]
        by_cases e2 : r.f1 = m
        · rw [if_pos e2, if_neg (by omega)]
        · rw [if_neg e2, if_pos (by omega)]
    · simp only [if_neg e0]
      by_cases e1 : r.f0 < t
      · simp only [decide_eq_true e1, if_true]
        rw [if_neg (by omega)]
      · simp only [decide_eq_false e1, Bool.false_eq_true, if_false]
        rw [if_pos (by omega)]
theorem iNextEnt_loop (t m : Int) (rest : List S44) : ∀ (pre : List S44) (n : Int) (k : Nat), n = (pre.length : Int) + rest.length → pre.length + rest.length ≤ 1099511627776 → rest.length < k →
    impl_NextEnt.l0 k t m (pre ++ rest) n (pre.length : Int) = some (nextFrom t m rest (pre.length : Int)) := by
  induction rest with
  | nil =>
    intro pre n k hm _ hk
    obtain ⟨k, rfl⟩ := succ_of hk
    simp only [List.length_nil] at hm
    simp only [impl_NextEnt.l0]
    rw [if_neg (by omega)]
    rfl
  | cons r rest ih =>
    intro pre n k hm hn hk
    obtain ⟨k, rfl⟩ := succ_of hk
    simp only [List.length_cons] at hm hn hk
    have h := ih (pre ++ [r]) n k (by simp only [List.length_append, List.length_cons, List.length_nil]; omega) (by simp only [List.length_append, List.length_cons, List.length_nil]; omega) (by omega)
    simp only [List.append_assoc, List.cons_append, List.nil_append] at h
    simp only [impl_NextEnt.l0]
    rw [if_pos (by omega), if_pos (by omega), if_pos (by simp only [List.length_append, List.length_cons]; omega)]
    simp only [rdIF_mid, behind_eq, Option.bind_some, nextFrom, decide_eq_true_eq]
    rw [w64 (by omega) (by omega), show (pre.length : Int) + 1 = ((pre ++ [r]).length : Int) from by simp, h]
    split <;> rfl
theorem sNextEnt_ev (l : List S44) (t m : Int) (h : l.length ≤ 1048576) : Ev (fun k => spec_NextEnt.f k l t m) (nextFrom t m l 0) := by
  refine Ev.at_ l.length fun k hk => ?_
  simp only [spec_NextEnt.f]
  have h := sNextEnt_loop t m l [] k (by simp only [List.length_nil]; omega) hk
  simpa using h
theorem iNextEnt_ev (l : List S44) (t m : Int) (h : l.length ≤ 1048576) : Ev (fun k => impl_NextEnt.f k l t m) (nextFrom t m l 0) := by
  refine Ev.at_ l.length fun k hk => ?_
  simp only [impl_NextEnt.f]
  have h := iNextEnt_loop t m l [] (l.length : Int) k (by simp) (by simp only [List.length_nil]; omega) hk
  simpa using h

theorem chain_key (q q' : S44) (h0 : q.f0 = q'.f0) (h1 : q.f1 = q'.f1) (l : List S44) : chainF q l = chainF q' l := by
  cases l with
  | nil => rfl
  | cons r l => simp only [chainF, h0, h1]
theorem chain_weak (q r : S44) (h : aheadB q.f0 q.f1 r.f0 r.f1 = true) (l : List S44) (hc : chainF r l = true) : chainF q l = true := by
  cases l with
  | nil => rfl
  | cons x l =>
    simp only [chainF, Bool.and_eq_true] at hc ⊢
    exact ⟨hc.1, ahead_trans q r x h hc.2.1, hc.2.2⟩
theorem sorted_of_chain (r : S44) (l : List S44) (h : chainF r l = true) : sortedF l = true := by
  cases l with
  | nil => rfl
  | cons x l =>
    simp only [chainF, Bool.and_eq_true] at h
    simp only [sortedF, Bool.and_eq_true]
    exact ⟨h.1, h.2.2⟩
theorem fent_age (e : S44) (h : fentOk e = true) (h3 : e.f3 < 4) (h4 : ¬ e.f4 = true) : fentOk ⟨e.f0, e.f1, e.f2, wrap64 (e.f3 + 1), e.f4⟩ = true := by
  unfold fentOk fentOkB at h ⊢
  simp only [Bool.and_eq_true, decide_eq_true_eq] at h ⊢
  rw [w64 (by omega) (by omega)]
  refine ⟨h.1, h.2.1, h.2.2.1, by omega, ?_⟩
  cases z : e.f4 with
  | true => exact absurd z h4
  | false => rfl
theorem age_chain (rest : List S44) : ∀ q : S44, chainF q rest = true → chainF q (ageAll rest) = true := by
  induction rest with
  | nil => intro q h; exact h
  | cons r rest ih =>
    intro q h
    simp only [chainF, Bool.and_eq_true] at h
    simp only [ageAll]
    split
    · simp only [chainF, Bool.and_eq_true]
      exact ⟨h.1, h.2.1, ih r h.2.2⟩
    · rename_i h4
      split
      · rename_i h3
        simp only [chainF, Bool.and_eq_true]
        exact ⟨fent_age r h.1 h3 h4, h.2.1, (chain_key ⟨r.f0, r.f1, r.f2, wrap64 (r.f3 + 1), r.f4⟩ r rfl rfl _).trans (ih r h.2.2)⟩
      · exact chain_weak q r h.2.1 _ (ih r h.2.2)
theorem age_sorted (l : List S44) (h : sortedF l = true) : sortedF (ageAll l) = true := by
  cases l with
  | nil => rfl
  | cons r l =>
    simp only [sortedF, Bool.and_eq_true] at h
    simp only [ageAll]
    split
    · simp only [sortedF, Bool.and_eq_true]
      exact ⟨h.1, age_chain l r h.2⟩
    · rename_i h4
      split
      · rename_i h3
        simp only [sortedF, Bool.and_eq_true]
        exact ⟨fent_age r h.1 h3 h4, (chain_key ⟨r.f0, r.f1, r.f2, wrap64 (r.f3 + 1), r.f4⟩ r rfl rfl _).trans (age_chain l r h.2)⟩
      · exact sorted_of_chain r _ (age_chain l r h.2)
theorem age_ok (l : List S44) (h : fdbOk l = true) : fdbOk (ageAll l) = true := by
  have hl := ageAll_len l
  unfold fdbOk at h ⊢
  simp only [Bool.and_eq_true, decide_eq_true_eq] at h ⊢
  exact ⟨age_sorted l h.1, by omega⟩
theorem ahead_or (r e : S44) (h : ¬ aheadB r.f0 r.f1 e.f0 e.f1 = true) (hk : ¬ keyEq r e) : aheadB e.f0 e.f1 r.f0 r.f1 = true := by
  unfold aheadB at h ⊢
  unfold keyEq at hk
  by_cases c : r.f0 = e.f0
  · rw [if_pos c] at h
    rw [if_pos c.symm]
    simp only [decide_eq_true_eq] at h ⊢
    omega
  · rw [if_neg c] at h
    rw [if_neg (fun z => c z.symm)]
    simp only [decide_eq_true_eq] at h ⊢
    omega
theorem drop_chain (e : S44) (l : List S44) (h : chainF e l = true) : dropE e l = l := by
  refine drop_none e l fun x hx hk => ?_
  exact ahead_ne e x (chain_all l e h x hx) ⟨hk.1.symm, hk.2.symm⟩
theorem drop_after (r e : S44) (l : List S44) (hr : fentOk r = true) (hc : chainF r l = true) (hn : ¬ aheadB r.f0 r.f1 e.f0 e.f1 = true) : chainF e (dropE e (r :: l)) = true := by
  simp only [dropE]
  by_cases hk : keyEq r e
  · rw [if_pos hk]
    have : chainF e l = true := by rw [chain_key e r hk.1.symm hk.2.symm]; exact hc
    rw [drop_chain e l this]
    exact this
  · rw [if_neg hk]
    have ha := ahead_or r e hn hk
    rw [drop_chain e l (chain_weak e r ha l hc)]
    simp only [chainF, Bool.and_eq_true]
    exact ⟨hr, ha, hc⟩
theorem put_chain (e : S44) (he : fentOk e = true) (rest : List S44) : ∀ q : S44, chainF q rest = true → aheadB q.f0 q.f1 e.f0 e.f1 = true → chainF q (putE e rest) = true := by
  induction rest with
  | nil =>
    intro q _ ha
    simp only [putE, chainF, Bool.and_eq_true]
    exact ⟨he, ha, trivial⟩
  | cons r rest ih =>
    intro q h ha
    simp only [chainF, Bool.and_eq_true] at h
    simp only [putE]
    split
    · rename_i hr
      simp only [chainF, Bool.and_eq_true]
      exact ⟨h.1, h.2.1, ih r h.2.2 hr⟩
    · rename_i hr
      have := drop_after r e rest h.1 h.2.2 hr
      simp only [chainF, Bool.and_eq_true]
      exact ⟨he, ha, this⟩
theorem put_sorted (e : S44) (he : fentOk e = true) (l : List S44) (h : sortedF l = true) : sortedF (putE e l) = true := by
  cases l with
  | nil =>
    simp only [putE, sortedF, chainF, Bool.and_eq_true]
    exact ⟨he, trivial⟩
  | cons r l =>
    simp only [sortedF, Bool.and_eq_true] at h
    simp only [putE]
    split
    · rename_i hr
      simp only [sortedF, Bool.and_eq_true]
      exact ⟨h.1, put_chain e he l r h.2 hr⟩
    · rename_i hr
      have := drop_after r e l h.1 h.2 hr
      simp only [sortedF, Bool.and_eq_true]
      exact ⟨he, this⟩
theorem putOr_ok (e : S44) (he : fentOk e = true) (l : List S44) (h : fdbOk l = true) : fdbOk (putOr e l).1 = true := by
  have h' := h
  unfold fdbOk at h'
  simp only [Bool.and_eq_true, decide_eq_true_eq] at h'
  unfold putOr
  by_cases c : atFrom e.f0 e.f1 l 0 < 0 ∧ (l.length : Int) ≥ 12
  · rw [if_pos c]
    exact h
  · rw [if_neg c]
    unfold fdbOk
    simp only [Bool.and_eq_true, decide_eq_true_eq]
    refine ⟨put_sorted e he l h'.1, ?_⟩
    have hl := putE_len e l
    by_cases d : 0 ≤ atFrom e.f0 e.f1 l 0
    · have := congrArg List.length (set_put e l h'.1 0 (by omega) d)
      rw [List.length_set] at this
      omega
    · omega
theorem fdb_small (l : List S44) (h : fdbOk l = true) : l.length ≤ 12 := by
  unfold fdbOk at h
  simp only [Bool.and_eq_true, decide_eq_true_eq] at h
  omega
theorem learn_ok (l : List S44) (a b c : Int) (h : fdbOk l = true) : fdbOk (learn l a b c) = true := by
  unfold learn
  rw [if_pos h]
  split
  · rename_i he
    split
    · exact h
    · exact putOr_ok ⟨a, b, c, 0, false⟩ he l h
  · exact h
theorem setStatic_ok (l : List S44) (a b c : Int) (h : fdbOk l = true) : fdbOk (setStatic l a b c).1 = true := by
  unfold setStatic
  rw [if_pos h]
  split
  · rename_i he
    exact putOr_ok ⟨a, b, c, 0, true⟩ he l h
  · exact h

/- a draw's state: the bytes, a place in them, a seed -/
def atOk (l : List Int) (p : Int) : Prop := 0 ≤ p ∧ p ≤ (l.length : Int)
theorem and_low (x : Int) (m : Nat) (hm : m < 9223372036854775808) : 0 ≤ Go.bits .and .i64 x (m : Int) ∧ Go.bits .and .i64 x (m : Int) ≤ m := by
  have e : m % 2 ^ IntKind.i64.bits = m := Nat.mod_eq_of_lt (show m < 2 ^ 64 by omega)
  simp only [Go.bits, BitVec.ofInt_natCast, BitVec.toNat_and, BitVec.toNat_ofNat, e]
  have h := Nat.and_le_right (n := (BitVec.ofInt IntKind.i64.bits x).toNat) (m := m)
  generalize (BitVec.ofInt IntKind.i64.bits x).toNat &&& m = q at h ⊢
  rw [IntKind.wrap_i64]
  omega
theorem and255 (x : Int) : 0 ≤ Go.bits .and .i64 x 255 ∧ Go.bits .and .i64 x 255 ≤ 255 := and_low x 255 (by decide)
theorem l1Byte_ok (l : List Int) (p s : Int) (hl : l.length ≤ 1048576) (h : atOk l p) : ∃ v p' s', spec_l1Byte.f l p s = some (v, p', s') ∧ (0 ≤ v ∧ v ≤ 255) ∧ atOk l p' := by
  unfold atOk at h
  unfold spec_l1Byte.f atOk
  by_cases c : p < (l.length : Int)
  · refine ⟨_, _, _, if_pos c |>.trans (if_pos h.1), and255 _, ?_⟩
    rw [w64 (by omega) (by omega)]
    omega
  · exact ⟨_, _, _, if_neg c, and255 _, h⟩
theorem l1Below_ok (l : List Int) (p s n : Int) (hl : l.length ≤ 1048576) (h : atOk l p) (hn : 0 < n) : ∃ v p' s', spec_l1Below.f l p s n = some (v, p', s') ∧ (0 ≤ v ∧ v < n) ∧ atOk l p' := by
  unfold spec_l1Below.f
  rw [if_neg (by omega)]
  obtain ⟨v1, p1, s1, e1, b1, h1⟩ := l1Byte_ok l p s hl h
  rw [e1]
  simp only [Option.bind_some, if_neg (show ¬ n = 0 by omega)]
  by_cases c : n ≤ 256
  · simp only [if_pos c]
    exact ⟨_, _, _, rfl, ⟨Int.tmod_nonneg _ b1.1, Int.tmod_lt_of_pos _ hn⟩, h1⟩
  · simp only [if_neg c]
    obtain ⟨v2, p2, s2, e2, b2, h2⟩ := l1Byte_ok l p1 s1 hl h1
    rw [e2]
    simp only [Option.bind_some]
    obtain ⟨v3, p3, s3, e3, b3, h3⟩ := l1Byte_ok l p2 s2 hl h2
    rw [e3]
    simp only [Option.bind_some]
    rw [w64 (x := v1 * 65536) (by omega) (by omega), w64 (x := v2 * 256) (by omega) (by omega), w64 (x := v1 * 65536 + v2 * 256) (by omega) (by omega), w64 (by omega) (by omega)]
    exact ⟨_, _, _, rfl, ⟨Int.tmod_nonneg _ (by omega), Int.tmod_lt_of_pos _ hn⟩, h3⟩
theorem rd_mem (xs : List Int) (i : Int) (h0 : 0 ≤ i) (h1 : i < (xs.length : Int)) : rd xs i ∈ xs := by
  unfold rd
  rw [List.getD_eq_getElem?_getD]
  have hi : i.toNat < xs.length := by omega
  rw [List.getElem?_eq_getElem hi]
  exact List.getElem_mem hi
theorem l1New_loop (l : List Int) (rest : List Int) : ∀ (pre : List Int) (s : Int), pre.length + rest.length ≤ 1048576 → ∃ s', Ev (fun k => spec_l1New.l0 k (pre ++ rest) s (pre.length : Int)) (pre ++ rest, 0, s') := by
  induction rest with
  | nil =>
    intro pre s _
    refine ⟨s, Ev.succ ?_⟩
    simp only [spec_l1New.l0]
    simp only [List.append_nil, if_neg (show ¬ (pre.length : Int) < (pre.length : Int) by omega)]
    exact Ev.now _
  | cons r rest ih =>
    intro pre s hn
    simp only [List.length_cons] at hn
    by_cases c : (pre.length : Int) < 4000
    · obtain ⟨s', h⟩ := ih (pre ++ [r]) (Go.bits .and .i64 (wrap64 ((wrap64 ((wrap64 (s * 137)) + (wrap64 r))) + 11)) 1073741823) (by simp only [List.length_append, List.length_cons, List.length_nil]; omega)
      simp only [List.append_assoc, List.cons_append, List.nil_append] at h
      rw [show ((pre ++ [r]).length : Int) = (pre.length : Int) + 1 by simp] at h
      refine ⟨s', Ev.succ ?_⟩
      simp only [spec_l1New.l0]
      simp only [if_pos (show (pre.length : Int) < ((pre ++ r :: rest).length : Int) by simp only [List.length_append, List.length_cons]; omega), if_pos c, if_pos (show (0 : Int) ≤ (pre.length : Int) by omega), rd_mid, w64 (x := (pre.length : Int) + 1) (by omega) (by omega)]
      exact h
    · refine ⟨s, Ev.succ ?_⟩
      simp only [spec_l1New.l0]
      simp only [if_pos (show (pre.length : Int) < ((pre ++ r :: rest).length : Int) by simp only [List.length_append, List.length_cons]; omega), if_neg c]
      exact Ev.now _
theorem l1New_ok (l : List Int) (hl : l.length ≤ 1048576) : ∃ s', Ev (fun k => spec_l1New.f k l) (l, 0, s') := by
  unfold spec_l1New.f
  have h := l1New_loop l l [] (wrap64 (762762 + (l.length : Int))) (by simp only [List.length_nil]; omega)
  simpa using h
theorem at0 (l : List Int) : atOk l 0 := ⟨by omega, by omega⟩

theorem l1Int_ok (l : List Int) (p s : Int) (xs : List Int) (hl : l.length ≤ 1048576) (h : atOk l p) (hx : 0 < xs.length) : ∃ v p' s', spec_l1Int.f l p s xs = some (v, p', s') ∧ v ∈ xs ∧ atOk l p' := by
  unfold spec_l1Int.f
  obtain ⟨v1, p1, s1, e1, b1, h1⟩ := l1Below_ok l p s (xs.length : Int) hl h (by omega)
  rw [e1]
  simp only [Option.bind_some, if_pos b1.1, if_pos b1.2]
  exact ⟨_, _, _, rfl, rd_mem xs v1 b1.1 b1.2, h1⟩

theorem l6Mac_ok (l : List Int) (p s : Int) (hl : l.length ≤ 1048576) (h : atOk l p) : ∃ v p' s', spec_l6Mac.f l p s = some (v, p', s') ∧ (11 ≤ v ∧ v ≤ 14) ∧ atOk l p' := by
  unfold spec_l6Mac.f
  obtain ⟨v1, p1, s1, e1, b1, h1⟩ := l1Int_ok l p s [11, 12, 13, 14] hl h (by decide)
  simp only [e1, Option.bind_some]
  refine ⟨_, _, _, rfl, ?_, h1⟩
  simp only [List.mem_cons, List.not_mem_nil, or_false] at b1
  omega
theorem l8Draw_loop (l : List Int) (hl : l.length ≤ 1048576) (n : Nat) : ∀ (x : List S44) (p s : Int), n ≤ 1000 → fdbOk x = true → atOk l p →
    ∃ o p' s', Ev (fun k => spec_l8Draw.l0 k x (n : Int) l p s) (o, p', s') ∧ fdbOk o = true ∧ atOk l p' := by
  induction n with
  | zero =>
    intro x p s _ hx h
    refine ⟨x, p, s, Ev.succ ?_, hx, h⟩
    simp only [spec_l8Draw.l0]
    simp only [if_neg (show ¬ ((0 : Nat) : Int) > 0 by omega)]
    exact Ev.now _
  | succ n ih =>
    intro x p s hn hx h
    have hs := fdb_small x hx
    obtain ⟨v1, p1, s1, e1, b1, h1⟩ := l1Below_ok l p s 6 hl h (by omega)
    by_cases c0 : v1 = 0
    · obtain ⟨v2, p2, s2, e2, b2, h2⟩ := l1Below_ok l p1 s1 3 hl h1 (by omega)
      obtain ⟨v3, p3, s3, e3, b3, h3⟩ := l6Mac_ok l p2 s2 hl h2
      obtain ⟨v4, p4, s4, e4, b4, h4⟩ := l1Below_ok l p3 s3 4 hl h3 (by omega)
      obtain ⟨o, p', s', e, ho, hp⟩ := ih (setStatic x (wrap64 (1 + v2)) v3 v4).1 p4 s4 (by omega) (setStatic_ok _ _ _ _ hx) h4
      refine ⟨o, p', s', Ev.succ ?_, ho, hp⟩
      simp only [spec_l8Draw.l0]
      simp only [if_pos (show ((n + 1 : Nat) : Int) > 0 by omega), e1, e2, e3, e4, Option.bind_some, if_pos c0, show ((n + 1 : Nat) : Int) - 1 = (n : Int) by omega, w64 (x := (n : Int)) (by omega) (by omega)]
      exact Ev.bind (sSetStatic_ev x _ v3 v4 (by omega)) e
    by_cases c1 : v1 = 1
    · obtain ⟨o, p', s', e, ho, hp⟩ := ih (ageAll x) p1 s1 (by omega) (age_ok _ hx) h1
      refine ⟨o, p', s', Ev.succ ?_, ho, hp⟩
      simp only [spec_l8Draw.l0]
      simp only [if_pos (show ((n + 1 : Nat) : Int) > 0 by omega), e1, Option.bind_some, if_neg c0, if_pos c1, show ((n + 1 : Nat) : Int) - 1 = (n : Int) by omega, w64 (x := (n : Int)) (by omega) (by omega)]
      exact Ev.bind (sAgeAll_ev x (by omega)) e
    · obtain ⟨v2, p2, s2, e2, b2, h2⟩ := l1Below_ok l p1 s1 3 hl h1 (by omega)
      obtain ⟨v3, p3, s3, e3, b3, h3⟩ := l6Mac_ok l p2 s2 hl h2
      obtain ⟨v4, p4, s4, e4, b4, h4⟩ := l1Below_ok l p3 s3 3 hl h3 (by omega)
      obtain ⟨v5, p5, s5, e5, b5, h5⟩ := l1Below_ok l p4 s4 4 hl h4 (by omega)
      obtain ⟨o, p', s', e, ho, hp⟩ := ih (learn x (wrap64 (1 + v2)) (wrap64 (v3 + v4)) v5) p5 s5 (by omega) (learn_ok _ _ _ _ hx) h5
      refine ⟨o, p', s', Ev.succ ?_, ho, hp⟩
      simp only [spec_l8Draw.l0]
      simp only [if_pos (show ((n + 1 : Nat) : Int) > 0 by omega), e1, e2, e3, e4, e5, Option.bind_some, if_neg c0, if_neg c1, show ((n + 1 : Nat) : Int) - 1 = (n : Int) by omega, w64 (x := (n : Int)) (by omega) (by omega)]
      exact Ev.bind (sLearn_ev x _ _ v5 (by omega)) e
theorem l8Draw_ok (l : List Int) (p s : Int) (hl : l.length ≤ 1048576) (h : atOk l p) : ∃ o p' s', Ev (fun k => spec_l8Draw.f k l p s) (o, p', s') ∧ fdbOk o = true ∧ atOk l p' := by
  unfold spec_l8Draw.f
  obtain ⟨v1, p1, s1, e1, b1, h1⟩ := l1Below_ok l p s 10 hl h (by omega)
  obtain ⟨n, hn⟩ := Int.eq_ofNat_of_zero_le b1.1
  obtain ⟨o, p', s', e, ho, hp⟩ := l8Draw_loop l hl n [] p1 s1 (by omega) rfl h1
  refine ⟨o, p', s', ?_, ho, hp⟩
  simp only [e1, Option.bind_some, hn]
  exact e

theorem sameFdb_loop (a : List S44) : ∀ (pre : List S44), pre.length + a.length ≤ 1048576 → Ev (fun k => laws_sameFdb.l0 k (pre ++ a) (pre ++ a) (pre.length : Int)) true := by
  induction a with
  | nil =>
    intro pre hn
    refine Ev.succ ?_
    simp only [laws_sameFdb.l0]
    simp only [List.append_nil, if_neg (show ¬ (pre.length : Int) < (pre.length : Int) by omega)]
    exact Ev.now _
  | cons r a ih =>
    intro pre hn
    simp only [List.length_cons] at hn
    have h := ih (pre ++ [r]) (by simp only [List.length_append, List.length_cons, List.length_nil]; omega)
    simp only [List.append_assoc, List.cons_append, List.nil_append] at h
    rw [show ((pre ++ [r]).length : Int) = (pre.length : Int) + 1 by simp] at h
    refine Ev.succ ?_
    simp only [laws_sameFdb.l0]
    simp only [if_pos (show (pre.length : Int) < ((pre ++ r :: a).length : Int) by simp only [List.length_append, List.length_cons]; omega), if_pos (show (0 : Int) ≤ (pre.length : Int) by omega), w64 (x := (pre.length : Int) + 1) (by omega) (by omega), beq_self_eq_true, Bool.not_true, Bool.or_self, Bool.false_eq_true, if_false]
    exact h
theorem sameFdb_ev (a : List S44) (h : a.length ≤ 1048576) : Ev (fun k => laws_sameFdb.f k a a) true := by
  unfold laws_sameFdb.f
  simp only [if_true]
  have e := sameFdb_loop a [] (by simp only [List.length_nil]; omega)
  simpa using e

theorem l8Any_loop (l : List Int) (hl : l.length ≤ 1048576) (n : Nat) : ∀ (x : List S44) (i p s : Int), 0 ≤ i → i ≤ 13 → 13 - i ≤ n → x.length ≤ 12 + i → atOk l p →
    ∃ o p' s', Ev (fun k => spec_l8Any.l0 k x i l p s) (o, p', s') ∧ o.length ≤ 25 ∧ atOk l p' := by
  induction n with
  | zero =>
    intro x i p s h0 h13 hn hx h
    obtain ⟨v1, p1, s1, e1, b1, h1⟩ := l1Below_ok l p s 3 hl h (by omega)
    refine ⟨x, p1, s1, Ev.succ ?_, by omega, h1⟩
    simp only [spec_l8Any.l0]
    simp only [e1, Option.bind_some, w64 (x := 11 + v1) (by omega) (by omega), if_neg (show ¬ i < 11 + v1 by omega)]
    exact Ev.now _
  | succ n ih =>
    intro x i p s h0 h13 hn hx h
    obtain ⟨v1, p1, s1, e1, b1, h1⟩ := l1Below_ok l p s 3 hl h (by omega)
    by_cases c : i < 11 + v1
    · obtain ⟨o, p', s', e, ho, hp⟩ := ih (x ++ [⟨50, wrap64 (100 + i), 1, 0, false⟩]) (i + 1) p1 s1 (by omega) (by omega) (by omega) (by simp only [List.length_append, List.length_cons, List.length_nil]; omega) h1
      refine ⟨o, p', s', Ev.succ ?_, ho, hp⟩
      simp only [spec_l8Any.l0]
      simp only [e1, Option.bind_some, w64 (x := 11 + v1) (by omega) (by omega), if_pos c, if_pos (show x.length < 3518437208883 by omega), w64 (x := i + 1) (by omega) (by omega)]
      exact e
    · refine ⟨x, p1, s1, Ev.succ ?_, by omega, h1⟩
      simp only [spec_l8Any.l0]
      simp only [e1, Option.bind_some, w64 (x := 11 + v1) (by omega) (by omega), if_neg c]
      exact Ev.now _
theorem l8Any_ok (l : List Int) (p s : Int) (hl : l.length ≤ 1048576) (h : atOk l p) : ∃ o p' s', Ev (fun k => spec_l8Any.f k l p s) (o, p', s') ∧ o.length ≤ 25 ∧ atOk l p' := by
  unfold spec_l8Any.f
  obtain ⟨o1, p1, s1, e1, b1, h1⟩ := l8Draw_ok l p s hl h
  have hb := fdb_small o1 b1
  obtain ⟨v2, p2, s2, e2, b2, h2⟩ := l1Below_ok l p1 s1 12 hl h1 (by omega)
  by_cases c0 : v2 = 0
  · obtain ⟨v3, p3, s3, e3, b3, h3⟩ := l1Int_ok l p2 s2 [0, 1, 99, 100] hl h2 (by decide)
    obtain ⟨v4, p4, s4, e4, b4, h4⟩ := l1Int_ok l p3 s3 [0, 1, 9999] hl h3 (by decide)
    obtain ⟨v5, p5, s5, e5, b5, h5⟩ := l1Int_ok l p4 s4 [-1, 7, 8] hl h4 (by decide)
    obtain ⟨v6, p6, s6, e6, b6, h6⟩ := l1Int_ok l p5 s5 [-1, 4, 5] hl h5 (by decide)
    refine ⟨o1 ++ [⟨v3, v4, v5, v6, false⟩], p6, s6, Ev.bind e1 ?_, by simp only [List.length_append, List.length_cons, List.length_nil]; omega, h6⟩
    simp only [e2, e3, e4, e5, e6, Option.bind_some, if_pos c0, if_pos (show o1.length < 3518437208883 by omega)]
    exact Ev.now _
  by_cases c1 : v2 = 1
  · obtain ⟨o, p', s', e, ho, hp⟩ := l8Any_loop l hl 13 o1 0 p2 s2 (by omega) (by omega) (by omega) (by omega) h2
    refine ⟨o, p', s', Ev.bind e1 ?_, ho, hp⟩
    simp only [e2, Option.bind_some, if_neg c0, if_pos c1]
    exact e
  · refine ⟨o1, p2, s2, Ev.bind e1 ?_, by omega, h2⟩
    simp only [e2, Option.bind_some, if_neg c0, if_neg c1]
    exact Ev.now _
theorem drawLearn_ok (l : List Int) (hl : l.length ≤ 1048576) : ∃ f a b c, Ev (fun k => spec_DrawLearn.f k l) (f, a, b, c) ∧ f.length ≤ 25 := by
  unfold spec_DrawLearn.f
  obtain ⟨s0, e0⟩ := l1New_ok l hl
  obtain ⟨f, p1, s1, e1, b1, h1⟩ := l8Any_ok l 0 s0 hl (at0 l)
  obtain ⟨v2, p2, s2, e2, b2, h2⟩ := l1Int_ok l p1 s1 [1, 2, 3, 0, 100] hl h1 (by decide)
  obtain ⟨v3, p3, s3, e3, b3, h3⟩ := l1Int_ok l p2 s2 [11, 12, 15, 0, 10000] hl h2 (by decide)
  obtain ⟨v4, p4, s4, e4, b4, h4⟩ := l1Int_ok l p3 s3 [0, 1, 7, 8, -1] hl h3 (by decide)
  refine ⟨f, v2, v3, v4, Ev.bind e0 (Ev.bind e1 ?_), b1⟩
  simp only [e2, e3, e4, Option.bind_some]
  exact Ev.now _
theorem drawDrop_ok (l : List Int) (hl : l.length ≤ 1048576) : ∃ f a b, Ev (fun k => spec_DrawDropStatic.f k l) (f, a, b) ∧ f.length ≤ 25 := by
  unfold spec_DrawDropStatic.f spec_DrawLookUp.f
  obtain ⟨s0, e0⟩ := l1New_ok l hl
  obtain ⟨f, p1, s1, e1, b1, h1⟩ := l8Any_ok l 0 s0 hl (at0 l)
  obtain ⟨v2, p2, s2, e2, b2, h2⟩ := l1Below_ok l p1 s1 3 hl h1 (by omega)
  obtain ⟨v3, p3, s3, e3, b3, h3⟩ := l6Mac_ok l p2 s2 hl h2
  refine ⟨f, wrap64 (1 + v2), v3, ?_, b1⟩
  have hk : Ev (fun k => (spec_l1New.f k l).bind fun x => (spec_l8Any.f k x.1 x.2.1 x.2.2).bind fun y => (spec_l1Below.f x.1 y.2.1 y.2.2 3).bind fun u => (spec_l6Mac.f x.1 u.2.1 u.2.2).bind fun v => some (y.1, wrap64 (1 + u.1), v.1)) (f, wrap64 (1 + v2), v3) := by
    refine Ev.bind e0 (Ev.bind e1 ?_)
    simp only [e2, e3, Option.bind_some]
    exact Ev.now _
  refine Ev.bind hk ?_
  exact Ev.now _
theorem drawNext_ok (l : List Int) (hl : l.length ≤ 1048576) : ∃ f a b, Ev (fun k => spec_DrawNextEnt.f k l) (f, a, b) ∧ f.length ≤ 25 := by
  unfold spec_DrawNextEnt.f
  obtain ⟨s0, e0⟩ := l1New_ok l hl
  obtain ⟨f, p1, s1, e1, b1, h1⟩ := l8Any_ok l 0 s0 hl (at0 l)
  obtain ⟨v2, p2, s2, e2, b2, h2⟩ := l1Below_ok l p1 s1 5 hl h1 (by omega)
  obtain ⟨v3, p3, s3, e3, b3, h3⟩ := l1Int_ok l p2 s2 [0, 11, 12, 13, 99] hl h2 (by decide)
  refine ⟨f, v2, v3, Ev.bind e0 (Ev.bind e1 ?_), b1⟩
  simp only [e2, e3, Option.bind_some]
  exact Ev.now _
theorem drawFlush_ok (l : List Int) (hl : l.length ≤ 1048576) : ∃ f a, Ev (fun k => spec_DrawFlushPort.f k l) (f, a) ∧ f.length ≤ 25 := by
  unfold spec_DrawFlushPort.f
  obtain ⟨s0, e0⟩ := l1New_ok l hl
  obtain ⟨f, p1, s1, e1, b1, h1⟩ := l8Any_ok l 0 s0 hl (at0 l)
  obtain ⟨v2, p2, s2, e2, b2, h2⟩ := l1Int_ok l p1 s1 [0, 1, 2, 3, -1] hl h1 (by decide)
  refine ⟨f, v2, Ev.bind e0 (Ev.bind e1 ?_), b1⟩
  simp only [e2, Option.bind_some]
  exact Ev.now _

theorem FnFdbsBent : laws_FnFdbsBent.Pure := by
  intro l0 _ _
  refine Ev.rounds ?_
  unfold laws_FnFdbsBent.f
  unfold laws_big.f
  simp only [Option.bind_some]
  by_cases hbig : (l0.length : Int) > 1048576
  · simp only [decide_eq_true hbig, if_true]
    exact Ev.now _
  have hsm : l0.length ≤ 1048576 := by omega
  simp only [decide_eq_false hbig, Bool.false_eq_true, if_false]
  obtain ⟨f, a, b, c, h1, n1⟩ := drawLearn_ok l0 hsm
  obtain ⟨f2, a2, b2, h2, n2⟩ := drawDrop_ok l0 hsm
  obtain ⟨f3, a3, b3, h3, n3⟩ := drawNext_ok l0 hsm
  obtain ⟨f4, a4, h4, n4⟩ := drawFlush_ok l0 hsm
  have m1 := setStatic_len f a b c
  have m2 := dropS_len a2 b2 f2
  have m3 := learn_len f a b c
  have m4 := flushP_len a4 f4
  refine Ev.bind h1 ?_
  refine Ev.bind (iSetStatic_ev f a b c (by omega)) ?_
  refine Ev.bind (sSetStatic_ev f a b c (by omega)) ?_
  refine Ev.bind h2 ?_
  refine Ev.bind (iDropStatic_ev f2 a2 b2 (by omega)) ?_
  refine Ev.bind (sDropStatic_ev f2 a2 b2 (by omega)) ?_
  refine Ev.bind h3 ?_
  refine Ev.bind h4 ?_
  simp only [beq_self_eq_true, if_true]
  refine Ev.bind (sameFdb_ev _ (by omega)) ?_
  simp only [if_true]
  refine Ev.bind (sameFdb_ev _ (by omega)) ?_
  simp only [if_true]
  refine Ev.bind (iLearn_ev f a b c (by omega)) ?_
  refine Ev.bind (sLearn_ev f a b c (by omega)) ?_
  refine Ev.bind (sameFdb_ev _ (by omega)) ?_
  simp only [if_true]
  refine Ev.bind (iNextEnt_ev f3 a3 b3 (by omega)) ?_
  refine Ev.bind (sNextEnt_ev f3 a3 b3 (by omega)) ?_
  simp only [if_true]
  refine Ev.bind (iFlushPort_ev f4 a4 (by omega)) ?_
  refine Ev.bind (sFlushPort_ev f4 a4 (by omega)) ?_
  refine Ev.bind (sameFdb_ev _ (by omega)) ?_
  simp only [if_true]
  refine Ev.bind (iFdbOk_ev f (by omega)) ?_
  refine Ev.bind (sFdbOk_ev f (by omega)) ?_
  simp only [beq_self_eq_true]
  exact Ev.now _

end Go.Proofs.Ytebffdmkfkfoaaa.Pure
