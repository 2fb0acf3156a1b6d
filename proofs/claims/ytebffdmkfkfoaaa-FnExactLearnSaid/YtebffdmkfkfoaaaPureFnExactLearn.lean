/- The pure side of FnExactLearn: the program's Learn and the reference's agree at all arguments. No conditions but those of the given statement. -/
import Derived.Test.YtebffdmkfkfoaaaXFnExactLearnx10
namespace Go.Proofs.Ytebffdmkfkfoaaa.Pure
open Go.RowKit Go.Proofs.Ytebffdmkfkfoaaa.XFnExactLearn Go.Proofs.YtebffdmkfkfoaaaW.PrintWords Go.Proofs.YtebffdmkfkfoaaaW.PrintLast Go.Proofs.YtebffdmkfkfoaaaW.PrintMore
set_option linter.unusedVariables false
set_option linter.unusedSimpArgs false

theorem w64 {x : Int} (h0 : -9223372036854775808 ≤ x) (h1 : x ≤ 9223372036854775807) : wrap64 x = x := by
  unfold wrap64
  omega
theorem wf64 {x : Int} (h : (Lit.int .i64 x).wf = true) : -9223372036854775808 ≤ x ∧ x ≤ 9223372036854775807 := by
  simp only [Lit.wf, Bool.and_eq_true, decide_eq_true_eq] at h
  exact h
theorem wf8 {x : Int} (h : (Lit.int .u8 x).wf = true) : 0 ≤ x ∧ x ≤ 255 := by
  simp only [Lit.wf, Bool.and_eq_true, decide_eq_true_eq] at h
  exact h
theorem rd_mid (pre rest : List Int) (r : Int) : rd (pre ++ r :: rest) (pre.length : Int) = r := by
  unfold rd
  simp [List.getD_eq_getElem?_getD]
theorem set_mid {α : Type} (pre rest : List α) (r v : α) : (pre ++ r :: rest).set (pre.length : Int).toNat v = pre ++ v :: rest := by
  rw [Int.toNat_natCast, List.set_append_right _ _ (Nat.le_refl _)]
  simp
theorem succ_of {d k : Nat} (h : d < k) : ∃ m, k = m + 1 := ⟨k - 1, by omega⟩
theorem Ev.at_ {α : Type} {g : Nat → Option α} {r : α} (n : Nat) (h : ∀ k, n < k → g k = some r) : Ev g r := ⟨n + 1, fun k hk => h k (by omega)⟩
theorem Ev.some_ {α : Type} {v : Option α} {r : α} (h : v = some r) : Ev (fun _ => v) r := ⟨0, fun _ _ => h⟩
theorem Ev.succ {α : Type} {g : Nat → Option α} {r : α} (h : Ev (fun k => g (k + 1)) r) : Ev g r := by
  obtain ⟨K, h⟩ := h
  refine ⟨K + 1, fun n hn => ?_⟩
  obtain ⟨m, rfl⟩ : ∃ m, n = m + 1 := ⟨n - 1, by omega⟩
  exact h m (by omega)
theorem Ev.some_const {α : Type} {g : Nat → Option α} {r : α} (h : ∀ k, g k = some r) : Ev g r := ⟨0, fun k _ => h k⟩

theorem l1In_eq (a b c : Int) : spec_l1In.f a b c = some (decide (b ≤ a ∧ a ≤ c)) := by
  unfold spec_l1In.f
  by_cases h : b ≤ a
  · rw [if_pos h]; simp [h]
  · rw [if_neg h]; simp [h]

theorem in_eq (a b c : Int) : impl_in.f a b c = some (decide (b ≤ a ∧ a ≤ c)) := by
  unfold impl_in.f
  by_cases h : b ≤ a
  · rw [if_pos h]; simp [h]
  · rw [if_neg h]; simp [h]

theorem Ev.ite {α : Type} {c : Prop} [Decidable c] {g1 g2 : Nat → Option α} {r1 r2 : α} (h1 : c → Ev g1 r1) (h2 : ¬ c → Ev g2 r2) : Ev (fun k => if c then g1 k else g2 k) (if c then r1 else r2) := by
  by_cases h : c
  · simp only [if_pos h]; exact h1 h
  · simp only [if_neg h]; exact h2 h

def cvF (x : S95) : S44 := ⟨x.f0, x.f1, x.f2, x.f3, x.f4⟩
theorem rdLF_mid (pre rest : List S95) (r : S95) : rd_T95 (pre ++ r :: rest) (pre.length : Int) = r := by
  unfold rd_T95
  simp [List.getD_eq_getElem?_getD]
theorem rdIF_mid (pre rest : List S44) (r : S44) : rd_T44 (pre ++ r :: rest) (pre.length : Int) = r := by
  unfold rd_T44
  simp [List.getD_eq_getElem?_getD]
theorem set_at {α : Type} (pre rest : List α) (r v : α) (n : Nat) (h : pre.length = n) : (pre ++ r :: rest).set (n : Int).toNat v = pre ++ v :: rest := by
  subst h
  exact set_mid pre rest r v
theorem eta_F (r : S44) : (⟨r.f0, r.f1, r.f2, r.f3, r.f4⟩ : S44) = r := rfl
theorem szFentS_eq (l : List S95) (a : Int) (h0 : 0 ≤ a) (h1 : a ≤ 1099511627776) (hl : l.length ≤ maxLen) : laws_szFentS.f l a = some (if a - (l.length : Int) < 0 then -1 else a - (l.length : Int)) := by
  have hl' : l.length ≤ 9223372036854775807 := hl
  unfold laws_szFentS.f
  rw [w64 (by omega) (by omega)]
  split <;> rfl
theorem toFentS_loop (rest : List S95) : ∀ (pre : List S95) (k : Nat), pre.length + rest.length ≤ 1099511627776 → rest.length < k →
    laws_toFentS.l0 k (pre ++ rest) (pre.map cvF ++ List.replicate rest.length z44) (pre.length : Int) = some ((pre ++ rest).map cvF) := by
  induction rest with
  | nil =>
    intro pre k _ hk
    obtain ⟨k, rfl⟩ := succ_of hk
    simp only [laws_toFentS.l0]
    rw [if_neg (by simp only [List.length_append, List.length_nil]; omega)]
    simp
  | cons r rest ih =>
    intro pre k hn hk
    obtain ⟨k, rfl⟩ := succ_of hk
    simp only [List.length_cons] at hn hk
    simp only [laws_toFentS.l0]
    rw [if_pos (by simp only [List.length_append, List.length_cons]; omega), if_pos (by omega)]
    simp only [rdLF_mid, laws_toFent.f, Option.bind_some]
    rw [if_pos (by simp only [List.length_append, List.length_cons, List.length_replicate, List.length_map]; omega), List.length_cons, List.replicate_succ, set_at _ _ _ _ _ (List.length_map _), w64 (by omega) (by omega)]
    have h := ih (pre ++ [r]) k (by simp only [List.length_append, List.length_cons, List.length_nil]; omega) (by omega)
    simpa [cvF] using h
theorem toFentS_ev (xs : List S95) (h : xs.length ≤ 1048576) : Ev (fun k => laws_toFentS.f k xs) (xs.map cvF) := by
  refine Ev.at_ xs.length fun k hk => ?_
  simp only [laws_toFentS.f]
  rw [if_pos (by omega), if_pos (by omega)]
  have h := toFentS_loop xs [] k (by simp only [List.length_nil]; omega) hk
  simpa using h
theorem eqFent_self (a b c d : Int) (e : Bool) : laws_eqFent.f a b c d e a b c d e = some true := by
  unfold laws_eqFent.f
  simp
theorem eqFentS_loop (a : List S44) : ∀ (pre : List S44) (k : Nat), pre.length + a.length ≤ 1099511627776 → a.length < k →
    laws_eqFentS.l0 k (pre ++ a) (pre ++ a) (pre.length : Int) = some true := by
  induction a with
  | nil =>
    intro pre k hn hk
    obtain ⟨k, rfl⟩ := succ_of hk
    simp only [laws_eqFentS.l0]
    rw [if_neg (by simp only [List.length_append, List.length_nil]; omega)]
  | cons r a ih =>
    intro pre k hn hk
    obtain ⟨k, rfl⟩ := succ_of hk
    simp only [List.length_cons] at hn hk
    simp only [laws_eqFentS.l0]
    rw [if_pos (by simp only [List.length_append, List.length_cons]; omega), if_pos (by omega), if_pos (by simp only [List.length_append, List.length_cons]; omega)]
    simp only [eqFent_self, Option.bind_some, if_true]
    rw [w64 (by omega) (by omega)]
    have h := ih (pre ++ [r]) k (by simp only [List.length_append, List.length_cons, List.length_nil]; omega) (by omega)
    simpa using h
theorem eqFentS_ev (a : List S44) (h : a.length ≤ 1099511627776) : Ev (fun k => laws_eqFentS.f k a a) true := by
  refine Ev.at_ a.length fun k hk => ?_
  simp only [laws_eqFentS.f, if_true]
  have h := eqFentS_loop a [] k (by simp only [List.length_nil]; omega) hk
  simpa using h

def marksFent : Int → Nat → List S44
  | _, 0 => []
  | m, d + 1 => ⟨m, m + 1, m + 2, m + 3, (Int.tmod (m + 4) 3 == 0)⟩ :: marksFent (m + 5) d
theorem wfive {m : Int} (h0 : 0 ≤ m) (h1 : m ≤ 1152921504606846976) : wrap64 (m + 1) = m + 1 ∧ wrap64 (m + 1 + 1) = m + 2 ∧ wrap64 (m + 2 + 1) = m + 3 ∧ wrap64 (m + 3 + 1) = m + 4 ∧ wrap64 (m + 4 + 1) = m + 5 := by
  refine ⟨?_, ?_, ?_, ?_, ?_⟩ <;> (unfold wrap64; omega)
theorem markFentS_loop (rest : List S44) : ∀ (pre : List S44) (m : Int) (k : Nat), 0 ≤ m → m ≤ 1152921504606846976 - 5 * rest.length → pre.length + rest.length ≤ 1099511627776 → rest.length < k →
    laws_markFentS.l0 k (pre ++ rest) m (pre.length : Int) = some (m + 5 * rest.length, pre ++ marksFent m rest.length) := by
  induction rest with
  | nil =>
    intro pre m k _ _ _ hk
    obtain ⟨k, rfl⟩ := succ_of hk
    simp only [laws_markFentS.l0]
    rw [if_neg (by simp only [List.length_append, List.length_nil]; omega)]
    simp [marksFent]
  | cons r rest ih =>
    intro pre m k h0 h1 hn hk
    obtain ⟨k, rfl⟩ := succ_of hk
    simp only [List.length_cons] at h1 hn hk
    obtain ⟨e1, e2, e3, e4, e5⟩ := wfive h0 (show m ≤ 1152921504606846976 by omega)
    simp only [laws_markFentS.l0]
    rw [if_pos (by simp only [List.length_append, List.length_cons]; omega), if_pos (by omega)]
    simp only [Option.bind_some, set_mid, rdIF_mid, e1, e2, e3, e4, e5]
    rw [w64 (by omega) (by omega)]
    have h := ih (pre ++ [⟨m, m + 1, m + 2, m + 3, (Int.tmod (m + 4) 3 == 0)⟩]) (m + 5) k (by omega) (by omega) (by simp only [List.length_append, List.length_cons, List.length_nil]; omega) (by omega)
    simp only [List.length_append, List.length_cons, List.length_nil, List.append_assoc, List.cons_append, List.nil_append] at h
    simp only [marksFent, List.length_cons]
    rw [show (pre.length : Int) + 1 = ((pre.length + (0 + 1) : Nat) : Int) from by omega, h]
    congr 2
    omega
theorem markFentS_ev (xs : List S44) (m : Int) (h0 : 0 ≤ m) (h1 : m ≤ 1099511627776) (h : xs.length ≤ 1099511627776) : Ev (fun k => laws_markFentS.f k xs m) (m + 5 * xs.length, marksFent m xs.length) := by
  refine Ev.at_ xs.length fun k hk => ?_
  simp only [laws_markFentS.f]
  have h := markFentS_loop xs [] m k h0 (by omega) (by simp only [List.length_nil]; omega) hk
  simpa using h
theorem heldFentS_loop (d : Nat) : ∀ (pre : List S44) (m : Int) (k : Nat), 0 ≤ m → m ≤ 1152921504606846976 - 5 * d → pre.length + d ≤ 1099511627776 → d < k →
    laws_heldFentS.l0 k (pre ++ marksFent m d) m (pre.length : Int) = some (m + 5 * d) := by
  induction d with
  | zero =>
    intro pre m k _ _ _ hk
    obtain ⟨k, rfl⟩ := succ_of hk
    simp only [marksFent]
    simp only [laws_heldFentS.l0]
    rw [if_neg (by simp only [List.length_append, List.length_nil]; omega)]
    simp
  | succ d ih =>
    intro pre m k h0 h1 hn hk
    obtain ⟨k, rfl⟩ := succ_of hk
    obtain ⟨e1, e2, e3, e4, e5⟩ := wfive h0 (show m ≤ 1152921504606846976 by omega)
    simp only [marksFent]
    simp only [laws_heldFentS.l0]
    rw [if_pos (by simp only [List.length_append, List.length_cons]; omega), if_pos (by omega)]
    simp only [rdIF_mid, e1, e2, e3, e4, e5, if_true, bne_self_eq_false, Bool.false_eq_true, if_false]
    rw [w64 (by omega) (by omega)]
    have h := ih (pre ++ [⟨m, m + 1, m + 2, m + 3, (Int.tmod (m + 4) 3 == 0)⟩]) (m + 5) k (by omega) (by omega) (by simp only [List.length_append, List.length_cons, List.length_nil]; omega) (by omega)
    simp only [List.length_append, List.length_cons, List.length_nil, List.append_assoc, List.cons_append, List.nil_append] at h
    rw [show (pre.length : Int) + 1 = ((pre.length + (0 + 1) : Nat) : Int) from by omega, h]
    congr 1
    omega
theorem heldFentS_ev (m : Int) (d : Nat) (h0 : 0 ≤ m) (h1 : m ≤ 1099511627776) (h : d ≤ 1099511627776) : Ev (fun k => laws_heldFentS.f k (marksFent m d) m) (m + 5 * d) := by
  refine Ev.at_ d fun k hk => ?_
  simp only [laws_heldFentS.f]
  have h := heldFentS_loop d [] m k h0 (by omega) (by simp only [List.length_nil]; omega) hk
  simpa using h

def aheadB (a b t m : Int) : Bool := if a = t then decide (b < m) else decide (a < t)
theorem l8Ahead_eq (a b c d : Int) (e : Bool) (t m : Int) : spec_l8Ahead.f a b c d e t m = some (aheadB a b t m) := by
  unfold spec_l8Ahead.f aheadB
  split <;> rfl
theorem behind_eq (a b c d : Int) (e : Bool) (t m : Int) : impl_behind.f a b c d e t m = some (decide (a > t ∨ a = t ∧ b > m)) := by
  unfold impl_behind.f
  by_cases h : a > t
  · rw [if_pos h]; simp [h]
  · rw [if_neg h]
    by_cases h2 : a = t
    · rw [if_pos h2]; simp [h2]
    · rw [if_neg h2]; simp [h, h2]

def fentOkB (a b c d : Int) (e : Bool) : Bool := decide (1 ≤ a ∧ a ≤ 99) && (decide (1 ≤ b ∧ b ≤ 9999) && (decide (0 ≤ c ∧ c ≤ 7) && (decide (0 ≤ d ∧ d ≤ 4) && (!e || d == 0))))
theorem sFent_eq (a b c d : Int) (e : Bool) : spec_l8Ent.f a b c d e = some (fentOkB a b c d e) := by
  unfold spec_l8Ent.f fentOkB
  simp only [l1In_eq, Option.bind_some]
  generalize decide (1 ≤ a ∧ a ≤ 99) = p1
  generalize decide (1 ≤ b ∧ b ≤ 9999) = p2
  generalize decide (0 ≤ c ∧ c ≤ 7) = p3
  generalize decide (0 ≤ d ∧ d ≤ 4) = p4
  generalize (d == 0) = p5
  cases p1 <;> cases p2 <;> cases p3 <;> cases p4 <;> cases e <;> rfl
theorem iFent_eq (a b c d : Int) (e : Bool) : impl_fentOk.f a b c d e = some (fentOkB a b c d e) := by
  unfold impl_fentOk.f fentOkB
  simp only [in_eq, Option.bind_some]
  generalize decide (1 ≤ a ∧ a ≤ 99) = p1
  generalize decide (1 ≤ b ∧ b ≤ 9999) = p2
  generalize decide (0 ≤ c ∧ c ≤ 7) = p3
  generalize decide (0 ≤ d ∧ d ≤ 4) = p4
  generalize (d == 0) = p5
  cases p1 <;> cases p2 <;> cases p3 <;> cases p4 <;> cases e <;> rfl
def fentOk (x : S44) : Bool := fentOkB x.f0 x.f1 x.f2 x.f3 x.f4
def chainF (q : S44) : List S44 → Bool
  | [] => true
  | r :: rest => fentOk r && (aheadB q.f0 q.f1 r.f0 r.f1 && chainF r rest)
def sortedF : List S44 → Bool
  | [] => true
  | r :: rest => fentOk r && chainF r rest
def fdbOk (l : List S44) : Bool := sortedF l && decide ((l.length : Int) ≤ 12)
theorem behind_ahead (q r : S44) : decide (r.f0 > q.f0 ∨ r.f0 = q.f0 ∧ r.f1 > q.f1) = aheadB q.f0 q.f1 r.f0 r.f1 := by
  unfold aheadB
  by_cases h : q.f0 = r.f0
  · rw [if_pos h]
    exact decide_eq_decide.2 (by omega)
  · rw [if_neg h]
    exact decide_eq_decide.2 (by omega)
theorem rdIF_last (pre rest : List S44) (q : S44) : rd_T44 (pre ++ q :: rest) ((pre.length : Int) + 1 - 1) = q := by
  rw [show (pre.length : Int) + 1 - 1 = (pre.length : Int) by omega]
  exact rdIF_mid pre rest q
theorem rdIF_next (pre rest : List S44) (q r : S44) : rd_T44 (pre ++ q :: r :: rest) ((pre.length : Int) + 1) = r := by
  have h := rdIF_mid (pre ++ [q]) rest r
  simpa using h
theorem sFdbOk_loop (rest : List S44) : ∀ (pre : List S44) (q : S44) (k : Nat), pre.length + rest.length ≤ 1099511627776 → rest.length < k →
    spec_FdbOk.l0 k (pre ++ q :: rest) ((pre.length : Int) + 1) = some (chainF q rest && decide (((pre ++ q :: rest).length : Int) ≤ 12)) := by
  induction rest with
  | nil =>
    intro pre q k _ hk
    obtain ⟨k, rfl⟩ := succ_of hk
    simp only [spec_FdbOk.l0]
    rw [if_neg (by simp only [List.length_append, List.length_cons, List.length_nil]; omega)]
    simp [chainF]
  | cons r rest ih =>
    intro pre q k hn hk
    obtain ⟨k, rfl⟩ := succ_of hk
    simp only [List.length_cons] at hn hk
    have h := ih (pre ++ [q]) r k (by simp only [List.length_append, List.length_cons, List.length_nil]; omega) (by omega)
    simp only [List.append_assoc, List.cons_append, List.nil_append, List.length_append, List.length_cons, List.length_nil] at h
    simp only [spec_FdbOk.l0]
    rw [if_pos (by simp only [List.length_append, List.length_cons]; omega), if_pos (by omega)]
    simp only [rdIF_next, sFent_eq, Option.bind_some, chainF]
    cases he : fentOkB r.f0 r.f1 r.f2 r.f3 r.f4 with
    | false => simp [fentOk, he]
    | true =>
      simp only [if_true]
      rw [if_pos (by omega), w64 (x := (pre.length : Int) + 1 - 1) (by omega) (by omega), if_pos (by omega), if_pos (by simp only [List.length_append, List.length_cons]; omega)]
      simp only [rdIF_last, l8Ahead_eq, Option.bind_some]
      cases ha : aheadB q.f0 q.f1 r.f0 r.f1 with
      | false => simp
      | true =>
        simp only [if_true, fentOk, he, Bool.true_and]
        rw [w64 (by omega) (by omega)]
        simp only [List.length_append, List.length_cons]
        rw [show (pre.length : Int) + 1 + 1 = ((pre.length + (0 + 1) : Nat) : Int) + 1 from by omega, h]
theorem iFdbOk_loop (rest : List S44) : ∀ (pre : List S44) (q : S44) (all : List S44) (n : Int) (k : Nat), all = pre ++ q :: rest → n = (all.length : Int) → pre.length + rest.length ≤ 1099511627776 → rest.length < k →
    impl_FdbOk.l0 k all all n ((pre.length : Int) + 1) = some (chainF q rest && decide ((all.length : Int) ≤ 12)) := by
  induction rest with
  | nil =>
    intro pre q all n k ha hm _ hk
    obtain ⟨k, rfl⟩ := succ_of hk
    subst ha
    simp only [List.length_append, List.length_cons, List.length_nil] at hm
    simp only [impl_FdbOk.l0]
    rw [if_neg (by omega)]
    simp [chainF]
  | cons r rest ih =>
    intro pre q all n k hall hm hn hk
    obtain ⟨k, rfl⟩ := succ_of hk
    simp only [List.length_cons] at hn hk
    have h := ih (pre ++ [q]) r all n k (by simp [hall]) hm (by simp only [List.length_append, List.length_cons, List.length_nil]; omega) (by omega)
    simp only [List.length_append, List.length_cons, List.length_nil] at h
    have hlen : all.length = pre.length + (rest.length + 1 + 1) := by rw [hall]; simp only [List.length_append, List.length_cons]
    simp only [impl_FdbOk.l0]
    rw [if_pos (by omega), if_pos (by omega), if_pos (by omega)]
    have e1 : rd_T44 all ((pre.length : Int) + 1) = r := by rw [hall]; exact rdIF_next pre rest q r
    have e2 : rd_T44 all ((pre.length : Int) + 1 - 1) = q := by rw [hall]; exact rdIF_last pre (r :: rest) q
    simp only [e1, iFent_eq, Option.bind_some, chainF]
    cases he : fentOkB r.f0 r.f1 r.f2 r.f3 r.f4 with
    | false => simp [fentOk, he]
    | true =>
      simp only [if_true]
      rw [if_pos (by omega), w64 (x := (pre.length : Int) + 1 - 1) (by omega) (by omega), if_pos (by omega), if_pos (by omega)]
      simp only [e2, behind_eq, Option.bind_some, behind_ahead]
      cases ha : aheadB q.f0 q.f1 r.f0 r.f1 with
      | false => simp
      | true =>
        simp only [if_true, fentOk, he, Bool.true_and]
        rw [w64 (by omega) (by omega), show (pre.length : Int) + 1 + 1 = ((pre.length + (0 + 1) : Nat) : Int) + 1 from by omega, h]
theorem sFdbOk_ev (l : List S44) (h : l.length ≤ 1048576) : Ev (fun k => spec_FdbOk.f k l) (fdbOk l) := by
  refine Ev.at_ (l.length + 1) fun k hk => ?_
  obtain ⟨k, rfl⟩ := succ_of hk
  simp only [spec_FdbOk.f]
  cases l with
  | nil =>
    simp only [spec_FdbOk.l0]
    rw [if_neg (by simp)]
    rfl
  | cons r rest =>
    simp only [List.length_cons] at h hk
    have e := sFdbOk_loop rest [] r k (by simp only [List.length_nil]; omega) (by omega)
    simp only [List.nil_append, List.length_nil] at e
    simp only [spec_FdbOk.l0]
    rw [if_pos (by simp only [List.length_cons]; omega), if_pos (by omega)]
    have e1 : rd_T44 (r :: rest) 0 = r := rdIF_mid [] rest r
    simp only [e1, sFent_eq, Option.bind_some, fdbOk, sortedF]
    cases he : fentOkB r.f0 r.f1 r.f2 r.f3 r.f4 with
    | false => simp [fentOk, he]
    | true =>
      simp only [if_true, fentOk, he, Bool.true_and]
      rw [if_neg (by omega), w64 (by omega) (by omega)]
      exact e
theorem iFdbOk_ev (l : List S44) (h : l.length ≤ 1048576) : Ev (fun k => impl_FdbOk.f k l) (fdbOk l) := by
  refine Ev.at_ (l.length + 1) fun k hk => ?_
  obtain ⟨k, rfl⟩ := succ_of hk
  simp only [impl_FdbOk.f]
  cases l with
  | nil =>
    simp only [impl_FdbOk.l0]
    rw [if_neg (by simp)]
    rfl
  | cons r rest =>
    simp only [List.length_cons] at h hk
    have e := iFdbOk_loop rest [] r (r :: rest) ((r :: rest).length : Int) k rfl rfl (by simp only [List.length_nil]; omega) (by omega)
    simp only [List.length_nil] at e
    simp only [impl_FdbOk.l0]
    rw [if_pos (by simp only [List.length_cons]; omega), if_pos (by omega), if_pos (by simp only [List.length_cons]; omega)]
    have e1 : rd_T44 (r :: rest) 0 = r := rdIF_mid [] rest r
    simp only [e1, iFent_eq, Option.bind_some, fdbOk, sortedF]
    cases he : fentOkB r.f0 r.f1 r.f2 r.f3 r.f4 with
    | false => simp [fentOk, he]
    | true =>
      simp only [if_true, fentOk, he, Bool.true_and]
      rw [if_neg (by omega), w64 (by omega) (by omega)]
      exact e

def atFrom (t m : Int) : List S44 → Int → Int
  | [], _ => -1
  | e :: r, i => if e.f0 = t ∧ e.f1 = m then i else atFrom t m r (i + 1)
theorem atFrom_bd (t m : Int) (l : List S44) : ∀ i : Int, 0 ≤ i → atFrom t m l i = -1 ∨ i ≤ atFrom t m l i ∧ atFrom t m l i < i + l.length := by
  induction l with
  | nil => intro i _; left; rfl
  | cons e r ih =>
    intro i hi
    simp only [atFrom, List.length_cons]
    split
    · right; omega
    · rcases ih (i + 1) (by omega) with h | h
      · left; exact h
      · right; omega

theorem sEntAt_loop (t m : Int) (rest : List S44) : ∀ (pre : List S44) (k : Nat), pre.length + rest.length ≤ 1099511627776 → rest.length < k →
    spec_l8At.l0 k (pre ++ rest) t m (pre.length : Int) = some (atFrom t m rest (pre.length : Int)) := by
  induction rest with
  | nil =>
    intro pre k _ hk
    obtain ⟨k, rfl⟩ := succ_of hk
    skip
    simp only [spec_l8At.l0]
    rw [if_neg (by simp only [List.length_append, List.length_nil]; omega)]
    rfl
  | cons r rest ih =>
    intro pre k hn hk
    obtain ⟨k, rfl⟩ := succ_of hk
    simp only [List.length_cons] at hn hk
    have h := ih (pre ++ [r]) k (by simp only [List.length_append, List.length_cons, List.length_nil]; omega) (by omega)
    simp only [List.append_assoc, List.cons_append, List.nil_append] at h
    simp only [spec_l8At.l0]
    rw [if_pos (by simp only [List.length_append, List.length_cons]; omega), if_pos (by omega)]
    simp only [rdIF_mid, atFrom]
    rw [w64 (by omega) (by omega), show (pre.length : Int) + 1 = ((pre ++ [r]).length : Int) from by simp, h]
    by_cases e0 : r.f0 = t
    · by_cases e1 : r.f1 = m
      · rw [if_pos e0, if_pos e1, if_pos ⟨e0, e1⟩]
      · rw [if_pos e0, if_neg e1, if_neg (by omega)]
    · rw [if_neg e0, if_neg (by omega)]
theorem sEntAt_ev (l : List S44) (t m : Int) (h : l.length ≤ 1048576) : Ev (fun k => spec_l8At.f k l t m) (atFrom t m l 0) := by
  refine Ev.at_ l.length fun k hk => ?_
  simp only [spec_l8At.f]
  have h := sEntAt_loop t m l [] k (by simp only [List.length_nil]; omega) hk
  simpa using h

theorem iEntAt_loop (t m : Int) (rest : List S44) : ∀ (pre : List S44) (n : Int) (k : Nat), n = (pre.length : Int) + rest.length → pre.length + rest.length ≤ 1099511627776 → rest.length < k →
    impl_entAt.l0 k t m (pre ++ rest) n (pre.length : Int) = some (atFrom t m rest (pre.length : Int)) := by
  induction rest with
  | nil =>
    intro pre n k hm _ hk
    obtain ⟨k, rfl⟩ := succ_of hk
    simp only [List.length_nil] at hm
    simp only [impl_entAt.l0]
    rw [if_neg (by omega)]
    rfl
  | cons r rest ih =>
    intro pre n k hm hn hk
    obtain ⟨k, rfl⟩ := succ_of hk
    simp only [List.length_cons] at hm hn hk
    have h := ih (pre ++ [r]) n k (by simp only [List.length_append, List.length_cons, List.length_nil]; omega) (by simp only [List.length_append, List.length_cons, List.length_nil]; omega) (by omega)
    simp only [List.append_assoc, List.cons_append, List.nil_append] at h
    simp only [impl_entAt.l0]
    rw [if_pos (by omega), if_pos (by omega), if_pos (by simp only [List.length_append, List.length_cons]; omega)]
    simp only [rdIF_mid, atFrom]
    rw [w64 (by omega) (by omega), show (pre.length : Int) + 1 = ((pre ++ [r]).length : Int) from by simp, h]
    by_cases e0 : r.f0 = t
    · by_cases e1 : r.f1 = m
      · rw [if_pos e0, if_pos e1, if_pos ⟨e0, e1⟩]
      · rw [if_pos e0, if_neg e1, if_neg (by omega)]
    · rw [if_neg e0, if_neg (by omega)]
theorem iEntAt_ev (l : List S44) (t m : Int) (h : l.length ≤ 1048576) : Ev (fun k => impl_entAt.f k l t m) (atFrom t m l 0) := by
  refine Ev.at_ l.length fun k hk => ?_
  simp only [impl_entAt.f]
  have h := iEntAt_loop t m l [] (l.length : Int) k (by simp) (by simp only [List.length_nil]; omega) hk
  simpa using h

def keyEq (r e : S44) : Prop := r.f0 = e.f0 ∧ r.f1 = e.f1
instance (r e : S44) : Decidable (keyEq r e) := by unfold keyEq; exact inferInstance
def dropE (e : S44) : List S44 → List S44
  | [] => []
  | r :: rest => if keyEq r e then dropE e rest else r :: dropE e rest
def putE (e : S44) : List S44 → List S44
  | [] => [e]
  | r :: rest => if aheadB r.f0 r.f1 e.f0 e.f1 = true then r :: putE e rest else e :: dropE e (r :: rest)
theorem dropE_len (e : S44) (l : List S44) : (dropE e l).length ≤ l.length := by
  induction l with
  | nil => exact Nat.le_refl _
  | cons r l ih =>
    simp only [dropE]
    split <;> simp only [List.length_cons] <;> omega
theorem putE_len (e : S44) (l : List S44) : (putE e l).length ≤ l.length + 1 := by
  induction l with
  | nil => exact Nat.le_refl _
  | cons r l ih =>
    simp only [putE]
    split
    · simp only [List.length_cons]; omega
    · have := dropE_len e (r :: l)
      simp only [List.length_cons] at this ⊢
      omega
theorem ahead_ne (r e : S44) (h : aheadB r.f0 r.f1 e.f0 e.f1 = true) : ¬ keyEq r e := by
  unfold aheadB at h
  rintro ⟨h0, h1⟩
  rw [if_pos h0] at h
  simp only [decide_eq_true_eq] at h
  omega
theorem ahead_trans (a b c : S44) (h : aheadB a.f0 a.f1 b.f0 b.f1 = true) (h' : aheadB b.f0 b.f1 c.f0 c.f1 = true) : aheadB a.f0 a.f1 c.f0 c.f1 = true := by
  unfold aheadB at h h' ⊢
  by_cases e : a.f0 = b.f0
  · rw [if_pos e] at h
    by_cases e' : b.f0 = c.f0
    · rw [if_pos e'] at h'
      rw [if_pos (e.trans e')]
      simp only [decide_eq_true_eq] at h h' ⊢
      omega
    · rw [if_neg e'] at h'
      simp only [decide_eq_true_eq] at h h'
      rw [if_neg (by omega)]
      simp only [decide_eq_true_eq]
      omega
  · rw [if_neg e] at h
    by_cases e' : b.f0 = c.f0
    · rw [if_pos e'] at h'
      simp only [decide_eq_true_eq] at h h'
      rw [if_neg (by omega)]
      simp only [decide_eq_true_eq]
      omega
    · rw [if_neg e'] at h'
      simp only [decide_eq_true_eq] at h h'
      rw [if_neg (by omega)]
      simp only [decide_eq_true_eq]
      omega
theorem chain_all (rest : List S44) : ∀ q : S44, chainF q rest = true → ∀ x ∈ rest, aheadB q.f0 q.f1 x.f0 x.f1 = true := by
  induction rest with
  | nil => intro q _ x hx; simp at hx
  | cons r rest ih =>
    intro q h x hx
    simp only [chainF, Bool.and_eq_true] at h
    rcases List.mem_cons.1 hx with rfl | hx
    · exact h.2.1
    · exact ahead_trans q r x h.2.1 (ih r h.2.2 x hx)
theorem drop_none (e : S44) (l : List S44) (h : ∀ x ∈ l, ¬ keyEq x e) : dropE e l = l := by
  induction l with
  | nil => rfl
  | cons r l ih =>
    simp only [dropE]
    rw [if_neg (h r List.mem_cons_self), ih (fun x hx => h x (List.mem_cons_of_mem _ hx))]
theorem atFrom_in (t m : Int) (l : List S44) : ∀ i : Int, 0 ≤ i → 0 ≤ atFrom t m l i → ∃ x ∈ l, x.f0 = t ∧ x.f1 = m := by
  induction l with
  | nil => intro i _ h; simp [atFrom] at h
  | cons r l ih =>
    intro i hi h
    simp only [atFrom] at h
    by_cases c : r.f0 = t ∧ r.f1 = m
    · exact ⟨r, List.mem_cons_self, c⟩
    · rw [if_neg c] at h
      obtain ⟨x, hx, hk⟩ := ih (i + 1) (by omega) h
      exact ⟨x, List.mem_cons_of_mem _ hx, hk⟩
theorem atFrom_out (t m : Int) (l : List S44) : ∀ i : Int, 0 ≤ i → atFrom t m l i < 0 → ∀ x ∈ l, ¬ (x.f0 = t ∧ x.f1 = m) := by
  induction l with
  | nil => intro i _ _ x hx; simp at hx
  | cons r l ih =>
    intro i hi h x hx
    simp only [atFrom] at h
    by_cases c : r.f0 = t ∧ r.f1 = m
    · rw [if_pos c] at h
      omega
    · rw [if_neg c] at h
      rcases List.mem_cons.1 hx with rfl | hx
      · exact c
      · exact ih (i + 1) (by omega) h x hx
/- with the list in order, a place taken is written over -/
theorem set_put (e : S44) (l : List S44) (hs : sortedF l = true) : ∀ i : Int, 0 ≤ i → 0 ≤ atFrom e.f0 e.f1 l i → l.set (atFrom e.f0 e.f1 l i - i).toNat e = putE e l := by
  induction l with
  | nil => intro i _ h; simp [atFrom] at h
  | cons r l ih =>
    intro i hi h
    have hs' : chainF r l = true := by
      simp only [sortedF, Bool.and_eq_true] at hs
      exact hs.2
    simp only [atFrom] at h ⊢
    by_cases c : r.f0 = e.f0 ∧ r.f1 = e.f1
    · rw [if_pos c, show (i - i).toNat = 0 by omega, List.set_cons_zero]
      simp only [putE]
      have hna : ¬ aheadB r.f0 r.f1 e.f0 e.f1 = true := fun z => ahead_ne r e z c
      rw [if_neg hna]
      simp only [dropE]
      rw [if_pos (show keyEq r e from c), drop_none]
      intro x hx hk
      have := chain_all l r hs' x hx
      refine ahead_ne r x this ⟨?_, ?_⟩
      · rw [c.1, hk.1]
      · rw [c.2, hk.2]
    · rw [if_neg c] at h ⊢
      obtain ⟨x, hx, hk⟩ := atFrom_in _ _ l (i + 1) (by omega) h
      have ha := chain_all l r hs' x hx
      rw [hk.1, hk.2] at ha
      have hb := atFrom_bd e.f0 e.f1 l (i + 1) (by omega)
      have hsl : sortedF l = true := by
        cases l with
        | nil => rfl
        | cons y l =>
          simp only [chainF, Bool.and_eq_true] at hs'
          simp only [sortedF, Bool.and_eq_true]
          exact ⟨hs'.1, hs'.2.2⟩
      have := ih hsl (i + 1) (by omega) h
      simp only [putE]
      rw [if_pos ha, ← this]
      obtain ⟨n, hn⟩ : ∃ n : Nat, (atFrom e.f0 e.f1 l (i + 1) - (i + 1)).toNat = n := ⟨_, rfl⟩
      rw [hn, show (atFrom e.f0 e.f1 l (i + 1) - i).toNat = n + 1 by omega, List.set_cons_succ]
def insE (e : S44) : List S44 → List S44
  | [] => [e]
  | r :: rest => if r.f0 > e.f0 ∨ r.f0 = e.f0 ∧ r.f1 > e.f1 then e :: r :: rest else r :: insE e rest
theorem ins_put (e : S44) (l : List S44) (h : ∀ x ∈ l, ¬ keyEq x e) : insE e l = putE e l := by
  induction l with
  | nil => rfl
  | cons r l ih =>
    have hr := h r List.mem_cons_self
    unfold keyEq at hr
    simp only [insE, putE]
    by_cases c : r.f0 > e.f0 ∨ r.f0 = e.f0 ∧ r.f1 > e.f1
    · have hna : ¬ aheadB r.f0 r.f1 e.f0 e.f1 = true := by
        unfold aheadB
        split
        · simp only [decide_eq_true_eq]; omega
        · simp only [decide_eq_true_eq]; omega
      rw [if_pos c, if_neg hna, drop_none e (r :: l) h]
    · have ha : aheadB r.f0 r.f1 e.f0 e.f1 = true := by
        unfold aheadB
        split
        · simp only [decide_eq_true_eq]; omega
        · simp only [decide_eq_true_eq]; omega
      rw [if_neg c, if_pos ha, ih (fun x hx => h x (List.mem_cons_of_mem _ hx))]
def putOr (e : S44) (l : List S44) : List S44 × Bool := if atFrom e.f0 e.f1 l 0 < 0 ∧ (l.length : Int) ≥ 12 then (l, false) else (putE e l, true)
theorem sPut_after (e : S44) (rest : List S44) : ∀ (pre out : List S44), pre.length + rest.length ≤ 1048576 → out.length ≤ pre.length + 1 →
    Ev (fun k => spec_l8Put.l0 k (pre ++ rest) out true (pre.length : Int) e.f0 e.f1 e.f2 e.f3 e.f4) (out ++ dropE e rest) := by
  induction rest with
  | nil =>
    intro pre out _ _
    refine Ev.succ ?_
    simp only [spec_l8Put.l0]
    simp only [List.append_nil, if_neg (show ¬ (pre.length : Int) < (pre.length : Int) by omega), if_true, dropE]
    exact Ev.now _
  | cons r rest ih =>
    intro pre out hn ho
    simp only [List.length_cons] at hn
    have h := fun out' ho' => ih (pre ++ [r]) out' (by simp only [List.length_append, List.length_cons, List.length_nil]; omega) ho'
    simp only [List.append_assoc, List.cons_append, List.nil_append, List.length_append, List.length_cons, List.length_nil] at h
    rw [show ((pre.length + (0 + 1) : Nat) : Int) = (pre.length : Int) + 1 by omega] at h
    refine Ev.succ ?_
    simp only [spec_l8Put.l0]
    simp only [if_pos (show (pre.length : Int) < ((pre ++ r :: rest).length : Int) by simp only [List.length_append, List.length_cons]; omega), if_true]
    refine Ev.succ ?_
    simp only [spec_l8Put.j1]
    simp only [Bool.false_eq_true, if_false, if_pos (show (pre.length : Int) < ((pre ++ r :: rest).length : Int) by simp only [List.length_append, List.length_cons]; omega), if_pos (show (0 : Int) ≤ (pre.length : Int) by omega), rdIF_mid, eta_F, w64 (x := (pre.length : Int) + 1) (by omega) (by omega), if_pos (show out.length < 3518437208883 by omega), dropE]
    by_cases c0 : r.f0 = e.f0
    · by_cases c1 : r.f1 = e.f1
      · simp only [if_pos c0, if_pos c1, if_pos (show keyEq r e from ⟨c0, c1⟩)]
        exact h out (by omega)
      · simp only [if_pos c0, if_neg c1, if_neg (show ¬ keyEq r e from fun z => c1 z.2)]
        have := h (out ++ [r]) (by simp only [List.length_append, List.length_cons, List.length_nil]; omega)
        simpa using this
    · simp only [if_neg c0, if_neg (show ¬ keyEq r e from fun z => c0 z.1)]
      have := h (out ++ [r]) (by simp only [List.length_append, List.length_cons, List.length_nil]; omega)
      simpa using this
theorem sPut_loop (e : S44) (rest : List S44) : ∀ (pre out : List S44), pre.length + rest.length ≤ 1048576 → out.length ≤ pre.length →
    Ev (fun k => spec_l8Put.l0 k (pre ++ rest) out false (pre.length : Int) e.f0 e.f1 e.f2 e.f3 e.f4) (out ++ putE e rest) := by
  induction rest with
  | nil =>
    intro pre out _ _
    refine Ev.succ ?_
    simp only [spec_l8Put.l0]
    simp only [List.append_nil, if_neg (show ¬ (pre.length : Int) < (pre.length : Int) by omega), Bool.false_eq_true, if_false, eta_F, if_pos (show out.length < 3518437208883 by omega), putE]
    exact Ev.now _
  | cons r rest ih =>
    intro pre out hn ho
    simp only [List.length_cons] at hn
    have h := ih (pre ++ [r]) (out ++ [r]) (by simp only [List.length_append, List.length_cons, List.length_nil]; omega) (by simp only [List.length_append, List.length_cons, List.length_nil]; omega)
    have h2 := fun out' ho' => sPut_after e rest (pre ++ [r]) out' (by simp only [List.length_append, List.length_cons, List.length_nil]; omega) ho'
    simp only [List.append_assoc, List.cons_append, List.nil_append, List.length_append, List.length_cons, List.length_nil] at h h2
    rw [show ((pre.length + (0 + 1) : Nat) : Int) = (pre.length : Int) + 1 by omega] at h h2
    refine Ev.succ ?_
    simp only [spec_l8Put.l0]
    simp only [if_pos (show (pre.length : Int) < ((pre ++ r :: rest).length : Int) by simp only [List.length_append, List.length_cons]; omega), Bool.false_eq_true, if_false, if_pos (show (0 : Int) ≤ (pre.length : Int) by omega), rdIF_mid, l8Ahead_eq, Option.bind_some]
    refine Ev.succ ?_
    simp only [spec_l8Put.j1]
    simp only [if_pos (show (pre.length : Int) < ((pre ++ r :: rest).length : Int) by simp only [List.length_append, List.length_cons]; omega), if_pos (show (0 : Int) ≤ (pre.length : Int) by omega), rdIF_mid, eta_F, w64 (x := (pre.length : Int) + 1) (by omega) (by omega), if_pos (show out.length < 3518437208883 by omega), Option.bind_some, putE]
    cases ha : aheadB r.f0 r.f1 e.f0 e.f1 with
    | true =>
      have hne := ahead_ne r e ha
      simp only [Bool.not_true, Bool.false_eq_true, if_false, if_true]
      by_cases c0 : r.f0 = e.f0
      · have c1 : ¬ r.f1 = e.f1 := fun z => hne ⟨c0, z⟩
        simp only [if_pos c0, if_neg c1]
        simpa using h
      · simp only [if_neg c0]
        simpa using h
    | false =>
      simp only [Bool.not_false, if_true, Bool.false_eq_true, if_false, List.length_append, List.length_cons, List.length_nil, if_pos (show out.length + (0 + 1) < 3518437208883 by omega), dropE]
      by_cases c0 : r.f0 = e.f0
      · by_cases c1 : r.f1 = e.f1
        · simp only [if_pos c0, if_pos c1, if_pos (show keyEq r e from ⟨c0, c1⟩)]
          have := h2 (out ++ [e]) (by simp only [List.length_append, List.length_cons, List.length_nil]; omega)
          simpa using this
        · simp only [if_pos c0, if_neg c1, if_neg (show ¬ keyEq r e from fun z => c1 z.2)]
          have := h2 (out ++ [e] ++ [r]) (by simp only [List.length_append, List.length_cons, List.length_nil]; omega)
          simpa using this
      · simp only [if_neg c0, if_neg (show ¬ keyEq r e from fun z => c0 z.1)]
        have := h2 (out ++ [e] ++ [r]) (by simp only [List.length_append, List.length_cons, List.length_nil]; omega)
        simpa using this
theorem sPut_ev (e : S44) (l : List S44) (h : l.length ≤ 1048576) : Ev (fun k => spec_l8Put.f k l e.f0 e.f1 e.f2 e.f3 e.f4) (putE e l) := by
  unfold spec_l8Put.f
  have := sPut_loop e l [] [] (by simp only [List.length_nil]; omega) (by simp)
  simpa using this
theorem sCopy_eq (l : List S44) (h : l.length ≤ 1048576) : spec_l8Copy.f l = some l := by
  unfold spec_l8Copy.f
  simp only [Option.bind_some, List.length_nil, List.nil_append]
  rw [if_pos (by omega)]
theorem iCopy_eq (l : List S44) (h : l.length ≤ 1048576) : impl_copyFdb.f l = some l := by
  unfold impl_copyFdb.f
  simp only [List.length_nil, List.nil_append]
  rw [if_pos (by omega)]
theorem iPut_loop (e : S44) (rest : List S44) : ∀ (pre : List S44), pre.length + rest.length ≤ 1048576 →
    Ev (fun k => impl_put.l0 k (pre ++ rest) (pre.length : Int) e.f0 e.f1 e.f2 e.f3 e.f4) (pre ++ insE e rest, true) := by
  induction rest with
  | nil =>
    intro pre hn
    simp only [List.length_nil] at hn
    refine Ev.succ ?_
    simp only [impl_put.l0]
    simp only [List.append_nil, if_neg (show ¬ (pre.length : Int) < (pre.length : Int) by omega), if_pos (show (0 : Int) ≤ (pre.length : Int) by omega), if_pos (Int.le_refl (pre.length : Int)), Int.toNat_natCast, List.take_length, List.drop_length, iCopy_eq pre (by omega), Option.bind_some, List.length_append, List.length_cons, List.length_nil, eta_F, if_pos (show pre.length + (0 + 1) < 3518437208883 by omega), if_pos (show pre.length + (0 + 1) + 0 < 3518437208883 by omega), insE]
    exact Ev.now _
  | cons r rest ih =>
    intro pre hn
    simp only [List.length_cons] at hn
    have h := ih (pre ++ [r]) (by simp only [List.length_append, List.length_cons, List.length_nil]; omega)
    simp only [List.append_assoc, List.cons_append, List.nil_append, List.length_append, List.length_cons, List.length_nil] at h
    rw [show ((pre.length + (0 + 1) : Nat) : Int) = (pre.length : Int) + 1 by omega] at h
    refine Ev.succ ?_
    simp only [impl_put.l0]
    simp only [if_pos (show (pre.length : Int) < ((pre ++ r :: rest).length : Int) by simp only [List.length_append, List.length_cons]; omega), if_pos (show (pre.length : Int) ≤ ((pre ++ r :: rest).length : Int) by simp only [List.length_append, List.length_cons]; omega), if_pos (show (0 : Int) ≤ (pre.length : Int) by omega), rdIF_mid, behind_eq, Option.bind_some, Int.toNat_natCast, List.take_left, List.drop_left, decide_eq_true_eq, w64 (x := (pre.length : Int) + 1) (by omega) (by omega), insE]
    by_cases c : r.f0 > e.f0 ∨ r.f0 = e.f0 ∧ r.f1 > e.f1
    · simp only [if_pos c, iCopy_eq pre (by omega), Option.bind_some, List.length_append, List.length_cons, List.length_nil, eta_F, if_pos (show pre.length + (0 + 1) < 3518437208883 by omega), if_pos (show pre.length + (0 + 1) + (rest.length + 1) < 3518437208883 by omega)]
      have e1 : pre ++ [e] ++ r :: rest = pre ++ e :: r :: rest := by simp
      rw [e1]
      exact Ev.now _
    · simp only [if_neg c]
      exact h
theorem iPut_ev (e : S44) (l : List S44) (h : l.length ≤ 1048576) (hs : sortedF l = true) : Ev (fun k => impl_put.f k l e.f0 e.f1 e.f2 e.f3 e.f4) (putOr e l) := by
  unfold impl_put.f putOr
  simp only [iCopy_eq l h, Option.bind_some]
  refine Ev.bind (iEntAt_ev l e.f0 e.f1 h) ?_
  have hb := atFrom_bd e.f0 e.f1 l 0 (by omega)
  by_cases c : atFrom e.f0 e.f1 l 0 ≥ 0
  · have hs' := set_put e l hs 0 (by omega) c
    rw [show atFrom e.f0 e.f1 l 0 - 0 = atFrom e.f0 e.f1 l 0 by omega] at hs'
    simp only [if_pos c, if_pos (show (0 : Int) ≤ atFrom e.f0 e.f1 l 0 by omega), if_pos (show atFrom e.f0 e.f1 l 0 < (l.length : Int) by omega), if_neg (show ¬ (atFrom e.f0 e.f1 l 0 < 0 ∧ (l.length : Int) ≥ 12) by omega), eta_F, hs']
    exact Ev.now _
  · simp only [if_neg c]
    by_cases d : (l.length : Int) ≥ 12
    · simp only [if_pos d, if_pos (show atFrom e.f0 e.f1 l 0 < 0 ∧ (l.length : Int) ≥ 12 by omega)]
      exact Ev.now _
    · simp only [if_neg d, if_neg (show ¬ (atFrom e.f0 e.f1 l 0 < 0 ∧ (l.length : Int) ≥ 12) by omega)]
      have := iPut_loop e l [] (by simp only [List.length_nil]; omega)
      rw [ins_put e l (fun x hx hk => atFrom_out e.f0 e.f1 l 0 (by omega) (by omega) x hx hk)] at this
      simpa using this
theorem putOr_len (e : S44) (l : List S44) : (putOr e l).1.length ≤ l.length + 1 := by
  unfold putOr
  split
  · show l.length ≤ _; omega
  · exact putE_len e l

def heldF (l : List S44) (i : Int) : Bool := if i ≥ 0 then (rd_T44 l i).f4 else false
def learn (l : List S44) (a b c : Int) : List S44 := if fdbOk l = true then (if fentOkB a b c 0 false = true then (if heldF l (atFrom a b l 0) = true then l else (putOr ⟨a, b, c, 0, false⟩ l).1) else l) else l
theorem learn_len (l : List S44) (a b c : Int) : (learn l a b c).length ≤ l.length + 1 := by
  unfold learn
  split
  · split
    · split
      · omega
      · exact putOr_len _ _
    · omega
  · omega
theorem sLearn_j0 (l : List S44) (q : Bool) (e : S44) (h : l.length ≤ 1048576) : Ev (fun k => spec_Learn.j0 k l q e.f0 e.f1 e.f2 e.f3 e.f4) (if q = true then l else putE e l) := by
  refine Ev.succ ?_
  simp only [spec_Learn.j0]
  simp only [sCopy_eq l h, Option.bind_some]
  refine Ev.ite (fun _ => Ev.now _) (fun _ => ?_)
  exact Ev.bind (sPut_ev e l h) (Ev.now _)
theorem sLearn_ev (l : List S44) (a b c : Int) (h : l.length ≤ 1048576) : Ev (fun k => spec_Learn.f k l a b c) (learn l a b c) := by
  unfold spec_Learn.f learn
  refine Ev.bind (sEntAt_ev l a b h) ?_
  refine Ev.bind (sFdbOk_ev l h) ?_
  simp only [sFent_eq, Option.bind_some]
  refine Ev.ite (fun _ => ?_) (fun _ => sLearn_j0 l true ⟨a, b, c, 0, false⟩ h)
  refine Ev.ite (fun _ => ?_) (fun _ => sLearn_j0 l true ⟨a, b, c, 0, false⟩ h)
  have hb := atFrom_bd a b l 0 (by omega)
  unfold heldF putOr
  by_cases d : atFrom a b l 0 < 0
  · simp only [if_pos d, if_neg (show ¬ atFrom a b l 0 ≥ 0 by omega), Bool.false_eq_true, if_false]
    have := sLearn_j0 l (decide ((l.length : Int) ≥ 12)) ⟨a, b, c, 0, false⟩ h
    by_cases z : (l.length : Int) ≥ 12
    · rw [if_pos (show atFrom a b l 0 < 0 ∧ (l.length : Int) ≥ 12 from ⟨d, z⟩)]
      rw [decide_eq_true z] at this ⊢
      exact this
    · rw [if_neg (show ¬ (atFrom a b l 0 < 0 ∧ (l.length : Int) ≥ 12) from fun y => z y.2)]
      rw [decide_eq_false z] at this ⊢
      exact this
  · simp only [if_neg d, if_pos (show atFrom a b l 0 ≥ 0 by omega), if_pos (show (0 : Int) ≤ atFrom a b l 0 by omega), if_pos (show atFrom a b l 0 < (l.length : Int) by omega), if_neg (show ¬ (atFrom a b l 0 < 0 ∧ (l.length : Int) ≥ 12) from fun z => d z.1)]
    refine Ev.ite (fun _ => sLearn_j0 l true ⟨a, b, c, 0, false⟩ h) (fun _ => sLearn_j0 l false ⟨a, b, c, 0, false⟩ h)
theorem iLearn_no (l : List S44) (e : S44) (h : l.length ≤ 1048576) : Ev (fun k => impl_Learn.j0 k l true e.f0 e.f1 e.f2 e.f3 e.f4) l := by
  refine Ev.succ ?_
  simp only [impl_Learn.j0]
  simp only [iCopy_eq l h, Option.bind_some, if_true]
  exact Ev.now _
theorem iLearn_yes (l : List S44) (e : S44) (h : l.length ≤ 1048576) (hs : sortedF l = true) : Ev (fun k => impl_Learn.j0 k l false e.f0 e.f1 e.f2 e.f3 e.f4) (putOr e l).1 := by
  refine Ev.succ ?_
  simp only [impl_Learn.j0]
  simp only [Bool.false_eq_true, if_false]
  exact Ev.bind (iPut_ev e l h hs) (Ev.now _)
theorem iLearn_ev (l : List S44) (a b c : Int) (h : l.length ≤ 1048576) : Ev (fun k => impl_Learn.f k l a b c) (learn l a b c) := by
  unfold impl_Learn.f learn
  refine Ev.bind (iEntAt_ev l a b h) ?_
  refine Ev.bind (iFdbOk_ev l h) ?_
  simp only [iFent_eq, Option.bind_some]
  refine Ev.ite (fun d => ?_) (fun _ => iLearn_no l ⟨a, b, c, 0, false⟩ h)
  have hs : sortedF l = true := by
    unfold fdbOk at d
    simp only [Bool.and_eq_true] at d
    exact d.1
  refine Ev.ite (fun _ => ?_) (fun _ => iLearn_no l ⟨a, b, c, 0, false⟩ h)
  have hb := atFrom_bd a b l 0 (by omega)
  unfold heldF
  by_cases z : atFrom a b l 0 ≥ 0
  · simp only [if_pos z, if_pos (show (0 : Int) ≤ atFrom a b l 0 by omega), if_pos (show atFrom a b l 0 < (l.length : Int) by omega)]
    cases y : (rd_T44 l (atFrom a b l 0)).f4 with
    | true =>
      simp only [if_true]
      exact iLearn_no l ⟨a, b, c, 0, false⟩ h
    | false =>
      simp only [Bool.false_eq_true, if_false]
      exact iLearn_yes l ⟨a, b, c, 0, false⟩ h hs
  · simp only [if_neg z, Bool.false_eq_true, if_false]
    exact iLearn_yes l ⟨a, b, c, 0, false⟩ h hs

theorem FnExactLearn : laws_FnExactLearn.Pure := by
  intro l0 a1 a2 a3 hl _ _ _ _
  refine Ev.rounds ?_
  unfold laws_FnExactLearn.f
  rw [szFentS_eq l0 _ (by omega) (by omega) hl]
  simp only [Option.bind_some]
  by_cases h : 1048576 - (l0.length : Int) < 0
  · simp only [if_pos h]
    exact Ev.now _
  have hn : ¬ 1048576 - (l0.length : Int) < 0 := h
  simp only [if_neg h, if_neg hn]
  have hml : (l0.map cvF).length = l0.length := List.length_map _
  have hl2 := learn_len (l0.map cvF) a1 a2 a3
  have hneg : ¬ ((1 : Int) + 5 * ((learn (l0.map cvF) a1 a2 a3).length : Int) < 0) := by omega
  have hneg2 : ¬ ((1 : Int) + 5 * ((l0.map cvF).length : Int) < 0) := by omega
  repeat' first
    | exact Ev.now _
    | ((with_reducible refine Ev.bind (toFentS_ev _ ?s0) ?_); (case s0 => omega))
    | ((with_reducible refine Ev.bind (sLearn_ev _ _ _ _ ?s0) ?_); (case s0 => omega))
    | ((with_reducible refine Ev.bind (iLearn_ev _ _ _ _ ?s0) ?_); (case s0 => omega))
    | ((with_reducible refine Ev.bind (eqFentS_ev _ ?s0) ?_); (case s0 => omega))
    | ((with_reducible refine Ev.bind (markFentS_ev _ _ ?s0 ?s1 ?s2) ?_); (case s0 => omega); (case s1 => omega); (case s2 => omega))
    | ((with_reducible refine Ev.bind (heldFentS_ev _ _ ?s0 ?s1 ?s2) ?_); (case s0 => omega); (case s1 => omega); (case s2 => omega))
    | simp only [bne_self_eq_false, Bool.false_eq_true, Bool.not_true, Bool.not_false, decide_true, Option.bind_some, ↓reduceIte, if_neg hneg, if_neg hneg2]
    | (refine Ev.succ ?_; simp only [laws_FnExactLearn.j0])

end Go.Proofs.Ytebffdmkfkfoaaa.Pure
