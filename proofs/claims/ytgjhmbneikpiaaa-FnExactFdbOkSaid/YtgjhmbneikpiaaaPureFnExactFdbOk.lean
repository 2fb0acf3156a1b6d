/- The pure side of FnExactFdbOk: the program's FdbOk and the reference's agree at all arguments. No conditions but those of the given statement. -/
import Derived.Test.YtgjhmbneikpiaaaXFnExactFdbOkx5
namespace Go.Proofs.Ytgjhmbneikpiaaa.Pure
open Go.RowKit Go.Proofs.Ytgjhmbneikpiaaa.XFnExactFdbOk Go.Proofs.YtgjhmbneikpiaaaW.PrintWords Go.Proofs.YtgjhmbneikpiaaaW.PrintLast Go.Proofs.YtgjhmbneikpiaaaW.PrintMore
set_option linter.unusedVariables false
set_option linter.unusedSimpArgs false

theorem w64 {x : Int} (h0 : -9223372036854775808 ≤ x) (h1 : x ≤ 9223372036854775807) : wrap64 x = x := by
  unfold wrap64
  omega
theorem wf64 {x : Int} (h : (Lit.int .i64 x).wf = true) : -9223372036854775808 ≤ x ∧ x ≤ 9223372036854775807 := by
  simp only [Lit.wf, Bool.and_eq_true, decide_eq_true_eq] at h
  exact h
theorem wf8 {x : Int} (h : (Lit.int .u8 x).wf = true) : 0 ≤ x ∧ x ≤ 255 := by
  simp only [Lit.wf, Bool.and_eq_true, decide_eq_true_eq] at h
  exact h
theorem rd_mid (pre rest : List Int) (r : Int) : rd (pre ++ r :: rest) (pre.length : Int) = r := by
  unfold rd
  simp [List.getD_eq_getElem?_getD]
theorem set_mid {α : Type} (pre rest : List α) (r v : α) : (pre ++ r :: rest).set (pre.length : Int).toNat v = pre ++ v :: rest := by
  rw [Int.toNat_natCast, List.set_append_right _ _ (Nat.le_refl _)]
  simp
theorem succ_of {d k : Nat} (h : d < k) : ∃ m, k = m + 1 := ⟨k - 1, by omega⟩
theorem Ev.at_ {α : Type} {g : Nat → Option α} {r : α} (n : Nat) (h : ∀ k, n < k → g k = some r) : Ev g r := ⟨n + 1, fun k hk => h k (by omega)⟩
theorem Ev.some_ {α : Type} {v : Option α} {r : α} (h : v = some r) : Ev (fun _ => v) r := ⟨0, fun _ _ => h⟩
theorem Ev.succ {α : Type} {g : Nat → Option α} {r : α} (h : Ev (fun k => g (k + 1)) r) : Ev g r := by
  obtain ⟨K, h⟩ := h
  refine ⟨K + 1, fun n hn => ?_⟩
  obtain ⟨m, rfl⟩ : ∃ m, n = m + 1 := ⟨n - 1, by omega⟩
  exact h m (by omega)
theorem Ev.some_const {α : Type} {g : Nat → Option α} {r : α} (h : ∀ k, g k = some r) : Ev g r := ⟨0, fun k _ => h k⟩

theorem l1In_eq (a b c : Int) : spec_l1In.f a b c = some (decide (b ≤ a ∧ a ≤ c)) := by
  unfold spec_l1In.f
  by_cases h : b ≤ a
  · rw [if_pos h]; simp [h]
  · rw [if_neg h]; simp [h]

theorem in_eq (a b c : Int) : impl_in.f a b c = some (decide (b ≤ a ∧ a ≤ c)) := by
  unfold impl_in.f
  by_cases h : b ≤ a
  · rw [if_pos h]; simp [h]
  · rw [if_neg h]; simp [h]

def cvF (x : S110) : S108 := ⟨x.f0, x.f1, x.f2, x.f3, x.f4⟩
theorem rdLF_mid (pre rest : List S110) (r : S110) : rd_T110 (pre ++ r :: rest) (pre.length : Int) = r := by
  unfold rd_T110
  simp [List.getD_eq_getElem?_getD]
theorem rdIF_mid (pre rest : List S108) (r : S108) : rd_T108 (pre ++ r :: rest) (pre.length : Int) = r := by
  unfold rd_T108
  simp [List.getD_eq_getElem?_getD]
theorem set_at {α : Type} (pre rest : List α) (r v : α) (n : Nat) (h : pre.length = n) : (pre ++ r :: rest).set (n : Int).toNat v = pre ++ v :: rest := by
  subst h
  exact set_mid pre rest r v
theorem eta_F (r : S108) : (⟨r.f0, r.f1, r.f2, r.f3, r.f4⟩ : S108) = r := rfl
theorem szFentS_eq (l : List S110) (a : Int) (h0 : 0 ≤ a) (h1 : a ≤ 1099511627776) (hl : l.length ≤ maxLen) : laws_szFentS.f l a = some (if a - (l.length : Int) < 0 then -1 else a - (l.length : Int)) := by
  have hl' : l.length ≤ 9223372036854775807 := hl
  unfold laws_szFentS.f
  rw [w64 (by omega) (by omega)]
  split <;> rfl
theorem toFentS_loop (rest : List S110) : ∀ (pre : List S110) (k : Nat), pre.length + rest.length ≤ 1099511627776 → rest.length < k →
    laws_toFentS.l0 k (pre ++ rest) (pre.map cvF ++ List.replicate rest.length z108) (pre.length : Int) = some ((pre ++ rest).map cvF) := by
  induction rest with
  | nil =>
    intro pre k _ hk
    obtain ⟨k, rfl⟩ := succ_of hk
    simp only [laws_toFentS.l0]
    rw [if_neg (by simp only [List.length_append, List.length_nil]; omega)]
    simp
  | cons r rest ih =>
    intro pre k hn hk
    obtain ⟨k, rfl⟩ := succ_of hk
    simp only [List.length_cons] at hn hk
    simp only [laws_toFentS.l0]
    rw [if_pos (by simp only [List.length_append, List.length_cons]; omega), if_pos (by omega)]
    simp only [rdLF_mid, laws_toFent.f, Option.bind_some]
    rw [if_pos (by simp only [List.length_append, List.length_cons, List.length_replicate, List.length_map]; omega), List.length_cons, List.replicate_succ, set_at _ _ _ _ _ (List.length_map _), w64 (by omega) (by omega)]
    have h := ih (pre ++ [r]) k (by simp only [List.length_append, List.length_cons, List.length_nil]; omega) (by omega)
    simpa [cvF] using h
theorem toFentS_ev (xs : List S110) (h : xs.length ≤ 1048576) : Ev (fun k => laws_toFentS.f k xs) (xs.map cvF) := by
  refine Ev.at_ xs.length fun k hk => ?_
  simp only [laws_toFentS.f]
  rw [if_pos (by omega), if_pos (by omega)]
  have h := toFentS_loop xs [] k (by simp only [List.length_nil]; omega) hk
  simpa using h
theorem eqFent_self (a b c d : Int) (e : Bool) : laws_eqFent.f a b c d e a b c d e = some true := by
  unfold laws_eqFent.f
  simp
theorem eqFentS_loop (a : List S108) : ∀ (pre : List S108) (k : Nat), pre.length + a.length ≤ 1099511627776 → a.length < k →
    laws_eqFentS.l0 k (pre ++ a) (pre ++ a) (pre.length : Int) = some true := by
  induction a with
  | nil =>
    intro pre k hn hk
    obtain ⟨k, rfl⟩ := succ_of hk
    simp only [laws_eqFentS.l0]
    rw [if_neg (by simp only [List.length_append, List.length_nil]; omega)]
  | cons r a ih =>
    intro pre k hn hk
    obtain ⟨k, rfl⟩ := succ_of hk
    simp only [List.length_cons] at hn hk
    simp only [laws_eqFentS.l0]
    rw [if_pos (by simp only [List.length_append, List.length_cons]; omega), if_pos (by omega), if_pos (by simp only [List.length_append, List.length_cons]; omega)]
    simp only [eqFent_self, Option.bind_some, if_true]
    rw [w64 (by omega) (by omega)]
    have h := ih (pre ++ [r]) k (by simp only [List.length_append, List.length_cons, List.length_nil]; omega) (by omega)
    simpa using h
theorem eqFentS_ev (a : List S108) (h : a.length ≤ 1099511627776) : Ev (fun k => laws_eqFentS.f k a a) true := by
  refine Ev.at_ a.length fun k hk => ?_
  simp only [laws_eqFentS.f, if_true]
  have h := eqFentS_loop a [] k (by simp only [List.length_nil]; omega) hk
  simpa using h

def aheadB (a b t m : Int) : Bool := if a = t then decide (b < m) else decide (a < t)
theorem l8Ahead_eq (a b c d : Int) (e : Bool) (t m : Int) : spec_l8Ahead.f a b c d e t m = some (aheadB a b t m) := by
  unfold spec_l8Ahead.f aheadB
  split <;> rfl
theorem behind_eq (a b c d : Int) (e : Bool) (t m : Int) : impl_behind.f a b c d e t m = some (decide (a > t ∨ a = t ∧ b > m)) := by
  unfold impl_behind.f
  by_cases h : a > t
  · rw [if_pos h]; simp [h]
  · rw [if_neg h]
    by_cases h2 : a = t
    · rw [if_pos h2]; simp [h2]
    · rw [if_neg h2]; simp [h, h2]

def fentOkB (a b c d : Int) (e : Bool) : Bool := decide (1 ≤ a ∧ a ≤ 99) && (decide (1 ≤ b ∧ b ≤ 9999) && (decide (0 ≤ c ∧ c ≤ 7) && (decide (0 ≤ d ∧ d ≤ 4) && (!e || d == 0))))
theorem sFent_eq (a b c d : Int) (e : Bool) : spec_l8Ent.f a b c d e = some (fentOkB a b c d e) := by
  unfold spec_l8Ent.f fentOkB
  simp only [l1In_eq, Option.bind_some]
  generalize decide (1 ≤ a ∧ a ≤ 99) = p1
  generalize decide (1 ≤ b ∧ b ≤ 9999) = p2
  generalize decide (0 ≤ c ∧ c ≤ 7) = p3
  generalize decide (0 ≤ d ∧ d ≤ 4) = p4
  generalize (d == 0) = p5
  cases p1 <;> cases p2 <;> cases p3 <;> cases p4 <;> cases e <;> rfl
theorem iFent_eq (a b c d : Int) (e : Bool) : impl_fentOk.f a b c d e = some (fentOkB a b c d e) := by
  unfold impl_fentOk.f fentOkB
  simp only [in_eq, Option.bind_some]
  generalize decide (1 ≤ a ∧ a ≤ 99) = p1
  generalize decide (1 ≤ b ∧ b ≤ 9999) = p2
  generalize decide (0 ≤ c ∧ c ≤ 7) = p3
  generalize decide (0 ≤ d ∧ d ≤ 4) = p4
  generalize (d == 0) = p5
  cases p1 <;> cases p2 <;> cases p3 <;> cases p4 <;> cases e <;> rfl
def fentOk (x : S108) : Bool := fentOkB x.f0 x.f1 x.f2 x.f3 x.f4
def chainF (q : S108) : List S108 → Bool
  | [] => true
  | r :: rest => fentOk r && (aheadB q.f0 q.f1 r.f0 r.f1 && chainF r rest)
def sortedF : List S108 → Bool
  | [] => true
  | r :: rest => fentOk r && chainF r rest
def fdbOk (l : List S108) : Bool := sortedF l && decide ((l.length : Int) ≤ 12)
theorem behind_ahead (q r : S108) : decide (r.f0 > q.f0 ∨ r.f0 = q.f0 ∧ r.f1 > q.f1) = aheadB q.f0 q.f1 r.f0 r.f1 := by
  unfold aheadB
  by_cases h : q.f0 = r.f0
  · rw [if_pos h]
    exact decide_eq_decide.2 (by omega)
  · rw [if_neg h]
    exact decide_eq_decide.2 (by omega)
theorem rdIF_last (pre rest : List S108) (q : S108) : rd_T108 (pre ++ q :: rest) ((pre.length : Int) + 1 - 1) = q := by
  rw [show (pre.length : Int) + 1 - 1 = (pre.length : Int) by omega]
  exact rdIF_mid pre rest q
theorem rdIF_next (pre rest : List S108) (q r : S108) : rd_T108 (pre ++ q :: r :: rest) ((pre.length : Int) + 1) = r := by
  have h := rdIF_mid (pre ++ [q]) rest r
  simpa using h
theorem sFdbOk_loop (rest : List S108) : ∀ (pre : List S108) (q : S108) (k : Nat), pre.length + rest.length ≤ 1099511627776 → rest.length < k →
    spec_FdbOk.l0 k (pre ++ q :: rest) ((pre.length : Int) + 1) = some (chainF q rest && decide (((pre ++ q :: rest).length : Int) ≤ 12)) := by
  induction rest with
  | nil =>
    intro pre q k _ hk
    obtain ⟨k, rfl⟩ := succ_of hk
    simp only [spec_FdbOk.l0]
    rw [if_neg (by simp only [List.length_append, List.length_cons, List.length_nil]; omega)]
    simp [chainF]
  | cons r rest ih =>
    intro pre q k hn hk
    obtain ⟨k, rfl⟩ := succ_of hk
    simp only [List.length_cons] at hn hk
    have h := ih (pre ++ [q]) r k (by simp only [List.length_append, List.length_cons, List.length_nil]; omega) (by omega)
    simp only [List.append_assoc, List.cons_append, List.nil_append, List.length_append, List.length_cons, List.length_nil] at h
    simp only [spec_FdbOk.l0]
    rw [if_pos (by simp only [List.length_append, List.length_cons]; omega), if_pos (by omega)]
    simp only [rdIF_next, sFent_eq, Option.bind_some, chainF]
    cases he : fentOkB r.f0 r.f1 r.f2 r.f3 r.f4 with
    | false => simp [fentOk, he]
    | true =>
      simp only [if_true]
      rw [if_pos (by omega), w64 (x := (pre.length : Int) + 1 - 1) (by omega) (by omega), if_pos (by omega), if_pos (by simp only [List.length_append, List.length_cons]; omega)]
      simp only [rdIF_last, l8Ahead_eq, Option.bind_some]
      cases ha : aheadB q.f0 q.f1 r.f0 r.f1 with
      | false => simp
      | true =>
        simp only [if_true, fentOk, he, Bool.true_and]
        rw [w64 (by omega) (by omega)]
        simp only [List.length_append, List.length_cons]
        rw [show (pre.length : Int) + 1 + 1 = ((pre.length + (0 + 1) : Nat) : Int) + 1 from by omega, h]
theorem iFdbOk_loop (rest : List S108) : ∀ (pre : List S108) (q : S108) (all : List S108) (n : Int) (k : Nat), all = pre ++ q :: rest → n = (all.length : Int) → pre.length + rest.length ≤ 1099511627776 → rest.length < k →
    impl_FdbOk.l0 k all all n ((pre.length : Int) + 1) = some (chainF q rest && decide ((all.length : Int) ≤ 12)) := by
  induction rest with
  | nil =>
    intro pre q all n k ha hm _ hk
    obtain ⟨k, rfl⟩ := succ_of hk
    subst ha
    simp only [List.length_append, List.length_cons, List.length_nil] at hm
    simp only [impl_FdbOk.l0]
    rw [if_neg (by omega)]
    simp [chainF]
  | cons r rest ih =>
    intro pre q all n k hall hm hn hk
    obtain ⟨k, rfl⟩ := succ_of hk
    simp only [List.length_cons] at hn hk
    have h := ih (pre ++ [q]) r all n k (by simp [hall]) hm (by simp only [List.length_append, List.length_cons, List.length_nil]; omega) (by omega)
    simp only [List.length_append, List.length_cons, List.length_nil] at h
    have hlen : all.length = pre.length + (rest.length + 1 + 1) := by rw [hall]; simp only [List.length_append, List.length_cons]
    simp only [impl_FdbOk.l0]
    rw [if_pos (by omega), if_pos (by omega), if_pos (by omega)]
    have e1 : rd_T108 all ((pre.length : Int) + 1) = r := by rw [hall]; exact rdIF_next pre rest q r
    have e2 : rd_T108 all ((pre.length : Int) + 1 - 1) = q := by rw [hall]; exact rdIF_last pre (r :: rest) q
    simp only [e1, iFent_eq, Option.bind_some, chainF]
    cases he : fentOkB r.f0 r.f1 r.f2 r.f3 r.f4 with
    | false => simp [fentOk, he]
    | true =>
      simp only [if_true]
      rw [if_pos (by omega), w64 (x := (pre.length : Int) + 1 - 1) (by omega) (by omega), if_pos (by omega), if_pos (by omega)]
      simp only [e2, behind_eq, Option.bind_some, behind_ahead]
      cases ha : aheadB q.f0 q.f1 r.f0 r.f1 with
      | false => simp
      | true =>
        simp only [if_true, fentOk, he, Bool.true_and]
        rw [w64 (by omega) (by omega), show (pre.length : Int) + 1 + 1 = ((pre.length + (0 + 1) : Nat) : Int) + 1 from by omega, h]
theorem sFdbOk_ev (l : List S108) (h : l.length ≤ 1048576) : Ev (fun k => spec_FdbOk.f k l) (fdbOk l) := by
  refine Ev.at_ (l.length + 1) fun k hk => ?_
  obtain ⟨k, rfl⟩ := succ_of hk
  simp only [spec_FdbOk.f]
  cases l with
  | nil =>
    simp only [spec_FdbOk.l0]
    rw [if_neg (by simp)]
    rfl
  | cons r rest =>
    simp only [List.length_cons] at h hk
    have e := sFdbOk_loop rest [] r k (by simp only [List.length_nil]; omega) (by omega)
    simp only [List.nil_append, List.length_nil] at e
    simp only [spec_FdbOk.l0]
    rw [if_pos (by simp only [List.length_cons]; omega), if_pos (by omega)]
    have e1 : rd_T108 (r :: rest) 0 = r := rdIF_mid [] rest r
    simp only [e1, sFent_eq, Option.bind_some, fdbOk, sortedF]
    cases he : fentOkB r.f0 r.f1 r.f2 r.f3 r.f4 with
    | false => simp [fentOk, he]
    | true =>
      simp only [if_true, fentOk, he, Bool.true_and]
      rw [if_neg (by omega), w64 (by omega) (by omega)]
      exact e
theorem iFdbOk_ev (l : List S108) (h : l.length ≤ 1048576) : Ev (fun k => impl_FdbOk.f k l) (fdbOk l) := by
  refine Ev.at_ (l.length + 1) fun k hk => ?_
  obtain ⟨k, rfl⟩ := succ_of hk
  simp only [impl_FdbOk.f]
  cases l with
  | nil =>
    simp only [impl_FdbOk.l0]
    rw [if_neg (by simp)]
    rfl
  | cons r rest =>
    simp only [List.length_cons] at h hk
    have e := iFdbOk_loop rest [] r (r :: rest) ((r :: rest).length : Int) k rfl rfl (by simp only [List.length_nil]; omega) (by omega)
    simp only [List.length_nil] at e
    simp only [impl_FdbOk.l0]
    rw [if_pos (by simp only [List.length_cons]; omega), if_pos (by omega), if_pos (by simp only [List.length_cons]; omega)]
    have e1 : rd_T108 (r :: rest) 0 = r := rdIF_mid [] rest r
    simp only [e1, iFent_eq, Option.bind_some, fdbOk, sortedF]
    cases he : fentOkB r.f0 r.f1 r.f2 r.f3 r.f4 with
    | false => simp [fentOk, he]
    | true =>
      simp only [if_true, fentOk, he, Bool.true_and]
      rw [if_neg (by omega), w64 (by omega) (by omega)]
      exact e

theorem FnExactFdbOk : laws_FnExactFdbOk.Pure := by
  intro l0 hl _
  refine Ev.rounds ?_
  unfold laws_FnExactFdbOk.f
  rw [szFentS_eq l0 _ (by omega) (by omega) hl]
  simp only [Option.bind_some]
  by_cases h : 1048576 - (l0.length : Int) < 0
  · simp only [if_pos h]
    exact Ev.now _
  have hn : ¬ 1048576 - (l0.length : Int) < 0 := h
  simp only [if_neg h, if_neg hn]
  have hml : (l0.map cvF).length = l0.length := List.length_map _
  repeat' first
    | exact Ev.now _
    | ((with_reducible refine Ev.bind (toFentS_ev _ ?s0) ?_); (case s0 => omega))
    | ((with_reducible refine Ev.bind (sFdbOk_ev _ ?s0) ?_); (case s0 => omega))
    | ((with_reducible refine Ev.bind (iFdbOk_ev _ ?s0) ?_); (case s0 => omega))
    | ((with_reducible refine Ev.bind (eqFentS_ev _ ?s0) ?_); (case s0 => omega))
    | simp only [bne_self_eq_false, Bool.false_eq_true, Bool.not_true, Bool.not_false, decide_true, Option.bind_some, ↓reduceIte]

end Go.Proofs.Ytgjhmbneikpiaaa.Pure
