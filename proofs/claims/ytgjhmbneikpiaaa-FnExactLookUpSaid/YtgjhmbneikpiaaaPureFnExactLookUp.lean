/- The pure side of FnExactLookUp: the program's LookUp and the reference's agree at all arguments. No conditions but those of the given statement. -/
import Derived.Test.YtgjhmbneikpiaaaXFnExactLookUpx2
namespace Go.Proofs.Ytgjhmbneikpiaaa.Pure
open Go.RowKit Go.Proofs.Ytgjhmbneikpiaaa.XFnExactLookUp Go.Proofs.YtgjhmbneikpiaaaW.PrintWords Go.Proofs.YtgjhmbneikpiaaaW.PrintLast Go.Proofs.YtgjhmbneikpiaaaW.PrintMore
set_option linter.unusedVariables false
set_option linter.unusedSimpArgs false

theorem w64 {x : Int} (h0 : -9223372036854775808 ≤ x) (h1 : x ≤ 9223372036854775807) : wrap64 x = x := by
  unfold wrap64
  omega
theorem wf64 {x : Int} (h : (Lit.int .i64 x).wf = true) : -9223372036854775808 ≤ x ∧ x ≤ 9223372036854775807 := by
  simp only [Lit.wf, Bool.and_eq_true, decide_eq_true_eq] at h
  exact h
theorem wf8 {x : Int} (h : (Lit.int .u8 x).wf = true) : 0 ≤ x ∧ x ≤ 255 := by
  simp only [Lit.wf, Bool.and_eq_true, decide_eq_true_eq] at h
  exact h
theorem rd_mid (pre rest : List Int) (r : Int) : rd (pre ++ r :: rest) (pre.length : Int) = r := by
  unfold rd
  simp [List.getD_eq_getElem?_getD]
theorem set_mid {α : Type} (pre rest : List α) (r v : α) : (pre ++ r :: rest).set (pre.length : Int).toNat v = pre ++ v :: rest := by
  rw [Int.toNat_natCast, List.set_append_right _ _ (Nat.le_refl _)]
  simp
theorem succ_of {d k : Nat} (h : d < k) : ∃ m, k = m + 1 := ⟨k - 1, by omega⟩
theorem Ev.at_ {α : Type} {g : Nat → Option α} {r : α} (n : Nat) (h : ∀ k, n < k → g k = some r) : Ev g r := ⟨n + 1, fun k hk => h k (by omega)⟩
theorem Ev.some_ {α : Type} {v : Option α} {r : α} (h : v = some r) : Ev (fun _ => v) r := ⟨0, fun _ _ => h⟩
theorem Ev.succ {α : Type} {g : Nat → Option α} {r : α} (h : Ev (fun k => g (k + 1)) r) : Ev g r := by
  obtain ⟨K, h⟩ := h
  refine ⟨K + 1, fun n hn => ?_⟩
  obtain ⟨m, rfl⟩ : ∃ m, n = m + 1 := ⟨n - 1, by omega⟩
  exact h m (by omega)
theorem Ev.some_const {α : Type} {g : Nat → Option α} {r : α} (h : ∀ k, g k = some r) : Ev g r := ⟨0, fun k _ => h k⟩

def cvF (x : S110) : S108 := ⟨x.f0, x.f1, x.f2, x.f3, x.f4⟩
theorem rdLF_mid (pre rest : List S110) (r : S110) : rd_T110 (pre ++ r :: rest) (pre.length : Int) = r := by
  unfold rd_T110
  simp [List.getD_eq_getElem?_getD]
theorem rdIF_mid (pre rest : List S108) (r : S108) : rd_T108 (pre ++ r :: rest) (pre.length : Int) = r := by
  unfold rd_T108
  simp [List.getD_eq_getElem?_getD]
theorem set_at {α : Type} (pre rest : List α) (r v : α) (n : Nat) (h : pre.length = n) : (pre ++ r :: rest).set (n : Int).toNat v = pre ++ v :: rest := by
  subst h
  exact set_mid pre rest r v
theorem eta_F (r : S108) : (⟨r.f0, r.f1, r.f2, r.f3, r.f4⟩ : S108) = r := rfl
theorem szFentS_eq (l : List S110) (a : Int) (h0 : 0 ≤ a) (h1 : a ≤ 1099511627776) (hl : l.length ≤ maxLen) : laws_szFentS.f l a = some (if a - (l.length : Int) < 0 then -1 else a - (l.length : Int)) := by
  have hl' : l.length ≤ 9223372036854775807 := hl
  unfold laws_szFentS.f
  rw [w64 (by omega) (by omega)]
  split <;> rfl
theorem toFentS_loop (rest : List S110) : ∀ (pre : List S110) (k : Nat), pre.length + rest.length ≤ 1099511627776 → rest.length < k →
    laws_toFentS.l0 k (pre ++ rest) (pre.map cvF ++ List.replicate rest.length z108) (pre.length : Int) = some ((pre ++ rest).map cvF) := by
  induction rest with
  | nil =>
    intro pre k _ hk
    obtain ⟨k, rfl⟩ := succ_of hk
    simp only [laws_toFentS.l0]
    rw [if_neg (by simp only [List.length_append, List.length_nil]; omega)]
    simp
  | cons r rest ih =>
    intro pre k hn hk
    obtain ⟨k, rfl⟩ := succ_of hk
    simp only [List.length_cons] at hn hk
    simp only [laws_toFentS.l0]
    rw [if_pos (by simp only [List.length_append, List.length_cons]; omega), if_pos (by omega)]
    simp only [rdLF_mid, laws_toFent.f, Option.bind_some]
    rw [if_pos (by simp only [List.length_append, List.length_cons, List.length_replicate, List.length_map]; omega), List.length_cons, List.replicate_succ, set_at _ _ _ _ _ (List.length_map _), w64 (by omega) (by omega)]
    have h := ih (pre ++ [r]) k (by simp only [List.length_append, List.length_cons, List.length_nil]; omega) (by omega)
    simpa [cvF] using h
theorem toFentS_ev (xs : List S110) (h : xs.length ≤ 1048576) : Ev (fun k => laws_toFentS.f k xs) (xs.map cvF) := by
  refine Ev.at_ xs.length fun k hk => ?_
  simp only [laws_toFentS.f]
  rw [if_pos (by omega), if_pos (by omega)]
  have h := toFentS_loop xs [] k (by simp only [List.length_nil]; omega) hk
  simpa using h
theorem eqFent_self (a b c d : Int) (e : Bool) : laws_eqFent.f a b c d e a b c d e = some true := by
  unfold laws_eqFent.f
  simp
theorem eqFentS_loop (a : List S108) : ∀ (pre : List S108) (k : Nat), pre.length + a.length ≤ 1099511627776 → a.length < k →
    laws_eqFentS.l0 k (pre ++ a) (pre ++ a) (pre.length : Int) = some true := by
  induction a with
  | nil =>
    intro pre k hn hk
    obtain ⟨k, rfl⟩ := succ_of hk
    simp only [laws_eqFentS.l0]
    rw [if_neg (by simp only [List.length_append, List.length_nil]; omega)]
  | cons r a ih =>
    intro pre k hn hk
    obtain ⟨k, rfl⟩ := succ_of hk
    simp only [List.length_cons] at hn hk
    simp only [laws_eqFentS.l0]
    rw [if_pos (by simp only [List.length_append, List.length_cons]; omega), if_pos (by omega), if_pos (by simp only [List.length_append, List.length_cons]; omega)]
    simp only [eqFent_self, Option.bind_some, if_true]
    rw [w64 (by omega) (by omega)]
    have h := ih (pre ++ [r]) k (by simp only [List.length_append, List.length_cons, List.length_nil]; omega) (by omega)
    simpa using h
theorem eqFentS_ev (a : List S108) (h : a.length ≤ 1099511627776) : Ev (fun k => laws_eqFentS.f k a a) true := by
  refine Ev.at_ a.length fun k hk => ?_
  simp only [laws_eqFentS.f, if_true]
  have h := eqFentS_loop a [] k (by simp only [List.length_nil]; omega) hk
  simpa using h

def atFrom (t m : Int) : List S108 → Int → Int
  | [], _ => -1
  | e :: r, i => if e.f0 = t ∧ e.f1 = m then i else atFrom t m r (i + 1)
theorem atFrom_bd (t m : Int) (l : List S108) : ∀ i : Int, 0 ≤ i → atFrom t m l i = -1 ∨ i ≤ atFrom t m l i ∧ atFrom t m l i < i + l.length := by
  induction l with
  | nil => intro i _; left; rfl
  | cons e r ih =>
    intro i hi
    simp only [atFrom, List.length_cons]
    split
    · right; omega
    · rcases ih (i + 1) (by omega) with h | h
      · left; exact h
      · right; omega

theorem sEntAt_loop (t m : Int) (rest : List S108) : ∀ (pre : List S108) (k : Nat), pre.length + rest.length ≤ 1099511627776 → rest.length < k →
    spec_l8At.l0 k (pre ++ rest) t m (pre.length : Int) = some (atFrom t m rest (pre.length : Int)) := by
  induction rest with
  | nil =>
    intro pre k _ hk
    obtain ⟨k, rfl⟩ := succ_of hk
    skip
    simp only [spec_l8At.l0]
    rw [if_neg (by simp only [List.length_append, List.length_nil]; omega)]
    rfl
  | cons r rest ih =>
    intro pre k hn hk
    obtain ⟨k, rfl⟩ := succ_of hk
    simp only [List.length_cons] at hn hk
    have h := ih (pre ++ [r]) k (by simp only [List.length_append, List.length_cons, List.length_nil]; omega) (by omega)
    simp only [List.append_assoc, List.cons_append, List.nil_append] at h
    simp only [spec_l8At.l0]
    rw [if_pos (by simp only [List.length_append, List.length_cons]; omega), if_pos (by omega)]
    simp only [rdIF_mid, atFrom]
    rw [w64 (by omega) (by omega), show (pre.length : Int) + 1 = ((pre ++ [r]).length : Int) from by simp, h]
    by_cases e0 : r.f0 = t
    · by_cases e1 : r.f1 = m
      · rw [if_pos e0, if_pos e1, if_pos ⟨e0, e1⟩]
      · rw [if_pos e0, if_neg e1, if_neg (by omega)]
    · rw [if_neg e0, if_neg (by omega)]
theorem sEntAt_ev (l : List S108) (t m : Int) (h : l.length ≤ 1048576) : Ev (fun k => spec_l8At.f k l t m) (atFrom t m l 0) := by
  refine Ev.at_ l.length fun k hk => ?_
  simp only [spec_l8At.f]
  have h := sEntAt_loop t m l [] k (by simp only [List.length_nil]; omega) hk
  simpa using h

theorem iEntAt_loop (t m : Int) (rest : List S108) : ∀ (pre : List S108) (n : Int) (k : Nat), n = (pre.length : Int) + rest.length → pre.length + rest.length ≤ 1099511627776 → rest.length < k →
    impl_entAt.l0 k t m (pre ++ rest) n (pre.length : Int) = some (atFrom t m rest (pre.length : Int)) := by
  induction rest with
  | nil =>
    intro pre n k hm _ hk
    obtain ⟨k, rfl⟩ := succ_of hk
    simp only [List.length_nil] at hm
    simp only [impl_entAt.l0]
    rw [if_neg (by omega)]
    rfl
  | cons r rest ih =>
    intro pre n k hm hn hk
    obtain ⟨k, rfl⟩ := succ_of hk
    simp only [List.length_cons] at hm hn hk
    have h := ih (pre ++ [r]) n k (by simp only [List.length_append, List.length_cons, List.length_nil]; omega) (by simp only [List.length_append, List.length_cons, List.length_nil]; omega) (by omega)
    simp only [List.append_assoc, List.cons_append, List.nil_append] at h
    simp only [impl_entAt.l0]
    rw [if_pos (by omega), if_pos (by omega), if_pos (by simp only [List.length_append, List.length_cons]; omega)]
    simp only [rdIF_mid, atFrom]
    rw [w64 (by omega) (by omega), show (pre.length : Int) + 1 = ((pre ++ [r]).length : Int) from by simp, h]
    by_cases e0 : r.f0 = t
    · by_cases e1 : r.f1 = m
      · rw [if_pos e0, if_pos e1, if_pos ⟨e0, e1⟩]
      · rw [if_pos e0, if_neg e1, if_neg (by omega)]
    · rw [if_neg e0, if_neg (by omega)]
theorem iEntAt_ev (l : List S108) (t m : Int) (h : l.length ≤ 1048576) : Ev (fun k => impl_entAt.f k l t m) (atFrom t m l 0) := by
  refine Ev.at_ l.length fun k hk => ?_
  simp only [impl_entAt.f]
  have h := iEntAt_loop t m l [] (l.length : Int) k (by simp) (by simp only [List.length_nil]; omega) hk
  simpa using h

def lookUp (t m : Int) (l : List S108) : Int := if atFrom t m l 0 < 0 then -1 else (rd_T108 l (atFrom t m l 0)).f2
theorem sLookUp_ev (l : List S108) (t m : Int) (h : l.length ≤ 1048576) : Ev (fun k => spec_LookUp.f k l t m) (lookUp t m l) := by
  unfold spec_LookUp.f lookUp
  refine Ev.bind (sEntAt_ev l t m h) ?_
  rcases atFrom_bd t m l 0 (by omega) with e | e
  · simp only [if_pos (show atFrom t m l 0 < 0 by omega)]
    exact Ev.now _
  · simp only [if_neg (show ¬ atFrom t m l 0 < 0 by omega), if_pos (show (0 : Int) ≤ atFrom t m l 0 by omega), if_pos (show atFrom t m l 0 < (l.length : Int) by omega)]
    exact Ev.now _
theorem iLookUp_ev (l : List S108) (t m : Int) (h : l.length ≤ 1048576) : Ev (fun k => impl_LookUp.f k l t m) (lookUp t m l) := by
  unfold impl_LookUp.f lookUp
  refine Ev.bind (iEntAt_ev l t m h) ?_
  rcases atFrom_bd t m l 0 (by omega) with e | e
  · simp only [if_pos (show atFrom t m l 0 < 0 by omega)]
    exact Ev.now _
  · simp only [if_neg (show ¬ atFrom t m l 0 < 0 by omega), if_pos (show (0 : Int) ≤ atFrom t m l 0 by omega), if_pos (show atFrom t m l 0 < (l.length : Int) by omega)]
    exact Ev.now _

theorem FnExactLookUp : laws_FnExactLookUp.Pure := by
  intro l0 a1 a2 hl _ _ _
  refine Ev.rounds ?_
  unfold laws_FnExactLookUp.f
  rw [szFentS_eq l0 _ (by omega) (by omega) hl]
  simp only [Option.bind_some]
  by_cases h : 1048576 - (l0.length : Int) < 0
  · simp only [if_pos h]
    exact Ev.now _
  have hn : ¬ 1048576 - (l0.length : Int) < 0 := h
  simp only [if_neg h, if_neg hn]
  have hml : (l0.map cvF).length = l0.length := List.length_map _
  repeat' first
    | exact Ev.now _
    | ((with_reducible refine Ev.bind (toFentS_ev _ ?s0) ?_); (case s0 => omega))
    | ((with_reducible refine Ev.bind (sLookUp_ev _ _ _ ?s0) ?_); (case s0 => omega))
    | ((with_reducible refine Ev.bind (iLookUp_ev _ _ _ ?s0) ?_); (case s0 => omega))
    | ((with_reducible refine Ev.bind (eqFentS_ev _ ?s0) ?_); (case s0 => omega))
    | simp only [bne_self_eq_false, Bool.false_eq_true, Bool.not_true, Bool.not_false, decide_true, Option.bind_some, ↓reduceIte]

end Go.Proofs.Ytgjhmbneikpiaaa.Pure
