/- The pure side of FnExactParseOid: the program's ParseOid and the reference's agree at all arguments. No conditions but those of the given statement. -/
import Derived.Test.YtgjhmbneikpiaaaDoorXFnExactParseOidx3
import Derived.Lib.ItoaLen
namespace Go.Proofs.YtgjhmbneikpiaaaDoor.Pure
open Go.RowKit Go.Proofs.YtgjhmbneikpiaaaDoor.XFnExactParseOid Go.Proofs.YtgjhmbneikpiaaaDoorW.PrintWords Go.Proofs.YtgjhmbneikpiaaaDoorW.PrintLast Go.Proofs.YtgjhmbneikpiaaaDoorW.PrintMore
set_option linter.unusedVariables false
set_option linter.unusedSimpArgs false

theorem w64 {x : Int} (h0 : -9223372036854775808 ≤ x) (h1 : x ≤ 9223372036854775807) : wrap64 x = x := by
  unfold wrap64
  omega
theorem wf64 {x : Int} (h : (Lit.int .i64 x).wf = true) : -9223372036854775808 ≤ x ∧ x ≤ 9223372036854775807 := by
  simp only [Lit.wf, Bool.and_eq_true, decide_eq_true_eq] at h
  exact h
theorem wf8 {x : Int} (h : (Lit.int .u8 x).wf = true) : 0 ≤ x ∧ x ≤ 255 := by
  simp only [Lit.wf, Bool.and_eq_true, decide_eq_true_eq] at h
  exact h
theorem rd_mid (pre rest : List Int) (r : Int) : rd (pre ++ r :: rest) (pre.length : Int) = r := by
  unfold rd
  simp [List.getD_eq_getElem?_getD]
theorem set_mid {α : Type} (pre rest : List α) (r v : α) : (pre ++ r :: rest).set (pre.length : Int).toNat v = pre ++ v :: rest := by
  rw [Int.toNat_natCast, List.set_append_right _ _ (Nat.le_refl _)]
  simp
theorem succ_of {d k : Nat} (h : d < k) : ∃ m, k = m + 1 := ⟨k - 1, by omega⟩
theorem Ev.at_ {α : Type} {g : Nat → Option α} {r : α} (n : Nat) (h : ∀ k, n < k → g k = some r) : Ev g r := ⟨n + 1, fun k hk => h k (by omega)⟩
theorem Ev.some_ {α : Type} {v : Option α} {r : α} (h : v = some r) : Ev (fun _ => v) r := ⟨0, fun _ _ => h⟩
theorem Ev.succ {α : Type} {g : Nat → Option α} {r : α} (h : Ev (fun k => g (k + 1)) r) : Ev g r := by
  obtain ⟨K, h⟩ := h
  refine ⟨K + 1, fun n hn => ?_⟩
  obtain ⟨m, rfl⟩ : ∃ m, n = m + 1 := ⟨n - 1, by omega⟩
  exact h m (by omega)
theorem Ev.some_const {α : Type} {g : Nat → Option α} {r : α} (h : ∀ k, g k = some r) : Ev g r := ⟨0, fun k _ => h k⟩

theorem l1In_eq (a b c : Int) : spec_l1In.f a b c = some (decide (b ≤ a ∧ a ≤ c)) := by
  unfold spec_l1In.f
  by_cases h : b ≤ a
  · rw [if_pos h]; simp [h]
  · rw [if_neg h]; simp [h]

theorem in_eq (a b c : Int) : impl_in.f a b c = some (decide (b ≤ a ∧ a ≤ c)) := by
  unfold impl_in.f
  by_cases h : b ≤ a
  · rw [if_pos h]; simp [h]
  · rw [if_neg h]; simp [h]

theorem eqIntS_loop (a : List Int) : ∀ (b pre pre' : List Int) (k : Nat), pre.length = pre'.length → a.length = b.length → pre.length + a.length ≤ 1099511627776 → a.length < k →
    laws_eqIntS.l0 k (pre ++ a) (pre' ++ b) (pre.length : Int) = some (decide (a = b)) := by
  induction a with
  | nil =>
    intro b pre pre' k hp hab hn hk
    obtain ⟨k, rfl⟩ := succ_of hk
    obtain rfl : b = [] := List.eq_nil_of_length_eq_zero hab.symm
    simp only [laws_eqIntS.l0]
    rw [if_neg (by simp only [List.length_append, List.length_nil] at *; omega)]
    simp
  | cons r a ih =>
    intro b pre pre' k hp hab hn hk
    obtain ⟨k, rfl⟩ := succ_of hk
    cases b with
    | nil => simp at hab
    | cons s b =>
      simp only [List.length_cons] at hab hn hk
      simp only [laws_eqIntS.l0]
      have e : rd (pre' ++ s :: b) (pre.length : Int) = s := by rw [hp, rd_mid]
      rw [if_pos (by simp only [List.length_append, List.length_cons]; omega), if_pos (by omega), if_pos (by simp only [List.length_append, List.length_cons]; omega), rd_mid, e]
      by_cases hrs : r = s
      · subst hrs
        rw [if_pos rfl, w64 (by omega) (by omega)]
        have h := ih b (pre ++ [r]) (pre' ++ [r]) k (by simp [hp]) (by omega) (by simp only [List.length_append, List.length_cons, List.length_nil]; omega) (by omega)
        simpa using h
      · rw [if_neg hrs]
        simp [hrs]
theorem eqIntS_ev (a b : List Int) (h : a.length ≤ 1099511627776) : Ev (fun k => laws_eqIntS.f k a b) (decide (a = b)) := by
  refine Ev.at_ a.length fun k hk => ?_
  simp only [laws_eqIntS.f]
  by_cases e : a.length = b.length
  · rw [if_pos (by omega)]
    have h := eqIntS_loop a b [] [] k rfl e (by simp only [List.length_nil]; omega) hk
    simpa using h
  · rw [if_neg (by omega)]
    have hne : ¬ a = b := fun h => e (by rw [h])
    simp [hne]

def marksInt : Int → Nat → List Int
  | _, 0 => []
  | m, d + 1 => (m) :: marksInt (m + 1) d
theorem marksInt_length (m : Int) (d : Nat) : (marksInt m d).length = d := by
  induction d generalizing m with
  | zero => rfl
  | succ d ih => simp [marksInt, ih]
theorem markIntS_loop (rest : List Int) : ∀ (pre : List Int) (m : Int) (k : Nat), 0 ≤ m → m ≤ 1152921504606846976 - rest.length → pre.length + rest.length ≤ 1099511627776 → rest.length < k →
    laws_markIntS.l0 k (pre ++ rest) m (pre.length : Int) = some (m + rest.length, pre ++ marksInt m rest.length) := by
  induction rest with
  | nil =>
    intro pre m k _ _ _ hk
    obtain ⟨k, rfl⟩ := succ_of hk
    simp only [laws_markIntS.l0]
    rw [if_neg (by simp only [List.length_append, List.length_nil]; omega)]
    simp [marksInt]
  | cons r rest ih =>
    intro pre m k h0 h1 hn hk
    obtain ⟨k, rfl⟩ := succ_of hk
    simp only [List.length_cons] at h1 hn hk
    simp only [laws_markIntS.l0]
    rw [if_pos (by simp only [List.length_append, List.length_cons]; omega), if_pos (by omega), set_mid, w64 (x := m + 1) (by omega) (by omega), w64 (by omega) (by omega)]
    have h := ih (pre ++ [m]) (m + 1) k (by omega) (by omega) (by simp only [List.length_append, List.length_cons, List.length_nil]; omega) (by omega)
    simp only [List.length_append, List.length_cons, List.length_nil, List.append_assoc, List.cons_append, List.nil_append] at h
    simp only [marksInt, List.length_cons]
    rw [show (pre.length : Int) + 1 = ((pre.length + (0 + 1) : Nat) : Int) from by omega, h]
    congr 2
    omega
theorem markIntS_ev (xs : List Int) (m : Int) (h0 : 0 ≤ m) (h1 : m ≤ 1099511627776) (h : xs.length ≤ 1099511627776) : Ev (fun k => laws_markIntS.f k xs m) (m + xs.length, marksInt m xs.length) := by
  refine Ev.at_ xs.length fun k hk => ?_
  simp only [laws_markIntS.f]
  have h := markIntS_loop xs [] m k h0 (by omega) (by simp only [List.length_nil]; omega) hk
  simpa using h
theorem heldIntS_loop (d : Nat) : ∀ (pre : List Int) (m : Int) (k : Nat), 0 ≤ m → m ≤ 1152921504606846976 - d → pre.length + d ≤ 1099511627776 → d < k →
    laws_heldIntS.l0 k (pre ++ marksInt m d) m (pre.length : Int) = some (m + d) := by
  induction d with
  | zero =>
    intro pre m k _ _ _ hk
    obtain ⟨k, rfl⟩ := succ_of hk
    simp only [marksInt]
    simp only [laws_heldIntS.l0]
    rw [if_neg (by simp only [List.length_append, List.length_nil]; omega)]
    simp
  | succ d ih =>
    intro pre m k h0 h1 hn hk
    obtain ⟨k, rfl⟩ := succ_of hk
    simp only [marksInt]
    simp only [laws_heldIntS.l0]
    rw [if_pos (by simp only [List.length_append, List.length_cons]; omega), if_pos (by omega), rd_mid, if_pos rfl, w64 (x := m + 1) (by omega) (by omega), w64 (by omega) (by omega)]
    have h := ih (pre ++ [m]) (m + 1) k (by omega) (by omega) (by simp only [List.length_append, List.length_cons, List.length_nil]; omega) (by omega)
    simp only [List.length_append, List.length_cons, List.length_nil, List.append_assoc, List.cons_append, List.nil_append] at h
    rw [show (pre.length : Int) + 1 = ((pre.length + (0 + 1) : Nat) : Int) from by omega, h]
    congr 1
    omega
theorem heldIntS_ev (m : Int) (d : Nat) (h0 : 0 ≤ m) (h1 : m ≤ 1099511627776) (h : d ≤ 1099511627776) : Ev (fun k => laws_heldIntS.f k (marksInt m d) m) (m + d) := by
  refine Ev.at_ d fun k hk => ?_
  simp only [laws_heldIntS.f]
  have h := heldIntS_loop d [] m k h0 (by omega) (by simp only [List.length_nil]; omega) hk
  simpa using h

def oidNums (xs : List Int) : Bool := xs.all fun n => decide (0 ≤ n ∧ n ≤ 100000)
def oidOk (xs : List Int) : Bool := oidNums xs && decide (1 ≤ (xs.length : Int) ∧ (xs.length : Int) ≤ 10)

theorem sOidOk_loop (rest : List Int) : ∀ (pre : List Int) (k : Nat), pre.length + rest.length ≤ 1099511627776 → rest.length < k →
    spec_OidOk.l0 k (pre ++ rest) (pre.length : Int) = some (oidNums rest && decide (1 ≤ ((pre ++ rest).length : Int) ∧ ((pre ++ rest).length : Int) ≤ 10)) := by
  induction rest with
  | nil =>
    intro pre k _ hk
    obtain ⟨k, rfl⟩ := succ_of hk
    simp only [spec_OidOk.l0]
    rw [if_neg (by simp only [List.length_append, List.length_nil]; omega), l1In_eq]
    simp [oidNums]
  | cons r rest ih =>
    intro pre k hn hk
    obtain ⟨k, rfl⟩ := succ_of hk
    simp only [List.length_cons] at hn hk
    simp only [spec_OidOk.l0]
    rw [if_pos (by simp only [List.length_append, List.length_cons]; omega), if_pos (by omega), rd_mid, l1In_eq, w64 (by omega) (by omega)]
    simp only [Option.bind_some]
    by_cases h : 0 ≤ r ∧ r ≤ 100000
    · rw [if_pos (by simpa using h)]
      have e := ih (pre ++ [r]) k (by simp only [List.length_append, List.length_cons, List.length_nil]; omega) (by omega)
      simp only [List.append_assoc, List.cons_append, List.nil_append] at e
      rw [show (pre.length : Int) + 1 = ((pre ++ [r]).length : Int) from by simp, e]
      simp [oidNums, h]
    · rw [if_neg (by simpa using h)]
      simp only [oidNums, List.all_cons, decide_eq_false h, Bool.false_and]
theorem sOidOk_ev (xs : List Int) (h : xs.length ≤ 1099511627776) : Ev (fun k => spec_OidOk.f k xs) (oidOk xs) := by
  refine Ev.at_ xs.length fun k hk => ?_
  simp only [spec_OidOk.f]
  have e := sOidOk_loop xs [] k (by simp only [List.length_nil]; omega) hk
  simpa [oidOk] using e

theorem iOidOk_loop (rest : List Int) : ∀ (pre all : List Int) (m : Int) (k : Nat), m = (pre.length : Int) + rest.length → pre.length + rest.length ≤ 1099511627776 → rest.length < k →
    impl_OidOk.l0 k all (pre ++ rest) m (pre.length : Int) = some (oidNums rest && decide (1 ≤ (all.length : Int) ∧ (all.length : Int) ≤ 10)) := by
  induction rest with
  | nil =>
    intro pre all m k hm _ hk
    obtain ⟨k, rfl⟩ := succ_of hk
    simp only [List.length_nil] at hm
    simp only [impl_OidOk.l0]
    rw [if_neg (by omega), in_eq]
    simp [oidNums]
  | cons r rest ih =>
    intro pre all m k hm hn hk
    obtain ⟨k, rfl⟩ := succ_of hk
    simp only [List.length_cons] at hm hn hk
    simp only [impl_OidOk.l0]
    rw [if_pos (by omega), if_pos (by omega), if_pos (by simp only [List.length_append, List.length_cons]; omega), rd_mid, in_eq, w64 (by omega) (by omega)]
    simp only [Option.bind_some]
    by_cases h : 0 ≤ r ∧ r ≤ 100000
    · rw [if_pos (by simpa using h)]
      have e := ih (pre ++ [r]) all m k (by simp only [List.length_append, List.length_cons, List.length_nil]; omega) (by simp only [List.length_append, List.length_cons, List.length_nil]; omega) (by omega)
      simp only [List.append_assoc, List.cons_append, List.nil_append] at e
      rw [show (pre.length : Int) + 1 = ((pre ++ [r]).length : Int) from by simp, e]
      simp [oidNums, h]
    · rw [if_neg (by simpa using h)]
      simp only [oidNums, List.all_cons, decide_eq_false h, Bool.false_and]
theorem iOidOk_ev (xs : List Int) (h : xs.length ≤ 1099511627776) : Ev (fun k => impl_OidOk.f k xs) (oidOk xs) := by
  refine Ev.at_ xs.length fun k hk => ?_
  simp only [impl_OidOk.f]
  have e := iOidOk_loop xs [] xs (xs.length : Int) k (by simp) (by simp only [List.length_nil]; omega) hk
  simpa [oidOk] using e

def decB (n : Nat) : ByteArray := ⟨(Go.Lib.decDigits n).toArray⟩
def itoaB (n : Int) : ByteArray := ⟨(Go.Lib.itoa n).toArray⟩
theorem itoaB_nat (n : Nat) : itoaB (n : Int) = decB n := by
  unfold itoaB decB
  rw [Go.Lib.itoa_nonneg]
theorem decB_size (n : Nat) (h : n ≤ 1000000) : (decB n).size ≤ 21 := by
  have := Go.Lib.itoa_length_le (n : Int) (by omega) (by omega)
  rw [Go.Lib.itoa_nonneg] at this
  simpa [decB, ByteArray.size] using this
theorem itoaB_size (n : Int) (h : 0 ≤ n ∧ n ≤ 100000) : (itoaB n).size ≤ 21 := by
  obtain ⟨m, rfl⟩ : ∃ m : Nat, n = m := ⟨n.toNat, by omega⟩
  rw [itoaB_nat]
  exact decB_size m (by omega)
def oidTl (rest : List Int) : List UInt8 := Go.Lib.joinTail [46] (rest.map Go.Lib.itoa)
theorem oidTl_cons (r : Int) (rest : List Int) : oidTl (r :: rest) = 46 :: Go.Lib.itoa r ++ oidTl rest := by
  simp [oidTl, Go.Lib.joinTail]
def oidB (xs : List Int) : ByteArray := ⟨(Go.Lib.join (xs.map Go.Lib.itoa) [46]).toArray⟩
theorem oidTl_len : ∀ rest : List Int, (∀ r ∈ rest, 0 ≤ r ∧ r ≤ 100000) → (oidTl rest).length ≤ 22 * rest.length
  | [], _ => by simp [oidTl, Go.Lib.joinTail]
  | r :: rest, h => by
    have h1 := oidTl_len rest fun y hy => h y (List.mem_cons_of_mem _ hy)
    have h2 := h r List.mem_cons_self
    have h3 := Go.Lib.itoa_length_le r (by omega) (by omega)
    rw [oidTl_cons]
    simp only [List.cons_append, List.length_cons, List.length_append]
    omega
theorem joinB_len (xs : List Int) (h : ∀ r ∈ xs, 0 ≤ r ∧ r ≤ 100000) : (Go.Lib.join (xs.map Go.Lib.itoa) [46]).length ≤ 22 * xs.length := by
  cases xs with
  | nil => simp [Go.Lib.join_nil]
  | cons r rest =>
    have h1 := oidTl_len rest fun y hy => h y (List.mem_cons_of_mem _ hy)
    have h2 := h r List.mem_cons_self
    have h3 := Go.Lib.itoa_length_le r (by omega) (by omega)
    rw [List.map_cons, Go.Lib.join_cons, List.length_append]
    unfold oidTl at h1
    simp only [List.length_cons]
    omega
theorem oid_in {xs : List Int} (h : oidOk xs = true) : (∀ r ∈ xs, 0 ≤ r ∧ r ≤ 100000) ∧ 1 ≤ xs.length ∧ xs.length ≤ 10 := by
  simp only [oidOk, oidNums, Bool.and_eq_true, List.all_eq_true, decide_eq_true_eq] at h
  exact ⟨h.1, by omega, by omega⟩
def oidText (xs : List Int) : ByteArray := if oidOk xs = true then oidB xs else ⟨#[]⟩
theorem iOidText_loop (rest : List Int) : ∀ (pre : List Int) (m : Int) (k : Nat), m = (pre.length : Int) + rest.length → pre.length + rest.length ≤ 10 → (∀ r ∈ pre ++ rest, 0 ≤ r ∧ r ≤ 100000) → rest.length < k →
    impl_OidText.l0 k (pre.map itoaB) (pre ++ rest) m (pre.length : Int) = some (oidB (pre ++ rest)) := by
  induction rest with
  | nil =>
    intro pre m k hm hn hr hk
    obtain ⟨k, rfl⟩ := succ_of hk
    simp only [List.length_nil] at hm hn
    simp only [List.append_nil] at hr ⊢
    have hl := joinB_len pre hr
    simp only [impl_OidText.l0]
    rw [if_neg (by omega)]
    have e : joinB (pre.map itoaB) (⟨#[46]⟩ : ByteArray) = Go.Lib.join (pre.map Go.Lib.itoa) [46] := by
      unfold joinB itoaB
      rw [List.map_map]
      rfl
    unfold strings_Join.f
    rw [e, if_pos ⟨by omega, by rw [List.length_map]; omega⟩]
    rfl
  | cons r rest ih =>
    intro pre m k hm hn hr hk
    obtain ⟨k, rfl⟩ := succ_of hk
    simp only [List.length_cons] at hm hn hk
    have h2 := hr r (by simp)
    simp only [impl_OidText.l0]
    rw [if_pos (by omega), if_pos (by omega), if_pos (by simp only [List.length_append, List.length_cons]; omega), rd_mid]
    unfold strconv_Itoa.f
    rw [if_pos (by omega)]
    simp only [Option.bind_some]
    rw [if_pos (by rw [List.length_map]; omega), w64 (by omega) (by omega)]
    have e := ih (pre ++ [r]) m k (by simp only [List.length_append, List.length_cons, List.length_nil]; omega) (by simp only [List.length_append, List.length_cons, List.length_nil]; omega) (by simpa using hr) (by omega)
    simp only [List.append_assoc, List.cons_append, List.nil_append, List.map_append, List.map_cons, List.map_nil] at e
    rw [show (pre.length : Int) + 1 = ((pre ++ [r]).length : Int) from by simp]
    exact e
theorem iOidText_ev (xs : List Int) (h : xs.length ≤ 1099511627776) : Ev (fun k => impl_OidText.f k xs) (oidText xs) := by
  simp only [impl_OidText.f]
  refine Ev.bind (iOidOk_ev xs h) ?_
  unfold oidText
  cases ho : oidOk xs with
  | false => simp only [Bool.false_eq_true, if_false]; exact Ev.now _
  | true =>
    simp only [if_true]
    obtain ⟨hr, h1, h10⟩ := oid_in ho
    refine Ev.at_ 20 fun k hk => ?_
    have e := iOidText_loop xs [] (xs.length : Int) k (by simp) (by simpa using h10) (by simpa using hr) (by omega)
    simpa using e

def pcs : List UInt8 → List (List UInt8)
  | [] => [[]]
  | b :: l => if b = 46 then [] :: pcs l else match pcs l with
    | p :: r => (b :: p) :: r
    | [] => [[b]]
theorem pcs_split : ∀ (l : List UInt8) (k : Nat), Go.Lib.count l [46] = k → Go.Lib.splitK [46] 0 k l = pcs l
  | [], k, h => by
    have e : Go.Lib.count [] [46] = 0 := by rw [Go.Lib.count_one]; rfl
    obtain rfl := h.symm.trans e
    rfl
  | b :: l, k, h => by
    have ix : Go.Lib.index (b :: l) [46] = if ([46] : List UInt8).isPrefixOf (b :: l) then 0 else if Go.Lib.index l [46] == -1 then -1 else Go.Lib.index l [46] + 1 := rfl
    by_cases hb : b = 46
    · subst hb
      have e : Go.Lib.index (46 :: l) [46] = 0 := by rw [ix]; simp [List.isPrefixOf]
      rw [Go.Lib.count_cons_eq] at h
      subst h
      rw [Nat.add_comm, Go.Lib.splitK, e]
      have hp : pcs (46 :: l) = [] :: pcs l := by rw [pcs, if_pos rfl]
      rw [hp]
      have hr := pcs_split l (Go.Lib.count l [46]) rfl
      rw [if_neg (by decide)]
      show [] :: Go.Lib.splitK [46] 0 _ l = _
      rw [hr]
    · rw [Go.Lib.count_cons_ne _ _ _ hb] at h
      have hr := pcs_split l k h
      have hpre : ([46] : List UInt8).isPrefixOf (b :: l) = false := by
        simp only [List.isPrefixOf, Bool.and_true]
        exact beq_false_of_ne (fun e => hb e.symm)
      rw [hpre] at ix
      simp only [Bool.false_eq_true, if_false] at ix
      simp only [pcs, if_neg hb]
      cases k with
      | zero =>
        rw [Go.Lib.splitK] at hr ⊢
        rw [← hr]
      | succ k =>
        rw [Go.Lib.splitK] at hr ⊢
        rcases Go.Lib.index_spec l [46] with ⟨hi, _⟩ | ⟨i, hi, _, _, _⟩
        · rw [Go.Lib.count_miss hi] at h
          cases h
        · have hne : ¬ (Go.Lib.index l [46] == -1) = true := by rw [hi]; exact fun e => by have := beq_iff_eq.1 e; omega
          rw [if_neg hne] at ix hr
          rw [ix, hi]
          rw [hi] at hr
          rw [if_neg (fun e => by have := beq_iff_eq.1 e; omega), ← hr]
          simp only [Nat.add_zero, Int.toNat_natCast, List.length_singleton]
          rw [show ((i : Int) + 1).toNat = i + 1 by omega]
          rfl
theorem pcs_ne : ∀ l, pcs l ≠ []
  | [] => by simp [pcs]
  | b :: l => by
    unfold pcs
    split
    · simp
    · split <;> simp
theorem pcs_cons (b : UInt8) (l : List UInt8) (h : b ≠ 46) : ∃ p r, pcs l = p :: r ∧ pcs (b :: l) = (b :: p) :: r := by
  cases e : pcs l with
  | nil => exact absurd e (pcs_ne l)
  | cons p r => exact ⟨p, r, rfl, by simp [pcs, h, e]⟩
theorem pcs_app : ∀ (x l : List UInt8), (∀ b ∈ x, b ≠ 46) → ∃ p r, pcs l = p :: r ∧ pcs (x ++ l) = (x ++ p) :: r
  | [], l, _ => by
    cases e : pcs l with
    | nil => exact absurd e (pcs_ne l)
    | cons p r => exact ⟨p, r, rfl, by simpa using e⟩
  | b :: x, l, h => by
    obtain ⟨p, r, e1, e2⟩ := pcs_app x l fun y hy => h y (List.mem_cons_of_mem _ hy)
    obtain ⟨p', r', e3, e4⟩ := pcs_cons b (x ++ l) (h b List.mem_cons_self)
    rw [e2] at e3
    obtain ⟨rfl, rfl⟩ := List.cons.inj e3
    exact ⟨p, r, e1, by simpa using e4⟩
theorem pcs_plain (x : List UInt8) (h : ∀ b ∈ x, b ≠ 46) : pcs x = [x] := by
  obtain ⟨p, r, e1, e2⟩ := pcs_app x [] h
  simp only [pcs] at e1
  obtain ⟨rfl, rfl⟩ := List.cons.inj e1
  simpa using e2
theorem pcs_join : ∀ (x : List UInt8) (xs : List (List UInt8)), (∀ y ∈ x :: xs, ∀ b ∈ y, b ≠ 46) → pcs (x ++ Go.Lib.joinTail [46] xs) = x :: xs
  | x, [], h => by simpa [Go.Lib.joinTail] using pcs_plain x (h x List.mem_cons_self)
  | x, y :: ys, h => by
    have hr := pcs_join y ys fun z hz => h z (List.mem_cons_of_mem _ hz)
    have e : Go.Lib.joinTail [46] (y :: ys) = 46 :: (y ++ Go.Lib.joinTail [46] ys) := by simp [Go.Lib.joinTail]
    obtain ⟨p, r, e1, e2⟩ := pcs_app x (46 :: (y ++ Go.Lib.joinTail [46] ys)) (h x List.mem_cons_self)
    rw [e, e2]
    simp only [pcs, if_true] at e1
    obtain ⟨rfl, rfl⟩ := List.cons.inj e1
    rw [hr]
    simp
theorem join_pcs : ∀ l : List UInt8, Go.Lib.join (pcs l) [46] = l
  | [] => by simp [pcs, Go.Lib.join_one]
  | b :: l => by
    have ih := join_pcs l
    by_cases h : b = 46
    · subst h
      simp only [pcs, if_true]
      rw [Go.Lib.join_cons]
      cases e : pcs l with
      | nil => exact absurd e (pcs_ne l)
      | cons p r =>
        rw [e, Go.Lib.join_cons] at ih
        have : Go.Lib.joinTail [46] (p :: r) = 46 :: (p ++ Go.Lib.joinTail [46] r) := by simp [Go.Lib.joinTail]
        rw [this, ih]
        rfl
    · obtain ⟨p, r, e1, e2⟩ := pcs_cons b l h
      rw [e1, Go.Lib.join_cons] at ih
      rw [e2, Go.Lib.join_cons, List.cons_append, ih]
theorem pcs_len : ∀ l : List UInt8, (pcs l).length ≤ l.length + 1
  | [] => by simp [pcs]
  | b :: l => by
    have ih := pcs_len l
    by_cases h : b = 46
    · simp only [pcs, if_pos h, List.length_cons]
      omega
    · obtain ⟨p, r, e1, e2⟩ := pcs_cons b l h
      rw [e1] at ih
      rw [e2]
      simp only [List.length_cons] at ih ⊢
      omega
def digs (acc : Nat) : List UInt8 → Option Nat
  | [] => some acc
  | c :: r => if 48 ≤ c.toNat ∧ c.toNat ≤ 57 then digs (acc * 10 + (c.toNat - 48)) r else none
theorem digs_snoc : ∀ (p : List UInt8) (acc : Nat) (c : UInt8), digs acc (p ++ [c]) = (digs acc p).bind fun a => if 48 ≤ c.toNat ∧ c.toNat ≤ 57 then some (a * 10 + (c.toNat - 48)) else none
  | [], acc, c => by simp [digs]
  | d :: p, acc, c => by
    simp only [List.cons_append, digs]
    by_cases h : 48 ≤ d.toNat ∧ d.toNat ≤ 57
    · rw [if_pos h, if_pos h]
      exact digs_snoc p _ c
    · rw [if_neg h, if_neg h]
      rfl
theorem u8dig (d : Nat) (h : d < 10) : (UInt8.ofNat (48 + d)).toNat = 48 + d := by
  rw [UInt8.toNat_ofNat']
  omega
theorem digs_dec (n : Nat) : digs 0 (Go.Lib.decDigits n) = some n := by
  induction n using Nat.strongRecOn with
  | _ n ih =>
    by_cases h : n < 10
    · rw [Go.Lib.decDigits, dif_pos h]
      have e := u8dig n h
      simp only [digs]
      rw [if_pos (by omega)]
      congr 1
      omega
    · rw [Go.Lib.decDigits, dif_neg h, digs_snoc, ih (n / 10) (by omega)]
      have e := u8dig (n % 10) (by omega)
      simp only [Option.bind_some]
      rw [if_pos (by omega)]
      congr 1
      omega
theorem dec_head (n : Nat) : ∃ c r, Go.Lib.decDigits n = c :: r ∧ 48 ≤ c.toNat ∧ c.toNat ≤ 57 ∧ (1 ≤ n → c.toNat ≠ 48) := by
  induction n using Nat.strongRecOn with
  | _ n ih =>
    by_cases h : n < 10
    · rw [Go.Lib.decDigits, dif_pos h]
      have e := u8dig n h
      exact ⟨_, _, rfl, by omega, by omega, fun _ => by omega⟩
    · obtain ⟨c, r, e, h1, h2, h3⟩ := ih (n / 10) (by omega)
      rw [Go.Lib.decDigits, dif_neg h, e]
      exact ⟨c, _, rfl, h1, h2, fun _ => h3 (by omega)⟩
theorem dec_len : ∀ (k n : Nat), n < 10 ^ (k + 1) → (Go.Lib.decDigits n).length ≤ k + 1
  | 0, n, h => by
    rw [Go.Lib.decDigits, dif_pos (by simpa using h)]
    simp
  | k + 1, n, h => by
    by_cases hn : n < 10
    · rw [Go.Lib.decDigits, dif_pos hn]
      simp
    · have := dec_len k (n / 10) (by rw [Nat.div_lt_iff_lt_mul (by decide)]; rw [Nat.pow_succ] at h; exact h)
      rw [Go.Lib.decDigits, dif_neg hn, List.length_append]
      simp only [List.length_singleton]
      omega
theorem digs_range : ∀ (p : List UInt8) (acc n : Nat), digs acc p = some n → ∀ b ∈ p, 48 ≤ b.toNat ∧ b.toNat ≤ 57
  | [], _, _, _ => by simp
  | c :: r, acc, n, h => by
    simp only [digs] at h
    by_cases hc : 48 ≤ c.toNat ∧ c.toNat ≤ 57
    · rw [if_pos hc] at h
      intro b hb
      rcases List.mem_cons.1 hb with rfl | hb
      · exact hc
      · exact digs_range r _ n h b hb
    · rw [if_neg hc] at h
      cases h
theorem digs_dec_inv (p : List UInt8) (n : Nat) (hp : p ≠ []) (h0 : 1 < p.length → ∀ c, p.head? = some c → c.toNat ≠ 48) (h : digs 0 p = some n) : p = Go.Lib.decDigits n := by
  induction hk : p.length using Nat.strongRecOn generalizing p n with
  | _ k ih =>
    obtain ⟨q, c, rfl⟩ : ∃ q c, p = q ++ [c] := ⟨p.dropLast, p.getLast hp, (List.dropLast_concat_getLast hp).symm⟩
    rw [digs_snoc] at h
    cases ha : digs 0 q with
    | none => rw [ha] at h; cases h
    | some a =>
      rw [ha] at h
      simp only [Option.bind_some] at h
      by_cases hc : 48 ≤ c.toNat ∧ c.toNat ≤ 57
      · rw [if_pos hc] at h
        have hn := Option.some.inj h
        cases q with
        | nil =>
          obtain rfl : a = 0 := by simpa [digs] using ha.symm
          rw [Go.Lib.decDigits, dif_pos (by omega)]
          simp only [List.nil_append, List.cons.injEq, and_true]
          apply UInt8.toNat_inj.1
          rw [u8dig n (by omega)]
          omega
        | cons d q =>
          have hd := h0 (by simp) d (by simp)
          have e := ih (d :: q).length (by rw [← hk]; simp) (d :: q) a (by simp) (fun _ c' hc' => by simp only [List.head?_cons, Option.some.injEq] at hc'; subst hc'; exact hd) ha rfl
          have ha1 : 1 ≤ a := by
            rcases Nat.eq_zero_or_pos a with rfl | h1
            · rw [Go.Lib.decDigits, dif_pos (by decide)] at e
              have := (List.cons.inj e).1
              rw [this] at hd
              exact absurd (u8dig 0 (by decide)) hd
            · exact h1
          rw [Go.Lib.decDigits, dif_neg (by omega), e]
          rw [show n / 10 = a by omega, show n % 10 = c.toNat - 48 by omega]
          congr 1
          simp only [List.cons.injEq, and_true]
          apply UInt8.toNat_inj.1
          rw [u8dig _ (by omega)]
          omega
      · rw [if_neg hc] at h
        cases h
theorem digs_parse : ∀ (p : List UInt8) (acc n : Nat), digs acc p = some n → n ≤ 1000000000 → acc ≤ n ∧ Go.Lib.parseUint10 acc p = .ok n
  | [], acc, n, h, _ => by
    obtain rfl : acc = n := by simpa [digs] using h
    exact ⟨Nat.le_refl _, rfl⟩
  | c :: r, acc, n, h, hn => by
    simp only [digs] at h
    by_cases hc : 48 ≤ c.toNat ∧ c.toNat ≤ 57
    · rw [if_pos hc] at h
      obtain ⟨h1, h2⟩ := digs_parse r _ n h hn
      refine ⟨by omega, ?_⟩
      simp only [Go.Lib.parseUint10]
      rw [if_pos hc, if_neg (by omega), if_neg (by omega), h2]
    · rw [if_neg hc] at h
      cases h
theorem atoi_dec (n : Nat) (h : n ≤ 1000000000) : Go.Lib.atoiAll (Go.Lib.decDigits n) = .ok (n : Int) := by
  obtain ⟨c, r, e, h1, h2, _⟩ := dec_head n
  have hp := (digs_parse _ 0 n (digs_dec n) h).2
  rw [e] at hp ⊢
  have h43 : ¬ (c.toNat = 43 ∨ c.toNat = 45) := by omega
  have hm : Go.Lib.parseMag (c :: r) = .ok n := by
    unfold Go.Lib.parseMag
    rw [if_neg (by simp)]
    exact hp
  simp only [Go.Lib.atoiAll]
  rw [if_neg h43, hm]
  simp only
  rw [if_neg (by omega), if_neg (by omega), if_neg (by omega)]
theorem dec_no46 (n : Nat) : ∀ b ∈ Go.Lib.decDigits n, b ≠ 46 := by
  intro b hb e
  have := digs_range _ 0 n (digs_dec n) b hb
  subst e
  exact absurd this (by decide)

def mkB (l : List UInt8) : ByteArray := ⟨l.toArray⟩
theorem mkB_data (l : List UInt8) : (mkB l).data.toList = l := rfl
theorem mkB_of (a : ByteArray) : mkB a.data.toList = a := rfl
theorem mkB_size (l : List UInt8) : (mkB l).size = l.length := rfl
theorem bsize (a : ByteArray) : a.size = a.data.toList.length := rfl
theorem bt_mid (a : ByteArray) (pre rest : List UInt8) (b : UInt8) (h : a.data.toList = pre ++ b :: rest) : bt a (pre.length : Int) = (b.toNat : Int) := by
  obtain ⟨⟨l⟩⟩ := a
  simp only at h
  subst h
  unfold bt
  have hlt : ((pre.length : Int)).toNat < (⟨⟨pre ++ b :: rest⟩⟩ : ByteArray).size := by
    show _ < (pre ++ b :: rest).length
    simp
  rw [dif_pos hlt]
  have e : (⟨⟨pre ++ b :: rest⟩⟩ : ByteArray)[((pre.length : Int)).toNat]'hlt = b := by
    show (pre ++ b :: rest)[((pre.length : Int)).toNat]'_ = b
    simp
  rw [e]
theorem ext_mid (a : ByteArray) (pre cur rest : List UInt8) (h : a.data.toList = pre ++ cur ++ rest) : a.extract (pre.length : Int).toNat (((pre.length + cur.length : Nat) : Int)).toNat = mkB cur := by
  apply ByteArray.ext
  apply Array.ext'
  rw [Go.Lib.extract_data, h, mkB_data, Int.toNat_natCast, Int.toNat_natCast, List.append_assoc, List.drop_left, Nat.add_sub_cancel_left, List.take_left]
theorem map_mkB (xs : List ByteArray) : (xs.map (·.data.toList)).map mkB = xs := by
  rw [List.map_map]
  exact List.map_id xs
theorem splitF (a : ByteArray) (h : a.size ≤ 1048576) : strings_Split.f a (⟨#[46]⟩ : ByteArray) = some ((pcs a.data.toList).map mkB) := by
  have hc := Go.Lib.countB_le (⟨#[46]⟩ : ByteArray) (Nat.le_refl 1) a.size a (Nat.le_refl _)
  unfold strings_Split.f
  rw [if_pos ⟨by omega, Nat.le_refl 1, by omega⟩]
  have e := Go.Lib.splitB_data (⟨#[46]⟩ : ByteArray) 0 (Go.Lib.countB a (⟨#[46]⟩ : ByteArray)) a
  have e2 := pcs_split a.data.toList (Go.Lib.countB a (⟨#[46]⟩ : ByteArray)) rfl
  have e3 : (Go.Lib.splitB (⟨#[46]⟩ : ByteArray) 0 (Go.Lib.countB a (⟨#[46]⟩ : ByteArray)) a).map (·.data.toList) = pcs a.data.toList := e.trans e2
  rw [← e3, map_mkB]
def hdp (cur : List UInt8) : List (List UInt8) → List (List UInt8)
  | p :: r => (cur ++ p) :: r
  | [] => []
theorem l2Split_loop (a : ByteArray) (ha : a.size ≤ 1048576) : ∀ (rest pre cur : List UInt8) (out : List ByteArray) (k : Nat), a.data.toList = pre ++ cur ++ rest → out.length ≤ pre.length → rest.length + 1 < k →
    spec_l2Split.l0 k a 46 out (pre.length : Int) ((pre.length + cur.length : Nat) : Int) = some (out ++ (hdp cur (pcs rest)).map mkB)
  | [], pre, cur, out, k, h, ho, hk => by
    obtain ⟨k, rfl⟩ : ∃ m, k = m + 2 := ⟨k - 2, by omega⟩
    have hsz : a.size = pre.length + cur.length := by rw [bsize, h]; simp
    have hx := ext_mid a pre cur [] h
    simp only [spec_l2Split.l0]
    rw [if_pos (by omega), if_pos (by omega), if_pos (by omega), if_pos (by omega), if_pos (by omega), hx, w64 (by omega) (by omega), if_neg (by omega)]
    simp [pcs, hdp]
  | b :: rest, pre, cur, out, k, h, ho, hk => by
    obtain ⟨k, rfl⟩ : ∃ m, k = m + 1 := ⟨k - 1, by omega⟩
    have hsz : a.size = pre.length + cur.length + rest.length + 1 := by rw [bsize, h]; simp; omega
    have hx := ext_mid a pre cur (b :: rest) h
    have hb := bt_mid a (pre ++ cur) rest b h
    rw [List.length_append] at hb
    simp only [List.length_cons] at hk
    simp only [spec_l2Split.l0]
    rw [if_pos (by omega), if_neg (by omega), if_pos (by omega), if_pos (by omega), hb, w64 (by omega) (by omega)]
    by_cases h46 : b = 46
    · subst h46
      rw [if_pos (by decide), if_pos (by omega), if_pos (by omega), if_pos (by omega), hx]
      have e := l2Split_loop a ha rest (pre ++ cur ++ [46]) [] (out ++ [mkB cur]) k (by simpa using h) (by simp only [List.length_append, List.length_cons, List.length_nil]; omega) (by omega)
      simp only [List.length_append, List.length_cons, List.length_nil, Nat.add_zero, Nat.zero_add] at e
      rw [show (((pre.length + cur.length : Nat) : Int) + 1) = ((pre.length + cur.length + 1 : Nat) : Int) by omega, e]
      have hp : pcs (46 :: rest) = [] :: pcs rest := by rw [pcs, if_pos rfl]
      rw [hp]
      cases hr : pcs rest with
      | nil => exact absurd hr (pcs_ne rest)
      | cons p r => simp [hdp]
    · have hne : ¬ ((b.toNat : Int) = 46) := fun e => h46 (UInt8.toNat_inj.1 (by show b.toNat = 46; omega))
      rw [if_neg hne]
      have e := l2Split_loop a ha rest pre (cur ++ [b]) out k (by simpa using h) ho (by omega)
      simp only [List.length_append, List.length_cons, List.length_nil, Nat.zero_add] at e
      rw [show (((pre.length + cur.length : Nat) : Int) + 1) = ((pre.length + (cur.length + 1) : Nat) : Int) by omega, e]
      obtain ⟨p, r, e1, e2⟩ := pcs_cons b rest h46
      rw [e1, e2]
      simp [hdp]
theorem l2Split_ev (a : ByteArray) (ha : a.size ≤ 1048576) : Ev (fun k => spec_l2Split.f k a 46) ((pcs a.data.toList).map mkB) := by
  refine Ev.at_ (a.data.toList.length + 1) fun k hk => ?_
  have e := l2Split_loop a ha a.data.toList [] [] [] k (by simp) (by simp) hk
  unfold spec_l2Split.f
  have e' : spec_l2Split.l0 k a 46 [] 0 0 = _ := e
  rw [e']
  cases hr : pcs a.data.toList with
  | nil => exact absurd hr (pcs_ne _)
  | cons p r => simp [hdp]
def parse7 (p : List UInt8) : Int := if 1 ≤ p.length ∧ p.length ≤ 7 then (if 1 < p.length ∧ p.head? = some 48 then -1 else match digs 0 p with | some n => (n : Int) | none => -1) else -1
theorem l2Parse_loop (a : ByteArray) : ∀ (rest pre : List UInt8) (acc k : Nat), a.data.toList = pre ++ rest → acc < 10 ^ pre.length → pre.length + rest.length ≤ 7 → rest.length < k →
    spec_l2Parse.l0 k a (acc : Int) (pre.length : Int) = some (match digs acc rest with | some n => (n : Int) | none => -1)
  | [], pre, acc, k, h, _, hl, hk => by
    obtain ⟨k, rfl⟩ : ∃ m, k = m + 1 := ⟨k - 1, by omega⟩
    have hsz : a.size = pre.length := by rw [bsize, h]; simp
    simp only [spec_l2Parse.l0]
    rw [if_neg (by omega)]
    rfl
  | b :: rest, pre, acc, k, h, ha, hl, hk => by
    obtain ⟨k, rfl⟩ : ∃ m, k = m + 1 := ⟨k - 1, by omega⟩
    have hsz : a.size = pre.length + rest.length + 1 := by rw [bsize, h]; simp; omega
    have hb := bt_mid a pre rest b h
    have hb2 : b.toNat < 256 := b.toNat_lt
    simp only [List.length_cons] at hk hl
    have h10 : 10 ^ pre.length ≤ 10 ^ 6 := Nat.pow_le_pow_right (by decide) (by omega)
    have h10' : (10 : Nat) ^ 6 = 1000000 := by decide
    simp only [spec_l2Parse.l0]
    rw [if_pos (by omega), if_pos (by omega), hb, w64 (x := (b.toNat : Int)) (by omega) (by omega), l1In_eq]
    simp only [Option.bind_some, digs]
    by_cases hd : 48 ≤ b.toNat ∧ b.toNat ≤ 57
    · rw [if_pos (by simp only [decide_eq_true_eq]; omega), if_pos hd]
      rw [w64 (x := (acc : Int) * 10) (by omega) (by omega), show ((b.toNat : Int) - 48) % 256 = ((b.toNat - 48 : Nat) : Int) by omega, w64 (x := (acc : Int) * 10 + ((b.toNat - 48 : Nat) : Int)) (by omega) (by omega), w64 (x := (pre.length : Int) + 1) (by omega) (by omega)]
      have e := l2Parse_loop a rest (pre ++ [b]) (acc * 10 + (b.toNat - 48)) k (by simpa using h) (by rw [List.length_append, List.length_singleton, Nat.pow_succ]; omega) (by simp only [List.length_append, List.length_singleton]; omega) (by omega)
      simp only [List.length_append, List.length_singleton] at e
      rw [show (pre.length : Int) + 1 = ((pre.length + 1 : Nat) : Int) by omega, show (acc : Int) * 10 + ((b.toNat - 48 : Nat) : Int) = ((acc * 10 + (b.toNat - 48) : Nat) : Int) by omega, e]
    · rw [if_neg (by simp only [decide_eq_true_eq]; omega), if_neg hd]
theorem l2Parse_ev (p : List UInt8) (hp : p.length ≤ 1048576) : Ev (fun k => spec_l2Parse.f k (mkB p)) (parse7 p) := by
  have hs := mkB_size p
  refine Ev.at_ 20 fun k hk => ?_
  obtain ⟨k, rfl⟩ : ∃ m, k = m + 1 := ⟨k - 1, by omega⟩
  unfold spec_l2Parse.f parse7
  rw [hs, l1In_eq]
  simp only [Option.bind_some]
  by_cases hl : 1 ≤ p.length ∧ p.length ≤ 7
  · rw [if_pos (by simp only [decide_eq_true_eq]; omega), if_pos hl]
    have e := l2Parse_loop (mkB p) p [] 0 k rfl (by simp) (by simp only [List.length_nil]; omega) (by omega)
    have e' : spec_l2Parse.l0 k (mkB p) 0 0 = _ := e
    by_cases h1 : 1 < p.length
    · rw [if_pos (by omega), if_pos (by omega)]
      cases p with
      | nil => simp at h1
      | cons c r =>
        have hb : bt (mkB (c :: r)) 0 = (c.toNat : Int) := bt_mid (mkB (c :: r)) [] r c rfl
        rw [hb]
        simp only [spec_l2Parse.j0]
        by_cases hc : c = 48
        · subst hc
          rw [if_pos (by decide), if_pos ⟨h1, rfl⟩]
        · have hne : ¬ (((c.toNat : Int) == 48) = true) := fun e => hc (UInt8.toNat_inj.1 (by have := beq_iff_eq.1 e; show c.toNat = 48; omega))
          rw [if_neg hne, if_neg (fun e => hc (by simpa using e.2)), e']
    · rw [if_neg (by omega), if_neg (fun e => h1 e.1)]
      simp only [spec_l2Parse.j0, Bool.false_eq_true, if_false]
      rw [e']
  · rw [if_neg (by simp only [decide_eq_true_eq]; omega), if_neg hl]
    simp only [spec_l2Parse.j0, if_true]
theorem rdOf_mid {α : Type} (d : α) (pre rest : List α) (r : α) : rdOf d (pre ++ r :: rest) (pre.length : Int) = r := by
  unfold rdOf
  simp [List.getD_eq_getElem?_getD]
def specParse (l : List UInt8) : List Int × Bool := if oidOk ((pcs l).map parse7) = true then ((pcs l).map parse7, true) else ([], false)
theorem sParse_loop : ∀ (rest pre : List (List UInt8)) (out : List Int), (∀ p ∈ rest, p.length ≤ 1048576) → pre.length + rest.length ≤ 1048577 → out.length = pre.length →
    Ev (fun k => spec_ParseOid.l0 k out ((pre ++ rest).map mkB) (pre.length : Int)) (if oidOk (out ++ rest.map parse7) = true then (out ++ rest.map parse7, true) else ([], false))
  | [], pre, out, hr, hn, ho => by
    simp only [List.length_nil] at hn
    refine Ev.succ ?_
    simp only [spec_ParseOid.l0]
    have c1 : ¬ ((pre.length : Int) < ((pre.map mkB).length : Int)) := by simp only [List.length_map]; omega
    simp only [List.map_nil, List.append_nil]
    simp only [if_neg c1]
    refine Ev.bind (sOidOk_ev out (by omega)) ?_
    cases oidOk out with
    | true => simp only [if_true]; exact Ev.now _
    | false => simp only [Bool.false_eq_true, if_false]; exact Ev.now _
  | p :: rest, pre, out, hr, hn, ho => by
    simp only [List.length_cons] at hn
    refine Ev.succ ?_
    simp only [spec_ParseOid.l0]
    have hm : (pre ++ p :: rest).map mkB = pre.map mkB ++ mkB p :: rest.map mkB := by simp
    have c1 : (pre.length : Int) < (((pre ++ p :: rest).map mkB).length : Int) := by simp only [List.length_map, List.length_append, List.length_cons]; omega
    have c2 : (0 : Int) ≤ (pre.length : Int) := by omega
    have c3 : out.length < 17592186044416 := by omega
    have hd := rdOf_mid ByteArray.empty (pre.map mkB) (rest.map mkB) (mkB p)
    rw [List.length_map, ← hm] at hd
    have hw := w64 (x := (pre.length : Int) + 1) (by omega) (by omega)
    simp only [if_pos c1, if_pos c2, hd]
    refine Ev.bind (l2Parse_ev p (hr p List.mem_cons_self)) ?_
    simp only [if_pos c3, hw]
    have e := sParse_loop rest (pre ++ [p]) (out ++ [parse7 p]) (fun q hq => hr q (List.mem_cons_of_mem _ hq)) (by simp only [List.length_append, List.length_singleton]; omega) (by simp only [List.length_append, List.length_singleton]; omega)
    simp only [List.append_assoc, List.cons_append, List.nil_append, List.length_append, List.length_singleton] at e
    rw [show (pre.length : Int) + 1 = ((pre.length + 1 : Nat) : Int) by omega]
    simpa only [List.map_cons] using e
theorem pcs_mem_len : ∀ (l : List UInt8), ∀ p ∈ pcs l, p.length ≤ l.length
  | [] => by simp [pcs]
  | b :: l => by
    have ih := pcs_mem_len l
    intro p hp
    by_cases h : b = 46
    · simp only [pcs, if_pos h, List.mem_cons] at hp
      rcases hp with rfl | hp
      · simp
      · have := ih p hp
        simp only [List.length_cons]
        omega
    · obtain ⟨q, r, e1, e2⟩ := pcs_cons b l h
      rw [e2] at hp
      rw [e1] at ih
      rcases List.mem_cons.1 hp with rfl | hp
      · have := ih q List.mem_cons_self
        simp only [List.length_cons]
        omega
      · have := ih p (List.mem_cons_of_mem _ hp)
        simp only [List.length_cons]
        omega
theorem sParseOid_ev (a : ByteArray) (h : a.size ≤ 1048576) : Ev (fun k => spec_ParseOid.f k a) (specParse a.data.toList) := by
  simp only [spec_ParseOid.f]
  refine Ev.bind (l2Split_ev a h) ?_
  have hl := pcs_len a.data.toList
  have hs := bsize a
  have e := sParse_loop (pcs a.data.toList) [] [] (fun p hp => by have := pcs_mem_len _ p hp; omega) (by simp only [List.length_nil]; omega) rfl
  unfold specParse
  simpa using e
def atois (out : List Int) : List (List UInt8) → Option (List Int)
  | [] => some out
  | p :: r => match Go.Lib.atoiAll p with
    | .ok v => if 10 ≤ out.length then none else atois (out ++ [v]) r
    | _ => none
def implParse (l : List UInt8) : List Int × Bool := match atois [] (pcs l) with
  | some vs => if (oidText vs).data.toList = l then (vs, true) else ([], false)
  | none => ([], false)
theorem iParse_loop (a : ByteArray) : ∀ (rest pre : List (List UInt8)) (out : List Int), (∀ p ∈ rest, p.length ≤ 1048576) → pre.length + rest.length ≤ 1048577 → out.length = pre.length →
    Ev (fun k => impl_ParseOid.l0 k a out ((pre ++ rest).map mkB) (((pre ++ rest).map mkB).length : Int) (pre.length : Int)) (match atois out rest with | some vs => if (oidText vs).data.toList = a.data.toList then (vs, true) else ([], false) | none => ([], false))
  | [], pre, out, hr, hn, ho => by
    simp only [List.length_nil] at hn
    refine Ev.succ ?_
    simp only [impl_ParseOid.l0]
    have c1 : ¬ ((pre.length : Int) < (((pre ++ []).map mkB).length : Int)) := by simp only [List.length_map, List.length_append, List.length_nil]; omega
    simp only [if_neg c1]
    refine Ev.bind (iOidText_ev out (by omega)) ?_
    simp only [Go.Lib.toList_data, atois]
    by_cases h : (oidText out).data.toList = a.data.toList
    · simp only [if_pos h]; exact Ev.now _
    · simp only [if_neg h]; exact Ev.now _
  | p :: rest, pre, out, hr, hn, ho => by
    simp only [List.length_cons] at hn
    refine Ev.succ ?_
    simp only [impl_ParseOid.l0]
    have hm : (pre ++ p :: rest).map mkB = pre.map mkB ++ mkB p :: rest.map mkB := by simp
    have hpl := hr p List.mem_cons_self
    have hps := mkB_size p
    have c1 : (pre.length : Int) < (((pre ++ p :: rest).map mkB).length : Int) := by simp only [List.length_map, List.length_append, List.length_cons]; omega
    have c2 : (0 : Int) ≤ (pre.length : Int) := by omega
    have hd := rdOf_mid ByteArray.empty (pre.map mkB) (rest.map mkB) (mkB p)
    rw [List.length_map, ← hm] at hd
    have hw := w64 (x := (pre.length : Int) + 1) (by omega) (by omega)
    have hat : strconv_Atoi.f (mkB p) = some (match Go.Lib.atoiAll p with | .ok v => (v, none) | .range => (Go.Lib.atoiSat p, some 1) | _ => (0, some 0)) := by
      unfold strconv_Atoi.f
      rw [if_pos (by omega), mkB_data]
      cases Go.Lib.atoiAll p <;> rfl
    simp only [if_pos c1, if_pos c2, hd, hat, hw, Option.bind_some, atois]
    cases ha : Go.Lib.atoiAll p with
    | ok v =>
      simp only [Option.isNone_none, if_true]
      by_cases h10 : 10 ≤ out.length
      · have g1 : (out.length : Int) ≥ 10 := by omega
        simp only [if_pos g1, if_pos h10]
        exact Ev.now _
      · have g1 : ¬ ((out.length : Int) ≥ 10) := by omega
        have g2 : out.length < 17592186044416 := by omega
        simp only [if_neg g1, if_pos g2, if_neg h10]
        have e := iParse_loop a rest (pre ++ [p]) (out ++ [v]) (fun q hq => hr q (List.mem_cons_of_mem _ hq)) (by simp only [List.length_append, List.length_singleton]; omega) (by simp only [List.length_append, List.length_singleton]; omega)
        have hpp : pre ++ [p] ++ rest = pre ++ p :: rest := by simp
        rw [hpp] at e
        simp only [List.length_append, List.length_singleton] at e
        rw [show (pre.length : Int) + 1 = ((pre.length + 1 : Nat) : Int) by omega]
        simpa only [List.length_map, List.length_append, List.length_cons] using e
    | _ =>
      simp only [Option.isNone_some, Bool.false_eq_true, if_false]
      exact Ev.now _
theorem iParseOid_ev' (a : ByteArray) (h : a.size ≤ 1048576) : Ev (fun k => impl_ParseOid.f k a) (implParse a.data.toList) := by
  simp only [impl_ParseOid.f]
  rw [splitF a h]
  simp only [Option.bind_some]
  have hl := pcs_len a.data.toList
  have hs := bsize a
  have e := iParse_loop a (pcs a.data.toList) [] [] (fun p hp => by have := pcs_mem_len _ p hp; omega) (by simp only [List.length_nil]; omega) rfl
  unfold implParse
  simpa using e
theorem parse7_dec (n : Nat) (h : n ≤ 100000) : parse7 (Go.Lib.decDigits n) = (n : Int) := by
  have hl := dec_len 6 n (by omega)
  obtain ⟨c, r, e, h1, h2, h3⟩ := dec_head n
  have hd := digs_dec n
  unfold parse7
  rw [if_pos ⟨by rw [e]; simp, hl⟩, hd, if_neg]
  rintro ⟨g1, g2⟩
  rw [e] at g2
  have hc : c = 48 := by simpa using g2
  subst hc
  rcases Nat.eq_zero_or_pos n with rfl | hn
  · rw [Go.Lib.decDigits, dif_pos (by decide)] at g1
    simp at g1
  · exact h3 hn rfl
theorem parse7_inv (p : List UInt8) (h : 0 ≤ parse7 p) : ∃ n : Nat, parse7 p = (n : Int) ∧ p = Go.Lib.decDigits n := by
  unfold parse7 at h ⊢
  by_cases hl : 1 ≤ p.length ∧ p.length ≤ 7
  · rw [if_pos hl] at h ⊢
    by_cases h0 : 1 < p.length ∧ p.head? = some 48
    · rw [if_pos h0] at h
      omega
    · rw [if_neg h0] at h ⊢
      cases hd : digs 0 p with
      | none =>
        rw [hd] at h
        simp only at h
        omega
      | some n =>
        refine ⟨n, rfl, digs_dec_inv p n (fun e => by rw [e] at hl; simp at hl) (fun g c hc e => h0 ⟨g, ?_⟩) hd⟩
        rw [hc]
        congr 1
        exact UInt8.toNat_inj.1 e
  · rw [if_neg hl] at h
    omega
theorem itoa_of_parse7 (p : List UInt8) (h : 0 ≤ parse7 p ∧ parse7 p ≤ 100000) : Go.Lib.itoa (parse7 p) = p ∧ Go.Lib.atoiAll p = .ok (parse7 p) := by
  obtain ⟨n, e1, e2⟩ := parse7_inv p h.1
  rw [e1]
  refine ⟨by rw [Go.Lib.itoa_nonneg, ← e2], ?_⟩
  have := atoi_dec n (by omega)
  rw [← e2] at this
  exact this
theorem atois_ok : ∀ (ps : List (List UInt8)) (out : List Int), (∀ p ∈ ps, 0 ≤ parse7 p ∧ parse7 p ≤ 100000) → out.length + ps.length ≤ 10 → atois out ps = some (out ++ ps.map parse7)
  | [], out, _, _ => by simp [atois]
  | p :: ps, out, h, hl => by
    simp only [List.length_cons] at hl
    have e := (itoa_of_parse7 p (h p List.mem_cons_self)).2
    have ih := atois_ok ps (out ++ [parse7 p]) (fun q hq => h q (List.mem_cons_of_mem _ hq)) (by simp only [List.length_append, List.length_singleton]; omega)
    simp only [atois, e]
    rw [if_neg (by omega), ih]
    simp
theorem itoa_no46 (v : Int) (h : 0 ≤ v) : ∀ b ∈ Go.Lib.itoa v, b ≠ 46 := by
  obtain ⟨n, rfl⟩ : ∃ n : Nat, v = n := ⟨v.toNat, by omega⟩
  rw [Go.Lib.itoa_nonneg]
  exact dec_no46 n
theorem parse7_itoa (v : Int) (h : 0 ≤ v ∧ v ≤ 100000) : parse7 (Go.Lib.itoa v) = v := by
  obtain ⟨n, rfl⟩ : ∃ n : Nat, v = n := ⟨v.toNat, by omega⟩
  rw [Go.Lib.itoa_nonneg]
  exact parse7_dec n (by omega)
theorem pcs_text (vs : List Int) (h : oidOk vs = true) : pcs (oidB vs).data.toList = vs.map Go.Lib.itoa ∧ (vs.map Go.Lib.itoa).map parse7 = vs := by
  obtain ⟨hr, h1, _⟩ := oid_in h
  constructor
  · cases vs with
    | nil => simp at h1
    | cons v vs =>
      show pcs (Go.Lib.join ((v :: vs).map Go.Lib.itoa) [46]) = _
      rw [List.map_cons, Go.Lib.join_cons]
      exact pcs_join _ _ fun y hy => by
        rw [← List.map_cons (f := Go.Lib.itoa)] at hy
        obtain ⟨x, hx, rfl⟩ := List.mem_map.1 hy
        exact itoa_no46 x (hr x hx).1
  · rw [List.map_map]
    conv => rhs; rw [← List.map_id vs]
    exact List.map_congr_left fun x hx => parse7_itoa x (hr x hx)
theorem parse_same (l : List UInt8) : implParse l = specParse l := by
  unfold implParse specParse
  cases ho : oidOk ((pcs l).map parse7) with
  | true =>
    obtain ⟨hr, h1, h10⟩ := oid_in ho
    have hr' : ∀ p ∈ pcs l, 0 ≤ parse7 p ∧ parse7 p ≤ 100000 := fun p hp => hr _ (List.mem_map_of_mem hp)
    have e := atois_ok (pcs l) [] hr' (by rw [List.length_map] at h10; simpa using h10)
    rw [e]
    simp only [List.nil_append, if_true]
    have e2 : ((pcs l).map parse7).map Go.Lib.itoa = pcs l := by
      rw [List.map_map]
      conv => rhs; rw [← List.map_id (pcs l)]
      exact List.map_congr_left fun p hp => (itoa_of_parse7 p (hr' p hp)).1
    have e3 : (oidText ((pcs l).map parse7)).data.toList = l := by
      unfold oidText
      rw [if_pos ho]
      show Go.Lib.join (((pcs l).map parse7).map Go.Lib.itoa) [46] = l
      rw [e2, join_pcs]
    rw [if_pos e3]
  | false =>
    simp only [Bool.false_eq_true, if_false]
    cases ha : atois [] (pcs l) with
    | none => rfl
    | some vs =>
      simp only
      by_cases ht : (oidText vs).data.toList = l
      · exfalso
        cases hv : oidOk vs with
        | true =>
          have e : oidText vs = oidB vs := by unfold oidText; rw [if_pos hv]
          rw [e] at ht
          obtain ⟨p1, p2⟩ := pcs_text vs hv
          rw [ht] at p1
          rw [p1, p2, hv] at ho
          cases ho
        | false =>
          have e : oidText vs = ⟨#[]⟩ := by unfold oidText; rw [hv]; rfl
          rw [e] at ht
          have hl : l = [] := ht.symm
          subst hl
          simp [pcs, atois, Go.Lib.atoiAll] at ha
      · rw [if_neg ht]
theorem iParseOid_ev (a : ByteArray) (h : a.size ≤ 1048576) : Ev (fun k => impl_ParseOid.f k a) (specParse a.data.toList) := parse_same _ ▸ iParseOid_ev' a h
theorem specParse_len (l : List UInt8) : (specParse l).1.length ≤ 10 := by
  unfold specParse
  cases ho : oidOk ((pcs l).map parse7) with
  | true => simpa using (oid_in ho).2.2
  | false => simp

theorem FnExactParseOid : laws_FnExactParseOid.Pure := by
  intro a0 _
  refine Ev.rounds ?_
  unfold laws_FnExactParseOid.f
  by_cases ba : (a0.size : Int) > 1048576
  · simp only [if_pos ba]; exact Ev.now _
  simp only [if_neg ba]
  have hs := sParseOid_ev a0 (by omega)
  have hi := iParseOid_ev a0 (by omega)
  have hl := specParse_len a0.data.toList
  generalize specParse a0.data.toList = R at hs hi hl
  obtain ⟨o, q⟩ := R
  have hl : o.length ≤ 10 := hl
  have hneg : ¬ ((1 : Int) + (o.length : Int) < 0) := by omega
  repeat' first
    | exact Ev.now _
    | (with_reducible refine Ev.bind hs ?_)
    | (with_reducible refine Ev.bind hi ?_)
    | ((with_reducible refine Ev.bind (eqIntS_ev _ _ ?s0) ?_); (case s0 => omega))
    | ((with_reducible refine Ev.bind (markIntS_ev _ _ ?s0 ?s1 ?s2) ?_); (case s0 => omega); (case s1 => omega); (case s2 => omega))
    | ((with_reducible refine Ev.bind (heldIntS_ev _ _ ?s0 ?s1 ?s2) ?_); (case s0 => omega); (case s1 => omega); (case s2 => omega))
    | simp only [bne_self_eq_false, Bool.false_eq_true, Bool.not_true, Bool.not_false, decide_true, Option.bind_some, ↓reduceIte, if_neg hneg]
    | (refine Ev.succ ?_; simp only [laws_FnExactParseOid.j0])
    | (refine Ev.succ ?_; simp only [laws_FnExactParseOid.j1])

end Go.Proofs.YtgjhmbneikpiaaaDoor.Pure
