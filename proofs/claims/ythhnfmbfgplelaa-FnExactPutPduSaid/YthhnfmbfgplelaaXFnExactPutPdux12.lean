/- The functions that one law reaches, as Lean functions, with their walks: printed by a program of this seat (wip/tools) out of the translation. -/
import Derived.Test.YthhnfmbfgplelaaXFnExactPutPdux0
namespace Go.Proofs.Ythhnfmbfgplelaa.XFnExactPutPdu
open Go.RowKit Go.Proofs.YthhnfmbfgplelaaW.PrintWords Go.Proofs.YthhnfmbfgplelaaW.PrintLast Go.Proofs.YthhnfmbfgplelaaW.PrintMore
attribute [local go_sem] max2_int min2_int max_two min_two max_three min_three max_four min_four   -- for this text's walks alone
set_option linter.unusedVariables false
set_option linter.unusedSimpArgs false

/-! ### laws_markIntS: function 73 -/
def laws_markIntS.l0 : Nat → List Int → Int → Int → Option (Int × List Int)
 | 0, _, _, _ => none
 | k + 1, x0, x1, x5 => if x5 < (x0.length : Int) then (if 0 ≤ x5 then (laws_markIntS.l0 k (x0.set (x5 : Int).toNat x1) (wrap64 (x1 + 1)) (wrap64 (x5 + 1))) else (none)) else (some (x1, x0))
def laws_markIntS.f (k : Nat) (l0 : List Int) (a1 : Int) : Option (Int × List Int) := laws_markIntS.l0 k l0 a1 0
theorem laws_markIntS.mono_l : ∀ k, (∀ y0 y1 y2, LeO (laws_markIntS.l0 k y0 y1 y2) (laws_markIntS.l0 (k + 1) y0 y1 y2))
 | 0 => fun _ _ _ r h => by simp [laws_markIntS.l0] at h
 | k + 1 => by
  have ih0 := laws_markIntS.mono_l k
  intro y0 y1 y2
  unfold laws_markIntS.l0
  repeat' first
  | (with_reducible exact ih0 _ _ _)
  | (with_reducible exact LeO.refl _)
  | (with_reducible exact LeO.none _)
  | (with_reducible refine LeO.ite ?_ ?_)
  | (with_reducible refine LeO.bind ?_ (fun _ => ?_))
  | exact ih0 _ _ _
  | exact LeO.none _
  | refine LeO.ite ?_ ?_
  | refine LeO.bind ?_ (fun _ => ?_)
theorem laws_markIntS.mono : ∀ a0 a1 k, LeO (laws_markIntS.f k a0 a1) (laws_markIntS.f (k + 1) a0 a1) := by
 intro a0 a1 k
 have ih0 := laws_markIntS.mono_l k
 unfold laws_markIntS.f
 repeat' first
  | (with_reducible exact ih0 _ _ _)
  | (with_reducible exact LeO.refl _)
  | (with_reducible exact LeO.none _)
  | (with_reducible refine LeO.ite ?_ ?_)
  | (with_reducible refine LeO.bind ?_ (fun _ => ?_))
  | exact ih0 _ _ _
  | exact LeO.none _
  | refine LeO.ite ?_ ?_
  | refine LeO.bind ?_ (fun _ => ?_)
set_option maxHeartbeats 8000000 in
set_option maxRecDepth 100000 in
theorem laws_markIntS.calls (k : Nat) (P0_ : Nat → Prop) (u9000_ : Value) (l0 : List Int) (a1 : Int) (r1 : Int) (r2 : List Int) (w0 w : World) (hB : Below w0.heap.size w0 w) (ho0 : Kd.R (Kd.int .i64) 3 w w0.heap.size P0_ u9000_ l0) (h : laws_markIntS.f k l0 a1 = some (r1, r2)) :
 Calls Try.prog 73 #[u9000_, .int .i64 a1] w fun e w' => e = .returned (.int .i64 r1) ∧ Kd.R (Kd.int .i64) 3 w' w0.heap.size (fun k_ => (P0_ k_ ∨ w.heap.size ≤ k_)) u9000_ r2 ∧ Below w0.heap.size w0 w' ∧ Kept w w' (fun k_ => P0_ k_) := by
 have HO0 := am (show Kd.R (Kd.int .i64) 3 w w0.heap.size (fun k_ => (P0_ k_ ∨ w.heap.size ≤ k_)) u9000_ l0 from Kd.R_mono ho0 (fun k_ hk => (.inl hk)))
 have HK := am (Kept.refl w (fun k_ => P0_ k_))
 have HW0 := am hB.size
 have HB := am hB
 clear hB
 have H : (laws_markIntS.l0 k l0 a1 0) = some (r1, r2) := h
 clear h
 have H' := am H
 clear H
 go_enter Try.func73, Try.ntmps73
 go_wp2
 go_loopg [1, 5] k (fun kq v1 v5 w' => ∃ (x0_1 : List Int) (x1_1 : Int) (x5_1 : Int), v1 = .int .i64 x1_1 ∧ v5 = .int .i64 x5_1 ∧ Aside0 (laws_markIntS.l0 kq x0_1 x1_1 x5_1 = some (r1, r2)) ∧ Aside0 (kq ≤ k) ∧ Aside0 (Kd.R (Kd.int .i64) 3 w' w0.heap.size (fun k_ => (P0_ k_ ∨ w.heap.size ≤ k_)) u9000_ x0_1) ∧ Aside0 (Kept w w' (fun k_ => P0_ k_)) ∧ Aside0 (Below w0.heap.size w0 w'))
 case atStart => exact ⟨(l0), (a1), (0), sq, sq, H', ⟨Nat.le_refl _⟩, ⟨kqR HO0.out⟩, ⟨by repeat (first | (with_reducible first | exact HK.out | apply Kept.alloc | apply Kept.drewN | apply Kept.drew) | exact HK.out)⟩, ⟨bq HB.out⟩⟩
 case round =>
  clear H'
  try clear p2
  obtain ⟨x0_1, x1_1, x5_1, rfl, rfl, HA, HK1, HO_0, HK, HB⟩ := hrel
  cases gk with
  | zero => exact absurd HA.out (by simp [laws_markIntS.l0])
  | succ k1 =>
   have H := HA.out
   clear HA
   simp only [laws_markIntS.l0] at H
   by_cases c3 : x5_1 < (x0_1.length : Int)
   rotate_left
   · rw [if_neg c3] at H
     have c3b0 : decide (x5_1 < (x0_1.length : Int)) = false := decide_eq_false c3
     clear c3
     simp only [Option.some.injEq, Prod.mk.injEq] at H
     obtain ⟨rfl, rfl⟩ := H
     obtain ⟨Ao9, co9, eo9⟩ := Kd.R_slice HO_0.out
     subst eo9
     go_wp2
     go_ret
     exact ⟨rq, kqR HO_0.out, bq HB.out, by repeat (first | (with_reducible first | exact HK.out | apply Kept.alloc | apply Kept.drewN | apply Kept.drew) | exact HK.out)⟩
   rw [if_pos c3] at H
   have c3b0 : decide (x5_1 < (x0_1.length : Int)) = true := decide_eq_true c3
   clear c3
   by_cases c4 : 0 ≤ x5_1
   rotate_left
   · rw [if_neg c4] at H
     exact absurd H (by simp)
   rw [if_pos c4] at H
   have c4b0 : decide (0 ≤ x5_1) = true := decide_eq_true c4
   clear c4
   obtain ⟨y492, hy492⟩ : ∃ y_ : List Int, y_ = (x0_1.set (x5_1 : Int).toNat x1_1) := ⟨_, rfl⟩
   replace H : (laws_markIntS.l0 k1 y492 (wrap64 (x1_1 + 1)) (wrap64 (x5_1 + 1))) = some (r1, r2) := hx H hy492
   have Ny492 := am hy492
   clear hy492
   have H' := am H
   clear H
   obtain ⟨Ao6, co6, eo6⟩ := Kd.R_slice HO_0.out
   subst eo6
   have p5 : 0 ≤ (x5_1 : Int) := oda
   have q5 : (x5_1 : Int) < ((x0_1.length : Int) : Int) := oda
   obtain ⟨go5, co5, eo5, gb5, gl5, cl5, HG5⟩ := Kd.R_form HO_0.out (by omega)
   (first | cases eo5 | (injection eo5 with ea_ en_ ec_; (first | subst ea_ | (injection ea_ with ea_; subst ea_)); subst ec_; clear en_))
   have GB5 := am gb5
   have GG5 := am HG5
   clear gb5 gl5 HG5
   have HMgo5 := am (show (P0_ go5 ∨ w.heap.size ≤ go5) from (HO_0.out.1 _ rfl))
   obtain ⟨hx5_0, hf5_0⟩ := Kd.R_celln 0 HO_0.out (x5_1 : Int) p5 q5
   replace p5 := eq_true p5
   replace q5 := eq_true q5
   have HP7 := Kd.R_putg HO_0.out (x5_1 : Int) x1_1
   go_wp2_with (first | ((with_reducible refine gate_store (t := 3) (p := 15) rfl ?_); refine store_event (t := 3) (p := 15) (v := ?vo_w8) (w1 := (wr.setCell ⟨go5, (x5_1 : Int).toNat, none⟩ (.int .i64 x1_1))) ?hg ?ho ?hn ?hr ?_; (case ho => rfl); (case hg => rfl); (case hn => rfl); (case hr => exact gs); intro w8 hw; have hg : wr.grownBy w8 (some go5) := (by rw [hw]; exact HP7.2); have hp_ : Kd.R (Kd.int .i64) 3 w8 w0.heap.size (fun k_ => (P0_ k_ ∨ w.heap.size ≤ k_)) (.slice (some ⟨go5, 0, none⟩) x0_1.length co6) y492 := (by rw [hw, Ny492.out]; exact HP7.1); clear HP7; have n_ := ak3 hp_ ((by rw [hw]; exact below_set (HB.out) GB5.out : Below w0.heap.size w0 w8)) (Kept.of_grown (S := (fun k_ => P0_ k_)) hg (by repeat (first | (with_reducible first | exact HK.out | apply Kept.alloc | apply Kept.drewN | apply Kept.drew) | exact HK.out)) (fun k_ e_ => (HO_0.out.1 k_ e_))); clear HO_0 HB HK; obtain ⟨HO_0, HB, HK⟩ := n_; clear hg hw hp_))
   go_roundg k1
   case measure => have := HK1.out; omega
   case rel => exact ⟨(y492), (wrap64 (x1_1 + 1)), (wrap64 (x5_1 + 1)), sq, sq, H', ⟨by have := HK1.out; omega⟩, ⟨kqR HO_0.out⟩, ⟨by repeat (first | (with_reducible first | exact HK.out | apply Kept.alloc | apply Kept.drewN | apply Kept.drew) | exact HK.out)⟩, ⟨bq HB.out⟩⟩

/-! ### laws_markText: function 131 -/
def laws_markText.l0 : Nat → Int → ByteArray → Option (ByteArray)
 | 0, _, _ => none
 | k + 1, x0, x3 => if x0 > 0 then ((some (([(wrap64 (48 + (Int.tmod x0 10))) % 256] : List Int) : List Int)).bind fun y493 => (if (strOfNums y493).size + x3.size ≤ 9223372036854775807 then (laws_markText.l0 k (wrap64 (Int.tdiv x0 10)) ((strOfNums y493) ++ x3)) else (none))) else (if 1 + x3.size ≤ 9223372036854775807 then (some ((⟨#[109]⟩ : ByteArray) ++ x3)) else (none))
def laws_markText.f (k : Nat) (a0 : Int) : Option (ByteArray) := if a0 ≤ 0 then (some (⟨#[109, 48]⟩ : ByteArray)) else (laws_markText.l0 k a0 (⟨#[]⟩ : ByteArray))
theorem laws_markText.mono_l : ∀ k, (∀ y0 y1, LeO (laws_markText.l0 k y0 y1) (laws_markText.l0 (k + 1) y0 y1))
 | 0 => fun _ _ r h => by simp [laws_markText.l0] at h
 | k + 1 => by
  have ih0 := laws_markText.mono_l k
  intro y0 y1
  unfold laws_markText.l0
  repeat' first
  | (with_reducible exact ih0 _ _)
  | (with_reducible exact LeO.refl _)
  | (with_reducible exact LeO.none _)
  | (with_reducible refine LeO.ite ?_ ?_)
  | (with_reducible refine LeO.bind ?_ (fun _ => ?_))
  | exact ih0 _ _
  | exact LeO.none _
  | refine LeO.ite ?_ ?_
  | refine LeO.bind ?_ (fun _ => ?_)
theorem laws_markText.mono : ∀ a0 k, LeO (laws_markText.f k a0) (laws_markText.f (k + 1) a0) := by
 intro a0 k
 have ih0 := laws_markText.mono_l k
 unfold laws_markText.f
 repeat' first
  | (with_reducible exact ih0 _ _)
  | (with_reducible exact LeO.refl _)
  | (with_reducible exact LeO.none _)
  | (with_reducible refine LeO.ite ?_ ?_)
  | (with_reducible refine LeO.bind ?_ (fun _ => ?_))
  | exact ih0 _ _
  | exact LeO.none _
  | refine LeO.ite ?_ ?_
  | refine LeO.bind ?_ (fun _ => ?_)
set_option maxHeartbeats 8000000 in
set_option maxRecDepth 100000 in
theorem laws_markText.calls (k : Nat) (a0 : Int) (r : ByteArray) (w : World) (h : laws_markText.f k a0 = some r) :
 Calls Try.prog 131 #[.int .i64 a0] w fun e w' => e = .returned (.string r) ∧ Below w.heap.size w w' := by
 have HB := am (Below.refl w.heap.size w)
 have H : (if a0 ≤ 0 then (some (⟨#[109, 48]⟩ : ByteArray)) else (laws_markText.l0 k a0 (⟨#[]⟩ : ByteArray))) = some r := h
 clear h
 by_cases c2 : a0 ≤ 0
 · rw [if_pos c2] at H
   have c2b0 : decide (a0 ≤ 0) = true := decide_eq_true c2
   clear c2
   obtain rfl := Option.some.inj H
   go_enter Try.func131, Try.ntmps131
   go_wp2
   go_ret
   exact ⟨rq, bq HB.out⟩
 rw [if_neg c2] at H
 have c2b0 : decide (a0 ≤ 0) = false := decide_eq_false c2
 clear c2
 have H' := am H
 clear H
 go_enter Try.func131, Try.ntmps131
 go_wp2
 go_loopg [0, 3] k (fun kq v0 v3 w' => ∃ (x0_1 : Int) (x3_1 : ByteArray), v0 = .int .i64 x0_1 ∧ v3 = .string x3_1 ∧ Aside0 (laws_markText.l0 kq x0_1 x3_1 = some r) ∧ Aside0 (kq ≤ k) ∧ Aside0 (Below w.heap.size w w'))
 case atStart => exact ⟨(a0), ((⟨#[]⟩ : ByteArray)), sq, sq, H', ⟨Nat.le_refl _⟩, ⟨bq HB.out⟩⟩
 case round =>
  clear H'
  try clear c1
  try clear c2
  try clear c2b0
  try clear p2
  obtain ⟨x0_1, x3_1, rfl, rfl, HA, HK1, HB⟩ := hrel
  cases gk with
  | zero => exact absurd HA.out (by simp [laws_markText.l0])
  | succ k1 =>
   have H := HA.out
   clear HA
   simp only [laws_markText.l0] at H
   by_cases c3 : x0_1 > 0
   rotate_left
   · rw [if_neg c3] at H
     have c3b0 : decide (0 < x0_1) = false := decide_eq_false c3
     clear c3
     by_cases c8 : 1 + x3_1.size ≤ 9223372036854775807
     rotate_left
     · rw [if_neg c8] at H
       exact absurd H (by simp)
     rw [if_pos c8] at H
     have c8b0 := eq_true c8
     have c8b1 : decide (1 + x3_1.size ≤ 9223372036854775807) = true := decide_eq_true c8
     try have c8b2 : (9223372036854775807 < 1 + x3_1.size) = False := eq_false (Nat.not_lt.2 c8)
     obtain rfl := Option.some.inj H
     go_wp2
     go_ret
     exact ⟨rq, bq HB.out⟩
   rw [if_pos c3] at H
   have c3b0 : decide (0 < x0_1) = true := decide_eq_true c3
   clear c3
   obtain ⟨y493, hy493⟩ : ∃ y_ : List Int, y_ = (([(wrap64 (48 + (Int.tmod x0_1 10))) % 256] : List Int)) := ⟨_, rfl⟩
   replace H : (if (strOfNums y493).size + x3_1.size ≤ 9223372036854775807 then (laws_markText.l0 k1 (wrap64 (Int.tdiv x0_1 10)) ((strOfNums y493) ++ x3_1)) else (none)) = some r := hx H hy493
   have Ny493 := am hy493
   clear hy493
   by_cases c4 : (strOfNums y493).size + x3_1.size ≤ 9223372036854775807
   rotate_left
   · rw [if_neg c4] at H
     exact absurd H (by simp)
   rw [if_pos c4] at H
   have c4b0 := eq_true c4
   have c4b1 : decide ((strOfNums y493).size + x3_1.size ≤ 9223372036854775807) = true := decide_eq_true c4
   try have c4b2 : (9223372036854775807 < (strOfNums y493).size + x3_1.size) = False := eq_false (Nat.not_lt.2 c4)
   have H' := am H
   clear H
   go_wp2_with (first | ((with_reducible refine gate_dst (N := 12) rfl ?_); refine Kd.R_lit (Kd.int .u8) _ 5 ?hg (N := 12) ?hd (xs := ([(wrap64 (48 + (Int.tmod x0_1 10))) % 256] : List Int)) (inner := [.int .u8 ((wrap64 (48 + (Int.tmod x0_1 10))) % 256)]) (ok := fun _ => True) (okp := fun _ => True) ?hr ?hp (fun _ hk => hk) trivial (Below.refl _ _) (Nat.le_refl _) (by simp) ?_; (case hd => rfl); (case hg => rfl); (case hr => exact gs); (case hp => exact (Reps.one (show Kd.M (Kd.int .u8) _ _ _ ((wrap64 (48 + (Int.tmod x0_1 10))) % 256) [.int .u8 ((wrap64 (48 + (Int.tmod x0_1 10))) % 256)] from rfl) (Reps.none _ _))); intro v494 w5 ho6 hb hg_ hnew_; clear hg_ hnew_; (first | rw [← Ny493.out] at ho6 | (simp only [Int.reduceToNat] at ho6; rw [← Ny493.out] at ho6)); have n_ := ak2 (Kd.R_lower ho6 (below_size (bq HB.out))) (below_step (bq HB.out) hb); clear HB; obtain ⟨HO495, HB⟩ := n_; clear hb ho6; have hcv7 := own_string (P := Try.prog) Try.underlying22 Try.underlying5 Try.underlying9 (Kd.own_of_R HO495.out)))
   go_roundg k1
   case measure => have := HK1.out; omega
   case rel => exact ⟨(wrap64 (Int.tdiv x0_1 10)), ((strOfNums y493) ++ x3_1), sq, sq, H', ⟨by have := HK1.out; omega⟩, ⟨bq HB.out⟩⟩

-- NOT PRINTED: function 102 (laws_markBindS)

/-! ### laws_markPdu: function 43 -/
section
variable {base : Nat} {w W W2 : World}
/-- What marking the binds writes: numbers into rows of numbers, fields that are no slices into rows of binds; all else stays. -/
structure Mk (base : Nat) (w W : World) : Prop where
 bel : Below base w W
 ge : base ≤ w.heap.size
 oth : ∀ (i : Nat) (o : Obj), w.heap[i]? = some o → (∀ cs : Array Value, o ≠ .cells cs 3 (0, 0)) → (∀ cs : Array Value, o ≠ .cells cs 116 (0, 0)) → W.heap[i]? = some o
 int : ∀ (i : Nat) (cs : Array Value), w.heap[i]? = some (.cells cs 3 (0, 0)) → ∃ cs' : Array Value, W.heap[i]? = some (.cells cs' 3 (0, 0)) ∧ cs'.size = cs.size ∧ ∀ j : Nat, cs'[j]? = cs[j]? ∨ ∃ x, cs'[j]? = some (.int .i64 x)
 bnd : ∀ (i : Nat) (cs : Array Value), w.heap[i]? = some (.cells cs 116 (0, 0)) → ∃ cs' : Array Value, W.heap[i]? = some (.cells cs' 116 (0, 0)) ∧ cs'.size = cs.size ∧ ∀ j : Nat, (j % 5 = 0 ∨ j % 5 = 4) → cs'[j]? = cs[j]?
theorem Mk.refl (h : base ≤ w.heap.size) : Mk base w w := ⟨⟨rfl, rfl, rfl, Nat.le_refl _, fun _ _ => rfl⟩, h, fun _ _ h _ _ => h, fun _ cs h => ⟨cs, h, rfl, fun _ => .inl rfl⟩, fun _ cs h => ⟨cs, h, rfl, fun _ _ => rfl⟩⟩
theorem Mk.trans (h : Mk base w W) (k : Mk base W W2) : Mk base w W2 := by
 refine ⟨h.bel.trans k.bel, h.ge, fun i o a b c => k.oth i o (h.oth i o a b c) b c, fun i cs a => ?_, fun i cs a => ?_⟩
 · obtain ⟨c1, e1, s1, j1⟩ := h.int i cs a
   obtain ⟨c2, e2, s2, j2⟩ := k.int i c1 e1
   refine ⟨c2, e2, s2.trans s1, fun j => ?_⟩
   rcases j2 j with h2 | h2
   · rcases j1 j with h1 | ⟨x, h1⟩
     · exact .inl (h2.trans h1)
     exact .inr ⟨x, h2.trans h1⟩
   exact .inr h2
 obtain ⟨c1, e1, s1, j1⟩ := h.bnd i cs a
 obtain ⟨c2, e2, s2, j2⟩ := k.bnd i c1 e1
 exact ⟨c2, e2, s2.trans s1, fun j hj => (j2 j hj).trans (j1 j hj)⟩
theorem Mk.of_below (h : base ≤ w.heap.size) (hb : Below w.heap.size w W) : Mk base w W := ⟨hb.mono h, h, fun _ _ a _ _ => blk_below a hb, fun _ cs a => ⟨cs, blk_below a hb, rfl, fun _ => .inl rfl⟩, fun _ cs a => ⟨cs, blk_below a hb, rfl, fun _ _ => rfl⟩⟩
theorem Mk.size (h : Mk base w W) : base ≤ W.heap.size := Nat.le_trans h.ge h.bel.size
theorem Mk.below (h : Mk base w W) (hb : Below W.heap.size W W2) : Mk base w W2 := h.trans (.of_below h.size hb)
theorem Mk.drewN (h : Mk base w W) (n : Nat) : Mk base w (W.drewN n) := h.below (pw_below_drewN (Below.refl _ W) n)
theorem Mk.drew (h : Mk base w W) : Mk base w W.drew := h.below (below_drew1 (Below.refl _ W))
theorem Mk.setI {g i : Nat} {cs : Array Value} (h : base ≤ W.heap.size) (hb : W.heap[g]? = some (.cells cs 3 (0, 0))) (hg : base ≤ g) (x : Int) : Mk base W (W.setCell ⟨g, i, none⟩ (.int .i64 x)) := by
 have far : ∀ k, k ≠ g → (W.setCell ⟨g, i, none⟩ (.int .i64 x)).heap[k]? = W.heap[k]? := fun k hk => Below.heap_setCell W ⟨g, i, none⟩ (.int .i64 x) k hk
 refine ⟨(Below.refl base W).setCell hg _, h, fun k o a b c => ?_, fun k c0 a => ?_, fun k c0 a => ?_⟩
 · refine (far k ?_).trans a
   rintro rfl
   rw [hb] at a
   exact b cs (Option.some.inj a).symm
 · by_cases e : k = g
   · subst e
     rw [hb] at a
     obtain rfl : cs = c0 := by injection a with a; injection a
     refine ⟨_, blk_set hb i _, by simp, fun j => ?_⟩
     rw [Array.getElem?_setIfInBounds]
     split
     · split
       · exact .inr ⟨x, rfl⟩
       rename_i h1 h2
       subst h1
       exact .inl (Array.getElem?_eq_none (by omega)).symm
     exact .inl rfl
   exact ⟨c0, (far k e).trans a, rfl, fun _ => .inl rfl⟩
 refine ⟨c0, (far k ?_).trans a, rfl, fun _ _ => rfl⟩
 rintro rfl
 rw [hb] at a
 injection a with a
 injection a with _ a
 exact absurd a (by decide)
theorem Mk.setB {g i : Nat} {cs : Array Value} (h : base ≤ W.heap.size) (hb : W.heap[g]? = some (.cells cs 116 (0, 0))) (hg : base ≤ g) (hi : ¬ (i % 5 = 0 ∨ i % 5 = 4)) (u : Value) : Mk base W (W.setCell ⟨g, i, none⟩ u) := by
 have far : ∀ k, k ≠ g → (W.setCell ⟨g, i, none⟩ u).heap[k]? = W.heap[k]? := fun k hk => Below.heap_setCell W ⟨g, i, none⟩ u k hk
 refine ⟨(Below.refl base W).setCell hg _, h, fun k o a b c => ?_, fun k c0 a => ?_, fun k c0 a => ?_⟩
 · refine (far k ?_).trans a
   rintro rfl
   rw [hb] at a
   exact c cs (Option.some.inj a).symm
 · refine ⟨c0, (far k ?_).trans a, rfl, fun _ => .inl rfl⟩
   rintro rfl
   rw [hb] at a
   injection a with a
   injection a with _ a
   exact absurd a (by decide)
 by_cases e : k = g
 rotate_left
 · exact ⟨c0, (far k e).trans a, rfl, fun _ _ => rfl⟩
 subst e
 rw [hb] at a
 obtain rfl : cs = c0 := by injection a with a; injection a
 refine ⟨_, blk_set hb i _, by simp, fun j hj => ?_⟩
 rw [Array.getElem?_setIfInBounds, if_neg (fun e : i = j => hi (e ▸ hj))]
/-- A row of numbers, by its form alone. -/
def IR (w : World) (base : Nat) (v : Value) (n : Nat) : Prop := ∃ A cap, v = .slice A n cap ∧ (0 < n → ∃ g cs, A = some ⟨g, 0, none⟩ ∧ base ≤ g ∧ w.heap[g]? = some (.cells cs 3 (0, 0)) ∧ ∀ j, j < n → ∃ x, cs[j]? = some (.int .i64 x))
theorem IR.of_R {ok : Nat → Prop} {v : Value} {l : List Int} (h : Kd.R (Kd.int .i64) 3 w base ok v l) : IR w base v l.length := by
 obtain ⟨A, c, e⟩ := Kd.R_slice h
 refine ⟨A, c, e, fun hp => ?_⟩
 obtain ⟨g, cap, e2, hb, _, cs, hc⟩ := Kd.R_form h hp
 rw [e2] at e
 injection e with e
 subst e
 rw [e2] at h
 refine ⟨g, cs, rfl, hb, hc, fun j hj => ?_⟩
 have h1 := (Kd.R_celln 0 h (j : Int) (by omega) (by omega)).1
 rw [Int.toNat_natCast, blk_cell hc] at h1
 exact ⟨_, h1⟩
theorem IR.mk {v : Value} {n : Nat} (h : IR w base v n) (k : Mk base w W) : IR W base v n := by
 obtain ⟨A, c, e, h⟩ := h
 refine ⟨A, c, e, fun hp => ?_⟩
 obtain ⟨g, cs, e2, hb, hc, hx⟩ := h hp
 obtain ⟨c2, e3, _, hj⟩ := k.int g cs hc
 refine ⟨g, c2, e2, hb, e3, fun j hj2 => ?_⟩
 rcases hj j with h1 | h1
 · obtain ⟨x, h2⟩ := hx j hj2
   exact ⟨x, h1.trans h2⟩
 exact h1
theorem Mk.elem {ok : Nat → Prop} {g c : Nat} {l : List S116} (HO : Kd.R k116 116 w base ok (.slice (some ⟨g, 0, none⟩) l.length c) l) (hm : Mk base w W) (x : Int) (p : 0 ≤ x) (q : x < (l.length : Int)) : ∃ v0 u1 u2 u3 v4, (∃ cs, W.heap[g]? = some (.cells cs 116 (0, 0))) ∧ base ≤ g ∧ IR W base v0 (rd_T116 l x).f0.length ∧ IR W base v4 (rd_T116 l x).f1.f3.length ∧ W.cell? ⟨g, x.toNat * 5, none⟩ = some v0 ∧ W.cell? ⟨g, x.toNat * 5 + 1, none⟩ = some u1 ∧ W.cell? ⟨g, x.toNat * 5 + 2, none⟩ = some u2 ∧ W.cell? ⟨g, x.toNat * 5 + 3, none⟩ = some u3 ∧ W.cell? ⟨g, x.toNat * 5 + 4, none⟩ = some v4 ∧ W.frozen? ⟨g, x.toNat * 5, none⟩ = false ∧ W.frozen? ⟨g, x.toNat * 5 + 1, none⟩ = false ∧ W.frozen? ⟨g, x.toNat * 5 + 2, none⟩ = false ∧ W.frozen? ⟨g, x.toNat * 5 + 3, none⟩ = false ∧ W.frozen? ⟨g, x.toNat * 5 + 4, none⟩ = false := by
 obtain ⟨ce, hl, hM, hcc, _⟩ := Kd.R_elem HO z116 x p q
 obtain ⟨v0, v4, rfl, r0, r4⟩ := k116_openM hM
 obtain ⟨g2, c2, e2, hb, _, cs, hc⟩ := Kd.R_form HO (by omega)
 obtain ⟨rfl, _⟩ : g = g2 ∧ c = c2 := by injection e2 with a _ b; injection a with a; injection a with a; exact ⟨a, b⟩
 obtain ⟨c1, e1, s1, j1⟩ := hm.bnd g cs hc
 have at_ : ∀ i, w.cell? ⟨g, i, none⟩ = cs[i]? := fun i => blk_cell hc i
 have at2 : ∀ i, W.cell? ⟨g, i, none⟩ = c1[i]? := fun i => blk_cell e1 i
 have some_ : ∀ i u, w.cell? ⟨g, i, none⟩ = some u → ∃ u', W.cell? ⟨g, i, none⟩ = some u' := fun i u h => by
  rw [at_] at h
  have hi := (Array.getElem?_eq_some_iff.1 h).1
  exact ⟨c1[i], by rw [at2]; exact Array.getElem?_eq_getElem (by omega)⟩
 have h0 : w.cell? ⟨g, x.toNat * 5, none⟩ = some v0 := hcc 0 _ rfl
 have h1 : w.cell? ⟨g, x.toNat * 5 + 1, none⟩ = some _ := hcc 1 _ rfl
 have h2 : w.cell? ⟨g, x.toNat * 5 + 2, none⟩ = some _ := hcc 2 _ rfl
 have h3 : w.cell? ⟨g, x.toNat * 5 + 3, none⟩ = some _ := hcc 3 _ rfl
 have h4 : w.cell? ⟨g, x.toNat * 5 + 4, none⟩ = some v4 := hcc 4 _ rfl
 obtain ⟨u1, g1⟩ := some_ _ _ h1
 obtain ⟨u2, g2⟩ := some_ _ _ h2
 obtain ⟨u3, g3⟩ := some_ _ _ h3
 refine ⟨v0, u1, u2, u3, v4, ⟨c1, e1⟩, hb, (IR.of_R r0).mk hm, (IR.of_R r4).mk hm, ?_, g1, g2, g3, ?_, blk_frozen e1 _, blk_frozen e1 _, blk_frozen e1 _, blk_frozen e1 _, blk_frozen e1 _⟩
 · rw [at2, j1 _ (.inl (by omega)), ← at_]
   exact h0
 rw [at2, j1 _ (.inr (by omega)), ← at_]
 exact h4
end
theorem markI {base n : Nat} {w : World} {v : Value} (a1 : Int) (hw : base ≤ w.heap.size) (hr : IR w base v n) (hn : 0 ≤ a1 ∧ a1 + (n : Int) ≤ 4611686018427387904) :
 Calls Try.prog 73 #[v, .int .i64 a1] w fun e w' => e = .returned (.int .i64 (a1 + n)) ∧ Mk base w w' := by
 obtain ⟨A, cap, rfl, hr⟩ := hr
 have HR := am hr
 have HN := am hn
 have HM := am (Mk.refl hw)
 clear hr hn hw
 go_enter Try.func73, Try.ntmps73
 go_wp2
 go_loopg [1, 5] (n + 1) (fun kq v1 v5 w' => ∃ (y x : Int), v1 = .int .i64 y ∧ v5 = .int .i64 x ∧ Aside0 (0 ≤ x ∧ x ≤ n ∧ y = a1 + x ∧ (n : Int) - x < kq) ∧ Aside0 (Mk base w w'))
 case atStart => exact ⟨a1, 0, sq, sq, ⟨by omega⟩, ⟨by repeat (first | exact HM.out | apply Mk.drewN | apply Mk.drew)⟩⟩
 case round =>
  obtain ⟨y, x, rfl, rfl, HX, HM⟩ := hrel
  cases gk with
  | zero => exact absurd HX.out.2.2.2 (by have := HX.out; omega)
  | succ k1 =>
   by_cases c3 : x < (n : Int)
   rotate_left
   · have c3b0 : decide (x < (n : Int)) = false := decide_eq_false c3
     obtain rfl : y = a1 + n := by have := HX.out; omega
     clear c3
     go_wp2
     go_ret
     exact ⟨rq, by repeat (first | exact HM.out | apply Mk.drewN | apply Mk.drew)⟩
   have c3b0 : decide (x < (n : Int)) = true := decide_eq_true c3
   have p5 : 0 ≤ (x : Int) := HX.out.1
   have q5 : (x : Int) < ((n : Int) : Int) := c3
   obtain ⟨g, cs0, rfl, hg, hb0, hx0⟩ := HR.out (by omega)
   obtain ⟨cs, hb, _, hj⟩ := HM.out.int g cs0 hb0
   have hx5 : ∃ z, wr.cell? ⟨g, (x : Int).toNat, none⟩ = some (.int .i64 z) := by
    rw [blk_cell hb]
    rcases hj x.toNat with h | h
    · obtain ⟨z, hz⟩ := hx0 x.toNat (by omega)
      exact ⟨z, h.trans hz⟩
    exact h
   obtain ⟨z, hx5_0⟩ := hx5
   have hf5_0 : wr.frozen? ⟨g, (x : Int).toNat, none⟩ = false := blk_frozen hb _
   have HB5 := am hb
   have HG5 := am hg
   clear hb hg hj hb0 hx0 c3
   replace p5 := eq_true p5
   replace q5 := eq_true q5
   go_wp2
   go_roundg k1
   case measure => omega
   case rel => exact ⟨wrap64 (y + 1), wrap64 (x + 1), sq, sq, ⟨by have := HX.out; have := HN.out; have := of_eq_true q5; rw [show wrap64 (y + 1) = y + 1 by unfold wrap64; omega, show wrap64 (x + 1) = x + 1 by unfold wrap64; omega]; omega⟩, ⟨by repeat (first | exact HM.out.trans (Mk.setI HM.out.size HB5.out HG5.out y) | apply Mk.drewN | apply Mk.drew)⟩⟩
theorem text_l0 : ∀ (n : Nat) (x : Int) (s : ByteArray), x ≤ (n : Int) → n ≤ 4611686018427387904 → s.size + n ≤ 4611686018427387904 → ∃ r, laws_markText.l0 (n + 1) x s = some r
 | n, x, s, h1, h2, h3 => by
  unfold laws_markText.l0
  by_cases h : x > 0
  rotate_left
  · rw [if_neg h, if_pos (by omega)]
    exact ⟨_, rfl⟩
  rw [if_pos h]
  cases n with
  | zero => omega
  | succ m =>
   have e : Int.tdiv x 10 = x / 10 := Int.tdiv_eq_ediv_of_nonneg (by omega)
   have ez : ∀ v : Int, (strOfNums [v]).size = 1 := fun v => rfl
   simp only [Option.bind_some, ez]
   rw [if_pos (by omega), e, show wrap64 (x / 10) = x / 10 by unfold wrap64; omega]
   exact text_l0 m _ _ (by omega) (by omega) (by rw [ByteArray.size_append, ez]; omega)
theorem text_some (x : Int) (h : x ≤ 4611686018427387904) : ∃ k r, laws_markText.f k x = some r := by
 by_cases c : x ≤ 0
 · exact ⟨0, _, by unfold laws_markText.f; rw [if_pos c]⟩
 obtain ⟨r, e⟩ := text_l0 x.toNat x (⟨#[]⟩ : ByteArray) (by omega) (by omega) (by have : (⟨#[]⟩ : ByteArray).size = 0 := rfl; omega)
 exact ⟨_, r, by unfold laws_markText.f; rw [if_neg c]; exact e⟩
def marks : List S116 → Nat
 | [] => 0
 | x :: r => x.f0.length + 3 + x.f1.f3.length + marks r
theorem marks_take : ∀ (l : List S116) (i : Nat), i < l.length → marks (l.take (i + 1)) = marks (l.take i) + ((l.getD i z116).f0.length + 3 + (l.getD i z116).f1.f3.length) ∧ marks (l.take (i + 1)) ≤ marks l
 | [], i, h => by simp at h
 | x :: r, 0, h => by simp [marks]
 | x :: r, i + 1, h => by
  obtain ⟨h1, h2⟩ := marks_take r i (by simpa using h)
  simp only [List.take_succ_cons, marks, List.getD_cons_succ]
  omega
theorem marks_len : ∀ l : List S116, l.length ≤ marks l
 | [] => Nat.le_refl _
 | x :: r => by
  have := marks_len r
  simp only [List.length_cons, marks]
  omega
theorem markB {base : Nat} {ok : Nat → Prop} {w : World} {v : Value} {l : List S116} (a1 : Int) (hw : base ≤ w.heap.size) (ho : Kd.R k116 116 w base ok v l) (hn : 0 ≤ a1 ∧ a1 + (marks l : Int) ≤ 4611686018427387904) :
 Calls Try.prog 102 #[v, .int .i64 a1] w fun e w' => e = .returned (.int .i64 (a1 + marks l)) ∧ Mk base w w' := by
 obtain ⟨A, c, rfl⟩ := Kd.R_slice ho
 have HO := am ho
 have HN := am hn
 have HM := am (Mk.refl hw)
 clear ho hn hw
 go_enter Try.func102, Try.ntmps102
 go_wp2
 go_loopg [1, 5] (l.length + 1) (fun kq v1 v5 w' => ∃ (y x : Int), v1 = .int .i64 y ∧ v5 = .int .i64 x ∧ Aside0 (0 ≤ x ∧ x ≤ l.length ∧ y = a1 + (marks (l.take x.toNat) : Int) ∧ (l.length : Int) - x < kq) ∧ Aside0 (Mk base w w'))
 case atStart => exact ⟨a1, 0, sq, sq, ⟨by refine ⟨by omega, by omega, ?_, by omega⟩; simp [marks]⟩, ⟨by repeat (first | exact HM.out | apply Mk.drewN | apply Mk.drew)⟩⟩
 case round =>
  obtain ⟨y, x, rfl, rfl, HX, HM⟩ := hrel
  cases gk with
  | zero => exact absurd HX.out.2.2.2 (by have := HX.out; omega)
  | succ k1 =>
   by_cases c3 : x < (l.length : Int)
   rotate_left
   · have c3b0 : decide (x < (l.length : Int)) = false := decide_eq_false c3
     obtain rfl : y = a1 + (marks l : Int) := by
      have h := HX.out
      rw [h.2.2.1, List.take_of_length_le (by omega)]
     clear c3
     go_wp2
     go_ret
     exact ⟨rq, by repeat (first | exact HM.out | apply Mk.drewN | apply Mk.drew)⟩
   have c3b0 : decide (x < (l.length : Int)) = true := decide_eq_true c3
   have p5 : 0 ≤ (x : Int) := HX.out.1
   have q5 : (x : Int) < ((l.length : Int) : Int) := c3
   have PP := am p5
   have QQ := am q5
   have BD0 := marks_take l x.toNat (by omega)
   have BD : Aside0 ((0 ≤ y ∧ y + ((rd_T116 l x).f0.length : Int) ≤ 4611686018427387904) ∧ (wrap64 (wrap64 (y + ((rd_T116 l x).f0.length : Int) + 1) + 1) ≤ 4611686018427387904) ∧ (0 ≤ wrap64 (wrap64 (wrap64 (y + ((rd_T116 l x).f0.length : Int) + 1) + 1) + 1) ∧ wrap64 (wrap64 (wrap64 (y + ((rd_T116 l x).f0.length : Int) + 1) + 1) + 1) + ((rd_T116 l x).f1.f3.length : Int) ≤ 4611686018427387904) ∧ wrap64 (wrap64 (wrap64 (y + ((rd_T116 l x).f0.length : Int) + 1) + 1) + 1) + ((rd_T116 l x).f1.f3.length : Int) = a1 + (marks (l.take (x.toNat + 1)) : Int)) := by
    have h := HX.out
    have h2 := HN.out
    unfold rd_T116
    generalize (l.getD x.toNat z116).f0.length = n0 at BD0 ⊢
    generalize (l.getD x.toNat z116).f1.f3.length = n4 at BD0 ⊢
    generalize marks (l.take (x.toNat + 1)) = m1 at BD0 ⊢
    have e1 : wrap64 (y + (n0 : Int) + 1) = y + n0 + 1 := by unfold wrap64; omega
    have e2 : wrap64 (y + (n0 : Int) + 1 + 1) = y + n0 + 2 := by unfold wrap64; omega
    have e3 : wrap64 (y + (n0 : Int) + 2 + 1) = y + n0 + 3 := by unfold wrap64; omega
    rw [e1, e2, e3]
    exact ⟨by omega⟩
   clear BD0 c3
   obtain ⟨g, c2, e2, _⟩ := Kd.R_form HO.out (by omega)
   obtain ⟨rfl, rfl⟩ : A = some ⟨g, 0, none⟩ ∧ c = c2 := by injection e2 with a _ b; exact ⟨a, b⟩
   clear e2
   obtain ⟨v0, u1, u2, u3, v4, hb, hg, I0, I4, hx0, hx1, hx2, hx3, hx4, hf0, hf1, hf2, hf3, hf4⟩ := Mk.elem HO.out HM.out x PP.out QQ.out
   replace hb := am hb
   replace hg := am hg
   replace I0 := am I0
   replace I4 := am I4
   obtain ⟨K, rt, hT⟩ := text_some (wrap64 (wrap64 (y + ((rd_T116 l x).f0.length : Int) + 1) + 1)) BD.out.2.1
   replace hT := am hT
   replace p5 := eq_true p5
   replace q5 := eq_true q5
   go_wp2_with (first | ((with_reducible refine gate_dst (N := 18) rfl ?_); refine goesL_ (some 18) rfl rfl Try.func73 (by kernel_rfl) rfl #[v0, .int .i64 y] rfl ga ?_; refine (markI (base := base) (n := (rd_T116 l x).f0.length) (y) ?s1 ?s2 ?s3).mono ?_; (case s1 => exact Mk.size (by repeat (first | exact HM.out | apply Mk.drewN | apply Mk.drew))); (case s2 => exact I0.out); (case s3 => have := BD.out; exact this.1); rintro e w8 ⟨rfl, hk⟩; refine ⟨_, rfl, ?_⟩; replace HM := am (Mk.trans (by repeat (first | exact HM.out | apply Mk.drewN | apply Mk.drew)) hk); clear hk hx0 hx1 hx2 hx3 hx4 hf0 hf1 hf2 hf3 hf4; obtain ⟨v0, u1, u2, u3, v4, hb, hg, I0, I4, hx0, hx1, hx2, hx3, hx4, hf0, hf1, hf2, hf3, hf4⟩ := Mk.elem HO.out HM.out x PP.out QQ.out; replace hb := am hb; replace hg := am hg; replace I0 := am I0; replace I4 := am I4) | ((with_reducible refine gate_store (t := 3) (p := 24) rfl ?_); refine store_event (t := 3) (p := 24) (v := ?vo_w9) (w1 := (w8.setCell ⟨g, (x : Int).toNat * 5 + 1, none⟩ (.int .i64 (y + ((rd_T116 l x).f0.length : Int))))) ?hg ?ho ?hn ?hr ?_; (case ho => rfl); (case hg => rfl); (case hn => rfl); (case hr => exact gs); intro w9 hw; obtain ⟨cs_, hc_⟩ := hb.out; replace HM := am (show Mk base w w9 by rw [hw]; exact HM.out.trans (Mk.setB HM.out.size hc_ hg.out (by omega) _)); clear hw hc_ hx0 hx1 hx2 hx3 hx4 hf0 hf1 hf2 hf3 hf4; obtain ⟨v0, u1, u2, u3, v4, hb, hg, I0, I4, hx0, hx1, hx2, hx3, hx4, hf0, hf1, hf2, hf3, hf4⟩ := Mk.elem HO.out HM.out x PP.out QQ.out; replace hb := am hb; replace hg := am hg; replace I0 := am I0; replace I4 := am I4) | ((with_reducible refine gate_store (t := 3) (p := 32) rfl ?_); refine store_event (t := 3) (p := 32) (v := ?vo_w10) (w1 := (w9.setCell ⟨g, (x : Int).toNat * 5 + 2, none⟩ (.int .i64 (wrap64 (y + ((rd_T116 l x).f0.length : Int) + 1))))) ?hg ?ho ?hn ?hr ?_; (case ho => rfl); (case hg => rfl); (case hn => rfl); (case hr => exact gs); intro w10 hw; obtain ⟨cs_, hc_⟩ := hb.out; replace HM := am (show Mk base w w10 by rw [hw]; exact HM.out.trans (Mk.setB HM.out.size hc_ hg.out (by omega) _)); clear hw hc_ hx0 hx1 hx2 hx3 hx4 hf0 hf1 hf2 hf3 hf4; obtain ⟨v0, u1, u2, u3, v4, hb, hg, I0, I4, hx0, hx1, hx2, hx3, hx4, hf0, hf1, hf2, hf3, hf4⟩ := Mk.elem HO.out HM.out x PP.out QQ.out; replace hb := am hb; replace hg := am hg; replace I0 := am I0; replace I4 := am I4) | ((with_reducible refine gate_dst (N := 38) rfl ?_); refine goesL_ (some 38) rfl rfl Try.func131 (by kernel_rfl) rfl #[.int .i64 (wrap64 (wrap64 (y + ((rd_T116 l x).f0.length : Int) + 1) + 1))] rfl ga ?_; refine (laws_markText.calls K _ rt _ hT.out).mono ?_; rintro e w11 ⟨rfl, hk⟩; refine ⟨_, rfl, ?_⟩; replace HM := am (Mk.below (by repeat (first | exact HM.out | apply Mk.drewN | apply Mk.drew)) hk); clear hk hx0 hx1 hx2 hx3 hx4 hf0 hf1 hf2 hf3 hf4; obtain ⟨v0, u1, u2, u3, v4, hb, hg, I0, I4, hx0, hx1, hx2, hx3, hx4, hf0, hf1, hf2, hf3, hf4⟩ := Mk.elem HO.out HM.out x PP.out QQ.out; replace hb := am hb; replace hg := am hg; replace I0 := am I0; replace I4 := am I4) | ((with_reducible refine gate_store (t := 9) (p := 41) rfl ?_); refine store_event (t := 9) (p := 41) (v := ?vo_w12) (w1 := (w11.setCell ⟨g, (x : Int).toNat * 5 + 3, none⟩ (.string rt))) ?hg ?ho ?hn ?hr ?_; (case ho => rfl); (case hg => rfl); (case hn => rfl); (case hr => exact gs); intro w12 hw; obtain ⟨cs_, hc_⟩ := hb.out; replace HM := am (show Mk base w w12 by rw [hw]; exact HM.out.trans (Mk.setB HM.out.size hc_ hg.out (by omega) _)); clear hw hc_ hx0 hx1 hx2 hx3 hx4 hf0 hf1 hf2 hf3 hf4; obtain ⟨v0, u1, u2, u3, v4, hb, hg, I0, I4, hx0, hx1, hx2, hx3, hx4, hf0, hf1, hf2, hf3, hf4⟩ := Mk.elem HO.out HM.out x PP.out QQ.out; replace hb := am hb; replace hg := am hg; replace I0 := am I0; replace I4 := am I4) | ((with_reducible refine gate_dst (N := 51) rfl ?_); refine goesL_ (some 51) rfl rfl Try.func73 (by kernel_rfl) rfl #[v4, .int .i64 (wrap64 (wrap64 (wrap64 (y + ((rd_T116 l x).f0.length : Int) + 1) + 1) + 1))] rfl ga ?_; refine (markI (base := base) (n := (rd_T116 l x).f1.f3.length) (wrap64 (wrap64 (wrap64 (y + ((rd_T116 l x).f0.length : Int) + 1) + 1) + 1)) ?s1 ?s2 ?s3).mono ?_; (case s1 => exact Mk.size (by repeat (first | exact HM.out | apply Mk.drewN | apply Mk.drew))); (case s2 => exact I4.out); (case s3 => have := BD.out; exact this.2.2.1); rintro e w13 ⟨rfl, hk⟩; refine ⟨_, rfl, ?_⟩; replace HM := am (Mk.trans (by repeat (first | exact HM.out | apply Mk.drewN | apply Mk.drew)) hk); clear hk hx0 hx1 hx2 hx3 hx4 hf0 hf1 hf2 hf3 hf4; obtain ⟨v0, u1, u2, u3, v4, hb, hg, I0, I4, hx0, hx1, hx2, hx3, hx4, hf0, hf1, hf2, hf3, hf4⟩ := Mk.elem HO.out HM.out x PP.out QQ.out; replace hb := am hb; replace hg := am hg; replace I0 := am I0; replace I4 := am I4))
   go_roundg k1
   case measure => omega
   case rel => exact ⟨_, wrap64 (x + 1), rfl, sq, ⟨by have h := HX.out; have h2 := HN.out; have h3 := BD.out.2.2.2; have := QQ.out; have := marks_len l; rw [show wrap64 (x + 1) = x + 1 by unfold wrap64; omega, show (x + 1).toNat = x.toNat + 1 by omega]; exact ⟨by omega, by omega, h3, by omega⟩⟩, ⟨by repeat (first | exact HM.out | apply Mk.drewN | apply Mk.drew)⟩⟩
def laws_markPdu.f (_a0 _a1 _a2 _a3 : Int) (l : List S116) (a1 : Int) : Option Int := if 0 ≤ a1 ∧ a1 + (marks l : Int) ≤ 4611686018427387904 then some (a1 + (marks l : Int)) else none
theorem laws_markPdu.calls (a0 a1 a2 a3 : Int) (v : Value) (l : List S116) (y r : Int) {base : Nat} {ok : Nat → Prop} (w : World) (hw : base ≤ w.heap.size) (ho : Kd.R k116 116 w base ok v l) (h : laws_markPdu.f a0 a1 a2 a3 l y = some r) :
 Calls Try.prog 43 #[.agg #[.int .i64 a0, .int .i64 a1, .int .i64 a2, .int .i64 a3, v], .int .i64 y] w fun e w' => e = .returned (.int .i64 r) ∧ Mk base w w' := by
 have hu := Try.underlying58
 obtain ⟨A, c, rfl⟩ := Kd.R_slice ho
 unfold laws_markPdu.f at h
 by_cases hn : 0 ≤ y ∧ y + (marks l : Int) ≤ 4611686018427387904
 rotate_left
 · rw [if_neg hn] at h
   cases h
 rw [if_pos hn] at h
 obtain rfl := Option.some.inj h
 have HO := am ho
 have HN := am hn
 have HW := am hw
 clear h hn ho hw
 go_enter Try.func43, Try.ntmps43
 go_wp2_with (first | ((with_reducible refine gate_dst (N := 2) rfl ?_); refine bxe 2 #[.int .i64 a0, .int .i64 a1, .int .i64 a2, .int .i64 a3, .slice A l.length c] 58 ?_; intro gb hg w1 hbox hb; have HB := am hb; obtain ⟨hcz0, hcz1, hcz2, hcz3, hcz4, hfz0, hfz1, hfz2, hfz3, hfz4⟩ := cl5 hbox; clear hb hbox hg) | ((with_reducible refine gate_dst (N := 8) rfl ?_); refine goesL_ (some 8) rfl rfl Try.func102 (by kernel_rfl) rfl #[.slice A l.length c, .int .i64 y] rfl ga ?_; refine (markB (base := base) y ?s1 (Kd.R_below HO.out HB.out) HN.out).mono ?_; (case s1 => exact Nat.le_trans HW.out HB.out.size); rintro e w2 ⟨rfl, hk⟩; refine ⟨_, rfl, ?_⟩; have HM := am ((Mk.of_below HW.out HB.out).trans hk); clear hk))
 go_ret
 exact ⟨rq, by repeat (first | exact HM.out | apply Mk.drewN | apply Mk.drew)⟩
theorem Mk.row {base e : Nat} {w W : World} {k : IntKind} {b : Nat} {ok : Nat → Prop} {v : Value} {xs : List Int} (h : Kd.R (Kd.int k) e w b ok v xs) (m : Mk base w W) (h3 : e ≠ 3 := by decide) (h4 : e ≠ 116 := by decide) : Kd.R (Kd.int k) e W b ok v xs := by
 refine Kd.R_mono (Kd.R_step (Kd.R_bound h) (fun i hi _ => ?_)) (fun i hi => hi.1)
 obtain ⟨_, _, _, q, hq, cs, hc⟩ := hi
 obtain rfl : q = e := by
  rcases List.mem_cons.1 hq with h | h
  · exact h
  exact absurd h (by simp [Kd.int, Kd.scalar])
 rw [hc]
 refine m.oth i _ hc (fun c a => ?_) (fun c a => ?_)
 · injection a with _ a
   exact h3 a
 injection a with _ a
 exact h4 a
theorem Mk.blk {base g t : Nat} {w W : World} {cs : Array Value} (h : w.heap[g]? = some (.cells cs t (0, 0))) (m : Mk base w W) (h3 : t ≠ 3 := by decide) (h4 : t ≠ 116 := by decide) : W.heap[g]? = some (.cells cs t (0, 0)) := by
 refine m.oth g _ h (fun c a => ?_) (fun c a => ?_)
 · injection a with _ a
   exact h3 a
 injection a with _ a
 exact h4 a
theorem Mk.base {w0 w W : World} (h : Below w0.heap.size w0 w) (m : Mk w0.heap.size w W) : Below w0.heap.size w0 W := h.trans m.bel

end Go.Proofs.Ythhnfmbfgplelaa.XFnExactPutPdu
