/- The functions that one law reaches, as Lean functions, with their walks: printed by a program of this seat (wip/tools) out of the translation. -/
import Derived.Test.YthhnfmbfgplelaaXFnExactPutPdux0
namespace Go.Proofs.Ythhnfmbfgplelaa.XFnExactPutPdu
open Go.RowKit Go.Proofs.YthhnfmbfgplelaaW.PrintWords Go.Proofs.YthhnfmbfgplelaaW.PrintLast Go.Proofs.YthhnfmbfgplelaaW.PrintMore
attribute [local go_sem] max2_int min2_int max_two min_two max_three min_three max_four min_four   -- for this text's walks alone
set_option linter.unusedVariables false
set_option linter.unusedSimpArgs false

/-! ### laws_eqIntS: function 72 -/
def laws_eqIntS.l0 : Nat → List Int → List Int → Int → Option (Bool)
 | 0, _, _, _ => none
 | k + 1, x0, x1, x5 => if x5 < (x0.length : Int) then (if 0 ≤ x5 then (if x5 < (x1.length : Int) then (if (rd x0 x5) = (rd x1 x5) then (laws_eqIntS.l0 k x0 x1 (wrap64 (x5 + 1))) else (some false)) else (none)) else (none)) else (some true)
def laws_eqIntS.f (k : Nat) (l0 : List Int) (l1 : List Int) : Option (Bool) := if (l0.length : Int) = (l1.length : Int) then (laws_eqIntS.l0 k l0 l1 0) else (some false)
theorem laws_eqIntS.mono_l : ∀ k, (∀ y0 y1 y2, LeO (laws_eqIntS.l0 k y0 y1 y2) (laws_eqIntS.l0 (k + 1) y0 y1 y2))
 | 0 => fun _ _ _ r h => by simp [laws_eqIntS.l0] at h
 | k + 1 => by
  have ih0 := laws_eqIntS.mono_l k
  intro y0 y1 y2
  unfold laws_eqIntS.l0
  repeat' first
  | (with_reducible exact ih0 _ _ _)
  | (with_reducible exact LeO.refl _)
  | (with_reducible exact LeO.none _)
  | (with_reducible refine LeO.ite ?_ ?_)
  | (with_reducible refine LeO.bind ?_ (fun _ => ?_))
  | exact ih0 _ _ _
  | exact LeO.none _
  | refine LeO.ite ?_ ?_
  | refine LeO.bind ?_ (fun _ => ?_)
theorem laws_eqIntS.mono : ∀ a0 a1 k, LeO (laws_eqIntS.f k a0 a1) (laws_eqIntS.f (k + 1) a0 a1) := by
 intro a0 a1 k
 have ih0 := laws_eqIntS.mono_l k
 unfold laws_eqIntS.f
 repeat' first
  | (with_reducible exact ih0 _ _ _)
  | (with_reducible exact LeO.refl _)
  | (with_reducible exact LeO.none _)
  | (with_reducible refine LeO.ite ?_ ?_)
  | (with_reducible refine LeO.bind ?_ (fun _ => ?_))
  | exact ih0 _ _ _
  | exact LeO.none _
  | refine LeO.ite ?_ ?_
  | refine LeO.bind ?_ (fun _ => ?_)
set_option maxHeartbeats 8000000 in
set_option maxRecDepth 100000 in
theorem laws_eqIntS.calls (k : Nat) (A0 : Option Addr) (c0 : Nat) (l0 : List Int) (A1 : Option Addr) (c1 : Nat) (l1 : List Int) (r : Bool) (w : World) (hr0 : Kd.C (Kd.int .i64) w A0 l0.length l0) (hc0 : l0.length ≤ c0) (hr1 : Kd.C (Kd.int .i64) w A1 l1.length l1) (hc1 : l1.length ≤ c1) (h : laws_eqIntS.f k l0 l1 = some r) :
 Calls Try.prog 72 #[.slice A0 l0.length c0, .slice A1 l1.length c1] w fun e w' => e = .returned (.bool r) ∧ Drawn0 w w' := by
 have HR0 := am hr0
 have HC0 := am hc0
 clear hr0 hc0
 have HR1 := am hr1
 have HC1 := am hc1
 clear hr1 hc1
 have H : (if (l0.length : Int) = (l1.length : Int) then (laws_eqIntS.l0 k l0 l1 0) else (some false)) = some r := h
 clear h
 by_cases c3 : (l0.length : Int) = (l1.length : Int)
 rotate_left
 · rw [if_neg c3] at H
   have c3b0 : ((l0.length : Int) == (l1.length : Int)) = false := beq_eq_false_iff_ne.mpr c3
   have c3b1 : ((l0.length : Int) != (l1.length : Int)) = true := bne_iff_ne.mpr c3
   have c3b2 : (l0.length == l1.length) = false := by first | simpa using c3 | (simp at c3 ⊢; omega)
   obtain rfl := Option.some.inj H
   go_enter Try.func72, Try.ntmps72
   go_wp2
   repeat (go_quiet (fail); try go_wp2)
   go_ret
   exact ⟨by first | rfl | (simp; done) | (simp [*]; done), by repeat (first | exact Drawn0.refl _ | apply Drawn0.step)⟩
 rw [if_pos c3] at H
 have c3b0 : ((l0.length : Int) == (l1.length : Int)) = true := beq_iff_eq.mpr c3
 have c3b1 : ((l0.length : Int) != (l1.length : Int)) = false := bne_eq_false_iff_eq.mpr c3
 have c3b2 : (l0.length == l1.length) = true := by first | simpa using c3 | (simp at c3 ⊢; omega)
 clear c3
 have H' := am H
 clear H
 go_enter Try.func72, Try.ntmps72
 go_wp2
 repeat (go_quiet (fail); try go_wp2)
 go_loopg [5] k (fun kq v5 w' => ∃ (x5_1 : Int), v5 = .int .i64 x5_1 ∧ Aside0 (laws_eqIntS.l0 kq l0 l1 x5_1 = some r) ∧ Aside0 (kq ≤ k) ∧ Drawn0 w w')
 case atStart => exact ⟨(0), sq, H', ⟨Nat.le_refl _⟩, by repeat (first | exact Drawn0.refl _ | apply Drawn0.step)⟩
 case round =>
  clear H'
  try clear c1
  try clear p2
  try clear c3
  try clear c3b0
  try clear c3b1
  try clear c3b2
  obtain ⟨x5_1, rfl, HA, HK1, ⟨m1, rfl⟩⟩ := hrel
  cases gk with
  | zero => exact absurd HA.out (by simp [laws_eqIntS.l0])
  | succ k1 =>
   have H := HA.out
   clear HA
   simp only [laws_eqIntS.l0] at H
   by_cases c4 : x5_1 < (l0.length : Int)
   rotate_left
   · rw [if_neg c4] at H
     have c4b0 : decide (x5_1 < (l0.length : Int)) = false := decide_eq_false c4
     clear c4
     obtain rfl := Option.some.inj H
     go_wp2
     repeat (go_quiet (fail); try go_wp2)
     go_ret
     exact ⟨by first | rfl | (simp; done) | (simp [*]; done), by repeat (first | exact Drawn0.refl _ | apply Drawn0.step)⟩
   rw [if_pos c4] at H
   have c4b0 : decide (x5_1 < (l0.length : Int)) = true := decide_eq_true c4
   clear c4
   by_cases c5 : 0 ≤ x5_1
   rotate_left
   · rw [if_neg c5] at H
     exact absurd H (by simp)
   rw [if_pos c5] at H
   have c5b0 : decide (0 ≤ x5_1) = true := decide_eq_true c5
   clear c5
   by_cases c6 : x5_1 < (l1.length : Int)
   rotate_left
   · rw [if_neg c6] at H
     exact absurd H (by simp)
   rw [if_pos c6] at H
   have c6b0 : decide (x5_1 < (l1.length : Int)) = true := decide_eq_true c6
   clear c6
   by_cases c7 : (rd l0 x5_1) = (rd l1 x5_1)
   rotate_left
   · rw [if_neg c7] at H
     have c7b0 : ((rd l0 x5_1) == (rd l1 x5_1)) = false := beq_eq_false_iff_ne.mpr c7
     have c7b1 : ((rd l0 x5_1) != (rd l1 x5_1)) = true := bne_iff_ne.mpr c7
     obtain rfl := Option.some.inj H
     have p477 : 0 ≤ (x5_1 : Int) := oda
     have q477 : x5_1 < (l0.length : Int) := oda
     obtain ⟨ad477, e477, hx477_0⟩ := Kd.at_int HR0.out x5_1 p477 q477
     cases e477
     replace p477 := eq_true p477
     replace q477 := eq_true q477
     have p478 : 0 ≤ (x5_1 : Int) := oda
     have q478 : x5_1 < (l1.length : Int) := oda
     obtain ⟨ad478, e478, hx478_0⟩ := Kd.at_int HR1.out x5_1 p478 q478
     cases e478
     replace p478 := eq_true p478
     replace q478 := eq_true q478
     go_wp2
     repeat (go_quiet (fail); try go_wp2)
     go_ret
     exact ⟨by first | rfl | (simp; done) | (simp [*]; done), by repeat (first | exact Drawn0.refl _ | apply Drawn0.step)⟩
   rw [if_pos c7] at H
   have c7b0 : ((rd l0 x5_1) == (rd l1 x5_1)) = true := beq_iff_eq.mpr c7
   have c7b1 : ((rd l0 x5_1) != (rd l1 x5_1)) = false := bne_eq_false_iff_eq.mpr c7
   clear c7
   have H' := am H
   clear H
   have p477 : 0 ≤ (x5_1 : Int) := oda
   have q477 : x5_1 < (l0.length : Int) := oda
   obtain ⟨ad477, e477, hx477_0⟩ := Kd.at_int HR0.out x5_1 p477 q477
   cases e477
   replace p477 := eq_true p477
   replace q477 := eq_true q477
   have p478 : 0 ≤ (x5_1 : Int) := oda
   have q478 : x5_1 < (l1.length : Int) := oda
   obtain ⟨ad478, e478, hx478_0⟩ := Kd.at_int HR1.out x5_1 p478 q478
   cases e478
   replace p478 := eq_true p478
   replace q478 := eq_true q478
   go_wp2
   repeat (go_quiet (fail); try go_wp2)
   go_roundg k1
   case measure => have := HK1.out; omega
   case rel => exact ⟨(wrap64 (x5_1 + 1)), sq, H', ⟨by have := HK1.out; omega⟩, by repeat (first | exact Drawn0.refl _ | apply Drawn0.step)⟩

/-! ### laws_eqVal: function 19 -/
def laws_eqVal.f (k : Nat) (a0_0 : Int) (a0_1 : Int) (a0_2 : ByteArray) (l0_3 : List Int) (a1_0 : Int) (a1_1 : Int) (a1_2 : ByteArray) (l1_3 : List Int) : Option (Bool) := if a0_0 = a1_0 then (if a0_1 = a1_1 then (if a0_2.toList = a1_2.toList then ((laws_eqIntS.f k l0_3 l1_3).bind fun t481 => (if t481 = true then (some true) else (some false))) else (some false)) else (some false)) else (some false)
theorem laws_eqVal.mono : ∀ a0 a1 a2 a3 a4 a5 a6 a7 k, LeO (laws_eqVal.f k a0 a1 a2 a3 a4 a5 a6 a7) (laws_eqVal.f (k + 1) a0 a1 a2 a3 a4 a5 a6 a7) := by
 intro a0 a1 a2 a3 a4 a5 a6 a7 k
 unfold laws_eqVal.f
 repeat' first
  | (with_reducible exact laws_eqIntS.mono _ _ _)
  | (with_reducible exact LeO.refl _)
  | (with_reducible exact LeO.none _)
  | (with_reducible refine LeO.ite ?_ ?_)
  | (with_reducible refine LeO.bind ?_ (fun _ => ?_))
  | exact laws_eqIntS.mono _ _ _
  | exact LeO.none _
  | refine LeO.ite ?_ ?_
  | refine LeO.bind ?_ (fun _ => ?_)
set_option maxHeartbeats 8000000 in
set_option maxRecDepth 100000 in
theorem laws_eqVal.calls (k : Nat) (a0_0 : Int) (a0_1 : Int) (a0_2 : ByteArray) (A0_3 : Option Addr) (c0_3 : Nat) (l0_3 : List Int) (a1_0 : Int) (a1_1 : Int) (a1_2 : ByteArray) (A1_3 : Option Addr) (c1_3 : Nat) (l1_3 : List Int) (r : Bool) (w : World) (hr0_3 : Kd.C (Kd.int .i64) w A0_3 l0_3.length l0_3) (hc0_3 : l0_3.length ≤ c0_3) (hr1_3 : Kd.C (Kd.int .i64) w A1_3 l1_3.length l1_3) (hc1_3 : l1_3.length ≤ c1_3) (h : laws_eqVal.f k a0_0 a0_1 a0_2 l0_3 a1_0 a1_1 a1_2 l1_3 = some r) :
 Calls Try.prog 19 #[.agg #[.int .i64 a0_0, .int .i64 a0_1, .string a0_2, .slice A0_3 l0_3.length c0_3], .agg #[.int .i64 a1_0, .int .i64 a1_1, .string a1_2, .slice A1_3 l1_3.length c1_3]] w fun e w' => e = .returned (.bool r) ∧ Below w.heap.size w w' := by
 have hu29 := Try.underlying29
 have HR0_3 := am hr0_3
 have HC0_3 := am hc0_3
 clear hr0_3 hc0_3
 have HR1_3 := am hr1_3
 have HC1_3 := am hc1_3
 clear hr1_3 hc1_3
 have HB := am (Below.refl w.heap.size w)
 have H : (if a0_0 = a1_0 then (if a0_1 = a1_1 then (if a0_2.toList = a1_2.toList then ((laws_eqIntS.f k l0_3 l1_3).bind fun t481 => (if t481 = true then (some true) else (some false))) else (some false)) else (some false)) else (some false)) = some r := h
 clear h
 by_cases c3 : a0_0 = a1_0
 rotate_left
 · rw [if_neg c3] at H
   have c3b0 : (a0_0 == a1_0) = false := beq_eq_false_iff_ne.mpr c3
   have c3b1 : (a0_0 != a1_0) = true := bne_iff_ne.mpr c3
   obtain rfl := Option.some.inj H
   go_enter Try.func19, Try.ntmps19
   go_wp2_with (first | ((with_reducible refine gate_dst (N := 2) rfl ?_); refine bxe 2 #[.int .i64 a0_0, .int .i64 a0_1, .string a0_2, .slice A0_3 l0_3.length c0_3] 29 ?_; intro gb479 hg w28 hbox hb; have n_ := ak4 (below_step (bq HB.out) hb) hbox ((by rw [hg]; exact (below_size (bq HB.out)) : w.heap.size ≤ gb479)) ((by rw [hg]; exact (below_size (bq HB.out)) : w.heap.size ≤ gb479)); clear HB; obtain ⟨HB, BK479, GW479, GE479⟩ := n_; clear hb hbox hg) | ((with_reducible refine gate_dst (N := 3) rfl ?_); refine bxe 3 #[.int .i64 a1_0, .int .i64 a1_1, .string a1_2, .slice A1_3 l1_3.length c1_3] 29 ?_; intro gb480 hg w29 hbox hb; have n_ := ak7 (blk_below (zb BK479.out) hb) (below_step (bq1 HB.out GE479.out) hb) hbox ((by rw [hg]; exact (below_size (bq1 HB.out GE479.out)) : w.heap.size ≤ gb480)) ((by rw [hg]; exact (below_size (bq1 HB.out GE479.out)) : w.heap.size ≤ gb480)) ((nlt hg (zb BK479.out) : gb479 ≠ gb480)) ((ngt hg (zb BK479.out) : gb480 ≠ gb479)); clear BK479 HB; obtain ⟨BK479, HB, BK480, GW480, GE480, NB479_480, NB480_479⟩ := n_; clear hb hbox hg; have hnb30 := NB479_480.out; have hnc30 := NB480_479.out; obtain ⟨hcz31_0, hcz31_1, hcz31_2, hcz31_3, hfz31_0, hfz31_1, hfz31_2, hfz31_3⟩ := cl4 BK479.out; obtain ⟨hcz32_0, hcz32_1, hcz32_2, hcz32_3, hfz32_0, hfz32_1, hfz32_2, hfz32_3⟩ := cl4 BK480.out))
   go_ret
   exact ⟨rq, bq2 HB.out GE479.out GE480.out⟩
 rw [if_pos c3] at H
 have c3b0 : (a0_0 == a1_0) = true := beq_iff_eq.mpr c3
 have c3b1 : (a0_0 != a1_0) = false := bne_eq_false_iff_eq.mpr c3
 clear c3
 by_cases c4 : a0_1 = a1_1
 rotate_left
 · rw [if_neg c4] at H
   have c4b0 : (a0_1 == a1_1) = false := beq_eq_false_iff_ne.mpr c4
   have c4b1 : (a0_1 != a1_1) = true := bne_iff_ne.mpr c4
   obtain rfl := Option.some.inj H
   go_enter Try.func19, Try.ntmps19
   go_wp2_with (first | ((with_reducible refine gate_dst (N := 2) rfl ?_); refine bxe 2 #[.int .i64 a0_0, .int .i64 a0_1, .string a0_2, .slice A0_3 l0_3.length c0_3] 29 ?_; intro gb479 hg w23 hbox hb; have n_ := ak4 (below_step (bq HB.out) hb) hbox ((by rw [hg]; exact (below_size (bq HB.out)) : w.heap.size ≤ gb479)) ((by rw [hg]; exact (below_size (bq HB.out)) : w.heap.size ≤ gb479)); clear HB; obtain ⟨HB, BK479, GW479, GE479⟩ := n_; clear hb hbox hg) | ((with_reducible refine gate_dst (N := 3) rfl ?_); refine bxe 3 #[.int .i64 a1_0, .int .i64 a1_1, .string a1_2, .slice A1_3 l1_3.length c1_3] 29 ?_; intro gb480 hg w24 hbox hb; have n_ := ak7 (blk_below (zb BK479.out) hb) (below_step (bq1 HB.out GE479.out) hb) hbox ((by rw [hg]; exact (below_size (bq1 HB.out GE479.out)) : w.heap.size ≤ gb480)) ((by rw [hg]; exact (below_size (bq1 HB.out GE479.out)) : w.heap.size ≤ gb480)) ((nlt hg (zb BK479.out) : gb479 ≠ gb480)) ((ngt hg (zb BK479.out) : gb480 ≠ gb479)); clear BK479 HB; obtain ⟨BK479, HB, BK480, GW480, GE480, NB479_480, NB480_479⟩ := n_; clear hb hbox hg; have hnb25 := NB479_480.out; have hnc25 := NB480_479.out; obtain ⟨hcz26_0, hcz26_1, hcz26_2, hcz26_3, hfz26_0, hfz26_1, hfz26_2, hfz26_3⟩ := cl4 BK479.out; obtain ⟨hcz27_0, hcz27_1, hcz27_2, hcz27_3, hfz27_0, hfz27_1, hfz27_2, hfz27_3⟩ := cl4 BK480.out))
   go_ret
   exact ⟨rq, bq2 HB.out GE479.out GE480.out⟩
 rw [if_pos c4] at H
 have c4b0 : (a0_1 == a1_1) = true := beq_iff_eq.mpr c4
 have c4b1 : (a0_1 != a1_1) = false := bne_eq_false_iff_eq.mpr c4
 clear c4
 by_cases c5 : a0_2.toList = a1_2.toList
 rotate_left
 · rw [if_neg c5] at H
   have c5b0 : (a0_2.toList == a1_2.toList) = false := beq_eq_false_iff_ne.mpr c5
   have c5b1 : (a0_2.toList != a1_2.toList) = true := bne_iff_ne.mpr c5
   obtain rfl := Option.some.inj H
   go_enter Try.func19, Try.ntmps19
   go_wp2_with (first | ((with_reducible refine gate_dst (N := 2) rfl ?_); refine bxe 2 #[.int .i64 a0_0, .int .i64 a0_1, .string a0_2, .slice A0_3 l0_3.length c0_3] 29 ?_; intro gb479 hg w18 hbox hb; have n_ := ak4 (below_step (bq HB.out) hb) hbox ((by rw [hg]; exact (below_size (bq HB.out)) : w.heap.size ≤ gb479)) ((by rw [hg]; exact (below_size (bq HB.out)) : w.heap.size ≤ gb479)); clear HB; obtain ⟨HB, BK479, GW479, GE479⟩ := n_; clear hb hbox hg) | ((with_reducible refine gate_dst (N := 3) rfl ?_); refine bxe 3 #[.int .i64 a1_0, .int .i64 a1_1, .string a1_2, .slice A1_3 l1_3.length c1_3] 29 ?_; intro gb480 hg w19 hbox hb; have n_ := ak7 (blk_below (zb BK479.out) hb) (below_step (bq1 HB.out GE479.out) hb) hbox ((by rw [hg]; exact (below_size (bq1 HB.out GE479.out)) : w.heap.size ≤ gb480)) ((by rw [hg]; exact (below_size (bq1 HB.out GE479.out)) : w.heap.size ≤ gb480)) ((nlt hg (zb BK479.out) : gb479 ≠ gb480)) ((ngt hg (zb BK479.out) : gb480 ≠ gb479)); clear BK479 HB; obtain ⟨BK479, HB, BK480, GW480, GE480, NB479_480, NB480_479⟩ := n_; clear hb hbox hg; have hnb20 := NB479_480.out; have hnc20 := NB480_479.out; obtain ⟨hcz21_0, hcz21_1, hcz21_2, hcz21_3, hfz21_0, hfz21_1, hfz21_2, hfz21_3⟩ := cl4 BK479.out; obtain ⟨hcz22_0, hcz22_1, hcz22_2, hcz22_3, hfz22_0, hfz22_1, hfz22_2, hfz22_3⟩ := cl4 BK480.out))
   go_ret
   exact ⟨rq, bq2 HB.out GE479.out GE480.out⟩
 rw [if_pos c5] at H
 have c5b0 : (a0_2.toList == a1_2.toList) = true := beq_iff_eq.mpr c5
 have c5b1 : (a0_2.toList != a1_2.toList) = false := bne_eq_false_iff_eq.mpr c5
 clear c5
 replace H := Option.bind_eq_some_iff.mp H
 obtain ⟨t481, A60, H⟩ := H
 replace H : (if t481 = true then (some true) else (some false)) = some r := H
 have A6 := am A60
 clear A60
 by_cases c7 : t481 = true
 · subst c7
   replace H : (some true) = some r := by rw [if_pos rfl] at H; exact H
   obtain rfl := Option.some.inj H
   go_enter Try.func19, Try.ntmps19
   go_wp2_with (first | ((with_reducible refine gate_dst (N := 2) rfl ?_); refine bxe 2 #[.int .i64 a0_0, .int .i64 a0_1, .string a0_2, .slice A0_3 l0_3.length c0_3] 29 ?_; intro gb479 hg w8 hbox hb; have n_ := ak4 (below_step (bq HB.out) hb) hbox ((by rw [hg]; exact (below_size (bq HB.out)) : w.heap.size ≤ gb479)) ((by rw [hg]; exact (below_size (bq HB.out)) : w.heap.size ≤ gb479)); clear HB; obtain ⟨HB, BK479, GW479, GE479⟩ := n_; clear hb hbox hg) | ((with_reducible refine gate_dst (N := 3) rfl ?_); refine bxe 3 #[.int .i64 a1_0, .int .i64 a1_1, .string a1_2, .slice A1_3 l1_3.length c1_3] 29 ?_; intro gb480 hg w9 hbox hb; have n_ := ak7 (blk_below (zb BK479.out) hb) (below_step (bq1 HB.out GE479.out) hb) hbox ((by rw [hg]; exact (below_size (bq1 HB.out GE479.out)) : w.heap.size ≤ gb480)) ((by rw [hg]; exact (below_size (bq1 HB.out GE479.out)) : w.heap.size ≤ gb480)) ((nlt hg (zb BK479.out) : gb479 ≠ gb480)) ((ngt hg (zb BK479.out) : gb480 ≠ gb479)); clear BK479 HB; obtain ⟨BK479, HB, BK480, GW480, GE480, NB479_480, NB480_479⟩ := n_; clear hb hbox hg; have hnb10 := NB479_480.out; have hnc10 := NB480_479.out; obtain ⟨hcz11_0, hcz11_1, hcz11_2, hcz11_3, hfz11_0, hfz11_1, hfz11_2, hfz11_3⟩ := cl4 BK479.out; obtain ⟨hcz12_0, hcz12_1, hcz12_2, hcz12_3, hfz12_0, hfz12_1, hfz12_2, hfz12_3⟩ := cl4 BK480.out) | ((with_reducible refine gate_callee (f := 72) rfl ?_); refine goesL_ (some 24) rfl rfl Try.func72 (by kernel_rfl) rfl #[.slice A0_3 l0_3.length c0_3, .slice A1_3 l1_3.length c1_3] rfl ga ?_; (with_reducible refine (laws_eqIntS.calls k _ _ l0_3 _ _ l1_3 true _ ?side1 ?side2 ?side3 ?side4 A6.out).mono ?_); (case side1 => exact cq (Kd.C_below HR0_3.out HB.out)); (case side2 => exact HC0_3.out); (case side3 => exact cq (Kd.C_below HR1_3.out HB.out)); (case side4 => exact HC1_3.out); rintro e w' ⟨rfl, ⟨nd, rfl⟩⟩; refine ⟨_, rfl, ?_⟩))
   go_ret
   exact ⟨rq, bq2 HB.out GE479.out GE480.out⟩
 replace c7 := Bool.eq_false_iff.mpr c7
 subst c7
 replace H : (some false) = some r := by rw [if_neg (show ¬ (false = true) by decide)] at H; exact H
 obtain rfl := Option.some.inj H
 go_enter Try.func19, Try.ntmps19
 go_wp2_with (first | ((with_reducible refine gate_dst (N := 2) rfl ?_); refine bxe 2 #[.int .i64 a0_0, .int .i64 a0_1, .string a0_2, .slice A0_3 l0_3.length c0_3] 29 ?_; intro gb479 hg w13 hbox hb; have n_ := ak4 (below_step (bq HB.out) hb) hbox ((by rw [hg]; exact (below_size (bq HB.out)) : w.heap.size ≤ gb479)) ((by rw [hg]; exact (below_size (bq HB.out)) : w.heap.size ≤ gb479)); clear HB; obtain ⟨HB, BK479, GW479, GE479⟩ := n_; clear hb hbox hg) | ((with_reducible refine gate_dst (N := 3) rfl ?_); refine bxe 3 #[.int .i64 a1_0, .int .i64 a1_1, .string a1_2, .slice A1_3 l1_3.length c1_3] 29 ?_; intro gb480 hg w14 hbox hb; have n_ := ak7 (blk_below (zb BK479.out) hb) (below_step (bq1 HB.out GE479.out) hb) hbox ((by rw [hg]; exact (below_size (bq1 HB.out GE479.out)) : w.heap.size ≤ gb480)) ((by rw [hg]; exact (below_size (bq1 HB.out GE479.out)) : w.heap.size ≤ gb480)) ((nlt hg (zb BK479.out) : gb479 ≠ gb480)) ((ngt hg (zb BK479.out) : gb480 ≠ gb479)); clear BK479 HB; obtain ⟨BK479, HB, BK480, GW480, GE480, NB479_480, NB480_479⟩ := n_; clear hb hbox hg; have hnb15 := NB479_480.out; have hnc15 := NB480_479.out; obtain ⟨hcz16_0, hcz16_1, hcz16_2, hcz16_3, hfz16_0, hfz16_1, hfz16_2, hfz16_3⟩ := cl4 BK479.out; obtain ⟨hcz17_0, hcz17_1, hcz17_2, hcz17_3, hfz17_0, hfz17_1, hfz17_2, hfz17_3⟩ := cl4 BK480.out) | ((with_reducible refine gate_callee (f := 72) rfl ?_); refine goesL_ (some 24) rfl rfl Try.func72 (by kernel_rfl) rfl #[.slice A0_3 l0_3.length c0_3, .slice A1_3 l1_3.length c1_3] rfl ga ?_; (with_reducible refine (laws_eqIntS.calls k _ _ l0_3 _ _ l1_3 false _ ?side1 ?side2 ?side3 ?side4 A6.out).mono ?_); (case side1 => exact cq (Kd.C_below HR0_3.out HB.out)); (case side2 => exact HC0_3.out); (case side3 => exact cq (Kd.C_below HR1_3.out HB.out)); (case side4 => exact HC1_3.out); rintro e w' ⟨rfl, ⟨nd, rfl⟩⟩; refine ⟨_, rfl, ?_⟩))
 go_ret
 exact ⟨rq, bq2 HB.out GE479.out GE480.out⟩

/-! ### laws_eqBind: function 130 -/
def laws_eqBind.f (k : Nat) (l0_0 : List Int) (a0_1 : Int) (a0_2 : Int) (a0_3 : ByteArray) (l0_4 : List Int) (l1_0 : List Int) (a1_1 : Int) (a1_2 : Int) (a1_3 : ByteArray) (l1_4 : List Int) : Option (Bool) := (laws_eqIntS.f k l0_0 l1_0).bind fun t484 => (if t484 = true then ((laws_eqVal.f k a0_1 a0_2 a0_3 l0_4 a1_1 a1_2 a1_3 l1_4).bind fun t485 => (if t485 = true then (some true) else (some false))) else (some false))
theorem laws_eqBind.mono : ∀ a0 a1 a2 a3 a4 a5 a6 a7 a8 a9 k, LeO (laws_eqBind.f k a0 a1 a2 a3 a4 a5 a6 a7 a8 a9) (laws_eqBind.f (k + 1) a0 a1 a2 a3 a4 a5 a6 a7 a8 a9) := by
 intro a0 a1 a2 a3 a4 a5 a6 a7 a8 a9 k
 unfold laws_eqBind.f
 repeat' first
  | (with_reducible exact laws_eqIntS.mono _ _ _)
  | (with_reducible exact laws_eqVal.mono _ _ _ _ _ _ _ _ _)
  | (with_reducible exact LeO.refl _)
  | (with_reducible exact LeO.none _)
  | (with_reducible refine LeO.ite ?_ ?_)
  | (with_reducible refine LeO.bind ?_ (fun _ => ?_))
  | exact laws_eqIntS.mono _ _ _
  | exact laws_eqVal.mono _ _ _ _ _ _ _ _ _
  | exact LeO.none _
  | refine LeO.ite ?_ ?_
  | refine LeO.bind ?_ (fun _ => ?_)
set_option maxHeartbeats 8000000 in
set_option maxRecDepth 100000 in
theorem laws_eqBind.calls (k : Nat) (A0_0 : Option Addr) (c0_0 : Nat) (l0_0 : List Int) (a0_1 : Int) (a0_2 : Int) (a0_3 : ByteArray) (A0_4 : Option Addr) (c0_4 : Nat) (l0_4 : List Int) (A1_0 : Option Addr) (c1_0 : Nat) (l1_0 : List Int) (a1_1 : Int) (a1_2 : Int) (a1_3 : ByteArray) (A1_4 : Option Addr) (c1_4 : Nat) (l1_4 : List Int) (r : Bool) (w : World) (hr0_0 : Kd.C (Kd.int .i64) w A0_0 l0_0.length l0_0) (hc0_0 : l0_0.length ≤ c0_0) (hr0_4 : Kd.C (Kd.int .i64) w A0_4 l0_4.length l0_4) (hc0_4 : l0_4.length ≤ c0_4) (hr1_0 : Kd.C (Kd.int .i64) w A1_0 l1_0.length l1_0) (hc1_0 : l1_0.length ≤ c1_0) (hr1_4 : Kd.C (Kd.int .i64) w A1_4 l1_4.length l1_4) (hc1_4 : l1_4.length ≤ c1_4) (h : laws_eqBind.f k l0_0 a0_1 a0_2 a0_3 l0_4 l1_0 a1_1 a1_2 a1_3 l1_4 = some r) :
 Calls Try.prog 130 #[.agg #[.slice A0_0 l0_0.length c0_0, .int .i64 a0_1, .int .i64 a0_2, .string a0_3, .slice A0_4 l0_4.length c0_4], .agg #[.slice A1_0 l1_0.length c1_0, .int .i64 a1_1, .int .i64 a1_2, .string a1_3, .slice A1_4 l1_4.length c1_4]] w fun e w' => e = .returned (.bool r) ∧ Below w.heap.size w w' := by
 have hu116 := Try.underlying116
 have hu29 := Try.underlying29
 have HR0_0 := am hr0_0
 have HC0_0 := am hc0_0
 clear hr0_0 hc0_0
 have HR0_4 := am hr0_4
 have HC0_4 := am hc0_4
 clear hr0_4 hc0_4
 have HR1_0 := am hr1_0
 have HC1_0 := am hc1_0
 clear hr1_0 hc1_0
 have HR1_4 := am hr1_4
 have HC1_4 := am hc1_4
 clear hr1_4 hc1_4
 have HB := am (Below.refl w.heap.size w)
 have H : ((laws_eqIntS.f k l0_0 l1_0).bind fun t484 => (if t484 = true then ((laws_eqVal.f k a0_1 a0_2 a0_3 l0_4 a1_1 a1_2 a1_3 l1_4).bind fun t485 => (if t485 = true then (some true) else (some false))) else (some false))) = some r := h
 clear h
 replace H := Option.bind_eq_some_iff.mp H
 obtain ⟨t484, A30, H⟩ := H
 replace H : (if t484 = true then ((laws_eqVal.f k a0_1 a0_2 a0_3 l0_4 a1_1 a1_2 a1_3 l1_4).bind fun t485 => (if t485 = true then (some true) else (some false))) else (some false)) = some r := H
 have A3 := am A30
 clear A30
 by_cases c4 : t484 = true
 rotate_left
 · replace c4 := Bool.eq_false_iff.mpr c4
   subst c4
   replace H : (some false) = some r := by rw [if_neg (show ¬ (false = true) by decide)] at H; exact H
   obtain rfl := Option.some.inj H
   go_enter Try.func130, Try.ntmps130
   go_wp2_with (first | ((with_reducible refine gate_dst (N := 2) rfl ?_); refine bxe 2 #[.slice A0_0 l0_0.length c0_0, .int .i64 a0_1, .int .i64 a0_2, .string a0_3, .slice A0_4 l0_4.length c0_4] 116 ?_; intro gb482 hg w19 hbox hb; have n_ := ak4 (below_step (bq HB.out) hb) hbox ((by rw [hg]; exact (below_size (bq HB.out)) : w.heap.size ≤ gb482)) ((by rw [hg]; exact (below_size (bq HB.out)) : w.heap.size ≤ gb482)); clear HB; obtain ⟨HB, BK482, GW482, GE482⟩ := n_; clear hb hbox hg) | ((with_reducible refine gate_dst (N := 3) rfl ?_); refine bxe 3 #[.slice A1_0 l1_0.length c1_0, .int .i64 a1_1, .int .i64 a1_2, .string a1_3, .slice A1_4 l1_4.length c1_4] 116 ?_; intro gb483 hg w20 hbox hb; have n_ := ak7 (blk_below (zb BK482.out) hb) (below_step (bq1 HB.out GE482.out) hb) hbox ((by rw [hg]; exact (below_size (bq1 HB.out GE482.out)) : w.heap.size ≤ gb483)) ((by rw [hg]; exact (below_size (bq1 HB.out GE482.out)) : w.heap.size ≤ gb483)) ((nlt hg (zb BK482.out) : gb482 ≠ gb483)) ((ngt hg (zb BK482.out) : gb483 ≠ gb482)); clear BK482 HB; obtain ⟨BK482, HB, BK483, GW483, GE483, NB482_483, NB483_482⟩ := n_; clear hb hbox hg; have hnb21 := NB482_483.out; have hnc21 := NB483_482.out; obtain ⟨hcz22_0, hcz22_1, hcz22_2, hcz22_3, hcz22_4, hfz22_0, hfz22_1, hfz22_2, hfz22_3, hfz22_4⟩ := cl5 BK482.out; obtain ⟨hcz23_0, hcz23_1, hcz23_2, hcz23_3, hcz23_4, hfz23_0, hfz23_1, hfz23_2, hfz23_3, hfz23_4⟩ := cl5 BK483.out) | ((with_reducible refine gate_callee (f := 72) rfl ?_); refine goesL_ (some 9) rfl rfl Try.func72 (by kernel_rfl) rfl #[.slice A0_0 l0_0.length c0_0, .slice A1_0 l1_0.length c1_0] rfl ga ?_; (with_reducible refine (laws_eqIntS.calls k _ _ l0_0 _ _ l1_0 false _ ?side1 ?side2 ?side3 ?side4 A3.out).mono ?_); (case side1 => exact cq (Kd.C_below HR0_0.out HB.out)); (case side2 => exact HC0_0.out); (case side3 => exact cq (Kd.C_below HR1_0.out HB.out)); (case side4 => exact HC1_0.out); rintro e w' ⟨rfl, ⟨nd, rfl⟩⟩; refine ⟨_, rfl, ?_⟩))
   go_ret
   exact ⟨rq, bq2 HB.out GE482.out GE483.out⟩
 subst c4
 replace H : ((laws_eqVal.f k a0_1 a0_2 a0_3 l0_4 a1_1 a1_2 a1_3 l1_4).bind fun t485 => (if t485 = true then (some true) else (some false))) = some r := by rw [if_pos rfl] at H; exact H
 replace H := Option.bind_eq_some_iff.mp H
 obtain ⟨t485, A50, H⟩ := H
 replace H : (if t485 = true then (some true) else (some false)) = some r := H
 have A5 := am A50
 clear A50
 by_cases c6 : t485 = true
 · subst c6
   replace H : (some true) = some r := by rw [if_pos rfl] at H; exact H
   obtain rfl := Option.some.inj H
   go_enter Try.func130, Try.ntmps130
   go_wp2_with (first | ((with_reducible refine gate_dst (N := 2) rfl ?_); refine bxe 2 #[.slice A0_0 l0_0.length c0_0, .int .i64 a0_1, .int .i64 a0_2, .string a0_3, .slice A0_4 l0_4.length c0_4] 116 ?_; intro gb482 hg w7 hbox hb; have n_ := ak4 (below_step (bq HB.out) hb) hbox ((by rw [hg]; exact (below_size (bq HB.out)) : w.heap.size ≤ gb482)) ((by rw [hg]; exact (below_size (bq HB.out)) : w.heap.size ≤ gb482)); clear HB; obtain ⟨HB, BK482, GW482, GE482⟩ := n_; clear hb hbox hg) | ((with_reducible refine gate_dst (N := 3) rfl ?_); refine bxe 3 #[.slice A1_0 l1_0.length c1_0, .int .i64 a1_1, .int .i64 a1_2, .string a1_3, .slice A1_4 l1_4.length c1_4] 116 ?_; intro gb483 hg w8 hbox hb; have n_ := ak7 (blk_below (zb BK482.out) hb) (below_step (bq1 HB.out GE482.out) hb) hbox ((by rw [hg]; exact (below_size (bq1 HB.out GE482.out)) : w.heap.size ≤ gb483)) ((by rw [hg]; exact (below_size (bq1 HB.out GE482.out)) : w.heap.size ≤ gb483)) ((nlt hg (zb BK482.out) : gb482 ≠ gb483)) ((ngt hg (zb BK482.out) : gb483 ≠ gb482)); clear BK482 HB; obtain ⟨BK482, HB, BK483, GW483, GE483, NB482_483, NB483_482⟩ := n_; clear hb hbox hg; have hnb9 := NB482_483.out; have hnc9 := NB483_482.out; obtain ⟨hcz10_0, hcz10_1, hcz10_2, hcz10_3, hcz10_4, hfz10_0, hfz10_1, hfz10_2, hfz10_3, hfz10_4⟩ := cl5 BK482.out; obtain ⟨hcz11_0, hcz11_1, hcz11_2, hcz11_3, hcz11_4, hfz11_0, hfz11_1, hfz11_2, hfz11_3, hfz11_4⟩ := cl5 BK483.out) | ((with_reducible refine gate_callee (f := 72) rfl ?_); refine goesL_ (some 9) rfl rfl Try.func72 (by kernel_rfl) rfl #[.slice A0_0 l0_0.length c0_0, .slice A1_0 l1_0.length c1_0] rfl ga ?_; (with_reducible refine (laws_eqIntS.calls k _ _ l0_0 _ _ l1_0 true _ ?side1 ?side2 ?side3 ?side4 A3.out).mono ?_); (case side1 => exact cq (Kd.C_below HR0_0.out HB.out)); (case side2 => exact HC0_0.out); (case side3 => exact cq (Kd.C_below HR1_0.out HB.out)); (case side4 => exact HC1_0.out); rintro e w' ⟨rfl, ⟨nd, rfl⟩⟩; refine ⟨_, rfl, ?_⟩) | ((with_reducible refine gate_callee (f := 19) rfl ?_); refine goesL_ (some 15) rfl rfl Try.func19 (by kernel_rfl) rfl #[.agg #[.int .i64 a0_1, .int .i64 a0_2, .string a0_3, .slice A0_4 l0_4.length c0_4], .agg #[.int .i64 a1_1, .int .i64 a1_2, .string a1_3, .slice A1_4 l1_4.length c1_4]] rfl ga ?_; (with_reducible refine (laws_eqVal.calls k a0_1 a0_2 a0_3 _ _ l0_4 a1_1 a1_2 a1_3 _ _ l1_4 true _ ?side1 ?side2 ?side3 ?side4 A5.out).mono ?_); (case side1 => repeat (first | exact (Kd.C_below HR0_4.out (bq2 HB.out GE482.out GE483.out)) | (with_reducible refine Kd.C_alloc ?_ _) | (with_reducible refine Kd.C_drewN ?_ _) | (with_reducible refine Kd.C_drew ?_))); (case side2 => exact HC0_4.out); (case side3 => repeat (first | exact (Kd.C_below HR1_4.out (bq2 HB.out GE482.out GE483.out)) | (with_reducible refine Kd.C_alloc ?_ _) | (with_reducible refine Kd.C_drewN ?_ _) | (with_reducible refine Kd.C_drew ?_))); (case side4 => exact HC1_4.out); rintro e w12 ⟨rfl, hb⟩; refine ⟨_, rfl, ?_⟩; have n_ := ak3 (blk_below (zb BK482.out) hb) (blk_below (zb BK483.out) hb) (below_step (bq2 HB.out GE482.out GE483.out) hb); clear BK482 BK483 HB; obtain ⟨BK482, BK483, HB⟩ := n_; (try clear hb)))
   go_ret
   exact ⟨rq, bq2 HB.out GE482.out GE483.out⟩
 replace c6 := Bool.eq_false_iff.mpr c6
 subst c6
 replace H : (some false) = some r := by rw [if_neg (show ¬ (false = true) by decide)] at H; exact H
 obtain rfl := Option.some.inj H
 go_enter Try.func130, Try.ntmps130
 go_wp2_with (first | ((with_reducible refine gate_dst (N := 2) rfl ?_); refine bxe 2 #[.slice A0_0 l0_0.length c0_0, .int .i64 a0_1, .int .i64 a0_2, .string a0_3, .slice A0_4 l0_4.length c0_4] 116 ?_; intro gb482 hg w13 hbox hb; have n_ := ak4 (below_step (bq HB.out) hb) hbox ((by rw [hg]; exact (below_size (bq HB.out)) : w.heap.size ≤ gb482)) ((by rw [hg]; exact (below_size (bq HB.out)) : w.heap.size ≤ gb482)); clear HB; obtain ⟨HB, BK482, GW482, GE482⟩ := n_; clear hb hbox hg) | ((with_reducible refine gate_dst (N := 3) rfl ?_); refine bxe 3 #[.slice A1_0 l1_0.length c1_0, .int .i64 a1_1, .int .i64 a1_2, .string a1_3, .slice A1_4 l1_4.length c1_4] 116 ?_; intro gb483 hg w14 hbox hb; have n_ := ak7 (blk_below (zb BK482.out) hb) (below_step (bq1 HB.out GE482.out) hb) hbox ((by rw [hg]; exact (below_size (bq1 HB.out GE482.out)) : w.heap.size ≤ gb483)) ((by rw [hg]; exact (below_size (bq1 HB.out GE482.out)) : w.heap.size ≤ gb483)) ((nlt hg (zb BK482.out) : gb482 ≠ gb483)) ((ngt hg (zb BK482.out) : gb483 ≠ gb482)); clear BK482 HB; obtain ⟨BK482, HB, BK483, GW483, GE483, NB482_483, NB483_482⟩ := n_; clear hb hbox hg; have hnb15 := NB482_483.out; have hnc15 := NB483_482.out; obtain ⟨hcz16_0, hcz16_1, hcz16_2, hcz16_3, hcz16_4, hfz16_0, hfz16_1, hfz16_2, hfz16_3, hfz16_4⟩ := cl5 BK482.out; obtain ⟨hcz17_0, hcz17_1, hcz17_2, hcz17_3, hcz17_4, hfz17_0, hfz17_1, hfz17_2, hfz17_3, hfz17_4⟩ := cl5 BK483.out) | ((with_reducible refine gate_callee (f := 72) rfl ?_); refine goesL_ (some 9) rfl rfl Try.func72 (by kernel_rfl) rfl #[.slice A0_0 l0_0.length c0_0, .slice A1_0 l1_0.length c1_0] rfl ga ?_; (with_reducible refine (laws_eqIntS.calls k _ _ l0_0 _ _ l1_0 true _ ?side1 ?side2 ?side3 ?side4 A3.out).mono ?_); (case side1 => exact cq (Kd.C_below HR0_0.out HB.out)); (case side2 => exact HC0_0.out); (case side3 => exact cq (Kd.C_below HR1_0.out HB.out)); (case side4 => exact HC1_0.out); rintro e w' ⟨rfl, ⟨nd, rfl⟩⟩; refine ⟨_, rfl, ?_⟩) | ((with_reducible refine gate_callee (f := 19) rfl ?_); refine goesL_ (some 15) rfl rfl Try.func19 (by kernel_rfl) rfl #[.agg #[.int .i64 a0_1, .int .i64 a0_2, .string a0_3, .slice A0_4 l0_4.length c0_4], .agg #[.int .i64 a1_1, .int .i64 a1_2, .string a1_3, .slice A1_4 l1_4.length c1_4]] rfl ga ?_; (with_reducible refine (laws_eqVal.calls k a0_1 a0_2 a0_3 _ _ l0_4 a1_1 a1_2 a1_3 _ _ l1_4 false _ ?side1 ?side2 ?side3 ?side4 A5.out).mono ?_); (case side1 => repeat (first | exact (Kd.C_below HR0_4.out (bq2 HB.out GE482.out GE483.out)) | (with_reducible refine Kd.C_alloc ?_ _) | (with_reducible refine Kd.C_drewN ?_ _) | (with_reducible refine Kd.C_drew ?_))); (case side2 => exact HC0_4.out); (case side3 => repeat (first | exact (Kd.C_below HR1_4.out (bq2 HB.out GE482.out GE483.out)) | (with_reducible refine Kd.C_alloc ?_ _) | (with_reducible refine Kd.C_drewN ?_ _) | (with_reducible refine Kd.C_drew ?_))); (case side4 => exact HC1_4.out); rintro e w18 ⟨rfl, hb⟩; refine ⟨_, rfl, ?_⟩; have n_ := ak3 (blk_below (zb BK482.out) hb) (blk_below (zb BK483.out) hb) (below_step (bq2 HB.out GE482.out GE483.out) hb); clear BK482 BK483 HB; obtain ⟨BK482, BK483, HB⟩ := n_; (try clear hb)))
 go_ret
 exact ⟨rq, bq2 HB.out GE482.out GE483.out⟩

/-! ### laws_eqBindS: function 101 -/
def laws_eqBindS.l0 : Nat → List (S116) → List (S116) → Int → Option (Bool)
 | 0, _, _, _ => none
 | k + 1, x0, x1, x5 => if x5 < (x0.length : Int) then (if 0 ≤ x5 then (if x5 < (x1.length : Int) then ((laws_eqBind.f k ((rd_T116 x0 x5).f0) ((rd_T116 x0 x5).f1.f0) ((rd_T116 x0 x5).f1.f1) ((rd_T116 x0 x5).f1.f2) ((rd_T116 x0 x5).f1.f3) ((rd_T116 x1 x5).f0) ((rd_T116 x1 x5).f1.f0) ((rd_T116 x1 x5).f1.f1) ((rd_T116 x1 x5).f1.f2) ((rd_T116 x1 x5).f1.f3)).bind fun t488 => (if t488 = true then (laws_eqBindS.l0 k x0 x1 (wrap64 (x5 + 1))) else (some false))) else (none)) else (none)) else (some true)
def laws_eqBindS.f (k : Nat) (l0 : List (S116)) (l1 : List (S116)) : Option (Bool) := if (l0.length : Int) = (l1.length : Int) then (laws_eqBindS.l0 k l0 l1 0) else (some false)
theorem laws_eqBindS.mono_l : ∀ k, (∀ y0 y1 y2, LeO (laws_eqBindS.l0 k y0 y1 y2) (laws_eqBindS.l0 (k + 1) y0 y1 y2))
 | 0 => fun _ _ _ r h => by simp [laws_eqBindS.l0] at h
 | k + 1 => by
  have ih0 := laws_eqBindS.mono_l k
  intro y0 y1 y2
  unfold laws_eqBindS.l0
  repeat' first
  | (with_reducible exact ih0 _ _ _)
  | (with_reducible exact laws_eqBind.mono _ _ _ _ _ _ _ _ _ _ _)
  | (with_reducible exact LeO.refl _)
  | (with_reducible exact LeO.none _)
  | (with_reducible refine LeO.ite ?_ ?_)
  | (with_reducible refine LeO.bind ?_ (fun _ => ?_))
  | exact ih0 _ _ _
  | exact laws_eqBind.mono _ _ _ _ _ _ _ _ _ _ _
  | exact LeO.none _
  | refine LeO.ite ?_ ?_
  | refine LeO.bind ?_ (fun _ => ?_)
theorem laws_eqBindS.mono : ∀ a0 a1 k, LeO (laws_eqBindS.f k a0 a1) (laws_eqBindS.f (k + 1) a0 a1) := by
 intro a0 a1 k
 have ih0 := laws_eqBindS.mono_l k
 unfold laws_eqBindS.f
 repeat' first
  | (with_reducible exact ih0 _ _ _)
  | (with_reducible exact laws_eqBind.mono _ _ _ _ _ _ _ _ _ _ _)
  | (with_reducible exact LeO.refl _)
  | (with_reducible exact LeO.none _)
  | (with_reducible refine LeO.ite ?_ ?_)
  | (with_reducible refine LeO.bind ?_ (fun _ => ?_))
  | exact ih0 _ _ _
  | exact laws_eqBind.mono _ _ _ _ _ _ _ _ _ _ _
  | exact LeO.none _
  | refine LeO.ite ?_ ?_
  | refine LeO.bind ?_ (fun _ => ?_)
def laws_eqBindS.T6 : Bool × List (List Nat × List Nat) := (true, [([], []), ([], []), ([0, 1], [0, 1]), ([2], [2]), ([], []), ([], []), ([4, 5], [4, 5]), ([6], [6]), ([3, 7], [3, 7]), ([8], [8])])
def laws_eqBindS.B6 : List Nat := [0, 0, 3, 7, 0, 0, 48, 112, 255, 511]
theorem laws_eqBindS.tab6 : rtab .any (opsOf Try.f101 6) = laws_eqBindS.T6 := by kernel_rfl
theorem laws_eqBindS.bits6 : waitsOk laws_eqBindS.T6.2 laws_eqBindS.B6 = true := by kernel_rfl
set_option maxHeartbeats 8000000 in
set_option maxRecDepth 100000 in
theorem laws_eqBindS.calls (k : Nat) (A0 : Option Addr) (c0 : Nat) (l0 : List (S116)) (A1 : Option Addr) (c1 : Nat) (l1 : List (S116)) (r : Bool) (w : World) (hr0 : Kd.C k116 w A0 l0.length l0) (hc0 : l0.length ≤ c0) (hr1 : Kd.C k116 w A1 l1.length l1) (hc1 : l1.length ≤ c1) (h : laws_eqBindS.f k l0 l1 = some r) :
 Calls Try.prog 101 #[.slice A0 l0.length c0, .slice A1 l1.length c1] w fun e w' => e = .returned (.bool r) ∧ Below w.heap.size w w' := by
 have hu116 := Try.underlying116
 have HR0 := am hr0
 have HC0 := am hc0
 clear hr0 hc0
 have HR1 := am hr1
 have HC1 := am hc1
 clear hr1 hc1
 have HB := am (Below.refl w.heap.size w)
 have H : (if (l0.length : Int) = (l1.length : Int) then (laws_eqBindS.l0 k l0 l1 0) else (some false)) = some r := h
 clear h
 by_cases c3 : (l0.length : Int) = (l1.length : Int)
 rotate_left
 · rw [if_neg c3] at H
   have c3b0 : ((l0.length : Int) == (l1.length : Int)) = false := beq_eq_false_iff_ne.mpr c3
   have c3b1 : ((l0.length : Int) != (l1.length : Int)) = true := bne_iff_ne.mpr c3
   have c3b2 : (l0.length == l1.length) = false := by first | simpa using c3 | (simp at c3 ⊢; omega)
   obtain rfl := Option.some.inj H
   go_enter Try.func101, Try.ntmps101
   go_wp2
   go_ret
   exact ⟨rq, bq HB.out⟩
 rw [if_pos c3] at H
 have c3b0 : ((l0.length : Int) == (l1.length : Int)) = true := beq_iff_eq.mpr c3
 have c3b1 : ((l0.length : Int) != (l1.length : Int)) = false := bne_eq_false_iff_eq.mpr c3
 have c3b2 : (l0.length == l1.length) = true := by first | simpa using c3 | (simp at c3 ⊢; omega)
 clear c3
 have H' := am H
 clear H
 go_enter Try.func101, Try.ntmps101
 go_wp2
 go_loopg [5] k (fun kq v5 w' => ∃ (x5_1 : Int), v5 = .int .i64 x5_1 ∧ Aside0 (laws_eqBindS.l0 kq l0 l1 x5_1 = some r) ∧ Aside0 (kq ≤ k) ∧ Aside0 (Below w.heap.size w w'))
 case atStart => exact ⟨(0), sq, H', ⟨Nat.le_refl _⟩, ⟨bq HB.out⟩⟩
 case round =>
  clear H'
  try clear c1
  try clear p2
  try clear c3
  try clear c3b0
  try clear c3b1
  try clear c3b2
  obtain ⟨x5_1, rfl, HA, HK1, HB⟩ := hrel
  cases gk with
  | zero => exact absurd HA.out (by simp [laws_eqBindS.l0])
  | succ k1 =>
   have H := HA.out
   clear HA
   simp only [laws_eqBindS.l0] at H
   by_cases c4 : x5_1 < (l0.length : Int)
   rotate_left
   · rw [if_neg c4] at H
     have c4b0 : decide (x5_1 < (l0.length : Int)) = false := decide_eq_false c4
     clear c4
     obtain rfl := Option.some.inj H
     go_wp2
     go_ret
     exact ⟨rq, bq HB.out⟩
   rw [if_pos c4] at H
   have c4b0 : decide (x5_1 < (l0.length : Int)) = true := decide_eq_true c4
   clear c4
   by_cases c5 : 0 ≤ x5_1
   rotate_left
   · rw [if_neg c5] at H
     exact absurd H (by simp)
   rw [if_pos c5] at H
   have c5b0 : decide (0 ≤ x5_1) = true := decide_eq_true c5
   clear c5
   by_cases c6 : x5_1 < (l1.length : Int)
   rotate_left
   · rw [if_neg c6] at H
     exact absurd H (by simp)
   rw [if_pos c6] at H
   have c6b0 : decide (x5_1 < (l1.length : Int)) = true := decide_eq_true c6
   clear c6
   replace H := Option.bind_eq_some_iff.mp H
   obtain ⟨t488, A70, H⟩ := H
   replace H : (if t488 = true then (laws_eqBindS.l0 k1 l0 l1 (wrap64 (x5_1 + 1))) else (some false)) = some r := H
   have A7 := am A70
   clear A70
   by_cases c8 : t488 = true
   rotate_left
   · replace c8 := Bool.eq_false_iff.mpr c8
     subst c8
     replace H : (some false) = some r := by rw [if_neg (show ¬ (false = true) by decide)] at H; exact H
     obtain rfl := Option.some.inj H
     try go_wp2
     replace HB := am (below_drew1 HB.out)
     have p486 : 0 ≤ (x5_1 : Int) := oda
     have q486 : x5_1 < (l0.length : Int) := oda
     obtain ⟨ad486, A486_0, c486_0, A486_4, c486_4, e486, hx486_0, hx486_1, hx486_2, hx486_3, hx486_4, hl486_0, hi486_0, hl486_4, hi486_4⟩ := at_T116 HR0.out x5_1 p486 q486
     have hw486_4 := hx486_4
     have hw486_3 := hx486_3
     have hw486_2 := hx486_2
     have hw486_1 := hx486_1
     have hw486_0 := hx486_0
     cases e486
     replace hx486_0 := (HB.out.cell (World.block_lt_of_cell? w _ hx486_0)).trans hx486_0
     replace hx486_1 := (HB.out.cell (World.block_lt_of_cell? w _ hx486_1)).trans hx486_1
     replace hx486_2 := (HB.out.cell (World.block_lt_of_cell? w _ hx486_2)).trans hx486_2
     replace hx486_3 := (HB.out.cell (World.block_lt_of_cell? w _ hx486_3)).trans hx486_3
     replace hx486_4 := (HB.out.cell (World.block_lt_of_cell? w _ hx486_4)).trans hx486_4
     have HR486_0 := am hi486_0
     have HC486_0 := am hl486_0
     clear hi486_0 hl486_0
     have HR486_4 := am hi486_4
     have HC486_4 := am hl486_4
     clear hi486_4 hl486_4
     replace p486 := eq_true p486
     replace q486 := eq_true q486
     have p487 : 0 ≤ (x5_1 : Int) := oda
     have q487 : x5_1 < (l1.length : Int) := oda
     obtain ⟨ad487, A487_0, c487_0, A487_4, c487_4, e487, hx487_0, hx487_1, hx487_2, hx487_3, hx487_4, hl487_0, hi487_0, hl487_4, hi487_4⟩ := at_T116 HR1.out x5_1 p487 q487
     have hw487_4 := hx487_4
     have hw487_3 := hx487_3
     have hw487_2 := hx487_2
     have hw487_1 := hx487_1
     have hw487_0 := hx487_0
     cases e487
     replace hx487_0 := (HB.out.cell (World.block_lt_of_cell? w _ hx487_0)).trans hx487_0
     replace hx487_1 := (HB.out.cell (World.block_lt_of_cell? w _ hx487_1)).trans hx487_1
     replace hx487_2 := (HB.out.cell (World.block_lt_of_cell? w _ hx487_2)).trans hx487_2
     replace hx487_3 := (HB.out.cell (World.block_lt_of_cell? w _ hx487_3)).trans hx487_3
     replace hx487_4 := (HB.out.cell (World.block_lt_of_cell? w _ hx487_4)).trans hx487_4
     have HR487_0 := am hi487_0
     have HC487_0 := am hl487_0
     clear hi487_0 hl487_0
     have HR487_4 := am hi487_4
     have HC487_4 := am hl487_4
     clear hi487_4 hl487_4
     replace p487 := eq_true p487
     replace q487 := eq_true q487
     refine start_ (n := 10) (S := fun w' => w'.cell? (ad486.add ((x5_1).toNat * 5)) = some (.slice A486_0 ((rd_T116 l0 x5_1).f0).length c486_0) ∧ w'.cell? ⟨(ad486.add ((x5_1).toNat * 5)).block, (ad486.add ((x5_1).toNat * 5)).off + 1, none⟩ = some (.int .i64 ((rd_T116 l0 x5_1).f1.f0)) ∧ w'.cell? ⟨(ad486.add ((x5_1).toNat * 5)).block, (ad486.add ((x5_1).toNat * 5)).off + 2, none⟩ = some (.int .i64 ((rd_T116 l0 x5_1).f1.f1)) ∧ w'.cell? ⟨(ad486.add ((x5_1).toNat * 5)).block, (ad486.add ((x5_1).toNat * 5)).off + 3, none⟩ = some (.string ((rd_T116 l0 x5_1).f1.f2)) ∧ w'.cell? ⟨(ad486.add ((x5_1).toNat * 5)).block, (ad486.add ((x5_1).toNat * 5)).off + 4, none⟩ = some (.slice A486_4 ((rd_T116 l0 x5_1).f1.f3).length c486_4) ∧ w'.cell? (ad487.add ((x5_1).toNat * 5)) = some (.slice A487_0 ((rd_T116 l1 x5_1).f0).length c487_0) ∧ w'.cell? ⟨(ad487.add ((x5_1).toNat * 5)).block, (ad487.add ((x5_1).toNat * 5)).off + 1, none⟩ = some (.int .i64 ((rd_T116 l1 x5_1).f1.f0)) ∧ w'.cell? ⟨(ad487.add ((x5_1).toNat * 5)).block, (ad487.add ((x5_1).toNat * 5)).off + 2, none⟩ = some (.int .i64 ((rd_T116 l1 x5_1).f1.f1)) ∧ w'.cell? ⟨(ad487.add ((x5_1).toNat * 5)).block, (ad487.add ((x5_1).toNat * 5)).off + 3, none⟩ = some (.string ((rd_T116 l1 x5_1).f1.f2)) ∧ w'.cell? ⟨(ad487.add ((x5_1).toNat * 5)).block, (ad487.add ((x5_1).toNat * 5)).off + 4, none⟩ = some (.slice A487_4 ((rd_T116 l1 x5_1).f1.f3).length c487_4)) (ds := []) #[false, false, false, false, false, false, false, false, false, false] (by kernel_rfl) rfl rfl ⟨((HB.out.cell (World.block_lt_of_cell? w _ hw486_0)).trans hw486_0), ((HB.out.cell (World.block_lt_of_cell? w _ hw486_1)).trans hw486_1), ((HB.out.cell (World.block_lt_of_cell? w _ hw486_2)).trans hw486_2), ((HB.out.cell (World.block_lt_of_cell? w _ hw486_3)).trans hw486_3), ((HB.out.cell (World.block_lt_of_cell? w _ hw486_4)).trans hw486_4), ((HB.out.cell (World.block_lt_of_cell? w _ hw487_0)).trans hw487_0), ((HB.out.cell (World.block_lt_of_cell? w _ hw487_1)).trans hw487_1), ((HB.out.cell (World.block_lt_of_cell? w _ hw487_2)).trans hw487_2), ((HB.out.cell (World.block_lt_of_cell? w _ hw487_3)).trans hw487_3), ((HB.out.cell (World.block_lt_of_cell? w _ hw487_4)).trans hw487_4)⟩ (fun hHeld => ?_); refine with_tabW laws_eqBindS.tab6 laws_eqBindS.bits6 (fun HT_ HW_ => ?_)
     generalize wr.drew = w11 at HB HR486_0 HR486_4 HR487_0 HR487_4 hx486_0 hx486_1 hx486_2 hx486_3 hx486_4 hx487_0 hx487_1 hx487_2 hx487_3 hx487_4 hHeld ⊢
     refine pu 0 (some 17) #[true, false, false, false, false, false, false, false, false, false] rfl rfl (any_of HT_.out (by kernel_rfl)) (Or.inl ⟨by rfl, by intro w'; go_simp; with_reducible rfl⟩) ?_
     refine pu 1 (some 18) #[true, true, false, false, false, false, false, false, false, false] rfl rfl (any_of HT_.out (by kernel_rfl)) (Or.inl ⟨by rfl, by intro w'; go_simp; with_reducible rfl⟩) ?_
     refine pu 2 (some 19) #[true, true, true, false, false, false, false, false, false, false] rfl rfl (any_of HT_.out (by kernel_rfl)) (Or.inl ⟨by rfl, by intro w'; go_simp; with_reducible rfl⟩) ?_
     refine pu 4 (some 21) #[true, true, true, false, true, false, false, false, false, false] rfl rfl (any_of HT_.out (by kernel_rfl)) (Or.inl ⟨by rfl, by intro w'; go_simp; with_reducible rfl⟩) ?_
     refine pu 5 (some 22) #[true, true, true, false, true, true, false, false, false, false] rfl rfl (any_of HT_.out (by kernel_rfl)) (Or.inl ⟨by rfl, by intro w'; go_simp; with_reducible rfl⟩) ?_
     refine pu 6 (some 23) #[true, true, true, false, true, true, true, false, false, false] rfl rfl (any_of HT_.out (by kernel_rfl)) (Or.inl ⟨by rfl, by intro w'; go_simp; with_reducible rfl⟩) ?_
     refine tk 3 (some 20) #[true, true, true, true, true, true, true, false, false, false] rfl rfl (take_ofW HT_.out HW_.out (by kernel_rfl)) hHeld (Or.inl ⟨by rfl, by rintro w' ⟨s0, s1, s2, s3, s4, s5, s6, s7, s8, s9⟩; go_simp; with_reducible rfl⟩) ?_
     refine tk 7 (some 24) #[true, true, true, true, true, true, true, true, false, false] rfl rfl (take_ofW HT_.out HW_.out (by kernel_rfl)) hHeld (Or.inl ⟨by rfl, by rintro w' ⟨s0, s1, s2, s3, s4, s5, s6, s7, s8, s9⟩; go_simp; with_reducible rfl⟩) ?_
     refine one_ (i := 8) (N := some 25) #[true, true, true, true, true, true, true, true, true, false] rfl rfl (one_of HT_.out (by kernel_rfl)) (by decide) (fun K hK => ?_)
     refine goes_ Try.func130 (by kernel_rfl) rfl #[.agg #[.slice A486_0 ((rd_T116 l0 x5_1).f0).length c486_0, .int .i64 ((rd_T116 l0 x5_1).f1.f0), .int .i64 ((rd_T116 l0 x5_1).f1.f1), .string ((rd_T116 l0 x5_1).f1.f2), .slice A486_4 ((rd_T116 l0 x5_1).f1.f3).length c486_4], .agg #[.slice A487_0 ((rd_T116 l1 x5_1).f0).length c487_0, .int .i64 ((rd_T116 l1 x5_1).f1.f0), .int .i64 ((rd_T116 l1 x5_1).f1.f1), .string ((rd_T116 l1 x5_1).f1.f2), .slice A487_4 ((rd_T116 l1 x5_1).f1.f3).length c487_4]] (by rfl) rfl rfl ga ?_
     with_reducible refine (laws_eqBind.calls k1 _ _ ((rd_T116 l0 x5_1).f0) ((rd_T116 l0 x5_1).f1.f0) ((rd_T116 l0 x5_1).f1.f1) ((rd_T116 l0 x5_1).f1.f2) _ _ ((rd_T116 l0 x5_1).f1.f3) _ _ ((rd_T116 l1 x5_1).f0) ((rd_T116 l1 x5_1).f1.f0) ((rd_T116 l1 x5_1).f1.f1) ((rd_T116 l1 x5_1).f1.f2) _ _ ((rd_T116 l1 x5_1).f1.f3) false _ ?side1 ?side2 ?side3 ?side4 ?side5 ?side6 ?side7 ?side8 A7.out).mono ?_
     (case side1 => exact cq (Kd.C_below HR486_0.out HB.out))
     (case side2 => exact HC486_0.out)
     (case side3 => exact cq (Kd.C_below HR486_4.out HB.out))
     (case side4 => exact HC486_4.out)
     (case side5 => exact cq (Kd.C_below HR487_0.out HB.out))
     (case side6 => exact HC487_0.out)
     (case side7 => exact cq (Kd.C_below HR487_4.out HB.out))
     (case side8 => exact HC487_4.out)
     rintro e w12 ⟨rfl, hb⟩
     refine ⟨_, rfl, ?_⟩
     replace HB := am (below_step (bq HB.out) hb)
     (try clear hb)
     refine hK.out _ _ ⟨((HB.out.cell (World.block_lt_of_cell? w _ hw486_0)).trans hw486_0), ((HB.out.cell (World.block_lt_of_cell? w _ hw486_1)).trans hw486_1), ((HB.out.cell (World.block_lt_of_cell? w _ hw486_2)).trans hw486_2), ((HB.out.cell (World.block_lt_of_cell? w _ hw486_3)).trans hw486_3), ((HB.out.cell (World.block_lt_of_cell? w _ hw486_4)).trans hw486_4), ((HB.out.cell (World.block_lt_of_cell? w _ hw487_0)).trans hw487_0), ((HB.out.cell (World.block_lt_of_cell? w _ hw487_1)).trans hw487_1), ((HB.out.cell (World.block_lt_of_cell? w _ hw487_2)).trans hw487_2), ((HB.out.cell (World.block_lt_of_cell? w _ hw487_3)).trans hw487_3), ((HB.out.cell (World.block_lt_of_cell? w _ hw487_4)).trans hw487_4)⟩ (fun hHeld => ?_)
     clear hK K
     refine norm_ (a' := ?_) ?_ ?_
     rotate_left
     · show Act.put _ (some 25) _ = _
       simp only [Act.put, List.setIfInBounds_toArray, List.set_cons_zero, List.set_cons_succ, i64_w, i32_w]
       rfl
     refine pu 9 (some 26) #[true, true, true, true, true, true, true, true, true, true] rfl rfl (any_of HT_.out (by kernel_rfl)) (Or.inl ⟨by rfl, by intro w'; go_simp; with_reducible rfl⟩) ?_
     refine done_ (done_of HT_.out (by kernel_rfl)) ?_
     try go_wp2
     go_ret
     exact ⟨rq, bq HB.out⟩
   subst c8
   replace H : (laws_eqBindS.l0 k1 l0 l1 (wrap64 (x5_1 + 1))) = some r := by rw [if_pos rfl] at H; exact H
   have H' := am H
   clear H
   try go_wp2
   replace HB := am (below_drew1 HB.out)
   have p486 : 0 ≤ (x5_1 : Int) := oda
   have q486 : x5_1 < (l0.length : Int) := oda
   obtain ⟨ad486, A486_0, c486_0, A486_4, c486_4, e486, hx486_0, hx486_1, hx486_2, hx486_3, hx486_4, hl486_0, hi486_0, hl486_4, hi486_4⟩ := at_T116 HR0.out x5_1 p486 q486
   have hw486_4 := hx486_4
   have hw486_3 := hx486_3
   have hw486_2 := hx486_2
   have hw486_1 := hx486_1
   have hw486_0 := hx486_0
   cases e486
   replace hx486_0 := (HB.out.cell (World.block_lt_of_cell? w _ hx486_0)).trans hx486_0
   replace hx486_1 := (HB.out.cell (World.block_lt_of_cell? w _ hx486_1)).trans hx486_1
   replace hx486_2 := (HB.out.cell (World.block_lt_of_cell? w _ hx486_2)).trans hx486_2
   replace hx486_3 := (HB.out.cell (World.block_lt_of_cell? w _ hx486_3)).trans hx486_3
   replace hx486_4 := (HB.out.cell (World.block_lt_of_cell? w _ hx486_4)).trans hx486_4
   have HR486_0 := am hi486_0
   have HC486_0 := am hl486_0
   clear hi486_0 hl486_0
   have HR486_4 := am hi486_4
   have HC486_4 := am hl486_4
   clear hi486_4 hl486_4
   replace p486 := eq_true p486
   replace q486 := eq_true q486
   have p487 : 0 ≤ (x5_1 : Int) := oda
   have q487 : x5_1 < (l1.length : Int) := oda
   obtain ⟨ad487, A487_0, c487_0, A487_4, c487_4, e487, hx487_0, hx487_1, hx487_2, hx487_3, hx487_4, hl487_0, hi487_0, hl487_4, hi487_4⟩ := at_T116 HR1.out x5_1 p487 q487
   have hw487_4 := hx487_4
   have hw487_3 := hx487_3
   have hw487_2 := hx487_2
   have hw487_1 := hx487_1
   have hw487_0 := hx487_0
   cases e487
   replace hx487_0 := (HB.out.cell (World.block_lt_of_cell? w _ hx487_0)).trans hx487_0
   replace hx487_1 := (HB.out.cell (World.block_lt_of_cell? w _ hx487_1)).trans hx487_1
   replace hx487_2 := (HB.out.cell (World.block_lt_of_cell? w _ hx487_2)).trans hx487_2
   replace hx487_3 := (HB.out.cell (World.block_lt_of_cell? w _ hx487_3)).trans hx487_3
   replace hx487_4 := (HB.out.cell (World.block_lt_of_cell? w _ hx487_4)).trans hx487_4
   have HR487_0 := am hi487_0
   have HC487_0 := am hl487_0
   clear hi487_0 hl487_0
   have HR487_4 := am hi487_4
   have HC487_4 := am hl487_4
   clear hi487_4 hl487_4
   replace p487 := eq_true p487
   replace q487 := eq_true q487
   refine start_ (n := 10) (S := fun w' => w'.cell? (ad486.add ((x5_1).toNat * 5)) = some (.slice A486_0 ((rd_T116 l0 x5_1).f0).length c486_0) ∧ w'.cell? ⟨(ad486.add ((x5_1).toNat * 5)).block, (ad486.add ((x5_1).toNat * 5)).off + 1, none⟩ = some (.int .i64 ((rd_T116 l0 x5_1).f1.f0)) ∧ w'.cell? ⟨(ad486.add ((x5_1).toNat * 5)).block, (ad486.add ((x5_1).toNat * 5)).off + 2, none⟩ = some (.int .i64 ((rd_T116 l0 x5_1).f1.f1)) ∧ w'.cell? ⟨(ad486.add ((x5_1).toNat * 5)).block, (ad486.add ((x5_1).toNat * 5)).off + 3, none⟩ = some (.string ((rd_T116 l0 x5_1).f1.f2)) ∧ w'.cell? ⟨(ad486.add ((x5_1).toNat * 5)).block, (ad486.add ((x5_1).toNat * 5)).off + 4, none⟩ = some (.slice A486_4 ((rd_T116 l0 x5_1).f1.f3).length c486_4) ∧ w'.cell? (ad487.add ((x5_1).toNat * 5)) = some (.slice A487_0 ((rd_T116 l1 x5_1).f0).length c487_0) ∧ w'.cell? ⟨(ad487.add ((x5_1).toNat * 5)).block, (ad487.add ((x5_1).toNat * 5)).off + 1, none⟩ = some (.int .i64 ((rd_T116 l1 x5_1).f1.f0)) ∧ w'.cell? ⟨(ad487.add ((x5_1).toNat * 5)).block, (ad487.add ((x5_1).toNat * 5)).off + 2, none⟩ = some (.int .i64 ((rd_T116 l1 x5_1).f1.f1)) ∧ w'.cell? ⟨(ad487.add ((x5_1).toNat * 5)).block, (ad487.add ((x5_1).toNat * 5)).off + 3, none⟩ = some (.string ((rd_T116 l1 x5_1).f1.f2)) ∧ w'.cell? ⟨(ad487.add ((x5_1).toNat * 5)).block, (ad487.add ((x5_1).toNat * 5)).off + 4, none⟩ = some (.slice A487_4 ((rd_T116 l1 x5_1).f1.f3).length c487_4)) (ds := []) #[false, false, false, false, false, false, false, false, false, false] (by kernel_rfl) rfl rfl ⟨((HB.out.cell (World.block_lt_of_cell? w _ hw486_0)).trans hw486_0), ((HB.out.cell (World.block_lt_of_cell? w _ hw486_1)).trans hw486_1), ((HB.out.cell (World.block_lt_of_cell? w _ hw486_2)).trans hw486_2), ((HB.out.cell (World.block_lt_of_cell? w _ hw486_3)).trans hw486_3), ((HB.out.cell (World.block_lt_of_cell? w _ hw486_4)).trans hw486_4), ((HB.out.cell (World.block_lt_of_cell? w _ hw487_0)).trans hw487_0), ((HB.out.cell (World.block_lt_of_cell? w _ hw487_1)).trans hw487_1), ((HB.out.cell (World.block_lt_of_cell? w _ hw487_2)).trans hw487_2), ((HB.out.cell (World.block_lt_of_cell? w _ hw487_3)).trans hw487_3), ((HB.out.cell (World.block_lt_of_cell? w _ hw487_4)).trans hw487_4)⟩ (fun hHeld => ?_); refine with_tabW laws_eqBindS.tab6 laws_eqBindS.bits6 (fun HT_ HW_ => ?_)
   generalize wr.drew = w9 at HB HR486_0 HR486_4 HR487_0 HR487_4 hx486_0 hx486_1 hx486_2 hx486_3 hx486_4 hx487_0 hx487_1 hx487_2 hx487_3 hx487_4 hHeld ⊢
   refine pu 0 (some 17) #[true, false, false, false, false, false, false, false, false, false] rfl rfl (any_of HT_.out (by kernel_rfl)) (Or.inl ⟨by rfl, by intro w'; go_simp; with_reducible rfl⟩) ?_
   refine pu 1 (some 18) #[true, true, false, false, false, false, false, false, false, false] rfl rfl (any_of HT_.out (by kernel_rfl)) (Or.inl ⟨by rfl, by intro w'; go_simp; with_reducible rfl⟩) ?_
   refine pu 2 (some 19) #[true, true, true, false, false, false, false, false, false, false] rfl rfl (any_of HT_.out (by kernel_rfl)) (Or.inl ⟨by rfl, by intro w'; go_simp; with_reducible rfl⟩) ?_
   refine pu 4 (some 21) #[true, true, true, false, true, false, false, false, false, false] rfl rfl (any_of HT_.out (by kernel_rfl)) (Or.inl ⟨by rfl, by intro w'; go_simp; with_reducible rfl⟩) ?_
   refine pu 5 (some 22) #[true, true, true, false, true, true, false, false, false, false] rfl rfl (any_of HT_.out (by kernel_rfl)) (Or.inl ⟨by rfl, by intro w'; go_simp; with_reducible rfl⟩) ?_
   refine pu 6 (some 23) #[true, true, true, false, true, true, true, false, false, false] rfl rfl (any_of HT_.out (by kernel_rfl)) (Or.inl ⟨by rfl, by intro w'; go_simp; with_reducible rfl⟩) ?_
   refine tk 3 (some 20) #[true, true, true, true, true, true, true, false, false, false] rfl rfl (take_ofW HT_.out HW_.out (by kernel_rfl)) hHeld (Or.inl ⟨by rfl, by rintro w' ⟨s0, s1, s2, s3, s4, s5, s6, s7, s8, s9⟩; go_simp; with_reducible rfl⟩) ?_
   refine tk 7 (some 24) #[true, true, true, true, true, true, true, true, false, false] rfl rfl (take_ofW HT_.out HW_.out (by kernel_rfl)) hHeld (Or.inl ⟨by rfl, by rintro w' ⟨s0, s1, s2, s3, s4, s5, s6, s7, s8, s9⟩; go_simp; with_reducible rfl⟩) ?_
   refine one_ (i := 8) (N := some 25) #[true, true, true, true, true, true, true, true, true, false] rfl rfl (one_of HT_.out (by kernel_rfl)) (by decide) (fun K hK => ?_)
   refine goes_ Try.func130 (by kernel_rfl) rfl #[.agg #[.slice A486_0 ((rd_T116 l0 x5_1).f0).length c486_0, .int .i64 ((rd_T116 l0 x5_1).f1.f0), .int .i64 ((rd_T116 l0 x5_1).f1.f1), .string ((rd_T116 l0 x5_1).f1.f2), .slice A486_4 ((rd_T116 l0 x5_1).f1.f3).length c486_4], .agg #[.slice A487_0 ((rd_T116 l1 x5_1).f0).length c487_0, .int .i64 ((rd_T116 l1 x5_1).f1.f0), .int .i64 ((rd_T116 l1 x5_1).f1.f1), .string ((rd_T116 l1 x5_1).f1.f2), .slice A487_4 ((rd_T116 l1 x5_1).f1.f3).length c487_4]] (by rfl) rfl rfl ga ?_
   with_reducible refine (laws_eqBind.calls k1 _ _ ((rd_T116 l0 x5_1).f0) ((rd_T116 l0 x5_1).f1.f0) ((rd_T116 l0 x5_1).f1.f1) ((rd_T116 l0 x5_1).f1.f2) _ _ ((rd_T116 l0 x5_1).f1.f3) _ _ ((rd_T116 l1 x5_1).f0) ((rd_T116 l1 x5_1).f1.f0) ((rd_T116 l1 x5_1).f1.f1) ((rd_T116 l1 x5_1).f1.f2) _ _ ((rd_T116 l1 x5_1).f1.f3) true _ ?side1 ?side2 ?side3 ?side4 ?side5 ?side6 ?side7 ?side8 A7.out).mono ?_
   (case side1 => exact cq (Kd.C_below HR486_0.out HB.out))
   (case side2 => exact HC486_0.out)
   (case side3 => exact cq (Kd.C_below HR486_4.out HB.out))
   (case side4 => exact HC486_4.out)
   (case side5 => exact cq (Kd.C_below HR487_0.out HB.out))
   (case side6 => exact HC487_0.out)
   (case side7 => exact cq (Kd.C_below HR487_4.out HB.out))
   (case side8 => exact HC487_4.out)
   rintro e w10 ⟨rfl, hb⟩
   refine ⟨_, rfl, ?_⟩
   replace HB := am (below_step (bq HB.out) hb)
   (try clear hb)
   refine hK.out _ _ ⟨((HB.out.cell (World.block_lt_of_cell? w _ hw486_0)).trans hw486_0), ((HB.out.cell (World.block_lt_of_cell? w _ hw486_1)).trans hw486_1), ((HB.out.cell (World.block_lt_of_cell? w _ hw486_2)).trans hw486_2), ((HB.out.cell (World.block_lt_of_cell? w _ hw486_3)).trans hw486_3), ((HB.out.cell (World.block_lt_of_cell? w _ hw486_4)).trans hw486_4), ((HB.out.cell (World.block_lt_of_cell? w _ hw487_0)).trans hw487_0), ((HB.out.cell (World.block_lt_of_cell? w _ hw487_1)).trans hw487_1), ((HB.out.cell (World.block_lt_of_cell? w _ hw487_2)).trans hw487_2), ((HB.out.cell (World.block_lt_of_cell? w _ hw487_3)).trans hw487_3), ((HB.out.cell (World.block_lt_of_cell? w _ hw487_4)).trans hw487_4)⟩ (fun hHeld => ?_)
   clear hK K
   refine norm_ (a' := ?_) ?_ ?_
   rotate_left
   · show Act.put _ (some 25) _ = _
     simp only [Act.put, List.setIfInBounds_toArray, List.set_cons_zero, List.set_cons_succ, i64_w, i32_w]
     rfl
   refine pu 9 (some 26) #[true, true, true, true, true, true, true, true, true, true] rfl rfl (any_of HT_.out (by kernel_rfl)) (Or.inl ⟨by rfl, by intro w'; go_simp; with_reducible rfl⟩) ?_
   refine done_ (done_of HT_.out (by kernel_rfl)) ?_
   try go_wp2
   go_roundg k1
   case measure => have := HK1.out; omega
   case rel => exact ⟨(wrap64 (x5_1 + 1)), sq, H', ⟨by have := HK1.out; omega⟩, ⟨bq HB.out⟩⟩

/-! ### laws_eqPdu: function 42 -/
def laws_eqPdu.f (k : Nat) (a0_0 : Int) (a0_1 : Int) (a0_2 : Int) (a0_3 : Int) (l0_4 : List (S116)) (a1_0 : Int) (a1_1 : Int) (a1_2 : Int) (a1_3 : Int) (l1_4 : List (S116)) : Option (Bool) := if a0_0 = a1_0 then (if a0_1 = a1_1 then (if a0_2 = a1_2 then (if a0_3 = a1_3 then ((laws_eqBindS.f k l0_4 l1_4).bind fun t491 => (if t491 = true then (some true) else (some false))) else (some false)) else (some false)) else (some false)) else (some false)
theorem laws_eqPdu.mono : ∀ a0 a1 a2 a3 a4 a5 a6 a7 a8 a9 k, LeO (laws_eqPdu.f k a0 a1 a2 a3 a4 a5 a6 a7 a8 a9) (laws_eqPdu.f (k + 1) a0 a1 a2 a3 a4 a5 a6 a7 a8 a9) := by
 intro a0 a1 a2 a3 a4 a5 a6 a7 a8 a9 k
 unfold laws_eqPdu.f
 repeat' first
  | (with_reducible exact laws_eqBindS.mono _ _ _)
  | (with_reducible exact LeO.refl _)
  | (with_reducible exact LeO.none _)
  | (with_reducible refine LeO.ite ?_ ?_)
  | (with_reducible refine LeO.bind ?_ (fun _ => ?_))
  | exact laws_eqBindS.mono _ _ _
  | exact LeO.none _
  | refine LeO.ite ?_ ?_
  | refine LeO.bind ?_ (fun _ => ?_)
set_option maxHeartbeats 8000000 in
set_option maxRecDepth 100000 in
theorem laws_eqPdu.calls (k : Nat) (a0_0 : Int) (a0_1 : Int) (a0_2 : Int) (a0_3 : Int) (A0_4 : Option Addr) (c0_4 : Nat) (l0_4 : List (S116)) (a1_0 : Int) (a1_1 : Int) (a1_2 : Int) (a1_3 : Int) (A1_4 : Option Addr) (c1_4 : Nat) (l1_4 : List (S116)) (r : Bool) (w : World) (hr0_4 : Kd.C k116 w A0_4 l0_4.length l0_4) (hc0_4 : l0_4.length ≤ c0_4) (hr1_4 : Kd.C k116 w A1_4 l1_4.length l1_4) (hc1_4 : l1_4.length ≤ c1_4) (h : laws_eqPdu.f k a0_0 a0_1 a0_2 a0_3 l0_4 a1_0 a1_1 a1_2 a1_3 l1_4 = some r) :
 Calls Try.prog 42 #[.agg #[.int .i64 a0_0, .int .i64 a0_1, .int .i64 a0_2, .int .i64 a0_3, .slice A0_4 l0_4.length c0_4], .agg #[.int .i64 a1_0, .int .i64 a1_1, .int .i64 a1_2, .int .i64 a1_3, .slice A1_4 l1_4.length c1_4]] w fun e w' => e = .returned (.bool r) ∧ Below w.heap.size w w' := by
 have hu58 := Try.underlying58
 have HR0_4 := am hr0_4
 have HC0_4 := am hc0_4
 clear hr0_4 hc0_4
 have HR1_4 := am hr1_4
 have HC1_4 := am hc1_4
 clear hr1_4 hc1_4
 have HB := am (Below.refl w.heap.size w)
 have H : (if a0_0 = a1_0 then (if a0_1 = a1_1 then (if a0_2 = a1_2 then (if a0_3 = a1_3 then ((laws_eqBindS.f k l0_4 l1_4).bind fun t491 => (if t491 = true then (some true) else (some false))) else (some false)) else (some false)) else (some false)) else (some false)) = some r := h
 clear h
 by_cases c3 : a0_0 = a1_0
 rotate_left
 · rw [if_neg c3] at H
   have c3b0 : (a0_0 == a1_0) = false := beq_eq_false_iff_ne.mpr c3
   have c3b1 : (a0_0 != a1_0) = true := bne_iff_ne.mpr c3
   obtain rfl := Option.some.inj H
   go_enter Try.func42, Try.ntmps42
   go_wp2_with (first | ((with_reducible refine gate_dst (N := 2) rfl ?_); refine bxe 2 #[.int .i64 a0_0, .int .i64 a0_1, .int .i64 a0_2, .int .i64 a0_3, .slice A0_4 l0_4.length c0_4] 58 ?_; intro gb489 hg w36 hbox hb; have n_ := ak4 (below_step (bq HB.out) hb) hbox ((by rw [hg]; exact (below_size (bq HB.out)) : w.heap.size ≤ gb489)) ((by rw [hg]; exact (below_size (bq HB.out)) : w.heap.size ≤ gb489)); clear HB; obtain ⟨HB, BK489, GW489, GE489⟩ := n_; clear hb hbox hg) | ((with_reducible refine gate_dst (N := 3) rfl ?_); refine bxe 3 #[.int .i64 a1_0, .int .i64 a1_1, .int .i64 a1_2, .int .i64 a1_3, .slice A1_4 l1_4.length c1_4] 58 ?_; intro gb490 hg w37 hbox hb; have n_ := ak7 (blk_below (zb BK489.out) hb) (below_step (bq1 HB.out GE489.out) hb) hbox ((by rw [hg]; exact (below_size (bq1 HB.out GE489.out)) : w.heap.size ≤ gb490)) ((by rw [hg]; exact (below_size (bq1 HB.out GE489.out)) : w.heap.size ≤ gb490)) ((nlt hg (zb BK489.out) : gb489 ≠ gb490)) ((ngt hg (zb BK489.out) : gb490 ≠ gb489)); clear BK489 HB; obtain ⟨BK489, HB, BK490, GW490, GE490, NB489_490, NB490_489⟩ := n_; clear hb hbox hg; have hnb38 := NB489_490.out; have hnc38 := NB490_489.out; obtain ⟨hcz39_0, hcz39_1, hcz39_2, hcz39_3, hcz39_4, hfz39_0, hfz39_1, hfz39_2, hfz39_3, hfz39_4⟩ := cl5 BK489.out; obtain ⟨hcz40_0, hcz40_1, hcz40_2, hcz40_3, hcz40_4, hfz40_0, hfz40_1, hfz40_2, hfz40_3, hfz40_4⟩ := cl5 BK490.out))
   go_ret
   exact ⟨rq, bq2 HB.out GE489.out GE490.out⟩
 rw [if_pos c3] at H
 have c3b0 : (a0_0 == a1_0) = true := beq_iff_eq.mpr c3
 have c3b1 : (a0_0 != a1_0) = false := bne_eq_false_iff_eq.mpr c3
 clear c3
 by_cases c4 : a0_1 = a1_1
 rotate_left
 · rw [if_neg c4] at H
   have c4b0 : (a0_1 == a1_1) = false := beq_eq_false_iff_ne.mpr c4
   have c4b1 : (a0_1 != a1_1) = true := bne_iff_ne.mpr c4
   obtain rfl := Option.some.inj H
   go_enter Try.func42, Try.ntmps42
   go_wp2_with (first | ((with_reducible refine gate_dst (N := 2) rfl ?_); refine bxe 2 #[.int .i64 a0_0, .int .i64 a0_1, .int .i64 a0_2, .int .i64 a0_3, .slice A0_4 l0_4.length c0_4] 58 ?_; intro gb489 hg w31 hbox hb; have n_ := ak4 (below_step (bq HB.out) hb) hbox ((by rw [hg]; exact (below_size (bq HB.out)) : w.heap.size ≤ gb489)) ((by rw [hg]; exact (below_size (bq HB.out)) : w.heap.size ≤ gb489)); clear HB; obtain ⟨HB, BK489, GW489, GE489⟩ := n_; clear hb hbox hg) | ((with_reducible refine gate_dst (N := 3) rfl ?_); refine bxe 3 #[.int .i64 a1_0, .int .i64 a1_1, .int .i64 a1_2, .int .i64 a1_3, .slice A1_4 l1_4.length c1_4] 58 ?_; intro gb490 hg w32 hbox hb; have n_ := ak7 (blk_below (zb BK489.out) hb) (below_step (bq1 HB.out GE489.out) hb) hbox ((by rw [hg]; exact (below_size (bq1 HB.out GE489.out)) : w.heap.size ≤ gb490)) ((by rw [hg]; exact (below_size (bq1 HB.out GE489.out)) : w.heap.size ≤ gb490)) ((nlt hg (zb BK489.out) : gb489 ≠ gb490)) ((ngt hg (zb BK489.out) : gb490 ≠ gb489)); clear BK489 HB; obtain ⟨BK489, HB, BK490, GW490, GE490, NB489_490, NB490_489⟩ := n_; clear hb hbox hg; have hnb33 := NB489_490.out; have hnc33 := NB490_489.out; obtain ⟨hcz34_0, hcz34_1, hcz34_2, hcz34_3, hcz34_4, hfz34_0, hfz34_1, hfz34_2, hfz34_3, hfz34_4⟩ := cl5 BK489.out; obtain ⟨hcz35_0, hcz35_1, hcz35_2, hcz35_3, hcz35_4, hfz35_0, hfz35_1, hfz35_2, hfz35_3, hfz35_4⟩ := cl5 BK490.out))
   go_ret
   exact ⟨rq, bq2 HB.out GE489.out GE490.out⟩
 rw [if_pos c4] at H
 have c4b0 : (a0_1 == a1_1) = true := beq_iff_eq.mpr c4
 have c4b1 : (a0_1 != a1_1) = false := bne_eq_false_iff_eq.mpr c4
 clear c4
 by_cases c5 : a0_2 = a1_2
 rotate_left
 · rw [if_neg c5] at H
   have c5b0 : (a0_2 == a1_2) = false := beq_eq_false_iff_ne.mpr c5
   have c5b1 : (a0_2 != a1_2) = true := bne_iff_ne.mpr c5
   obtain rfl := Option.some.inj H
   go_enter Try.func42, Try.ntmps42
   go_wp2_with (first | ((with_reducible refine gate_dst (N := 2) rfl ?_); refine bxe 2 #[.int .i64 a0_0, .int .i64 a0_1, .int .i64 a0_2, .int .i64 a0_3, .slice A0_4 l0_4.length c0_4] 58 ?_; intro gb489 hg w26 hbox hb; have n_ := ak4 (below_step (bq HB.out) hb) hbox ((by rw [hg]; exact (below_size (bq HB.out)) : w.heap.size ≤ gb489)) ((by rw [hg]; exact (below_size (bq HB.out)) : w.heap.size ≤ gb489)); clear HB; obtain ⟨HB, BK489, GW489, GE489⟩ := n_; clear hb hbox hg) | ((with_reducible refine gate_dst (N := 3) rfl ?_); refine bxe 3 #[.int .i64 a1_0, .int .i64 a1_1, .int .i64 a1_2, .int .i64 a1_3, .slice A1_4 l1_4.length c1_4] 58 ?_; intro gb490 hg w27 hbox hb; have n_ := ak7 (blk_below (zb BK489.out) hb) (below_step (bq1 HB.out GE489.out) hb) hbox ((by rw [hg]; exact (below_size (bq1 HB.out GE489.out)) : w.heap.size ≤ gb490)) ((by rw [hg]; exact (below_size (bq1 HB.out GE489.out)) : w.heap.size ≤ gb490)) ((nlt hg (zb BK489.out) : gb489 ≠ gb490)) ((ngt hg (zb BK489.out) : gb490 ≠ gb489)); clear BK489 HB; obtain ⟨BK489, HB, BK490, GW490, GE490, NB489_490, NB490_489⟩ := n_; clear hb hbox hg; have hnb28 := NB489_490.out; have hnc28 := NB490_489.out; obtain ⟨hcz29_0, hcz29_1, hcz29_2, hcz29_3, hcz29_4, hfz29_0, hfz29_1, hfz29_2, hfz29_3, hfz29_4⟩ := cl5 BK489.out; obtain ⟨hcz30_0, hcz30_1, hcz30_2, hcz30_3, hcz30_4, hfz30_0, hfz30_1, hfz30_2, hfz30_3, hfz30_4⟩ := cl5 BK490.out))
   go_ret
   exact ⟨rq, bq2 HB.out GE489.out GE490.out⟩
 rw [if_pos c5] at H
 have c5b0 : (a0_2 == a1_2) = true := beq_iff_eq.mpr c5
 have c5b1 : (a0_2 != a1_2) = false := bne_eq_false_iff_eq.mpr c5
 clear c5
 by_cases c6 : a0_3 = a1_3
 rotate_left
 · rw [if_neg c6] at H
   have c6b0 : (a0_3 == a1_3) = false := beq_eq_false_iff_ne.mpr c6
   have c6b1 : (a0_3 != a1_3) = true := bne_iff_ne.mpr c6
   obtain rfl := Option.some.inj H
   go_enter Try.func42, Try.ntmps42
   go_wp2_with (first | ((with_reducible refine gate_dst (N := 2) rfl ?_); refine bxe 2 #[.int .i64 a0_0, .int .i64 a0_1, .int .i64 a0_2, .int .i64 a0_3, .slice A0_4 l0_4.length c0_4] 58 ?_; intro gb489 hg w21 hbox hb; have n_ := ak4 (below_step (bq HB.out) hb) hbox ((by rw [hg]; exact (below_size (bq HB.out)) : w.heap.size ≤ gb489)) ((by rw [hg]; exact (below_size (bq HB.out)) : w.heap.size ≤ gb489)); clear HB; obtain ⟨HB, BK489, GW489, GE489⟩ := n_; clear hb hbox hg) | ((with_reducible refine gate_dst (N := 3) rfl ?_); refine bxe 3 #[.int .i64 a1_0, .int .i64 a1_1, .int .i64 a1_2, .int .i64 a1_3, .slice A1_4 l1_4.length c1_4] 58 ?_; intro gb490 hg w22 hbox hb; have n_ := ak7 (blk_below (zb BK489.out) hb) (below_step (bq1 HB.out GE489.out) hb) hbox ((by rw [hg]; exact (below_size (bq1 HB.out GE489.out)) : w.heap.size ≤ gb490)) ((by rw [hg]; exact (below_size (bq1 HB.out GE489.out)) : w.heap.size ≤ gb490)) ((nlt hg (zb BK489.out) : gb489 ≠ gb490)) ((ngt hg (zb BK489.out) : gb490 ≠ gb489)); clear BK489 HB; obtain ⟨BK489, HB, BK490, GW490, GE490, NB489_490, NB490_489⟩ := n_; clear hb hbox hg; have hnb23 := NB489_490.out; have hnc23 := NB490_489.out; obtain ⟨hcz24_0, hcz24_1, hcz24_2, hcz24_3, hcz24_4, hfz24_0, hfz24_1, hfz24_2, hfz24_3, hfz24_4⟩ := cl5 BK489.out; obtain ⟨hcz25_0, hcz25_1, hcz25_2, hcz25_3, hcz25_4, hfz25_0, hfz25_1, hfz25_2, hfz25_3, hfz25_4⟩ := cl5 BK490.out))
   go_ret
   exact ⟨rq, bq2 HB.out GE489.out GE490.out⟩
 rw [if_pos c6] at H
 have c6b0 : (a0_3 == a1_3) = true := beq_iff_eq.mpr c6
 have c6b1 : (a0_3 != a1_3) = false := bne_eq_false_iff_eq.mpr c6
 clear c6
 replace H := Option.bind_eq_some_iff.mp H
 obtain ⟨t491, A70, H⟩ := H
 replace H : (if t491 = true then (some true) else (some false)) = some r := H
 have A7 := am A70
 clear A70
 by_cases c8 : t491 = true
 · subst c8
   replace H : (some true) = some r := by rw [if_pos rfl] at H; exact H
   obtain rfl := Option.some.inj H
   go_enter Try.func42, Try.ntmps42
   go_wp2_with (first | ((with_reducible refine gate_dst (N := 2) rfl ?_); refine bxe 2 #[.int .i64 a0_0, .int .i64 a0_1, .int .i64 a0_2, .int .i64 a0_3, .slice A0_4 l0_4.length c0_4] 58 ?_; intro gb489 hg w9 hbox hb; have n_ := ak4 (below_step (bq HB.out) hb) hbox ((by rw [hg]; exact (below_size (bq HB.out)) : w.heap.size ≤ gb489)) ((by rw [hg]; exact (below_size (bq HB.out)) : w.heap.size ≤ gb489)); clear HB; obtain ⟨HB, BK489, GW489, GE489⟩ := n_; clear hb hbox hg) | ((with_reducible refine gate_dst (N := 3) rfl ?_); refine bxe 3 #[.int .i64 a1_0, .int .i64 a1_1, .int .i64 a1_2, .int .i64 a1_3, .slice A1_4 l1_4.length c1_4] 58 ?_; intro gb490 hg w10 hbox hb; have n_ := ak7 (blk_below (zb BK489.out) hb) (below_step (bq1 HB.out GE489.out) hb) hbox ((by rw [hg]; exact (below_size (bq1 HB.out GE489.out)) : w.heap.size ≤ gb490)) ((by rw [hg]; exact (below_size (bq1 HB.out GE489.out)) : w.heap.size ≤ gb490)) ((nlt hg (zb BK489.out) : gb489 ≠ gb490)) ((ngt hg (zb BK489.out) : gb490 ≠ gb489)); clear BK489 HB; obtain ⟨BK489, HB, BK490, GW490, GE490, NB489_490, NB490_489⟩ := n_; clear hb hbox hg; have hnb11 := NB489_490.out; have hnc11 := NB490_489.out; obtain ⟨hcz12_0, hcz12_1, hcz12_2, hcz12_3, hcz12_4, hfz12_0, hfz12_1, hfz12_2, hfz12_3, hfz12_4⟩ := cl5 BK489.out; obtain ⟨hcz13_0, hcz13_1, hcz13_2, hcz13_3, hcz13_4, hfz13_0, hfz13_1, hfz13_2, hfz13_3, hfz13_4⟩ := cl5 BK490.out) | ((with_reducible refine gate_callee (f := 101) rfl ?_); refine goesL_ (some 29) rfl rfl Try.func101 (by kernel_rfl) rfl #[.slice A0_4 l0_4.length c0_4, .slice A1_4 l1_4.length c1_4] rfl ga ?_; (with_reducible refine (laws_eqBindS.calls k _ _ l0_4 _ _ l1_4 true _ ?side1 ?side2 ?side3 ?side4 A7.out).mono ?_); (case side1 => exact cq (Kd.C_below HR0_4.out HB.out)); (case side2 => exact HC0_4.out); (case side3 => exact cq (Kd.C_below HR1_4.out HB.out)); (case side4 => exact HC1_4.out); rintro e w14 ⟨rfl, hb⟩; refine ⟨_, rfl, ?_⟩; have n_ := ak3 (blk_below (zb BK489.out) hb) (blk_below (zb BK490.out) hb) (below_step (bq2 HB.out GE489.out GE490.out) hb); clear BK489 BK490 HB; obtain ⟨BK489, BK490, HB⟩ := n_; (try clear hb)))
   go_ret
   exact ⟨rq, bq2 HB.out GE489.out GE490.out⟩
 replace c8 := Bool.eq_false_iff.mpr c8
 subst c8
 replace H : (some false) = some r := by rw [if_neg (show ¬ (false = true) by decide)] at H; exact H
 obtain rfl := Option.some.inj H
 go_enter Try.func42, Try.ntmps42
 go_wp2_with (first | ((with_reducible refine gate_dst (N := 2) rfl ?_); refine bxe 2 #[.int .i64 a0_0, .int .i64 a0_1, .int .i64 a0_2, .int .i64 a0_3, .slice A0_4 l0_4.length c0_4] 58 ?_; intro gb489 hg w15 hbox hb; have n_ := ak4 (below_step (bq HB.out) hb) hbox ((by rw [hg]; exact (below_size (bq HB.out)) : w.heap.size ≤ gb489)) ((by rw [hg]; exact (below_size (bq HB.out)) : w.heap.size ≤ gb489)); clear HB; obtain ⟨HB, BK489, GW489, GE489⟩ := n_; clear hb hbox hg) | ((with_reducible refine gate_dst (N := 3) rfl ?_); refine bxe 3 #[.int .i64 a1_0, .int .i64 a1_1, .int .i64 a1_2, .int .i64 a1_3, .slice A1_4 l1_4.length c1_4] 58 ?_; intro gb490 hg w16 hbox hb; have n_ := ak7 (blk_below (zb BK489.out) hb) (below_step (bq1 HB.out GE489.out) hb) hbox ((by rw [hg]; exact (below_size (bq1 HB.out GE489.out)) : w.heap.size ≤ gb490)) ((by rw [hg]; exact (below_size (bq1 HB.out GE489.out)) : w.heap.size ≤ gb490)) ((nlt hg (zb BK489.out) : gb489 ≠ gb490)) ((ngt hg (zb BK489.out) : gb490 ≠ gb489)); clear BK489 HB; obtain ⟨BK489, HB, BK490, GW490, GE490, NB489_490, NB490_489⟩ := n_; clear hb hbox hg; have hnb17 := NB489_490.out; have hnc17 := NB490_489.out; obtain ⟨hcz18_0, hcz18_1, hcz18_2, hcz18_3, hcz18_4, hfz18_0, hfz18_1, hfz18_2, hfz18_3, hfz18_4⟩ := cl5 BK489.out; obtain ⟨hcz19_0, hcz19_1, hcz19_2, hcz19_3, hcz19_4, hfz19_0, hfz19_1, hfz19_2, hfz19_3, hfz19_4⟩ := cl5 BK490.out) | ((with_reducible refine gate_callee (f := 101) rfl ?_); refine goesL_ (some 29) rfl rfl Try.func101 (by kernel_rfl) rfl #[.slice A0_4 l0_4.length c0_4, .slice A1_4 l1_4.length c1_4] rfl ga ?_; (with_reducible refine (laws_eqBindS.calls k _ _ l0_4 _ _ l1_4 false _ ?side1 ?side2 ?side3 ?side4 A7.out).mono ?_); (case side1 => exact cq (Kd.C_below HR0_4.out HB.out)); (case side2 => exact HC0_4.out); (case side3 => exact cq (Kd.C_below HR1_4.out HB.out)); (case side4 => exact HC1_4.out); rintro e w20 ⟨rfl, hb⟩; refine ⟨_, rfl, ?_⟩; have n_ := ak3 (blk_below (zb BK489.out) hb) (blk_below (zb BK490.out) hb) (below_step (bq2 HB.out GE489.out GE490.out) hb); clear BK489 BK490 HB; obtain ⟨BK489, BK490, HB⟩ := n_; (try clear hb)))
 go_ret
 exact ⟨rq, bq2 HB.out GE489.out GE490.out⟩

end Go.Proofs.Ythhnfmbfgplelaa.XFnExactPutPdu
