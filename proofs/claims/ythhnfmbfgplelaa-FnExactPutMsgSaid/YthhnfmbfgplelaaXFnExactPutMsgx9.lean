/- The functions that one law reaches, as Lean functions, with their walks: printed by a program of this seat (wip/tools) out of the translation. -/
import Derived.Test.YthhnfmbfgplelaaXFnExactPutMsgx0
namespace Go.Proofs.Ythhnfmbfgplelaa.XFnExactPutMsg
open Go.RowKit Go.Proofs.YthhnfmbfgplelaaW.PrintWords Go.Proofs.YthhnfmbfgplelaaW.PrintLast Go.Proofs.YthhnfmbfgplelaaW.PrintMore
attribute [local go_sem] max2_int min2_int max_two min_two max_three min_three max_four min_four   -- for this text's walks alone
set_option linter.unusedVariables false
set_option linter.unusedSimpArgs false

/-! ### impl_SameOid: function 112 -/
def impl_SameOid.l0 : Nat → List Int → List Int → Int → Int → Option (Bool)
 | 0, _, _, _, _ => none
 | k + 1, x0, x1, x12, x13 => if x13 < x12 then (if 0 ≤ x13 then (if x13 < (x0.length : Int) then (if x13 < (x1.length : Int) then (if (rd x0 x13) = (rd x1 x13) then (impl_SameOid.l0 k x0 x1 x12 (wrap64 (x13 + 1))) else (some false)) else (none)) else (none)) else (none)) else (some true)
def impl_SameOid.f (k : Nat) (l0 : List Int) (l1 : List Int) : Option (Bool) := if (l0.length : Int) = (l1.length : Int) then (impl_SameOid.l0 k l0 l1 (l0.length : Int) 0) else (some false)
theorem impl_SameOid.mono_l : ∀ k, (∀ y0 y1 y2 y3, LeO (impl_SameOid.l0 k y0 y1 y2 y3) (impl_SameOid.l0 (k + 1) y0 y1 y2 y3))
 | 0 => fun _ _ _ _ r h => by simp [impl_SameOid.l0] at h
 | k + 1 => by
  have ih0 := impl_SameOid.mono_l k
  intro y0 y1 y2 y3
  unfold impl_SameOid.l0
  repeat' first
  | (with_reducible exact ih0 _ _ _ _)
  | (with_reducible exact LeO.refl _)
  | (with_reducible exact LeO.none _)
  | (with_reducible refine LeO.ite ?_ ?_)
  | (with_reducible refine LeO.bind ?_ (fun _ => ?_))
  | exact ih0 _ _ _ _
  | exact LeO.none _
  | refine LeO.ite ?_ ?_
  | refine LeO.bind ?_ (fun _ => ?_)
theorem impl_SameOid.mono : ∀ a0 a1 k, LeO (impl_SameOid.f k a0 a1) (impl_SameOid.f (k + 1) a0 a1) := by
 intro a0 a1 k
 have ih0 := impl_SameOid.mono_l k
 unfold impl_SameOid.f
 repeat' first
  | (with_reducible exact ih0 _ _ _ _)
  | (with_reducible exact LeO.refl _)
  | (with_reducible exact LeO.none _)
  | (with_reducible refine LeO.ite ?_ ?_)
  | (with_reducible refine LeO.bind ?_ (fun _ => ?_))
  | exact ih0 _ _ _ _
  | exact LeO.none _
  | refine LeO.ite ?_ ?_
  | refine LeO.bind ?_ (fun _ => ?_)
set_option maxHeartbeats 8000000 in
set_option maxRecDepth 100000 in
theorem impl_SameOid.calls (k : Nat) (A0 : Option Addr) (c0 : Nat) (l0 : List Int) (A1 : Option Addr) (c1 : Nat) (l1 : List Int) (r : Bool) (w : World) (hr0 : Kd.C (Kd.int .i64) w A0 l0.length l0) (hc0 : l0.length ≤ c0) (hr1 : Kd.C (Kd.int .i64) w A1 l1.length l1) (hc1 : l1.length ≤ c1) (h : impl_SameOid.f k l0 l1 = some r) :
 Calls Try.prog 112 #[.slice A0 l0.length c0, .slice A1 l1.length c1] w fun e w' => e = .returned (.bool r) ∧ Drawn0 w w' := by
 have HR0 := am hr0
 have HC0 := am hc0
 clear hr0 hc0
 have HR1 := am hr1
 have HC1 := am hc1
 clear hr1 hc1
 have H : (if (l0.length : Int) = (l1.length : Int) then (impl_SameOid.l0 k l0 l1 (l0.length : Int) 0) else (some false)) = some r := h
 clear h
 by_cases c3 : (l0.length : Int) = (l1.length : Int)
 rotate_left
 · rw [if_neg c3] at H
   have c3b0 : ((l0.length : Int) == (l1.length : Int)) = false := beq_eq_false_iff_ne.mpr c3
   have c3b1 : ((l0.length : Int) != (l1.length : Int)) = true := bne_iff_ne.mpr c3
   have c3b2 : (l0.length == l1.length) = false := by first | simpa using c3 | (simp at c3 ⊢; omega)
   obtain rfl := Option.some.inj H
   go_enter Try.func112, Try.ntmps112
   go_wp2
   repeat (go_quiet (fail); try go_wp2)
   go_ret
   exact ⟨by first | rfl | (simp; done) | (simp [*]; done), by repeat (first | exact Drawn0.refl _ | apply Drawn0.step)⟩
 rw [if_pos c3] at H
 have c3b0 : ((l0.length : Int) == (l1.length : Int)) = true := beq_iff_eq.mpr c3
 have c3b1 : ((l0.length : Int) != (l1.length : Int)) = false := bne_eq_false_iff_eq.mpr c3
 have c3b2 : (l0.length == l1.length) = true := by first | simpa using c3 | (simp at c3 ⊢; omega)
 clear c3
 have H' := am H
 clear H
 go_enter Try.func112, Try.ntmps112
 go_wp2
 repeat (go_quiet (fail); try go_wp2)
 go_loopg [13] k (fun kq v13 w' => ∃ (x13_1 : Int), v13 = .int .i64 x13_1 ∧ Aside0 (impl_SameOid.l0 kq l0 l1 (l0.length : Int) x13_1 = some r) ∧ Aside0 (kq ≤ k) ∧ Drawn0 w w')
 case atStart => exact ⟨(0), sq, H', ⟨Nat.le_refl _⟩, by repeat (first | exact Drawn0.refl _ | apply Drawn0.step)⟩
 case round =>
  clear H'
  try clear c1
  try clear p2
  try clear c3
  try clear c3b0
  try clear c3b1
  try clear c3b2
  obtain ⟨x13_1, rfl, HA, HK1, ⟨m1, rfl⟩⟩ := hrel
  cases gk with
  | zero => exact absurd HA.out (by simp [impl_SameOid.l0])
  | succ k1 =>
   have H := HA.out
   clear HA
   simp only [impl_SameOid.l0] at H
   by_cases c4 : x13_1 < (l0.length : Int)
   rotate_left
   · rw [if_neg c4] at H
     have c4b0 : decide (x13_1 < (l0.length : Int)) = false := decide_eq_false c4
     clear c4
     obtain rfl := Option.some.inj H
     go_wp2
     repeat (go_quiet (fail); try go_wp2)
     go_ret
     exact ⟨by first | rfl | (simp; done) | (simp [*]; done), by repeat (first | exact Drawn0.refl _ | apply Drawn0.step)⟩
   rw [if_pos c4] at H
   have c4b0 : decide (x13_1 < (l0.length : Int)) = true := decide_eq_true c4
   clear c4
   by_cases c5 : 0 ≤ x13_1
   rotate_left
   · rw [if_neg c5] at H
     exact absurd H (by simp)
   rw [if_pos c5] at H
   have c5b0 : decide (0 ≤ x13_1) = true := decide_eq_true c5
   clear c5
   by_cases c6 : x13_1 < (l0.length : Int)
   rotate_left
   · rw [if_neg c6] at H
     exact absurd H (by simp)
   rw [if_pos c6] at H
   have c6b0 : decide (x13_1 < (l0.length : Int)) = true := decide_eq_true c6
   clear c6
   by_cases c7 : x13_1 < (l1.length : Int)
   rotate_left
   · rw [if_neg c7] at H
     exact absurd H (by simp)
   rw [if_pos c7] at H
   have c7b0 : decide (x13_1 < (l1.length : Int)) = true := decide_eq_true c7
   clear c7
   by_cases c8 : (rd l0 x13_1) = (rd l1 x13_1)
   rotate_left
   · rw [if_neg c8] at H
     have c8b0 : ((rd l0 x13_1) == (rd l1 x13_1)) = false := beq_eq_false_iff_ne.mpr c8
     have c8b1 : ((rd l0 x13_1) != (rd l1 x13_1)) = true := bne_iff_ne.mpr c8
     obtain rfl := Option.some.inj H
     have p388 : 0 ≤ (x13_1 : Int) := oda
     have q388 : x13_1 < (l0.length : Int) := oda
     obtain ⟨ad388, e388, hx388_0⟩ := Kd.at_int HR0.out x13_1 p388 q388
     cases e388
     replace p388 := eq_true p388
     replace q388 := eq_true q388
     have p389 : 0 ≤ (x13_1 : Int) := oda
     have q389 : x13_1 < (l1.length : Int) := oda
     obtain ⟨ad389, e389, hx389_0⟩ := Kd.at_int HR1.out x13_1 p389 q389
     cases e389
     replace p389 := eq_true p389
     replace q389 := eq_true q389
     go_wp2
     repeat (go_quiet (fail); try go_wp2)
     go_ret
     exact ⟨by first | rfl | (simp; done) | (simp [*]; done), by repeat (first | exact Drawn0.refl _ | apply Drawn0.step)⟩
   rw [if_pos c8] at H
   have c8b0 : ((rd l0 x13_1) == (rd l1 x13_1)) = true := beq_iff_eq.mpr c8
   have c8b1 : ((rd l0 x13_1) != (rd l1 x13_1)) = false := bne_eq_false_iff_eq.mpr c8
   clear c8
   have H' := am H
   clear H
   have p388 : 0 ≤ (x13_1 : Int) := oda
   have q388 : x13_1 < (l0.length : Int) := oda
   obtain ⟨ad388, e388, hx388_0⟩ := Kd.at_int HR0.out x13_1 p388 q388
   cases e388
   replace p388 := eq_true p388
   replace q388 := eq_true q388
   have p389 : 0 ≤ (x13_1 : Int) := oda
   have q389 : x13_1 < (l1.length : Int) := oda
   obtain ⟨ad389, e389, hx389_0⟩ := Kd.at_int HR1.out x13_1 p389 q389
   cases e389
   replace p389 := eq_true p389
   replace q389 := eq_true q389
   go_wp2
   repeat (go_quiet (fail); try go_wp2)
   go_roundg k1
   case measure => have := HK1.out; omega
   case rel => exact ⟨(wrap64 (x13_1 + 1)), sq, H', ⟨by have := HK1.out; omega⟩, by repeat (first | exact Drawn0.refl _ | apply Drawn0.step)⟩

/-! ### impl_SameVal: function 49 -/
def impl_SameVal.f (k : Nat) (a0_0 : Int) (a0_1 : Int) (a0_2 : ByteArray) (l0_3 : List Int) (a1_0 : Int) (a1_1 : Int) (a1_2 : ByteArray) (l1_3 : List Int) : Option (Bool) := if a0_0 = a1_0 then (if a0_1 = a1_1 then (if a0_2.toList = a1_2.toList then ((impl_SameOid.f k l0_3 l1_3).bind fun t392 => (some t392)) else (some false)) else (some false)) else (some false)
theorem impl_SameVal.mono : ∀ a0 a1 a2 a3 a4 a5 a6 a7 k, LeO (impl_SameVal.f k a0 a1 a2 a3 a4 a5 a6 a7) (impl_SameVal.f (k + 1) a0 a1 a2 a3 a4 a5 a6 a7) := by
 intro a0 a1 a2 a3 a4 a5 a6 a7 k
 unfold impl_SameVal.f
 repeat' first
  | (with_reducible exact impl_SameOid.mono _ _ _)
  | (with_reducible exact LeO.refl _)
  | (with_reducible exact LeO.none _)
  | (with_reducible refine LeO.ite ?_ ?_)
  | (with_reducible refine LeO.bind ?_ (fun _ => ?_))
  | exact impl_SameOid.mono _ _ _
  | exact LeO.none _
  | refine LeO.ite ?_ ?_
  | refine LeO.bind ?_ (fun _ => ?_)
set_option maxHeartbeats 8000000 in
set_option maxRecDepth 100000 in
theorem impl_SameVal.calls (k : Nat) (a0_0 : Int) (a0_1 : Int) (a0_2 : ByteArray) (A0_3 : Option Addr) (c0_3 : Nat) (l0_3 : List Int) (a1_0 : Int) (a1_1 : Int) (a1_2 : ByteArray) (A1_3 : Option Addr) (c1_3 : Nat) (l1_3 : List Int) (r : Bool) (w : World) (hr0_3 : Kd.C (Kd.int .i64) w A0_3 l0_3.length l0_3) (hc0_3 : l0_3.length ≤ c0_3) (hr1_3 : Kd.C (Kd.int .i64) w A1_3 l1_3.length l1_3) (hc1_3 : l1_3.length ≤ c1_3) (h : impl_SameVal.f k a0_0 a0_1 a0_2 l0_3 a1_0 a1_1 a1_2 l1_3 = some r) :
 Calls Try.prog 49 #[.agg #[.int .i64 a0_0, .int .i64 a0_1, .string a0_2, .slice A0_3 l0_3.length c0_3], .agg #[.int .i64 a1_0, .int .i64 a1_1, .string a1_2, .slice A1_3 l1_3.length c1_3]] w fun e w' => e = .returned (.bool r) ∧ Below w.heap.size w w' := by
 have hu29 := Try.underlying29
 have HR0_3 := am hr0_3
 have HC0_3 := am hc0_3
 clear hr0_3 hc0_3
 have HR1_3 := am hr1_3
 have HC1_3 := am hc1_3
 clear hr1_3 hc1_3
 have HB := am (Below.refl w.heap.size w)
 have H : (if a0_0 = a1_0 then (if a0_1 = a1_1 then (if a0_2.toList = a1_2.toList then ((impl_SameOid.f k l0_3 l1_3).bind fun t392 => (some t392)) else (some false)) else (some false)) else (some false)) = some r := h
 clear h
 by_cases c3 : a0_0 = a1_0
 rotate_left
 · rw [if_neg c3] at H
   have c3b0 : (a0_0 == a1_0) = false := beq_eq_false_iff_ne.mpr c3
   have c3b1 : (a0_0 != a1_0) = true := bne_iff_ne.mpr c3
   obtain rfl := Option.some.inj H
   go_enter Try.func49, Try.ntmps49
   go_wp2_with (first | ((with_reducible refine gate_dst (N := 2) rfl ?_); refine bxe 2 #[.int .i64 a0_0, .int .i64 a0_1, .string a0_2, .slice A0_3 l0_3.length c0_3] 29 ?_; intro gb390 hg w22 hbox hb; have n_ := ak4 (below_step (bq HB.out) hb) hbox ((by rw [hg]; exact (below_size (bq HB.out)) : w.heap.size ≤ gb390)) ((by rw [hg]; exact (below_size (bq HB.out)) : w.heap.size ≤ gb390)); clear HB; obtain ⟨HB, BK390, GW390, GE390⟩ := n_; clear hb hbox hg) | ((with_reducible refine gate_dst (N := 3) rfl ?_); refine bxe 3 #[.int .i64 a1_0, .int .i64 a1_1, .string a1_2, .slice A1_3 l1_3.length c1_3] 29 ?_; intro gb391 hg w23 hbox hb; have n_ := ak7 (blk_below (zb BK390.out) hb) (below_step (bq1 HB.out GE390.out) hb) hbox ((by rw [hg]; exact (below_size (bq1 HB.out GE390.out)) : w.heap.size ≤ gb391)) ((by rw [hg]; exact (below_size (bq1 HB.out GE390.out)) : w.heap.size ≤ gb391)) ((nlt hg (zb BK390.out) : gb390 ≠ gb391)) ((ngt hg (zb BK390.out) : gb391 ≠ gb390)); clear BK390 HB; obtain ⟨BK390, HB, BK391, GW391, GE391, NB390_391, NB391_390⟩ := n_; clear hb hbox hg; have hnb24 := NB390_391.out; have hnc24 := NB391_390.out; obtain ⟨hcz25_0, hcz25_1, hcz25_2, hcz25_3, hfz25_0, hfz25_1, hfz25_2, hfz25_3⟩ := cl4 BK390.out; obtain ⟨hcz26_0, hcz26_1, hcz26_2, hcz26_3, hfz26_0, hfz26_1, hfz26_2, hfz26_3⟩ := cl4 BK391.out))
   go_ret
   exact ⟨rq, bq2 HB.out GE390.out GE391.out⟩
 rw [if_pos c3] at H
 have c3b0 : (a0_0 == a1_0) = true := beq_iff_eq.mpr c3
 have c3b1 : (a0_0 != a1_0) = false := bne_eq_false_iff_eq.mpr c3
 clear c3
 by_cases c4 : a0_1 = a1_1
 rotate_left
 · rw [if_neg c4] at H
   have c4b0 : (a0_1 == a1_1) = false := beq_eq_false_iff_ne.mpr c4
   have c4b1 : (a0_1 != a1_1) = true := bne_iff_ne.mpr c4
   obtain rfl := Option.some.inj H
   go_enter Try.func49, Try.ntmps49
   go_wp2_with (first | ((with_reducible refine gate_dst (N := 2) rfl ?_); refine bxe 2 #[.int .i64 a0_0, .int .i64 a0_1, .string a0_2, .slice A0_3 l0_3.length c0_3] 29 ?_; intro gb390 hg w17 hbox hb; have n_ := ak4 (below_step (bq HB.out) hb) hbox ((by rw [hg]; exact (below_size (bq HB.out)) : w.heap.size ≤ gb390)) ((by rw [hg]; exact (below_size (bq HB.out)) : w.heap.size ≤ gb390)); clear HB; obtain ⟨HB, BK390, GW390, GE390⟩ := n_; clear hb hbox hg) | ((with_reducible refine gate_dst (N := 3) rfl ?_); refine bxe 3 #[.int .i64 a1_0, .int .i64 a1_1, .string a1_2, .slice A1_3 l1_3.length c1_3] 29 ?_; intro gb391 hg w18 hbox hb; have n_ := ak7 (blk_below (zb BK390.out) hb) (below_step (bq1 HB.out GE390.out) hb) hbox ((by rw [hg]; exact (below_size (bq1 HB.out GE390.out)) : w.heap.size ≤ gb391)) ((by rw [hg]; exact (below_size (bq1 HB.out GE390.out)) : w.heap.size ≤ gb391)) ((nlt hg (zb BK390.out) : gb390 ≠ gb391)) ((ngt hg (zb BK390.out) : gb391 ≠ gb390)); clear BK390 HB; obtain ⟨BK390, HB, BK391, GW391, GE391, NB390_391, NB391_390⟩ := n_; clear hb hbox hg; have hnb19 := NB390_391.out; have hnc19 := NB391_390.out; obtain ⟨hcz20_0, hcz20_1, hcz20_2, hcz20_3, hfz20_0, hfz20_1, hfz20_2, hfz20_3⟩ := cl4 BK390.out; obtain ⟨hcz21_0, hcz21_1, hcz21_2, hcz21_3, hfz21_0, hfz21_1, hfz21_2, hfz21_3⟩ := cl4 BK391.out))
   go_ret
   exact ⟨rq, bq2 HB.out GE390.out GE391.out⟩
 rw [if_pos c4] at H
 have c4b0 : (a0_1 == a1_1) = true := beq_iff_eq.mpr c4
 have c4b1 : (a0_1 != a1_1) = false := bne_eq_false_iff_eq.mpr c4
 clear c4
 by_cases c5 : a0_2.toList = a1_2.toList
 rotate_left
 · rw [if_neg c5] at H
   have c5b0 : (a0_2.toList == a1_2.toList) = false := beq_eq_false_iff_ne.mpr c5
   have c5b1 : (a0_2.toList != a1_2.toList) = true := bne_iff_ne.mpr c5
   obtain rfl := Option.some.inj H
   go_enter Try.func49, Try.ntmps49
   go_wp2_with (first | ((with_reducible refine gate_dst (N := 2) rfl ?_); refine bxe 2 #[.int .i64 a0_0, .int .i64 a0_1, .string a0_2, .slice A0_3 l0_3.length c0_3] 29 ?_; intro gb390 hg w12 hbox hb; have n_ := ak4 (below_step (bq HB.out) hb) hbox ((by rw [hg]; exact (below_size (bq HB.out)) : w.heap.size ≤ gb390)) ((by rw [hg]; exact (below_size (bq HB.out)) : w.heap.size ≤ gb390)); clear HB; obtain ⟨HB, BK390, GW390, GE390⟩ := n_; clear hb hbox hg) | ((with_reducible refine gate_dst (N := 3) rfl ?_); refine bxe 3 #[.int .i64 a1_0, .int .i64 a1_1, .string a1_2, .slice A1_3 l1_3.length c1_3] 29 ?_; intro gb391 hg w13 hbox hb; have n_ := ak7 (blk_below (zb BK390.out) hb) (below_step (bq1 HB.out GE390.out) hb) hbox ((by rw [hg]; exact (below_size (bq1 HB.out GE390.out)) : w.heap.size ≤ gb391)) ((by rw [hg]; exact (below_size (bq1 HB.out GE390.out)) : w.heap.size ≤ gb391)) ((nlt hg (zb BK390.out) : gb390 ≠ gb391)) ((ngt hg (zb BK390.out) : gb391 ≠ gb390)); clear BK390 HB; obtain ⟨BK390, HB, BK391, GW391, GE391, NB390_391, NB391_390⟩ := n_; clear hb hbox hg; have hnb14 := NB390_391.out; have hnc14 := NB391_390.out; obtain ⟨hcz15_0, hcz15_1, hcz15_2, hcz15_3, hfz15_0, hfz15_1, hfz15_2, hfz15_3⟩ := cl4 BK390.out; obtain ⟨hcz16_0, hcz16_1, hcz16_2, hcz16_3, hfz16_0, hfz16_1, hfz16_2, hfz16_3⟩ := cl4 BK391.out))
   go_ret
   exact ⟨rq, bq2 HB.out GE390.out GE391.out⟩
 rw [if_pos c5] at H
 have c5b0 : (a0_2.toList == a1_2.toList) = true := beq_iff_eq.mpr c5
 have c5b1 : (a0_2.toList != a1_2.toList) = false := bne_eq_false_iff_eq.mpr c5
 clear c5
 replace H := Option.bind_eq_some_iff.mp H
 obtain ⟨t392, A60, H⟩ := H
 replace H : (some t392) = some r := H
 have A6 := am A60
 clear A60
 obtain rfl := Option.some.inj H
 go_enter Try.func49, Try.ntmps49
 go_wp2_with (first | ((with_reducible refine gate_dst (N := 2) rfl ?_); refine bxe 2 #[.int .i64 a0_0, .int .i64 a0_1, .string a0_2, .slice A0_3 l0_3.length c0_3] 29 ?_; intro gb390 hg w7 hbox hb; have n_ := ak4 (below_step (bq HB.out) hb) hbox ((by rw [hg]; exact (below_size (bq HB.out)) : w.heap.size ≤ gb390)) ((by rw [hg]; exact (below_size (bq HB.out)) : w.heap.size ≤ gb390)); clear HB; obtain ⟨HB, BK390, GW390, GE390⟩ := n_; clear hb hbox hg) | ((with_reducible refine gate_dst (N := 3) rfl ?_); refine bxe 3 #[.int .i64 a1_0, .int .i64 a1_1, .string a1_2, .slice A1_3 l1_3.length c1_3] 29 ?_; intro gb391 hg w8 hbox hb; have n_ := ak7 (blk_below (zb BK390.out) hb) (below_step (bq1 HB.out GE390.out) hb) hbox ((by rw [hg]; exact (below_size (bq1 HB.out GE390.out)) : w.heap.size ≤ gb391)) ((by rw [hg]; exact (below_size (bq1 HB.out GE390.out)) : w.heap.size ≤ gb391)) ((nlt hg (zb BK390.out) : gb390 ≠ gb391)) ((ngt hg (zb BK390.out) : gb391 ≠ gb390)); clear BK390 HB; obtain ⟨BK390, HB, BK391, GW391, GE391, NB390_391, NB391_390⟩ := n_; clear hb hbox hg; have hnb9 := NB390_391.out; have hnc9 := NB391_390.out; obtain ⟨hcz10_0, hcz10_1, hcz10_2, hcz10_3, hfz10_0, hfz10_1, hfz10_2, hfz10_3⟩ := cl4 BK390.out; obtain ⟨hcz11_0, hcz11_1, hcz11_2, hcz11_3, hfz11_0, hfz11_1, hfz11_2, hfz11_3⟩ := cl4 BK391.out) | (go_at_call 112; (with_reducible refine (impl_SameOid.calls k _ _ l0_3 _ _ l1_3 t392 _ ?side1 ?side2 ?side3 ?side4 A6.out).mono ?_); (case side1 => exact cq (Kd.C_below HR0_3.out HB.out)); (case side2 => exact HC0_3.out); (case side3 => exact cq (Kd.C_below HR1_3.out HB.out)); (case side4 => exact HC1_3.out); rintro e w' ⟨rfl, ⟨nd, rfl⟩⟩))
 go_ret
 exact ⟨rq, bq2 HB.out GE390.out GE391.out⟩

/-! ### impl_in: function 87 -/
def impl_in.f (a0 : Int) (a1 : Int) (a2 : Int) : Option (Bool) := if a0 ≥ a1 then (some (decide (a0 ≤ a2))) else (some false)
set_option maxHeartbeats 8000000 in
set_option maxRecDepth 100000 in
theorem impl_in.calls (a0 : Int) (a1 : Int) (a2 : Int) (r : Bool) (w : World) (h : impl_in.f a0 a1 a2 = some r) :
 Calls Try.prog 87 #[.int .i64 a0, .int .i64 a1, .int .i64 a2] w fun e w' => e = .returned (.bool r) ∧ Drawn0 w w' := by
 have H : (if a0 ≥ a1 then (some (decide (a0 ≤ a2))) else (some false)) = some r := h
 clear h
 by_cases c4 : a0 ≥ a1
 · rw [if_pos c4] at H
   have c4b0 : decide (a1 ≤ a0) = true := decide_eq_true c4
   clear c4
   obtain rfl := Option.some.inj H
   go_enter Try.func87, Try.ntmps87
   go_wp2
   go_ret
   exact ⟨by first | rfl | (simp; done) | (simp [*]; done), by repeat (first | exact Drawn0.refl _ | apply Drawn0.step)⟩
 rw [if_neg c4] at H
 have c4b0 : decide (a1 ≤ a0) = false := decide_eq_false c4
 clear c4
 obtain rfl := Option.some.inj H
 go_enter Try.func87, Try.ntmps87
 go_wp2
 go_ret
 exact ⟨by first | rfl | (simp; done) | (simp [*]; done), by repeat (first | exact Drawn0.refl _ | apply Drawn0.step)⟩

/-! ### impl_isInt: function 107 -/
def impl_isInt.f (a0 : Int) : Option (Bool) := (impl_in.f a0 (-2147483648) 2147483647).bind fun t393 => (some t393)
set_option maxHeartbeats 8000000 in
set_option maxRecDepth 100000 in
theorem impl_isInt.calls (a0 : Int) (r : Bool) (w : World) (h : impl_isInt.f a0 = some r) :
 Calls Try.prog 107 #[.int .i64 a0] w fun e w' => e = .returned (.bool r) ∧ Drawn0 w w' := by
 have H : ((impl_in.f a0 (-2147483648) 2147483647).bind fun t393 => (some t393)) = some r := h
 clear h
 replace H := Option.bind_eq_some_iff.mp H
 obtain ⟨t393, A20, H⟩ := H
 replace H : (some t393) = some r := H
 have A2 := am A20
 clear A20
 obtain rfl := Option.some.inj H
 go_enter Try.func107, Try.ntmps107
 go_wp2_with (first | ((with_reducible refine gate_callee (f := 87) rfl ?_); refine goesL_ (some 4) rfl rfl Try.func87 (by kernel_rfl) rfl #[.int .i64 a0, .int .i64 (-2147483648), .int .i64 2147483647] rfl ga ?_; (with_reducible refine (impl_in.calls a0 (-2147483648) 2147483647 t393 _ A2.out).mono ?_); rintro e w' ⟨rfl, ⟨nd, rfl⟩⟩; refine ⟨_, rfl, ?_⟩))
 go_ret
 exact ⟨by first | rfl | (simp; done) | (simp [*]; done), by repeat (first | exact Drawn0.refl _ | apply Drawn0.step)⟩

/-! ### impl_OidOk: function 108 -/
def impl_OidOk.l0 : Nat → List Int → List Int → Int → Int → Option (Bool)
 | 0, _, _, _, _ => none
 | k + 1, x0, x5, x6, x7 => if x7 < x6 then (if 0 ≤ x7 then (if x7 < (x5.length : Int) then ((impl_in.f (rd x5 x7) 0 100000).bind fun t395 => (if t395 = true then (impl_OidOk.l0 k x0 x5 x6 (wrap64 (x7 + 1))) else (some false))) else (none)) else (none)) else ((impl_in.f (x0.length : Int) 1 10).bind fun t396 => (some t396))
def impl_OidOk.f (k : Nat) (l0 : List Int) : Option (Bool) := impl_OidOk.l0 k l0 l0 (l0.length : Int) 0
theorem impl_OidOk.mono_l : ∀ k, (∀ y0 y1 y2 y3, LeO (impl_OidOk.l0 k y0 y1 y2 y3) (impl_OidOk.l0 (k + 1) y0 y1 y2 y3))
 | 0 => fun _ _ _ _ r h => by simp [impl_OidOk.l0] at h
 | k + 1 => by
  have ih0 := impl_OidOk.mono_l k
  intro y0 y1 y2 y3
  unfold impl_OidOk.l0
  repeat' first
  | (with_reducible exact ih0 _ _ _ _)
  | (with_reducible exact LeO.refl _)
  | (with_reducible exact LeO.none _)
  | (with_reducible refine LeO.ite ?_ ?_)
  | (with_reducible refine LeO.bind ?_ (fun _ => ?_))
  | exact ih0 _ _ _ _
  | exact LeO.none _
  | refine LeO.ite ?_ ?_
  | refine LeO.bind ?_ (fun _ => ?_)
theorem impl_OidOk.mono : ∀ a0 k, LeO (impl_OidOk.f k a0) (impl_OidOk.f (k + 1) a0) := by
 intro a0 k
 have ih0 := impl_OidOk.mono_l k
 unfold impl_OidOk.f
 repeat' first
  | (with_reducible exact ih0 _ _ _ _)
  | (with_reducible exact LeO.refl _)
  | (with_reducible exact LeO.none _)
  | (with_reducible refine LeO.ite ?_ ?_)
  | (with_reducible refine LeO.bind ?_ (fun _ => ?_))
  | exact ih0 _ _ _ _
  | exact LeO.none _
  | refine LeO.ite ?_ ?_
  | refine LeO.bind ?_ (fun _ => ?_)
set_option maxHeartbeats 8000000 in
set_option maxRecDepth 100000 in
theorem impl_OidOk.calls (k : Nat) (A0 : Option Addr) (c0 : Nat) (l0 : List Int) (r : Bool) (w : World) (hr0 : Kd.C (Kd.int .i64) w A0 l0.length l0) (hc0 : l0.length ≤ c0) (h : impl_OidOk.f k l0 = some r) :
 Calls Try.prog 108 #[.slice A0 l0.length c0] w fun e w' => e = .returned (.bool r) ∧ Drawn0 w w' := by
 have HR0 := am hr0
 have HC0 := am hc0
 clear hr0 hc0
 have H : (impl_OidOk.l0 k l0 l0 (l0.length : Int) 0) = some r := h
 clear h
 have H' := am H
 clear H
 go_enter Try.func108, Try.ntmps108
 go_wp2
 go_loopg [7] k (fun kq v7 w' => ∃ (x7_1 : Int), v7 = .int .i64 x7_1 ∧ Aside0 (impl_OidOk.l0 kq l0 l0 (l0.length : Int) x7_1 = some r) ∧ Aside0 (kq ≤ k) ∧ Drawn0 w w')
 case atStart => exact ⟨(0), sq, H', ⟨Nat.le_refl _⟩, by repeat (first | exact Drawn0.refl _ | apply Drawn0.step)⟩
 case round =>
  clear H'
  try clear c1
  obtain ⟨x7_1, rfl, HA, HK1, ⟨m1, rfl⟩⟩ := hrel
  cases gk with
  | zero => exact absurd HA.out (by simp [impl_OidOk.l0])
  | succ k1 =>
   have H := HA.out
   clear HA
   simp only [impl_OidOk.l0] at H
   by_cases c2 : x7_1 < (l0.length : Int)
   rotate_left
   · rw [if_neg c2] at H
     have c2b0 : decide (x7_1 < (l0.length : Int)) = false := decide_eq_false c2
     clear c2
     replace H := Option.bind_eq_some_iff.mp H
     obtain ⟨t396, A70, H⟩ := H
     replace H : (some t396) = some r := H
     have A7 := am A70
     clear A70
     obtain rfl := Option.some.inj H
     go_wp2_with (first | ((with_reducible refine gate_callee (f := 87) rfl ?_); refine goesL_ (some 17) rfl rfl Try.func87 (by kernel_rfl) rfl #[.int .i64 (l0.length : Int), .int .i64 1, .int .i64 10] rfl ga ?_; (with_reducible refine (impl_in.calls (l0.length : Int) 1 10 t396 _ A7.out).mono ?_); rintro e w' ⟨rfl, ⟨nd, rfl⟩⟩; refine ⟨_, rfl, ?_⟩))
     go_ret
     exact ⟨by first | rfl | (simp; done) | (simp [*]; done), by repeat (first | exact Drawn0.refl _ | apply Drawn0.step)⟩
   rw [if_pos c2] at H
   have c2b0 : decide (x7_1 < (l0.length : Int)) = true := decide_eq_true c2
   clear c2
   by_cases c3 : 0 ≤ x7_1
   rotate_left
   · rw [if_neg c3] at H
     exact absurd H (by simp)
   rw [if_pos c3] at H
   have c3b0 : decide (0 ≤ x7_1) = true := decide_eq_true c3
   clear c3
   by_cases c4 : x7_1 < (l0.length : Int)
   rotate_left
   · rw [if_neg c4] at H
     exact absurd H (by simp)
   rw [if_pos c4] at H
   have c4b0 : decide (x7_1 < (l0.length : Int)) = true := decide_eq_true c4
   clear c4
   replace H := Option.bind_eq_some_iff.mp H
   obtain ⟨t395, A50, H⟩ := H
   replace H : (if t395 = true then (impl_OidOk.l0 k1 l0 l0 (l0.length : Int) (wrap64 (x7_1 + 1))) else (some false)) = some r := H
   have A5 := am A50
   clear A50
   by_cases c6 : t395 = true
   rotate_left
   · replace c6 := Bool.eq_false_iff.mpr c6
     subst c6
     replace H : (some false) = some r := by rw [if_neg (show ¬ (false = true) by decide)] at H; exact H
     obtain rfl := Option.some.inj H
     have p394 : 0 ≤ (x7_1 : Int) := oda
     have q394 : x7_1 < (l0.length : Int) := oda
     obtain ⟨ad394, e394, hx394_0⟩ := Kd.at_int HR0.out x7_1 p394 q394
     cases e394
     replace p394 := eq_true p394
     replace q394 := eq_true q394
     go_wp2_with (first | ((with_reducible refine gate_callee (f := 87) rfl ?_); refine goesL_ (some 12) rfl rfl Try.func87 (by kernel_rfl) rfl #[.int .i64 (rd l0 x7_1), .int .i64 0, .int .i64 100000] rfl ga ?_; (with_reducible refine (impl_in.calls (rd l0 x7_1) 0 100000 false _ A5.out).mono ?_); rintro e w' ⟨rfl, ⟨nd, rfl⟩⟩; refine ⟨_, rfl, ?_⟩))
     go_ret
     exact ⟨by first | rfl | (simp; done) | (simp [*]; done), by repeat (first | exact Drawn0.refl _ | apply Drawn0.step)⟩
   subst c6
   replace H : (impl_OidOk.l0 k1 l0 l0 (l0.length : Int) (wrap64 (x7_1 + 1))) = some r := by rw [if_pos rfl] at H; exact H
   have H' := am H
   clear H
   have p394 : 0 ≤ (x7_1 : Int) := oda
   have q394 : x7_1 < (l0.length : Int) := oda
   obtain ⟨ad394, e394, hx394_0⟩ := Kd.at_int HR0.out x7_1 p394 q394
   cases e394
   replace p394 := eq_true p394
   replace q394 := eq_true q394
   go_wp2_with (first | ((with_reducible refine gate_callee (f := 87) rfl ?_); refine goesL_ (some 12) rfl rfl Try.func87 (by kernel_rfl) rfl #[.int .i64 (rd l0 x7_1), .int .i64 0, .int .i64 100000] rfl ga ?_; (with_reducible refine (impl_in.calls (rd l0 x7_1) 0 100000 true _ A5.out).mono ?_); rintro e w' ⟨rfl, ⟨nd, rfl⟩⟩; refine ⟨_, rfl, ?_⟩))
   go_roundg k1
   case measure => have := HK1.out; omega
   case rel => exact ⟨(wrap64 (x7_1 + 1)), sq, H', ⟨by have := HK1.out; omega⟩, by repeat (first | exact Drawn0.refl _ | apply Drawn0.step)⟩

/-! ### impl_ValOk: function 46 -/
def impl_ValOk.f (k : Nat) (a0_0 : Int) (a0_1 : Int) (a0_2 : ByteArray) (l0_3 : List Int) : Option (Bool) := if a0_0 = 2 then ((impl_isInt.f a0_1).bind fun t399 => (if t399 = true then ((impl_SameVal.f k a0_0 a0_1 a0_2 l0_3 a0_0 a0_1 (⟨#[]⟩ : ByteArray) ([] : List Int)).bind fun t400 => (some t400)) else (some false))) else (if a0_0 = 4 then (if (a0_2.size : Int) ≤ 20 then ((impl_SameVal.f k a0_0 a0_1 a0_2 l0_3 a0_0 0 a0_2 ([] : List Int)).bind fun t401 => (some t401)) else (some false)) else (if a0_0 = 6 then ((impl_OidOk.f k l0_3).bind fun t402 => (if t402 = true then ((impl_SameVal.f k a0_0 a0_1 a0_2 l0_3 a0_0 0 (⟨#[]⟩ : ByteArray) l0_3).bind fun t403 => (some t403)) else (some false))) else (if a0_0 = 5 then ((impl_SameVal.f k a0_0 a0_1 a0_2 l0_3 a0_0 0 (⟨#[]⟩ : ByteArray) ([] : List Int)).bind fun t404 => (some t404)) else (if a0_0 = 128 then ((impl_SameVal.f k a0_0 a0_1 a0_2 l0_3 a0_0 0 (⟨#[]⟩ : ByteArray) ([] : List Int)).bind fun t405 => (some t405)) else (if a0_0 = 130 then ((impl_SameVal.f k a0_0 a0_1 a0_2 l0_3 a0_0 0 (⟨#[]⟩ : ByteArray) ([] : List Int)).bind fun t406 => (some t406)) else (some false))))))
theorem impl_ValOk.mono : ∀ a0 a1 a2 a3 k, LeO (impl_ValOk.f k a0 a1 a2 a3) (impl_ValOk.f (k + 1) a0 a1 a2 a3) := by
 intro a0 a1 a2 a3 k
 unfold impl_ValOk.f
 repeat' first
  | (with_reducible exact impl_OidOk.mono _ _)
  | (with_reducible exact impl_SameVal.mono _ _ _ _ _ _ _ _ _)
  | (with_reducible exact LeO.refl _)
  | (with_reducible exact LeO.none _)
  | (with_reducible refine LeO.ite ?_ ?_)
  | (with_reducible refine LeO.bind ?_ (fun _ => ?_))
  | exact impl_OidOk.mono _ _
  | exact impl_SameVal.mono _ _ _ _ _ _ _ _ _
  | exact LeO.none _
  | refine LeO.ite ?_ ?_
  | refine LeO.bind ?_ (fun _ => ?_)
set_option maxHeartbeats 8000000 in
set_option maxRecDepth 100000 in
theorem impl_ValOk.calls (k : Nat) (a0_0 : Int) (a0_1 : Int) (a0_2 : ByteArray) (A0_3 : Option Addr) (c0_3 : Nat) (l0_3 : List Int) (r : Bool) (w : World) (hr0_3 : Kd.C (Kd.int .i64) w A0_3 l0_3.length l0_3) (hc0_3 : l0_3.length ≤ c0_3) (h : impl_ValOk.f k a0_0 a0_1 a0_2 l0_3 = some r) :
 Calls Try.prog 46 #[.agg #[.int .i64 a0_0, .int .i64 a0_1, .string a0_2, .slice A0_3 l0_3.length c0_3]] w fun e w' => e = .returned (.bool r) ∧ Below w.heap.size w w' := by
 have hu29 := Try.underlying29
 have HR0_3 := am hr0_3
 have HC0_3 := am hc0_3
 clear hr0_3 hc0_3
 have HB := am (Below.refl w.heap.size w)
 have H : (if a0_0 = 2 then ((impl_isInt.f a0_1).bind fun t399 => (if t399 = true then ((impl_SameVal.f k a0_0 a0_1 a0_2 l0_3 a0_0 a0_1 (⟨#[]⟩ : ByteArray) ([] : List Int)).bind fun t400 => (some t400)) else (some false))) else (if a0_0 = 4 then (if (a0_2.size : Int) ≤ 20 then ((impl_SameVal.f k a0_0 a0_1 a0_2 l0_3 a0_0 0 a0_2 ([] : List Int)).bind fun t401 => (some t401)) else (some false)) else (if a0_0 = 6 then ((impl_OidOk.f k l0_3).bind fun t402 => (if t402 = true then ((impl_SameVal.f k a0_0 a0_1 a0_2 l0_3 a0_0 0 (⟨#[]⟩ : ByteArray) l0_3).bind fun t403 => (some t403)) else (some false))) else (if a0_0 = 5 then ((impl_SameVal.f k a0_0 a0_1 a0_2 l0_3 a0_0 0 (⟨#[]⟩ : ByteArray) ([] : List Int)).bind fun t404 => (some t404)) else (if a0_0 = 128 then ((impl_SameVal.f k a0_0 a0_1 a0_2 l0_3 a0_0 0 (⟨#[]⟩ : ByteArray) ([] : List Int)).bind fun t405 => (some t405)) else (if a0_0 = 130 then ((impl_SameVal.f k a0_0 a0_1 a0_2 l0_3 a0_0 0 (⟨#[]⟩ : ByteArray) ([] : List Int)).bind fun t406 => (some t406)) else (some false))))))) = some r := h
 clear h
 by_cases c2 : a0_0 = 2
 · rw [if_pos c2] at H
   have c2b0 : (a0_0 == 2) = true := beq_iff_eq.mpr c2
   have c2b1 : (a0_0 != 2) = false := bne_eq_false_iff_eq.mpr c2
   clear c2
   replace H := Option.bind_eq_some_iff.mp H
   obtain ⟨t399, A30, H⟩ := H
   replace H : (if t399 = true then ((impl_SameVal.f k a0_0 a0_1 a0_2 l0_3 a0_0 a0_1 (⟨#[]⟩ : ByteArray) ([] : List Int)).bind fun t400 => (some t400)) else (some false)) = some r := H
   have A3 := am A30
   clear A30
   by_cases c4 : t399 = true
   rotate_left
   · replace c4 := Bool.eq_false_iff.mpr c4
     subst c4
     replace H : (some false) = some r := by rw [if_neg (show ¬ (false = true) by decide)] at H; exact H
     obtain rfl := Option.some.inj H
     go_enter Try.func46, Try.ntmps46
     go_wp2_with (first | ((with_reducible refine gate_dst (N := 1) rfl ?_); refine bxe 1 #[.int .i64 a0_0, .int .i64 a0_1, .string a0_2, .slice A0_3 l0_3.length c0_3] 29 ?_; intro gb397 hg w15 hbox hb; have n_ := ak4 (below_step (bq HB.out) hb) hbox ((by rw [hg]; exact (below_size (bq HB.out)) : w.heap.size ≤ gb397)) ((by rw [hg]; exact (below_size (bq HB.out)) : w.heap.size ≤ gb397)); clear HB; obtain ⟨HB, BK397, GW397, GE397⟩ := n_; clear hb hbox hg; obtain ⟨hcz16_0, hcz16_1, hcz16_2, hcz16_3, hfz16_0, hfz16_1, hfz16_2, hfz16_3⟩ := cl4 BK397.out) | ((with_reducible refine gate_dst (N := 3) rfl ?_); refine bxe 3 #[.int .i64 0, .int .i64 0, .string (⟨#[]⟩ : ByteArray), .slice none 0 0] 29 ?_; intro gb398 hg w17 hbox hb; have n_ := ak7 (blk_below (zb BK397.out) hb) (below_step (bq1 HB.out GE397.out) hb) hbox ((by rw [hg]; exact (below_size (bq1 HB.out GE397.out)) : w.heap.size ≤ gb398)) ((by rw [hg]; exact (below_size (bq1 HB.out GE397.out)) : w.heap.size ≤ gb398)) ((nlt hg (zb BK397.out) : gb397 ≠ gb398)) ((ngt hg (zb BK397.out) : gb398 ≠ gb397)); clear BK397 HB; obtain ⟨BK397, HB, BK398, GW398, GE398, NB397_398, NB398_397⟩ := n_; clear hb hbox hg; have hnb18 := NB398_397.out; have hnc18 := NB397_398.out; obtain ⟨hcz19_0, hcz19_1, hcz19_2, hcz19_3, hfz19_0, hfz19_1, hfz19_2, hfz19_3⟩ := cl4 BK398.out) | ((with_reducible refine gate_store (t := 29) (p := 3) rfl ?_); refine store_event (t := 29) (p := 3) (v := ?vo_w20) (w1 := ((((w17.setCell ⟨gb398, 0, none⟩ (.int .i64 a0_0)).setCell ⟨gb398, 1, none⟩ (.int .i64 0)).setCell ⟨gb398, 2, none⟩ (.string (⟨#[]⟩ : ByteArray))).setCell ⟨gb398, 3, none⟩ (.slice none 0 0))) ?hg ?ho ?hn ?hr ?_; (case ho => rfl); (case hg => rfl); (case hn => rfl); (case hr => exact gs); intro w20 hw; have n_ : Aside0 (w20.heap[gb397]? = some (.cells #[.int .i64 a0_0, .int .i64 a0_1, .string a0_2, .slice A0_3 l0_3.length c0_3] 29 (0, 0))) ∧ Aside0 (w20.heap[gb398]? = some (.cells #[.int .i64 a0_0, .int .i64 0, .string (⟨#[]⟩ : ByteArray), .slice none 0 0] 29 (0, 0))) ∧ Aside0 (Below w.heap.size w w20) := ⟨⟨(by rw [hw]; exact (by refine zr ?_; refine blk_far ?_ NB397_398.out _; refine zr ?_; refine blk_far ?_ NB397_398.out _; refine zr ?_; refine blk_far ?_ NB397_398.out _; refine zr ?_; refine blk_far ?_ NB397_398.out _; refine zr ?_; exact BK397.out))⟩, ⟨(by rw [hw]; exact (by refine zr ?_; exact bp4 (zb BK398.out)))⟩, ⟨(by rw [hw]; exact (bq2 HB.out GE397.out GE398.out))⟩⟩; clear hw BK397 BK398 HB; obtain ⟨BK397, BK398, HB⟩ := n_; obtain ⟨hcz21_0, hcz21_1, hcz21_2, hcz21_3, hfz21_0, hfz21_1, hfz21_2, hfz21_3⟩ := cl4 BK397.out; obtain ⟨hcz22_0, hcz22_1, hcz22_2, hcz22_3, hfz22_0, hfz22_1, hfz22_2, hfz22_3⟩ := cl4 BK398.out) | ((with_reducible refine gate_callee (f := 107) rfl ?_); refine goesL_ (some 17) rfl rfl Try.func107 (by kernel_rfl) rfl #[.int .i64 a0_1] rfl ga ?_; (with_reducible refine (impl_isInt.calls a0_1 false _ A3.out).mono ?_); rintro e w' ⟨rfl, ⟨nd, rfl⟩⟩; refine ⟨_, rfl, ?_⟩))
     go_ret
     exact ⟨rq, bq2 HB.out GE397.out GE398.out⟩
   subst c4
   replace H : ((impl_SameVal.f k a0_0 a0_1 a0_2 l0_3 a0_0 a0_1 (⟨#[]⟩ : ByteArray) ([] : List Int)).bind fun t400 => (some t400)) = some r := by rw [if_pos rfl] at H; exact H
   replace H := Option.bind_eq_some_iff.mp H
   obtain ⟨t400, A50, H⟩ := H
   replace H : (some t400) = some r := H
   have A5 := am A50
   clear A50
   obtain rfl := Option.some.inj H
   go_enter Try.func46, Try.ntmps46
   go_wp2_with (first | ((with_reducible refine gate_dst (N := 1) rfl ?_); refine bxe 1 #[.int .i64 a0_0, .int .i64 a0_1, .string a0_2, .slice A0_3 l0_3.length c0_3] 29 ?_; intro gb397 hg w6 hbox hb; have n_ := ak4 (below_step (bq HB.out) hb) hbox ((by rw [hg]; exact (below_size (bq HB.out)) : w.heap.size ≤ gb397)) ((by rw [hg]; exact (below_size (bq HB.out)) : w.heap.size ≤ gb397)); clear HB; obtain ⟨HB, BK397, GW397, GE397⟩ := n_; clear hb hbox hg; obtain ⟨hcz7_0, hcz7_1, hcz7_2, hcz7_3, hfz7_0, hfz7_1, hfz7_2, hfz7_3⟩ := cl4 BK397.out) | ((with_reducible refine gate_dst (N := 3) rfl ?_); refine bxe 3 #[.int .i64 0, .int .i64 0, .string (⟨#[]⟩ : ByteArray), .slice none 0 0] 29 ?_; intro gb398 hg w8 hbox hb; have n_ := ak7 (blk_below (zb BK397.out) hb) (below_step (bq1 HB.out GE397.out) hb) hbox ((by rw [hg]; exact (below_size (bq1 HB.out GE397.out)) : w.heap.size ≤ gb398)) ((by rw [hg]; exact (below_size (bq1 HB.out GE397.out)) : w.heap.size ≤ gb398)) ((nlt hg (zb BK397.out) : gb397 ≠ gb398)) ((ngt hg (zb BK397.out) : gb398 ≠ gb397)); clear BK397 HB; obtain ⟨BK397, HB, BK398, GW398, GE398, NB397_398, NB398_397⟩ := n_; clear hb hbox hg; have hnb9 := NB398_397.out; have hnc9 := NB397_398.out; obtain ⟨hcz10_0, hcz10_1, hcz10_2, hcz10_3, hfz10_0, hfz10_1, hfz10_2, hfz10_3⟩ := cl4 BK398.out) | ((with_reducible refine gate_store (t := 29) (p := 3) rfl ?_); refine store_event (t := 29) (p := 3) (v := ?vo_w11) (w1 := ((((w8.setCell ⟨gb398, 0, none⟩ (.int .i64 a0_0)).setCell ⟨gb398, 1, none⟩ (.int .i64 0)).setCell ⟨gb398, 2, none⟩ (.string (⟨#[]⟩ : ByteArray))).setCell ⟨gb398, 3, none⟩ (.slice none 0 0))) ?hg ?ho ?hn ?hr ?_; (case ho => rfl); (case hg => rfl); (case hn => rfl); (case hr => exact gs); intro w11 hw; have n_ : Aside0 (w11.heap[gb397]? = some (.cells #[.int .i64 a0_0, .int .i64 a0_1, .string a0_2, .slice A0_3 l0_3.length c0_3] 29 (0, 0))) ∧ Aside0 (w11.heap[gb398]? = some (.cells #[.int .i64 a0_0, .int .i64 0, .string (⟨#[]⟩ : ByteArray), .slice none 0 0] 29 (0, 0))) ∧ Aside0 (Below w.heap.size w w11) := ⟨⟨(by rw [hw]; exact (by refine zr ?_; refine blk_far ?_ NB397_398.out _; refine zr ?_; refine blk_far ?_ NB397_398.out _; refine zr ?_; refine blk_far ?_ NB397_398.out _; refine zr ?_; refine blk_far ?_ NB397_398.out _; refine zr ?_; exact BK397.out))⟩, ⟨(by rw [hw]; exact (by refine zr ?_; exact bp4 (zb BK398.out)))⟩, ⟨(by rw [hw]; exact (bq2 HB.out GE397.out GE398.out))⟩⟩; clear hw BK397 BK398 HB; obtain ⟨BK397, BK398, HB⟩ := n_; obtain ⟨hcz12_0, hcz12_1, hcz12_2, hcz12_3, hfz12_0, hfz12_1, hfz12_2, hfz12_3⟩ := cl4 BK397.out; obtain ⟨hcz13_0, hcz13_1, hcz13_2, hcz13_3, hfz13_0, hfz13_1, hfz13_2, hfz13_3⟩ := cl4 BK398.out) | ((with_reducible refine gate_callee (f := 107) rfl ?_); refine goesL_ (some 17) rfl rfl Try.func107 (by kernel_rfl) rfl #[.int .i64 a0_1] rfl ga ?_; (with_reducible refine (impl_isInt.calls a0_1 true _ A3.out).mono ?_); rintro e w' ⟨rfl, ⟨nd, rfl⟩⟩; refine ⟨_, rfl, ?_⟩) | (go_at_call 49; (refine (impl_SameVal.calls k a0_0 a0_1 a0_2 _ _ l0_3 a0_0 a0_1 (⟨#[]⟩ : ByteArray) _ _ ([] : List Int) t400 _ ?side1 ?side2 ?side3 ?side4 A5.out).mono ?_); (case side1 => exact Kd.C_below HR0_3.out (bq2 HB.out GE397.out GE398.out)); (case side2 => exact HC0_3.out); (case side3 => exact Kd.C_nil _ _); (case side4 => exact Nat.le_refl _); rintro e w14 ⟨rfl, hb⟩; have n_ := ak3 (blk_below (g := gb397) (o := .cells #[.int .i64 a0_0, .int .i64 a0_1, .string a0_2, .slice A0_3 l0_3.length c0_3] 29 (0, 0)) (by refine zr ?_; refine blk_far ?_ NB397_398.out _; refine zr ?_; exact BK397.out) hb) (blk_below (g := gb398) (o := .cells #[.int .i64 a0_0, .int .i64 a0_1, .string (⟨#[]⟩ : ByteArray), .slice none 0 0] 29 (0, 0)) (by refine zr ?_; refine blk_put (cs := #[.int .i64 a0_0, .int .i64 0, .string (⟨#[]⟩ : ByteArray), .slice none 0 0]) ?_ 1 _ rfl; refine zr ?_; exact BK398.out) hb) (below_step (bq2 HB.out GE397.out GE398.out) hb); clear BK397 BK398 HB; obtain ⟨BK397, BK398, HB⟩ := n_; (try clear hb)))
   go_ret
   exact ⟨rq, bq2 HB.out GE397.out GE398.out⟩
 rw [if_neg c2] at H
 have c2b0 : (a0_0 == 2) = false := beq_eq_false_iff_ne.mpr c2
 have c2b1 : (a0_0 != 2) = true := bne_iff_ne.mpr c2
 by_cases c23 : a0_0 = 4
 · rw [if_pos c23] at H
   have c23b0 : (a0_0 == 4) = true := beq_iff_eq.mpr c23
   have c23b1 : (a0_0 != 4) = false := bne_eq_false_iff_eq.mpr c23
   clear c23
   by_cases c24 : (a0_2.size : Int) ≤ 20
   rotate_left
   · rw [if_neg c24] at H
     have c24b0 : decide ((a0_2.size : Int) ≤ 20) = false := decide_eq_false c24
     have c24b1 : decide (a0_2.size ≤ 20) = false := decide_eq_false (by omega)
     clear c24
     obtain rfl := Option.some.inj H
     go_enter Try.func46, Try.ntmps46
     go_wp2_with (first | ((with_reducible refine gate_dst (N := 1) rfl ?_); refine bxe 1 #[.int .i64 a0_0, .int .i64 a0_1, .string a0_2, .slice A0_3 l0_3.length c0_3] 29 ?_; intro gb397 hg w35 hbox hb; have n_ := ak4 (below_step (bq HB.out) hb) hbox ((by rw [hg]; exact (below_size (bq HB.out)) : w.heap.size ≤ gb397)) ((by rw [hg]; exact (below_size (bq HB.out)) : w.heap.size ≤ gb397)); clear HB; obtain ⟨HB, BK397, GW397, GE397⟩ := n_; clear hb hbox hg; obtain ⟨hcz36_0, hcz36_1, hcz36_2, hcz36_3, hfz36_0, hfz36_1, hfz36_2, hfz36_3⟩ := cl4 BK397.out) | ((with_reducible refine gate_dst (N := 3) rfl ?_); refine bxe 3 #[.int .i64 0, .int .i64 0, .string (⟨#[]⟩ : ByteArray), .slice none 0 0] 29 ?_; intro gb398 hg w37 hbox hb; have n_ := ak7 (blk_below (zb BK397.out) hb) (below_step (bq1 HB.out GE397.out) hb) hbox ((by rw [hg]; exact (below_size (bq1 HB.out GE397.out)) : w.heap.size ≤ gb398)) ((by rw [hg]; exact (below_size (bq1 HB.out GE397.out)) : w.heap.size ≤ gb398)) ((nlt hg (zb BK397.out) : gb397 ≠ gb398)) ((ngt hg (zb BK397.out) : gb398 ≠ gb397)); clear BK397 HB; obtain ⟨BK397, HB, BK398, GW398, GE398, NB397_398, NB398_397⟩ := n_; clear hb hbox hg; have hnb38 := NB398_397.out; have hnc38 := NB397_398.out; obtain ⟨hcz39_0, hcz39_1, hcz39_2, hcz39_3, hfz39_0, hfz39_1, hfz39_2, hfz39_3⟩ := cl4 BK398.out) | ((with_reducible refine gate_store (t := 29) (p := 3) rfl ?_); refine store_event (t := 29) (p := 3) (v := ?vo_w40) (w1 := ((((w37.setCell ⟨gb398, 0, none⟩ (.int .i64 a0_0)).setCell ⟨gb398, 1, none⟩ (.int .i64 0)).setCell ⟨gb398, 2, none⟩ (.string (⟨#[]⟩ : ByteArray))).setCell ⟨gb398, 3, none⟩ (.slice none 0 0))) ?hg ?ho ?hn ?hr ?_; (case ho => rfl); (case hg => rfl); (case hn => rfl); (case hr => exact gs); intro w40 hw; have n_ : Aside0 (w40.heap[gb397]? = some (.cells #[.int .i64 a0_0, .int .i64 a0_1, .string a0_2, .slice A0_3 l0_3.length c0_3] 29 (0, 0))) ∧ Aside0 (w40.heap[gb398]? = some (.cells #[.int .i64 a0_0, .int .i64 0, .string (⟨#[]⟩ : ByteArray), .slice none 0 0] 29 (0, 0))) ∧ Aside0 (Below w.heap.size w w40) := ⟨⟨(by rw [hw]; exact (by refine zr ?_; refine blk_far ?_ NB397_398.out _; refine zr ?_; refine blk_far ?_ NB397_398.out _; refine zr ?_; refine blk_far ?_ NB397_398.out _; refine zr ?_; refine blk_far ?_ NB397_398.out _; refine zr ?_; exact BK397.out))⟩, ⟨(by rw [hw]; exact (by refine zr ?_; exact bp4 (zb BK398.out)))⟩, ⟨(by rw [hw]; exact (bq2 HB.out GE397.out GE398.out))⟩⟩; clear hw BK397 BK398 HB; obtain ⟨BK397, BK398, HB⟩ := n_; obtain ⟨hcz41_0, hcz41_1, hcz41_2, hcz41_3, hfz41_0, hfz41_1, hfz41_2, hfz41_3⟩ := cl4 BK397.out; obtain ⟨hcz42_0, hcz42_1, hcz42_2, hcz42_3, hfz42_0, hfz42_1, hfz42_2, hfz42_3⟩ := cl4 BK398.out))
     go_ret
     exact ⟨rq, bq2 HB.out GE397.out GE398.out⟩
   rw [if_pos c24] at H
   have c24b0 : decide ((a0_2.size : Int) ≤ 20) = true := decide_eq_true c24
   have c24b1 : decide (a0_2.size ≤ 20) = true := decide_eq_true (by omega)
   clear c24
   replace H := Option.bind_eq_some_iff.mp H
   obtain ⟨t401, A250, H⟩ := H
   replace H : (some t401) = some r := H
   have A25 := am A250
   clear A250
   obtain rfl := Option.some.inj H
   go_enter Try.func46, Try.ntmps46
   go_wp2_with (first | ((with_reducible refine gate_dst (N := 1) rfl ?_); refine bxe 1 #[.int .i64 a0_0, .int .i64 a0_1, .string a0_2, .slice A0_3 l0_3.length c0_3] 29 ?_; intro gb397 hg w26 hbox hb; have n_ := ak4 (below_step (bq HB.out) hb) hbox ((by rw [hg]; exact (below_size (bq HB.out)) : w.heap.size ≤ gb397)) ((by rw [hg]; exact (below_size (bq HB.out)) : w.heap.size ≤ gb397)); clear HB; obtain ⟨HB, BK397, GW397, GE397⟩ := n_; clear hb hbox hg; obtain ⟨hcz27_0, hcz27_1, hcz27_2, hcz27_3, hfz27_0, hfz27_1, hfz27_2, hfz27_3⟩ := cl4 BK397.out) | ((with_reducible refine gate_dst (N := 3) rfl ?_); refine bxe 3 #[.int .i64 0, .int .i64 0, .string (⟨#[]⟩ : ByteArray), .slice none 0 0] 29 ?_; intro gb398 hg w28 hbox hb; have n_ := ak7 (blk_below (zb BK397.out) hb) (below_step (bq1 HB.out GE397.out) hb) hbox ((by rw [hg]; exact (below_size (bq1 HB.out GE397.out)) : w.heap.size ≤ gb398)) ((by rw [hg]; exact (below_size (bq1 HB.out GE397.out)) : w.heap.size ≤ gb398)) ((nlt hg (zb BK397.out) : gb397 ≠ gb398)) ((ngt hg (zb BK397.out) : gb398 ≠ gb397)); clear BK397 HB; obtain ⟨BK397, HB, BK398, GW398, GE398, NB397_398, NB398_397⟩ := n_; clear hb hbox hg; have hnb29 := NB398_397.out; have hnc29 := NB397_398.out; obtain ⟨hcz30_0, hcz30_1, hcz30_2, hcz30_3, hfz30_0, hfz30_1, hfz30_2, hfz30_3⟩ := cl4 BK398.out) | ((with_reducible refine gate_store (t := 29) (p := 3) rfl ?_); refine store_event (t := 29) (p := 3) (v := ?vo_w31) (w1 := ((((w28.setCell ⟨gb398, 0, none⟩ (.int .i64 a0_0)).setCell ⟨gb398, 1, none⟩ (.int .i64 0)).setCell ⟨gb398, 2, none⟩ (.string (⟨#[]⟩ : ByteArray))).setCell ⟨gb398, 3, none⟩ (.slice none 0 0))) ?hg ?ho ?hn ?hr ?_; (case ho => rfl); (case hg => rfl); (case hn => rfl); (case hr => exact gs); intro w31 hw; have n_ : Aside0 (w31.heap[gb397]? = some (.cells #[.int .i64 a0_0, .int .i64 a0_1, .string a0_2, .slice A0_3 l0_3.length c0_3] 29 (0, 0))) ∧ Aside0 (w31.heap[gb398]? = some (.cells #[.int .i64 a0_0, .int .i64 0, .string (⟨#[]⟩ : ByteArray), .slice none 0 0] 29 (0, 0))) ∧ Aside0 (Below w.heap.size w w31) := ⟨⟨(by rw [hw]; exact (by refine zr ?_; refine blk_far ?_ NB397_398.out _; refine zr ?_; refine blk_far ?_ NB397_398.out _; refine zr ?_; refine blk_far ?_ NB397_398.out _; refine zr ?_; refine blk_far ?_ NB397_398.out _; refine zr ?_; exact BK397.out))⟩, ⟨(by rw [hw]; exact (by refine zr ?_; exact bp4 (zb BK398.out)))⟩, ⟨(by rw [hw]; exact (bq2 HB.out GE397.out GE398.out))⟩⟩; clear hw BK397 BK398 HB; obtain ⟨BK397, BK398, HB⟩ := n_; obtain ⟨hcz32_0, hcz32_1, hcz32_2, hcz32_3, hfz32_0, hfz32_1, hfz32_2, hfz32_3⟩ := cl4 BK397.out; obtain ⟨hcz33_0, hcz33_1, hcz33_2, hcz33_3, hfz33_0, hfz33_1, hfz33_2, hfz33_3⟩ := cl4 BK398.out) | (go_at_call 49; (refine (impl_SameVal.calls k a0_0 a0_1 a0_2 _ _ l0_3 a0_0 0 a0_2 _ _ ([] : List Int) t401 _ ?side1 ?side2 ?side3 ?side4 A25.out).mono ?_); (case side1 => exact Kd.C_below HR0_3.out (bq2 HB.out GE397.out GE398.out)); (case side2 => exact HC0_3.out); (case side3 => exact Kd.C_nil _ _); (case side4 => exact Nat.le_refl _); rintro e w34 ⟨rfl, hb⟩; have n_ := ak3 (blk_below (g := gb397) (o := .cells #[.int .i64 a0_0, .int .i64 a0_1, .string a0_2, .slice A0_3 l0_3.length c0_3] 29 (0, 0)) (by refine zr ?_; refine blk_far ?_ NB397_398.out _; refine zr ?_; exact BK397.out) hb) (blk_below (g := gb398) (o := .cells #[.int .i64 a0_0, .int .i64 0, .string a0_2, .slice none 0 0] 29 (0, 0)) (by refine zr ?_; refine blk_put (cs := #[.int .i64 a0_0, .int .i64 0, .string (⟨#[]⟩ : ByteArray), .slice none 0 0]) ?_ 2 _ rfl; refine zr ?_; exact BK398.out) hb) (below_step (bq2 HB.out GE397.out GE398.out) hb); clear BK397 BK398 HB; obtain ⟨BK397, BK398, HB⟩ := n_; (try clear hb)))
   go_ret
   exact ⟨rq, bq2 HB.out GE397.out GE398.out⟩
 rw [if_neg c23] at H
 have c23b0 : (a0_0 == 4) = false := beq_eq_false_iff_ne.mpr c23
 have c23b1 : (a0_0 != 4) = true := bne_iff_ne.mpr c23
 by_cases c43 : a0_0 = 6
 · rw [if_pos c43] at H
   have c43b0 : (a0_0 == 6) = true := beq_iff_eq.mpr c43
   have c43b1 : (a0_0 != 6) = false := bne_eq_false_iff_eq.mpr c43
   clear c43
   replace H := Option.bind_eq_some_iff.mp H
   obtain ⟨t402, A440, H⟩ := H
   replace H : (if t402 = true then ((impl_SameVal.f k a0_0 a0_1 a0_2 l0_3 a0_0 0 (⟨#[]⟩ : ByteArray) l0_3).bind fun t403 => (some t403)) else (some false)) = some r := H
   have A44 := am A440
   clear A440
   by_cases c45 : t402 = true
   rotate_left
   · replace c45 := Bool.eq_false_iff.mpr c45
     subst c45
     replace H : (some false) = some r := by rw [if_neg (show ¬ (false = true) by decide)] at H; exact H
     obtain rfl := Option.some.inj H
     go_enter Try.func46, Try.ntmps46
     go_wp2_with (first | ((with_reducible refine gate_dst (N := 1) rfl ?_); refine bxe 1 #[.int .i64 a0_0, .int .i64 a0_1, .string a0_2, .slice A0_3 l0_3.length c0_3] 29 ?_; intro gb397 hg w56 hbox hb; have n_ := ak4 (below_step (bq HB.out) hb) hbox ((by rw [hg]; exact (below_size (bq HB.out)) : w.heap.size ≤ gb397)) ((by rw [hg]; exact (below_size (bq HB.out)) : w.heap.size ≤ gb397)); clear HB; obtain ⟨HB, BK397, GW397, GE397⟩ := n_; clear hb hbox hg; obtain ⟨hcz57_0, hcz57_1, hcz57_2, hcz57_3, hfz57_0, hfz57_1, hfz57_2, hfz57_3⟩ := cl4 BK397.out) | ((with_reducible refine gate_dst (N := 3) rfl ?_); refine bxe 3 #[.int .i64 0, .int .i64 0, .string (⟨#[]⟩ : ByteArray), .slice none 0 0] 29 ?_; intro gb398 hg w58 hbox hb; have n_ := ak7 (blk_below (zb BK397.out) hb) (below_step (bq1 HB.out GE397.out) hb) hbox ((by rw [hg]; exact (below_size (bq1 HB.out GE397.out)) : w.heap.size ≤ gb398)) ((by rw [hg]; exact (below_size (bq1 HB.out GE397.out)) : w.heap.size ≤ gb398)) ((nlt hg (zb BK397.out) : gb397 ≠ gb398)) ((ngt hg (zb BK397.out) : gb398 ≠ gb397)); clear BK397 HB; obtain ⟨BK397, HB, BK398, GW398, GE398, NB397_398, NB398_397⟩ := n_; clear hb hbox hg; have hnb59 := NB398_397.out; have hnc59 := NB397_398.out; obtain ⟨hcz60_0, hcz60_1, hcz60_2, hcz60_3, hfz60_0, hfz60_1, hfz60_2, hfz60_3⟩ := cl4 BK398.out) | ((with_reducible refine gate_store (t := 29) (p := 3) rfl ?_); refine store_event (t := 29) (p := 3) (v := ?vo_w61) (w1 := ((((w58.setCell ⟨gb398, 0, none⟩ (.int .i64 a0_0)).setCell ⟨gb398, 1, none⟩ (.int .i64 0)).setCell ⟨gb398, 2, none⟩ (.string (⟨#[]⟩ : ByteArray))).setCell ⟨gb398, 3, none⟩ (.slice none 0 0))) ?hg ?ho ?hn ?hr ?_; (case ho => rfl); (case hg => rfl); (case hn => rfl); (case hr => exact gs); intro w61 hw; have n_ : Aside0 (w61.heap[gb397]? = some (.cells #[.int .i64 a0_0, .int .i64 a0_1, .string a0_2, .slice A0_3 l0_3.length c0_3] 29 (0, 0))) ∧ Aside0 (w61.heap[gb398]? = some (.cells #[.int .i64 a0_0, .int .i64 0, .string (⟨#[]⟩ : ByteArray), .slice none 0 0] 29 (0, 0))) ∧ Aside0 (Below w.heap.size w w61) := ⟨⟨(by rw [hw]; exact (by refine zr ?_; refine blk_far ?_ NB397_398.out _; refine zr ?_; refine blk_far ?_ NB397_398.out _; refine zr ?_; refine blk_far ?_ NB397_398.out _; refine zr ?_; refine blk_far ?_ NB397_398.out _; refine zr ?_; exact BK397.out))⟩, ⟨(by rw [hw]; exact (by refine zr ?_; exact bp4 (zb BK398.out)))⟩, ⟨(by rw [hw]; exact (bq2 HB.out GE397.out GE398.out))⟩⟩; clear hw BK397 BK398 HB; obtain ⟨BK397, BK398, HB⟩ := n_; obtain ⟨hcz62_0, hcz62_1, hcz62_2, hcz62_3, hfz62_0, hfz62_1, hfz62_2, hfz62_3⟩ := cl4 BK397.out; obtain ⟨hcz63_0, hcz63_1, hcz63_2, hcz63_3, hfz63_0, hfz63_1, hfz63_2, hfz63_3⟩ := cl4 BK398.out) | ((with_reducible refine gate_callee (f := 108) rfl ?_); refine goesL_ (some 34) rfl rfl Try.func108 (by kernel_rfl) rfl #[.slice A0_3 l0_3.length c0_3] rfl ga ?_; (with_reducible refine (impl_OidOk.calls k _ _ l0_3 false _ ?side1 ?side2 A44.out).mono ?_); (case side1 => exact Kd.C_below HR0_3.out (bq2 HB.out GE397.out GE398.out)); (case side2 => exact HC0_3.out); rintro e w' ⟨rfl, ⟨nd, rfl⟩⟩; refine ⟨_, rfl, ?_⟩))
     go_ret
     exact ⟨rq, bq2 HB.out GE397.out GE398.out⟩
   subst c45
   replace H : ((impl_SameVal.f k a0_0 a0_1 a0_2 l0_3 a0_0 0 (⟨#[]⟩ : ByteArray) l0_3).bind fun t403 => (some t403)) = some r := by rw [if_pos rfl] at H; exact H
   replace H := Option.bind_eq_some_iff.mp H
   obtain ⟨t403, A460, H⟩ := H
   replace H : (some t403) = some r := H
   have A46 := am A460
   clear A460
   obtain rfl := Option.some.inj H
   go_enter Try.func46, Try.ntmps46
   go_wp2_with (first | ((with_reducible refine gate_dst (N := 1) rfl ?_); refine bxe 1 #[.int .i64 a0_0, .int .i64 a0_1, .string a0_2, .slice A0_3 l0_3.length c0_3] 29 ?_; intro gb397 hg w47 hbox hb; have n_ := ak4 (below_step (bq HB.out) hb) hbox ((by rw [hg]; exact (below_size (bq HB.out)) : w.heap.size ≤ gb397)) ((by rw [hg]; exact (below_size (bq HB.out)) : w.heap.size ≤ gb397)); clear HB; obtain ⟨HB, BK397, GW397, GE397⟩ := n_; clear hb hbox hg; obtain ⟨hcz48_0, hcz48_1, hcz48_2, hcz48_3, hfz48_0, hfz48_1, hfz48_2, hfz48_3⟩ := cl4 BK397.out) | ((with_reducible refine gate_dst (N := 3) rfl ?_); refine bxe 3 #[.int .i64 0, .int .i64 0, .string (⟨#[]⟩ : ByteArray), .slice none 0 0] 29 ?_; intro gb398 hg w49 hbox hb; have n_ := ak7 (blk_below (zb BK397.out) hb) (below_step (bq1 HB.out GE397.out) hb) hbox ((by rw [hg]; exact (below_size (bq1 HB.out GE397.out)) : w.heap.size ≤ gb398)) ((by rw [hg]; exact (below_size (bq1 HB.out GE397.out)) : w.heap.size ≤ gb398)) ((nlt hg (zb BK397.out) : gb397 ≠ gb398)) ((ngt hg (zb BK397.out) : gb398 ≠ gb397)); clear BK397 HB; obtain ⟨BK397, HB, BK398, GW398, GE398, NB397_398, NB398_397⟩ := n_; clear hb hbox hg; have hnb50 := NB398_397.out; have hnc50 := NB397_398.out; obtain ⟨hcz51_0, hcz51_1, hcz51_2, hcz51_3, hfz51_0, hfz51_1, hfz51_2, hfz51_3⟩ := cl4 BK398.out) | ((with_reducible refine gate_store (t := 29) (p := 3) rfl ?_); refine store_event (t := 29) (p := 3) (v := ?vo_w52) (w1 := ((((w49.setCell ⟨gb398, 0, none⟩ (.int .i64 a0_0)).setCell ⟨gb398, 1, none⟩ (.int .i64 0)).setCell ⟨gb398, 2, none⟩ (.string (⟨#[]⟩ : ByteArray))).setCell ⟨gb398, 3, none⟩ (.slice none 0 0))) ?hg ?ho ?hn ?hr ?_; (case ho => rfl); (case hg => rfl); (case hn => rfl); (case hr => exact gs); intro w52 hw; have n_ : Aside0 (w52.heap[gb397]? = some (.cells #[.int .i64 a0_0, .int .i64 a0_1, .string a0_2, .slice A0_3 l0_3.length c0_3] 29 (0, 0))) ∧ Aside0 (w52.heap[gb398]? = some (.cells #[.int .i64 a0_0, .int .i64 0, .string (⟨#[]⟩ : ByteArray), .slice none 0 0] 29 (0, 0))) ∧ Aside0 (Below w.heap.size w w52) := ⟨⟨(by rw [hw]; exact (by refine zr ?_; refine blk_far ?_ NB397_398.out _; refine zr ?_; refine blk_far ?_ NB397_398.out _; refine zr ?_; refine blk_far ?_ NB397_398.out _; refine zr ?_; refine blk_far ?_ NB397_398.out _; refine zr ?_; exact BK397.out))⟩, ⟨(by rw [hw]; exact (by refine zr ?_; exact bp4 (zb BK398.out)))⟩, ⟨(by rw [hw]; exact (bq2 HB.out GE397.out GE398.out))⟩⟩; clear hw BK397 BK398 HB; obtain ⟨BK397, BK398, HB⟩ := n_; obtain ⟨hcz53_0, hcz53_1, hcz53_2, hcz53_3, hfz53_0, hfz53_1, hfz53_2, hfz53_3⟩ := cl4 BK397.out; obtain ⟨hcz54_0, hcz54_1, hcz54_2, hcz54_3, hfz54_0, hfz54_1, hfz54_2, hfz54_3⟩ := cl4 BK398.out) | ((with_reducible refine gate_callee (f := 108) rfl ?_); refine goesL_ (some 34) rfl rfl Try.func108 (by kernel_rfl) rfl #[.slice A0_3 l0_3.length c0_3] rfl ga ?_; (with_reducible refine (impl_OidOk.calls k _ _ l0_3 true _ ?side1 ?side2 A44.out).mono ?_); (case side1 => exact Kd.C_below HR0_3.out (bq2 HB.out GE397.out GE398.out)); (case side2 => exact HC0_3.out); rintro e w' ⟨rfl, ⟨nd, rfl⟩⟩; refine ⟨_, rfl, ?_⟩) | (go_at_call 49; (with_reducible refine (impl_SameVal.calls k a0_0 a0_1 a0_2 _ _ l0_3 a0_0 0 (⟨#[]⟩ : ByteArray) _ _ l0_3 t403 _ ?side1 ?side2 ?side3 ?side4 A46.out).mono ?_); (case side1 => exact Kd.C_below HR0_3.out (bq2 HB.out GE397.out GE398.out)); (case side2 => exact HC0_3.out); (case side3 => exact Kd.C_below HR0_3.out (bq2 HB.out GE397.out GE398.out)); (case side4 => exact HC0_3.out); rintro e w55 ⟨rfl, hb⟩; have n_ := ak3 (blk_below (g := gb397) (o := .cells #[.int .i64 a0_0, .int .i64 a0_1, .string a0_2, .slice A0_3 l0_3.length c0_3] 29 (0, 0)) (by refine zr ?_; refine blk_far ?_ NB397_398.out _; refine zr ?_; exact BK397.out) hb) (blk_below (g := gb398) (o := .cells #[.int .i64 a0_0, .int .i64 0, .string (⟨#[]⟩ : ByteArray), .slice A0_3 l0_3.length c0_3] 29 (0, 0)) (by refine zr ?_; refine blk_put (cs := #[.int .i64 a0_0, .int .i64 0, .string (⟨#[]⟩ : ByteArray), .slice none 0 0]) ?_ 3 _ rfl; refine zr ?_; exact BK398.out) hb) (below_step (bq2 HB.out GE397.out GE398.out) hb); clear BK397 BK398 HB; obtain ⟨BK397, BK398, HB⟩ := n_; (try clear hb)))
   go_ret
   exact ⟨rq, bq2 HB.out GE397.out GE398.out⟩
 rw [if_neg c43] at H
 have c43b0 : (a0_0 == 6) = false := beq_eq_false_iff_ne.mpr c43
 have c43b1 : (a0_0 != 6) = true := bne_iff_ne.mpr c43
 by_cases c64 : a0_0 = 5
 · rw [if_pos c64] at H
   have c64b0 : (a0_0 == 5) = true := beq_iff_eq.mpr c64
   have c64b1 : (a0_0 != 5) = false := bne_eq_false_iff_eq.mpr c64
   clear c64
   replace H := Option.bind_eq_some_iff.mp H
   obtain ⟨t404, A650, H⟩ := H
   replace H : (some t404) = some r := H
   have A65 := am A650
   clear A650
   obtain rfl := Option.some.inj H
   go_enter Try.func46, Try.ntmps46
   go_wp2_with (first | ((with_reducible refine gate_dst (N := 1) rfl ?_); refine bxe 1 #[.int .i64 a0_0, .int .i64 a0_1, .string a0_2, .slice A0_3 l0_3.length c0_3] 29 ?_; intro gb397 hg w66 hbox hb; have n_ := ak4 (below_step (bq HB.out) hb) hbox ((by rw [hg]; exact (below_size (bq HB.out)) : w.heap.size ≤ gb397)) ((by rw [hg]; exact (below_size (bq HB.out)) : w.heap.size ≤ gb397)); clear HB; obtain ⟨HB, BK397, GW397, GE397⟩ := n_; clear hb hbox hg; obtain ⟨hcz67_0, hcz67_1, hcz67_2, hcz67_3, hfz67_0, hfz67_1, hfz67_2, hfz67_3⟩ := cl4 BK397.out) | ((with_reducible refine gate_dst (N := 3) rfl ?_); refine bxe 3 #[.int .i64 0, .int .i64 0, .string (⟨#[]⟩ : ByteArray), .slice none 0 0] 29 ?_; intro gb398 hg w68 hbox hb; have n_ := ak7 (blk_below (zb BK397.out) hb) (below_step (bq1 HB.out GE397.out) hb) hbox ((by rw [hg]; exact (below_size (bq1 HB.out GE397.out)) : w.heap.size ≤ gb398)) ((by rw [hg]; exact (below_size (bq1 HB.out GE397.out)) : w.heap.size ≤ gb398)) ((nlt hg (zb BK397.out) : gb397 ≠ gb398)) ((ngt hg (zb BK397.out) : gb398 ≠ gb397)); clear BK397 HB; obtain ⟨BK397, HB, BK398, GW398, GE398, NB397_398, NB398_397⟩ := n_; clear hb hbox hg; have hnb69 := NB398_397.out; have hnc69 := NB397_398.out; obtain ⟨hcz70_0, hcz70_1, hcz70_2, hcz70_3, hfz70_0, hfz70_1, hfz70_2, hfz70_3⟩ := cl4 BK398.out) | ((with_reducible refine gate_store (t := 29) (p := 3) rfl ?_); refine store_event (t := 29) (p := 3) (v := ?vo_w71) (w1 := ((((w68.setCell ⟨gb398, 0, none⟩ (.int .i64 a0_0)).setCell ⟨gb398, 1, none⟩ (.int .i64 0)).setCell ⟨gb398, 2, none⟩ (.string (⟨#[]⟩ : ByteArray))).setCell ⟨gb398, 3, none⟩ (.slice none 0 0))) ?hg ?ho ?hn ?hr ?_; (case ho => rfl); (case hg => rfl); (case hn => rfl); (case hr => exact gs); intro w71 hw; have n_ : Aside0 (w71.heap[gb397]? = some (.cells #[.int .i64 a0_0, .int .i64 a0_1, .string a0_2, .slice A0_3 l0_3.length c0_3] 29 (0, 0))) ∧ Aside0 (w71.heap[gb398]? = some (.cells #[.int .i64 a0_0, .int .i64 0, .string (⟨#[]⟩ : ByteArray), .slice none 0 0] 29 (0, 0))) ∧ Aside0 (Below w.heap.size w w71) := ⟨⟨(by rw [hw]; exact (by refine zr ?_; refine blk_far ?_ NB397_398.out _; refine zr ?_; refine blk_far ?_ NB397_398.out _; refine zr ?_; refine blk_far ?_ NB397_398.out _; refine zr ?_; refine blk_far ?_ NB397_398.out _; refine zr ?_; exact BK397.out))⟩, ⟨(by rw [hw]; exact (by refine zr ?_; exact bp4 (zb BK398.out)))⟩, ⟨(by rw [hw]; exact (bq2 HB.out GE397.out GE398.out))⟩⟩; clear hw BK397 BK398 HB; obtain ⟨BK397, BK398, HB⟩ := n_; obtain ⟨hcz72_0, hcz72_1, hcz72_2, hcz72_3, hfz72_0, hfz72_1, hfz72_2, hfz72_3⟩ := cl4 BK397.out; obtain ⟨hcz73_0, hcz73_1, hcz73_2, hcz73_3, hfz73_0, hfz73_1, hfz73_2, hfz73_3⟩ := cl4 BK398.out) | (go_at_call 49; (refine (impl_SameVal.calls k a0_0 a0_1 a0_2 _ _ l0_3 a0_0 0 (⟨#[]⟩ : ByteArray) _ _ ([] : List Int) t404 _ ?side1 ?side2 ?side3 ?side4 A65.out).mono ?_); (case side1 => exact cq (Kd.C_below HR0_3.out HB.out)); (case side2 => exact HC0_3.out); (case side3 => exact Kd.C_nil _ _); (case side4 => exact Nat.le_refl _); rintro e w74 ⟨rfl, hb⟩; have n_ := ak3 (blk_below (zb BK397.out) hb) (blk_below (zb BK398.out) hb) (below_step (bq2 HB.out GE397.out GE398.out) hb); clear BK397 BK398 HB; obtain ⟨BK397, BK398, HB⟩ := n_; (try clear hb)))
   go_ret
   exact ⟨rq, bq2 HB.out GE397.out GE398.out⟩
 rw [if_neg c64] at H
 have c64b0 : (a0_0 == 5) = false := beq_eq_false_iff_ne.mpr c64
 have c64b1 : (a0_0 != 5) = true := bne_iff_ne.mpr c64
 by_cases c75 : a0_0 = 128
 · rw [if_pos c75] at H
   have c75b0 : (a0_0 == 128) = true := beq_iff_eq.mpr c75
   have c75b1 : (a0_0 != 128) = false := bne_eq_false_iff_eq.mpr c75
   clear c75
   replace H := Option.bind_eq_some_iff.mp H
   obtain ⟨t405, A760, H⟩ := H
   replace H : (some t405) = some r := H
   have A76 := am A760
   clear A760
   obtain rfl := Option.some.inj H
   go_enter Try.func46, Try.ntmps46
   go_wp2_with (first | ((with_reducible refine gate_dst (N := 1) rfl ?_); refine bxe 1 #[.int .i64 a0_0, .int .i64 a0_1, .string a0_2, .slice A0_3 l0_3.length c0_3] 29 ?_; intro gb397 hg w77 hbox hb; have n_ := ak4 (below_step (bq HB.out) hb) hbox ((by rw [hg]; exact (below_size (bq HB.out)) : w.heap.size ≤ gb397)) ((by rw [hg]; exact (below_size (bq HB.out)) : w.heap.size ≤ gb397)); clear HB; obtain ⟨HB, BK397, GW397, GE397⟩ := n_; clear hb hbox hg; obtain ⟨hcz78_0, hcz78_1, hcz78_2, hcz78_3, hfz78_0, hfz78_1, hfz78_2, hfz78_3⟩ := cl4 BK397.out) | ((with_reducible refine gate_dst (N := 3) rfl ?_); refine bxe 3 #[.int .i64 0, .int .i64 0, .string (⟨#[]⟩ : ByteArray), .slice none 0 0] 29 ?_; intro gb398 hg w79 hbox hb; have n_ := ak7 (blk_below (zb BK397.out) hb) (below_step (bq1 HB.out GE397.out) hb) hbox ((by rw [hg]; exact (below_size (bq1 HB.out GE397.out)) : w.heap.size ≤ gb398)) ((by rw [hg]; exact (below_size (bq1 HB.out GE397.out)) : w.heap.size ≤ gb398)) ((nlt hg (zb BK397.out) : gb397 ≠ gb398)) ((ngt hg (zb BK397.out) : gb398 ≠ gb397)); clear BK397 HB; obtain ⟨BK397, HB, BK398, GW398, GE398, NB397_398, NB398_397⟩ := n_; clear hb hbox hg; have hnb80 := NB398_397.out; have hnc80 := NB397_398.out; obtain ⟨hcz81_0, hcz81_1, hcz81_2, hcz81_3, hfz81_0, hfz81_1, hfz81_2, hfz81_3⟩ := cl4 BK398.out) | ((with_reducible refine gate_store (t := 29) (p := 3) rfl ?_); refine store_event (t := 29) (p := 3) (v := ?vo_w82) (w1 := ((((w79.setCell ⟨gb398, 0, none⟩ (.int .i64 a0_0)).setCell ⟨gb398, 1, none⟩ (.int .i64 0)).setCell ⟨gb398, 2, none⟩ (.string (⟨#[]⟩ : ByteArray))).setCell ⟨gb398, 3, none⟩ (.slice none 0 0))) ?hg ?ho ?hn ?hr ?_; (case ho => rfl); (case hg => rfl); (case hn => rfl); (case hr => exact gs); intro w82 hw; have n_ : Aside0 (w82.heap[gb397]? = some (.cells #[.int .i64 a0_0, .int .i64 a0_1, .string a0_2, .slice A0_3 l0_3.length c0_3] 29 (0, 0))) ∧ Aside0 (w82.heap[gb398]? = some (.cells #[.int .i64 a0_0, .int .i64 0, .string (⟨#[]⟩ : ByteArray), .slice none 0 0] 29 (0, 0))) ∧ Aside0 (Below w.heap.size w w82) := ⟨⟨(by rw [hw]; exact (by refine zr ?_; refine blk_far ?_ NB397_398.out _; refine zr ?_; refine blk_far ?_ NB397_398.out _; refine zr ?_; refine blk_far ?_ NB397_398.out _; refine zr ?_; refine blk_far ?_ NB397_398.out _; refine zr ?_; exact BK397.out))⟩, ⟨(by rw [hw]; exact (by refine zr ?_; exact bp4 (zb BK398.out)))⟩, ⟨(by rw [hw]; exact (bq2 HB.out GE397.out GE398.out))⟩⟩; clear hw BK397 BK398 HB; obtain ⟨BK397, BK398, HB⟩ := n_; obtain ⟨hcz83_0, hcz83_1, hcz83_2, hcz83_3, hfz83_0, hfz83_1, hfz83_2, hfz83_3⟩ := cl4 BK397.out; obtain ⟨hcz84_0, hcz84_1, hcz84_2, hcz84_3, hfz84_0, hfz84_1, hfz84_2, hfz84_3⟩ := cl4 BK398.out) | (go_at_call 49; (refine (impl_SameVal.calls k a0_0 a0_1 a0_2 _ _ l0_3 a0_0 0 (⟨#[]⟩ : ByteArray) _ _ ([] : List Int) t405 _ ?side1 ?side2 ?side3 ?side4 A76.out).mono ?_); (case side1 => exact cq (Kd.C_below HR0_3.out HB.out)); (case side2 => exact HC0_3.out); (case side3 => exact Kd.C_nil _ _); (case side4 => exact Nat.le_refl _); rintro e w85 ⟨rfl, hb⟩; have n_ := ak3 (blk_below (zb BK397.out) hb) (blk_below (zb BK398.out) hb) (below_step (bq2 HB.out GE397.out GE398.out) hb); clear BK397 BK398 HB; obtain ⟨BK397, BK398, HB⟩ := n_; (try clear hb)))
   go_ret
   exact ⟨rq, bq2 HB.out GE397.out GE398.out⟩
 rw [if_neg c75] at H
 have c75b0 : (a0_0 == 128) = false := beq_eq_false_iff_ne.mpr c75
 have c75b1 : (a0_0 != 128) = true := bne_iff_ne.mpr c75
 by_cases c86 : a0_0 = 130
 rotate_left
 · rw [if_neg c86] at H
   have c86b0 : (a0_0 == 130) = false := beq_eq_false_iff_ne.mpr c86
   have c86b1 : (a0_0 != 130) = true := bne_iff_ne.mpr c86
   obtain rfl := Option.some.inj H
   go_enter Try.func46, Try.ntmps46
   go_wp2_with (first | ((with_reducible refine gate_dst (N := 1) rfl ?_); refine bxe 1 #[.int .i64 a0_0, .int .i64 a0_1, .string a0_2, .slice A0_3 l0_3.length c0_3] 29 ?_; intro gb397 hg w97 hbox hb; have n_ := ak4 (below_step (bq HB.out) hb) hbox ((by rw [hg]; exact (below_size (bq HB.out)) : w.heap.size ≤ gb397)) ((by rw [hg]; exact (below_size (bq HB.out)) : w.heap.size ≤ gb397)); clear HB; obtain ⟨HB, BK397, GW397, GE397⟩ := n_; clear hb hbox hg; obtain ⟨hcz98_0, hcz98_1, hcz98_2, hcz98_3, hfz98_0, hfz98_1, hfz98_2, hfz98_3⟩ := cl4 BK397.out) | ((with_reducible refine gate_dst (N := 3) rfl ?_); refine bxe 3 #[.int .i64 0, .int .i64 0, .string (⟨#[]⟩ : ByteArray), .slice none 0 0] 29 ?_; intro gb398 hg w99 hbox hb; have n_ := ak7 (blk_below (zb BK397.out) hb) (below_step (bq1 HB.out GE397.out) hb) hbox ((by rw [hg]; exact (below_size (bq1 HB.out GE397.out)) : w.heap.size ≤ gb398)) ((by rw [hg]; exact (below_size (bq1 HB.out GE397.out)) : w.heap.size ≤ gb398)) ((nlt hg (zb BK397.out) : gb397 ≠ gb398)) ((ngt hg (zb BK397.out) : gb398 ≠ gb397)); clear BK397 HB; obtain ⟨BK397, HB, BK398, GW398, GE398, NB397_398, NB398_397⟩ := n_; clear hb hbox hg; have hnb100 := NB398_397.out; have hnc100 := NB397_398.out; obtain ⟨hcz101_0, hcz101_1, hcz101_2, hcz101_3, hfz101_0, hfz101_1, hfz101_2, hfz101_3⟩ := cl4 BK398.out) | ((with_reducible refine gate_store (t := 29) (p := 3) rfl ?_); refine store_event (t := 29) (p := 3) (v := ?vo_w102) (w1 := ((((w99.setCell ⟨gb398, 0, none⟩ (.int .i64 a0_0)).setCell ⟨gb398, 1, none⟩ (.int .i64 0)).setCell ⟨gb398, 2, none⟩ (.string (⟨#[]⟩ : ByteArray))).setCell ⟨gb398, 3, none⟩ (.slice none 0 0))) ?hg ?ho ?hn ?hr ?_; (case ho => rfl); (case hg => rfl); (case hn => rfl); (case hr => exact gs); intro w102 hw; have n_ : Aside0 (w102.heap[gb397]? = some (.cells #[.int .i64 a0_0, .int .i64 a0_1, .string a0_2, .slice A0_3 l0_3.length c0_3] 29 (0, 0))) ∧ Aside0 (w102.heap[gb398]? = some (.cells #[.int .i64 a0_0, .int .i64 0, .string (⟨#[]⟩ : ByteArray), .slice none 0 0] 29 (0, 0))) ∧ Aside0 (Below w.heap.size w w102) := ⟨⟨(by rw [hw]; exact (by refine zr ?_; refine blk_far ?_ NB397_398.out _; refine zr ?_; refine blk_far ?_ NB397_398.out _; refine zr ?_; refine blk_far ?_ NB397_398.out _; refine zr ?_; refine blk_far ?_ NB397_398.out _; refine zr ?_; exact BK397.out))⟩, ⟨(by rw [hw]; exact (by refine zr ?_; exact bp4 (zb BK398.out)))⟩, ⟨(by rw [hw]; exact (bq2 HB.out GE397.out GE398.out))⟩⟩; clear hw BK397 BK398 HB; obtain ⟨BK397, BK398, HB⟩ := n_; obtain ⟨hcz103_0, hcz103_1, hcz103_2, hcz103_3, hfz103_0, hfz103_1, hfz103_2, hfz103_3⟩ := cl4 BK397.out))
   go_ret
   exact ⟨rq, bq2 HB.out GE397.out GE398.out⟩
 rw [if_pos c86] at H
 have c86b0 : (a0_0 == 130) = true := beq_iff_eq.mpr c86
 have c86b1 : (a0_0 != 130) = false := bne_eq_false_iff_eq.mpr c86
 clear c86
 replace H := Option.bind_eq_some_iff.mp H
 obtain ⟨t406, A870, H⟩ := H
 replace H : (some t406) = some r := H
 have A87 := am A870
 clear A870
 obtain rfl := Option.some.inj H
 go_enter Try.func46, Try.ntmps46
 go_wp2_with (first | ((with_reducible refine gate_dst (N := 1) rfl ?_); refine bxe 1 #[.int .i64 a0_0, .int .i64 a0_1, .string a0_2, .slice A0_3 l0_3.length c0_3] 29 ?_; intro gb397 hg w88 hbox hb; have n_ := ak4 (below_step (bq HB.out) hb) hbox ((by rw [hg]; exact (below_size (bq HB.out)) : w.heap.size ≤ gb397)) ((by rw [hg]; exact (below_size (bq HB.out)) : w.heap.size ≤ gb397)); clear HB; obtain ⟨HB, BK397, GW397, GE397⟩ := n_; clear hb hbox hg; obtain ⟨hcz89_0, hcz89_1, hcz89_2, hcz89_3, hfz89_0, hfz89_1, hfz89_2, hfz89_3⟩ := cl4 BK397.out) | ((with_reducible refine gate_dst (N := 3) rfl ?_); refine bxe 3 #[.int .i64 0, .int .i64 0, .string (⟨#[]⟩ : ByteArray), .slice none 0 0] 29 ?_; intro gb398 hg w90 hbox hb; have n_ := ak7 (blk_below (zb BK397.out) hb) (below_step (bq1 HB.out GE397.out) hb) hbox ((by rw [hg]; exact (below_size (bq1 HB.out GE397.out)) : w.heap.size ≤ gb398)) ((by rw [hg]; exact (below_size (bq1 HB.out GE397.out)) : w.heap.size ≤ gb398)) ((nlt hg (zb BK397.out) : gb397 ≠ gb398)) ((ngt hg (zb BK397.out) : gb398 ≠ gb397)); clear BK397 HB; obtain ⟨BK397, HB, BK398, GW398, GE398, NB397_398, NB398_397⟩ := n_; clear hb hbox hg; have hnb91 := NB398_397.out; have hnc91 := NB397_398.out; obtain ⟨hcz92_0, hcz92_1, hcz92_2, hcz92_3, hfz92_0, hfz92_1, hfz92_2, hfz92_3⟩ := cl4 BK398.out) | ((with_reducible refine gate_store (t := 29) (p := 3) rfl ?_); refine store_event (t := 29) (p := 3) (v := ?vo_w93) (w1 := ((((w90.setCell ⟨gb398, 0, none⟩ (.int .i64 a0_0)).setCell ⟨gb398, 1, none⟩ (.int .i64 0)).setCell ⟨gb398, 2, none⟩ (.string (⟨#[]⟩ : ByteArray))).setCell ⟨gb398, 3, none⟩ (.slice none 0 0))) ?hg ?ho ?hn ?hr ?_; (case ho => rfl); (case hg => rfl); (case hn => rfl); (case hr => exact gs); intro w93 hw; have n_ : Aside0 (w93.heap[gb397]? = some (.cells #[.int .i64 a0_0, .int .i64 a0_1, .string a0_2, .slice A0_3 l0_3.length c0_3] 29 (0, 0))) ∧ Aside0 (w93.heap[gb398]? = some (.cells #[.int .i64 a0_0, .int .i64 0, .string (⟨#[]⟩ : ByteArray), .slice none 0 0] 29 (0, 0))) ∧ Aside0 (Below w.heap.size w w93) := ⟨⟨(by rw [hw]; exact (by refine zr ?_; refine blk_far ?_ NB397_398.out _; refine zr ?_; refine blk_far ?_ NB397_398.out _; refine zr ?_; refine blk_far ?_ NB397_398.out _; refine zr ?_; refine blk_far ?_ NB397_398.out _; refine zr ?_; exact BK397.out))⟩, ⟨(by rw [hw]; exact (by refine zr ?_; exact bp4 (zb BK398.out)))⟩, ⟨(by rw [hw]; exact (bq2 HB.out GE397.out GE398.out))⟩⟩; clear hw BK397 BK398 HB; obtain ⟨BK397, BK398, HB⟩ := n_; obtain ⟨hcz94_0, hcz94_1, hcz94_2, hcz94_3, hfz94_0, hfz94_1, hfz94_2, hfz94_3⟩ := cl4 BK397.out; obtain ⟨hcz95_0, hcz95_1, hcz95_2, hcz95_3, hfz95_0, hfz95_1, hfz95_2, hfz95_3⟩ := cl4 BK398.out) | (go_at_call 49; (refine (impl_SameVal.calls k a0_0 a0_1 a0_2 _ _ l0_3 a0_0 0 (⟨#[]⟩ : ByteArray) _ _ ([] : List Int) t406 _ ?side1 ?side2 ?side3 ?side4 A87.out).mono ?_); (case side1 => exact cq (Kd.C_below HR0_3.out HB.out)); (case side2 => exact HC0_3.out); (case side3 => exact Kd.C_nil _ _); (case side4 => exact Nat.le_refl _); rintro e w96 ⟨rfl, hb⟩; have n_ := ak3 (blk_below (zb BK397.out) hb) (blk_below (zb BK398.out) hb) (below_step (bq2 HB.out GE397.out GE398.out) hb); clear BK397 BK398 HB; obtain ⟨BK397, BK398, HB⟩ := n_; (try clear hb)))
 go_ret
 exact ⟨rq, bq2 HB.out GE397.out GE398.out⟩

/-! ### impl_copyBytes: function 68 -/
def impl_copyBytes.f (l0 : List Int) : Option (List Int) := if ([] : List Int).length + l0.length < 140737488355328 then (some (([] : List Int) ++ l0)) else (none)
set_option maxHeartbeats 8000000 in
set_option maxRecDepth 100000 in
theorem impl_copyBytes.calls (A0 : Option Addr) (c0 : Nat) (l0 : List Int) (r : List Int) (w : World) (hr0 : Kd.C (Kd.int .u8) w A0 l0.length l0) (hc0 : l0.length ≤ c0) (h : impl_copyBytes.f l0 = some r) :
 Calls Try.prog 68 #[.slice A0 l0.length c0] w fun e w' => ∃ v0_ : Value, e = .returned (v0_) ∧ Kd.R (Kd.int .u8) 5 w' w.heap.size (fun _ => True) v0_ r ∧ Below w.heap.size w w' := by
 have HR0 := am hr0
 have HC0 := am hc0
 clear hr0 hc0
 have HB := am (Below.refl w.heap.size w)
 have H : (if ([] : List Int).length + l0.length < 140737488355328 then (some (([] : List Int) ++ l0)) else (none)) = some r := h
 clear h
 by_cases c2 : ([] : List Int).length + l0.length < 140737488355328
 rotate_left
 · rw [if_neg c2] at H
   exact absurd H (by simp)
 rw [if_pos c2] at H
 have LMc2 := am c2
 clear c2
 obtain ⟨y407, hy407⟩ : ∃ y_ : List Int, y_ = (([] : List Int) ++ l0) := ⟨_, rfl⟩
 replace H : (some y407) = some r := hx H hy407
 have Ny407 := am hy407
 clear hy407
 obtain rfl := Option.some.inj H
 go_enter Try.func68, Try.ntmps68
 go_wp2_with (first | ((with_reducible refine gate_builtin (b := .append) (xs := #[(.const (.slice none 0 0)), .tmp 3]) rfl ?_); at_builtin; refine Kd.R_append_rows (Kd.int .u8) (w0 := w) w.heap.size rfl (.const (.slice none 0 0)) (.tmp 3) 22 5 (.int .u8 0) 1 rfl Try.underlying22 info5 rfl (by decide) (by omega) (.slice none 0 0) ([] : List Int) l0 _ _ _ (fun _ => True) (fun _ => False) rfl rfl ?aO ?aR (fun _ _ h => h) (fun _ h => h.elim) ?aF ?aB ?aS ?aL ?_; (case aR => exact cq HR0.out); (case aB => exact (bq HB.out)); (case aF => exact (fun _ _ => trivial)); (case aO => exact ((Kd.R_nil _ _ _ _ (fun _ => True)))); (case aS => exact (below_size (bq HB.out))); (case aL => have := LMc2.out; omega); intro v408 w3 ho hb hg hat; rw [← Ny407.out] at ho; have n_ := ak2 hb ho; clear HB; obtain ⟨HB, HO409⟩ := n_; clear ho hb hg hat))
 go_ret
 exact ⟨_, rq, kqR HO409.out, bq HB.out⟩

end Go.Proofs.Ythhnfmbfgplelaa.XFnExactPutMsg
