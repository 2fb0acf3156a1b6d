/- The functions that one law reaches, as Lean functions, with their walks: printed by a program of this seat (wip/tools) out of the translation. -/
import Derived.Test.YthhnfmbfgplelaaXFnValsx0
import Derived.Test.YthhnfmbfgplelaaXFnValsx3
import Derived.Test.YthhnfmbfgplelaaXFnValsx8
namespace Go.Proofs.Ythhnfmbfgplelaa.XFnVals
open Go.RowKit Go.Proofs.YthhnfmbfgplelaaW.PrintWords Go.Proofs.YthhnfmbfgplelaaW.PrintLast Go.Proofs.YthhnfmbfgplelaaW.PrintMore
attribute [local go_sem] max2_int min2_int max_two min_two max_three min_three max_four min_four   -- for this text's walks alone
set_option linter.unusedVariables false
set_option linter.unusedSimpArgs false
set_option maxHeartbeats 8000000
set_option maxRecDepth 100000
def spec_l1Below.f (s0_0 : List Int) (s0_1 : Int) (s0_2 : Int) (a1 : Int) : Option (Int × Int × Int) := if a1 ≤ 0 then (some (0, s0_1, s0_2)) else (if a1 ≤ 256 then ((spec_l1Byte.f s0_0 s0_1 s0_2).bind fun bt360 => (if a1 = 0 then (none) else (some (Int.tmod bt360.1 a1, bt360.2.1, bt360.2.2)))) else ((spec_l1Byte.f s0_0 s0_1 s0_2).bind fun bt363 => ((spec_l1Byte.f s0_0 bt363.2.1 bt363.2.2).bind fun bt366 => ((spec_l1Byte.f s0_0 bt366.2.1 bt366.2.2).bind fun bt369 => (if a1 = 0 then (none) else (some (Int.tmod (wrap64 ((wrap64 ((wrap64 (bt363.1 * 65536)) + (wrap64 (bt366.1 * 256)))) + bt369.1)) a1, bt369.2.1, bt369.2.2)))))))
theorem spec_l1Below.calls (g : Nat) (s0_0 : List Int) (s0_1 : Int) (s0_2 : Int) (a1 : Int) (r1 : Int) (r2 : Int) (r3 : Int) (w0 w : World) (hI : IsS135 w0 w g s0_0 s0_1 s0_2) (hB : Below w0.heap.size w0 w) (h : spec_l1Below.f s0_0 s0_1 s0_2 a1 = some (r1, r2, r3)) :
 Calls Try.prog 122 #[.pointer (some ⟨g, 0, none⟩), .int .i64 a1] w fun e w' => e = .returned (.int .i64 r1) ∧ IsS135 w0 w' g s0_0 r2 r3 ∧ Below w0.heap.size w0 w' ∧ KeepBut w w' g none := by
 have HI0 := am hI
 have HK := am (KeepBut.refl w g none)
 have HL := am hB.size
 clear hI
 have HW0 := am hB.size
 have HB := am hB
 clear hB
 have H : (if a1 ≤ 0 then (some (0, s0_1, s0_2)) else (if a1 ≤ 256 then ((spec_l1Byte.f s0_0 s0_1 s0_2).bind fun bt360 => (if a1 = 0 then (none) else (some (Int.tmod bt360.1 a1, bt360.2.1, bt360.2.2)))) else ((spec_l1Byte.f s0_0 s0_1 s0_2).bind fun bt363 => ((spec_l1Byte.f s0_0 bt363.2.1 bt363.2.2).bind fun bt366 => ((spec_l1Byte.f s0_0 bt366.2.1 bt366.2.2).bind fun bt369 => (if a1 = 0 then (none) else (some (Int.tmod (wrap64 ((wrap64 ((wrap64 (bt363.1 * 65536)) + (wrap64 (bt366.1 * 256)))) + bt369.1)) a1, bt369.2.1, bt369.2.2)))))))) = some (r1, r2, r3) := h
 clear h
 by_cases c3 : a1 ≤ 0
 · rw [if_pos c3] at H
   have c3b0 : decide (a1 ≤ 0) = true := decide_eq_true c3
   clear c3
   simp only [Option.some.injEq, Prod.mk.injEq] at H
   obtain ⟨rfl, rfl, rfl⟩ := H
   go_enter Try.func122, Try.ntmps122
   go_wp2
   go_ret
   exact ⟨rq, IsS135.q0 HI0.out, bq1 HB.out (IsS135.ge HI0.out), kp0 HK.out⟩
 rw [if_neg c3] at H
 have c3b0 : decide (a1 ≤ 0) = false := decide_eq_false c3
 clear c3
 by_cases c4 : a1 ≤ 256
 · rw [if_pos c4] at H
   have c4b0 : decide (a1 ≤ 256) = true := decide_eq_true c4
   clear c4
   replace H := Option.bind_eq_some_iff.mp H
   obtain ⟨⟨t360, t361, t362⟩, A50, H⟩ := H
   replace H : (if a1 = 0 then (none) else (some (Int.tmod t360 a1, t361, t362))) = some (r1, r2, r3) := H
   have A5 := am A50
   clear A50
   by_cases c6 : a1 = 0
   · rw [if_pos c6] at H
     exact absurd H (by simp)
   rw [if_neg c6] at H
   have c6b0 : (a1 == 0) = false := beq_eq_false_iff_ne.mpr c6
   have c6b1 : (a1 != 0) = true := bne_iff_ne.mpr c6
   simp only [Option.some.injEq, Prod.mk.injEq] at H
   obtain ⟨rfl, rfl, rfl⟩ := H
   go_enter Try.func122, Try.ntmps122
   go_wp2_with (first | ((with_reducible refine gate_callee (f := 137) rfl ?_); refine goesL_ (some 13) rfl rfl Try.func137 (by kernel_rfl) rfl #[.pointer (some ⟨g, 0, none⟩)] rfl ga ?_; (with_reducible refine (spec_l1Byte.calls g s0_0 s0_1 s0_2 t360 t361 t362 w0 _ ?side1 ?side2 A5.out).mono ?_); (case side1 => exact IsS135.q0 HI0.out); (case side2 => exact bq1 HB.out (IsS135.ge HI0.out)); rintro e w7 ⟨rfl, hi, hb, hk⟩; refine ⟨_, rfl, ?_⟩; have n_ := ak3 (KeepBut.trans (kp0 HK.out) hk (.inl rfl)) hb hi; clear HK HB HI0; obtain ⟨HK, HB, HI0⟩ := n_; (try clear hb hk hi)))
   go_ret
   exact ⟨rq, IsS135.q0 HI0.out, bq1 HB.out (IsS135.ge HI0.out), kp0 HK.out⟩
 rw [if_neg c4] at H
 have c4b0 : decide (a1 ≤ 256) = false := decide_eq_false c4
 clear c4
 replace H := Option.bind_eq_some_iff.mp H
 obtain ⟨⟨t363, t364, t365⟩, A80, H⟩ := H
 replace H : ((spec_l1Byte.f s0_0 t364 t365).bind fun bt366 => ((spec_l1Byte.f s0_0 bt366.2.1 bt366.2.2).bind fun bt369 => (if a1 = 0 then (none) else (some (Int.tmod (wrap64 ((wrap64 ((wrap64 (t363 * 65536)) + (wrap64 (bt366.1 * 256)))) + bt369.1)) a1, bt369.2.1, bt369.2.2))))) = some (r1, r2, r3) := H
 have A8 := am A80
 clear A80
 replace H := Option.bind_eq_some_iff.mp H
 obtain ⟨⟨t366, t367, t368⟩, A90, H⟩ := H
 replace H : ((spec_l1Byte.f s0_0 t367 t368).bind fun bt369 => (if a1 = 0 then (none) else (some (Int.tmod (wrap64 ((wrap64 ((wrap64 (t363 * 65536)) + (wrap64 (t366 * 256)))) + bt369.1)) a1, bt369.2.1, bt369.2.2)))) = some (r1, r2, r3) := H
 have A9 := am A90
 clear A90
 replace H := Option.bind_eq_some_iff.mp H
 obtain ⟨⟨t369, t370, t371⟩, A100, H⟩ := H
 replace H : (if a1 = 0 then (none) else (some (Int.tmod (wrap64 ((wrap64 ((wrap64 (t363 * 65536)) + (wrap64 (t366 * 256)))) + t369)) a1, t370, t371))) = some (r1, r2, r3) := H
 have A10 := am A100
 clear A100
 by_cases c11 : a1 = 0
 · rw [if_pos c11] at H
   exact absurd H (by simp)
 rw [if_neg c11] at H
 have c11b0 : (a1 == 0) = false := beq_eq_false_iff_ne.mpr c11
 have c11b1 : (a1 != 0) = true := bne_iff_ne.mpr c11
 simp only [Option.some.injEq, Prod.mk.injEq] at H
 obtain ⟨rfl, rfl, rfl⟩ := H
 go_enter Try.func122, Try.ntmps122
 go_wp2_with (first | ((with_reducible refine gate_callee (f := 137) rfl ?_); refine goesL_ (some 17) rfl rfl Try.func137 (by kernel_rfl) rfl #[.pointer (some ⟨g, 0, none⟩)] rfl ga ?_; (with_reducible refine (spec_l1Byte.calls g s0_0 s0_1 s0_2 t363 t364 t365 w0 _ ?side1 ?side2 A8.out).mono ?_); (case side1 => exact IsS135.q0 HI0.out); (case side2 => exact bq1 HB.out (IsS135.ge HI0.out)); rintro e w12 ⟨rfl, hi, hb, hk⟩; refine ⟨_, rfl, ?_⟩; have n_ := ak3 (KeepBut.trans (kp0 HK.out) hk (.inl rfl)) hb hi; clear HK HB HI0; obtain ⟨HK, HB, HI0⟩ := n_; (try clear hb hk hi)) | ((with_reducible refine gate_callee (f := 137) rfl ?_); refine goesL_ (some 19) rfl rfl Try.func137 (by kernel_rfl) rfl #[.pointer (some ⟨g, 0, none⟩)] rfl ga ?_; (with_reducible refine (spec_l1Byte.calls g s0_0 t364 t365 t366 t367 t368 w0 _ ?side1 ?side2 A9.out).mono ?_); (case side1 => exact IsS135.q0 HI0.out); (case side2 => exact bq1 HB.out (IsS135.ge HI0.out)); rintro e w13 ⟨rfl, hi, hb, hk⟩; refine ⟨_, rfl, ?_⟩; have n_ := ak3 (KeepBut.trans (kp0 HK.out) hk (.inl rfl)) hb hi; clear HK HB HI0; obtain ⟨HK, HB, HI0⟩ := n_; (try clear hb hk hi)) | ((with_reducible refine gate_callee (f := 137) rfl ?_); refine goesL_ (some 21) rfl rfl Try.func137 (by kernel_rfl) rfl #[.pointer (some ⟨g, 0, none⟩)] rfl ga ?_; (with_reducible refine (spec_l1Byte.calls g s0_0 t367 t368 t369 t370 t371 w0 _ ?side1 ?side2 A10.out).mono ?_); (case side1 => exact IsS135.q0 HI0.out); (case side2 => exact bq1 HB.out (IsS135.ge HI0.out)); rintro e w14 ⟨rfl, hi, hb, hk⟩; refine ⟨_, rfl, ?_⟩; have n_ := ak3 (KeepBut.trans (kp0 HK.out) hk (.inl rfl)) hb hi; clear HK HB HI0; obtain ⟨HK, HB, HI0⟩ := n_; (try clear hb hk hi)))
 go_ret
 exact ⟨rq, IsS135.q0 HI0.out, bq1 HB.out (IsS135.ge HI0.out), kp0 HK.out⟩
def spec_l1Int.f (s0_0 : List Int) (s0_1 : Int) (s0_2 : Int) (l1 : List Int) : Option (Int × Int × Int) := (spec_l1Below.f s0_0 s0_1 s0_2 (l1.length : Int)).bind fun bt372 => (if 0 ≤ bt372.1 then (if bt372.1 < (l1.length : Int) then (some (rd l1 bt372.1, bt372.2.1, bt372.2.2)) else (none)) else (none))
theorem spec_l1Int.calls (g : Nat) (s0_0 : List Int) (s0_1 : Int) (s0_2 : Int) (A1 : Option Addr) (c1 : Nat) (l1 : List Int) (r1 : Int) (r2 : Int) (r3 : Int) (w0 w : World) (hI : IsS135 w0 w g s0_0 s0_1 s0_2) (hB : Below w0.heap.size w0 w) (hr1 : Kd.C (Kd.int .i64) w A1 l1.length l1) (hc1 : l1.length ≤ c1) (hf1 : ∀ ad, A1 = some ad → 0 < l1.length → ad.block ≠ g) (h : spec_l1Int.f s0_0 s0_1 s0_2 l1 = some (r1, r2, r3)) :
 Calls Try.prog 86 #[.pointer (some ⟨g, 0, none⟩), .slice A1 l1.length c1] w fun e w' => e = .returned (.int .i64 r1) ∧ IsS135 w0 w' g s0_0 r2 r3 ∧ Below w0.heap.size w0 w' ∧ KeepBut w w' g none := by
 have HR1 := am hr1
 have HC1 := am hc1
 clear hr1 hc1
 have HI0 := am hI
 have HK := am (KeepBut.refl w g none)
 have HL := am hB.size
 clear hI
 have HW0 := am hB.size
 have HB := am hB
 clear hB
 have H : ((spec_l1Below.f s0_0 s0_1 s0_2 (l1.length : Int)).bind fun bt372 => (if 0 ≤ bt372.1 then (if bt372.1 < (l1.length : Int) then (some (rd l1 bt372.1, bt372.2.1, bt372.2.2)) else (none)) else (none))) = some (r1, r2, r3) := h
 clear h
 replace H := Option.bind_eq_some_iff.mp H
 obtain ⟨⟨t372, t373, t374⟩, A30, H⟩ := H
 replace H : (if 0 ≤ t372 then (if t372 < (l1.length : Int) then (some (rd l1 t372, t373, t374)) else (none)) else (none)) = some (r1, r2, r3) := H
 have A3 := am A30
 clear A30
 by_cases c4 : 0 ≤ t372
 rotate_left
 · rw [if_neg c4] at H
   exact absurd H (by simp)
 rw [if_pos c4] at H
 have c4b0 : decide (0 ≤ t372) = true := decide_eq_true c4
 clear c4
 by_cases c5 : t372 < (l1.length : Int)
 rotate_left
 · rw [if_neg c5] at H
   exact absurd H (by simp)
 rw [if_pos c5] at H
 have c5b0 : decide (t372 < (l1.length : Int)) = true := decide_eq_true c5
 clear c5
 simp only [Option.some.injEq, Prod.mk.injEq] at H
 obtain ⟨rfl, rfl, rfl⟩ := H
 go_enter Try.func86, Try.ntmps86
 go_wp2_with (first | ((with_reducible refine gate_callee (f := 122) rfl ?_); refine goesL_ (some 9) rfl rfl Try.func122 (by kernel_rfl) rfl #[.pointer (some ⟨g, 0, none⟩), .int .i64 (l1.length : Int)] rfl ga ?_; (with_reducible refine (spec_l1Below.calls g s0_0 s0_1 s0_2 (l1.length : Int) t372 t373 t374 w0 _ ?side1 ?side2 A3.out).mono ?_); (case side1 => exact IsS135.q0 HI0.out); (case side2 => exact bq1 HB.out (IsS135.ge HI0.out)); rintro e w6 ⟨rfl, hi, hb, hk⟩; refine ⟨_, rfl, ?_⟩; have n_ := ak3 (KeepBut.trans (kp0 HK.out) hk (.inl rfl)) hb hi; clear HK HB HI0; obtain ⟨HK, HB, HI0⟩ := n_; (try clear hb hk hi); have p375 : 0 ≤ (t372 : Int) := oda; have q375 : t372 < (l1.length : Int) := oda; obtain ⟨ad375, e375, hx375_0⟩ := Kd.at_int HR1.out t372 p375 q375; cases e375; replace hx375_0 := keep_cell HK.out hx375_0 (by first | (rw [add_block]; exact hf1 _ rfl (by omega)) | exact hf1 _ rfl (by omega) | exact hf1 ad375 rfl (by omega)); replace p375 := eq_true p375; replace q375 := eq_true q375))
 go_ret
 exact ⟨rq, IsS135.q0 HI0.out, bq1 HB.out (IsS135.ge HI0.out), kp0 HK.out⟩
def spec_l1Bytes.l0 : Nat → Int → List Int → Int → List Int → Int → Int → Option (List Int × Int × Int)
 | 0, _, _, _, _, _, _ => none
 | k + 1, x1, x5, x6, x1000, x1001, x1002 => if x6 < x1 then ((spec_l1Byte.f x1000 x1001 x1002).bind fun bt379 => (if x5.length < 140737488355328 then (spec_l1Bytes.l0 k x1 (x5 ++ [(bt379.1) % 256]) (wrap64 (x6 + 1)) x1000 bt379.2.1 bt379.2.2) else (none))) else (some (x5, x1001, x1002))
def spec_l1Bytes.f (k : Nat) (s0_0 : List Int) (s0_1 : Int) (s0_2 : Int) (a1 : Int) : Option (List Int × Int × Int) := spec_l1Bytes.l0 k a1 (([] : List Int)) 0 s0_0 s0_1 s0_2
theorem spec_l1Bytes.mono_l : ∀ k, (∀ y0 y1 y2 y3 y4 y5, LeO (spec_l1Bytes.l0 k y0 y1 y2 y3 y4 y5) (spec_l1Bytes.l0 (k + 1) y0 y1 y2 y3 y4 y5))
 | 0 => fun _ _ _ _ _ _ r h => by simp [spec_l1Bytes.l0] at h
 | k + 1 => by
  have ih0 := spec_l1Bytes.mono_l k
  intro y0 y1 y2 y3 y4 y5
  unfold spec_l1Bytes.l0
  repeat' first
  | (with_reducible exact ih0 _ _ _ _ _ _)
  | (with_reducible exact LeO.refl _)
  | (with_reducible exact LeO.none _)
  | (with_reducible refine LeO.ite ?_ ?_)
  | (with_reducible refine LeO.bind ?_ (fun _ => ?_))
  | exact ih0 _ _ _ _ _ _
  | exact LeO.none _
  | refine LeO.ite ?_ ?_
  | refine LeO.bind ?_ (fun _ => ?_)
theorem spec_l1Bytes.mono : ∀ a0 a1 a2 a3 k, LeO (spec_l1Bytes.f k a0 a1 a2 a3) (spec_l1Bytes.f (k + 1) a0 a1 a2 a3) := by
 intro a0 a1 a2 a3 k
 have ih0 := spec_l1Bytes.mono_l k
 unfold spec_l1Bytes.f
 repeat' first
  | (with_reducible exact ih0 _ _ _ _ _ _)
  | (with_reducible exact LeO.refl _)
  | (with_reducible exact LeO.none _)
  | (with_reducible refine LeO.ite ?_ ?_)
  | (with_reducible refine LeO.bind ?_ (fun _ => ?_))
  | exact ih0 _ _ _ _ _ _
  | exact LeO.none _
  | refine LeO.ite ?_ ?_
  | refine LeO.bind ?_ (fun _ => ?_)
theorem spec_l1Bytes.calls (k : Nat) (g : Nat) (s0_0 : List Int) (s0_1 : Int) (s0_2 : Int) (a1 : Int) (r1 : List Int) (r2 : Int) (r3 : Int) (w0 w : World) (hI : IsS135 w0 w g s0_0 s0_1 s0_2) (hB : Below w0.heap.size w0 w) (h : spec_l1Bytes.f k s0_0 s0_1 s0_2 a1 = some (r1, r2, r3)) :
 Calls Try.prog 132 #[.pointer (some ⟨g, 0, none⟩), .int .i64 a1] w fun e w' => ∃ v0_ : Value, e = .returned (v0_) ∧ Kd.R (Kd.int .u8) 5 w' w.heap.size (fun _ => True) v0_ r1 ∧ IsS135 w0 w' g s0_0 r2 r3 ∧ Below w0.heap.size w0 w' ∧ KeepBut w w' g none := by
 have HI0 := am hI
 have HK := am (KeepBut.refl w g none)
 have HL := am hB.size
 clear hI
 have HW0 := am hB.size
 have HB := am hB
 clear hB
 have H : (spec_l1Bytes.l0 k a1 (([] : List Int)) 0 s0_0 s0_1 s0_2) = some (r1, r2, r3) := h
 clear h
 obtain ⟨y376, hy376⟩ : ∃ y_ : List Int, y_ = (([] : List Int)) := ⟨_, rfl⟩
 replace H : (spec_l1Bytes.l0 k a1 y376 0 s0_0 s0_1 s0_2) = some (r1, r2, r3) := hx H hy376
 have Ny376 := am hy376
 clear hy376
 have H' := am H
 clear H
 go_enter Try.func132, Try.ntmps132
 go_wp2_with (first | ((with_reducible refine gate_dst (N := 7) rfl ?_); refine Kd.R_lit (Kd.int .u8) _ 5 ?hg (N := 7) ?hd (xs := ([] : List Int)) (inner := []) (ok := fun _ => True) (okp := fun _ => True) ?hr ?hp (fun _ hk => hk) trivial (Below.refl _ _) (Nat.le_refl _) (by simp) ?_; (case hd => rfl); (case hg => rfl); (case hr => exact gs); (case hp => exact (Reps.none _ _)); intro v377 w3 ho4 hb hg_ hnew_; clear hg_ hnew_; (first | rw [← Ny376.out] at ho4 | (simp only [Int.reduceToNat] at ho4; rw [← Ny376.out] at ho4)); have n_ := ak4 (Kd.R_lower ho4 (keep_size (w := w) (g := g) (row := none) (kp0 HK.out))) (IsS135.below (IsS135.q0 HI0.out) hb) (KeepBut.trans (kp0 HK.out) (KeepBut.of_below hb g none) (.inl rfl)) (below_step (bq1 HB.out (IsS135.ge HI0.out)) hb); clear HI0 HK HB; obtain ⟨HO378, HI0, HK, HB⟩ := n_; clear hb ho4))
 go_loopg [5, 6] k (fun kq v5 v6 w' => ∃ (x5_1 : List Int) (x6_1 : Int) (x1001_1 : Int) (x1002_1 : Int), v6 = .int .i64 x6_1 ∧ Aside0 (spec_l1Bytes.l0 kq a1 x5_1 x6_1 s0_0 x1001_1 x1002_1 = some (r1, r2, r3)) ∧ Aside0 (kq ≤ k) ∧ Aside0 (Kd.R (Kd.int .u8) 5 w' w.heap.size (fun _ => True) v5 x5_1) ∧ Aside0 (IsS135 w0 w' g s0_0 x1001_1 x1002_1) ∧ Aside0 (KeepBut w w' g none) ∧ Aside0 (Below w0.heap.size w0 w'))
 case atStart => exact ⟨(y376), (0), (s0_1), (s0_2), sq, H', ⟨Nat.le_refl _⟩, ⟨kqR HO378.out⟩, ⟨IsS135.q0 HI0.out⟩, ⟨kp0 HK.out⟩, ⟨bq1 HB.out (IsS135.ge HI0.out)⟩⟩
 case round =>
  clear H'
  try clear c1
  try clear p2
  obtain ⟨x5_1, x6_1, x1001_1, x1002_1, rfl, HA, HK1, HO_5, HI0, HK, HB⟩ := hrel
  cases gk with
  | zero => exact absurd HA.out (by simp [spec_l1Bytes.l0])
  | succ k1 =>
   have H := HA.out
   clear HA
   simp only [spec_l1Bytes.l0] at H
   by_cases c5 : x6_1 < a1
   rotate_left
   · rw [if_neg c5] at H
     have c5b0 : decide (x6_1 < a1) = false := decide_eq_false c5
     clear c5
     simp only [Option.some.injEq, Prod.mk.injEq] at H
     obtain ⟨rfl, rfl, rfl⟩ := H
     go_wp2
     go_ret
     exact ⟨_, rq, kqR HO_5.out, IsS135.q0 HI0.out, bq1 HB.out (IsS135.ge HI0.out), kp0 HK.out⟩
   rw [if_pos c5] at H
   have c5b0 : decide (x6_1 < a1) = true := decide_eq_true c5
   clear c5
   replace H := Option.bind_eq_some_iff.mp H
   obtain ⟨⟨t379, t380, t381⟩, A60, H⟩ := H
   replace H : (if x5_1.length < 140737488355328 then (spec_l1Bytes.l0 k1 a1 (x5_1 ++ [(t379) % 256]) (wrap64 (x6_1 + 1)) s0_0 t380 t381) else (none)) = some (r1, r2, r3) := H
   have A6 := am A60
   clear A60
   by_cases c7 : x5_1.length < 140737488355328
   rotate_left
   · rw [if_neg c7] at H
     exact absurd H (by simp)
   rw [if_pos c7] at H
   have LMc7 := am c7
   clear c7
   obtain ⟨y382, hy382⟩ : ∃ y_ : List Int, y_ = (x5_1 ++ [(t379) % 256]) := ⟨_, rfl⟩
   replace H : (spec_l1Bytes.l0 k1 a1 y382 (wrap64 (x6_1 + 1)) s0_0 t380 t381) = some (r1, r2, r3) := hx H hy382
   have Ny382 := am hy382
   clear hy382
   have H' := am H
   clear H
   go_wp2_with (first | ((with_reducible refine gate_callee (f := 137) rfl ?_); refine goesL_ (some 15) rfl rfl Try.func137 (by kernel_rfl) rfl #[.pointer (some ⟨g, 0, none⟩)] rfl ga ?_; (with_reducible refine (spec_l1Byte.calls g s0_0 x1001_1 x1002_1 t379 t380 t381 w0 _ ?side1 ?side2 A6.out).mono ?_); (case side1 => exact IsS135.q0 HI0.out); (case side2 => exact bq1 HB.out (IsS135.ge HI0.out)); rintro e w8 ⟨rfl, hi, hb, hk⟩; refine ⟨_, rfl, ?_⟩; have n_ := ak4 (Kd.R_mono (Kd.R_keep (IsS135.apart (show IsS135 w0 _ g s0_0 x1001_1 x1002_1 from IsS135.q0 HI0.out) (kqR HO_5.out) (by decide)) hk (fun _ h => h.2)) (fun _ h => h.1)) (KeepBut.trans (kp0 HK.out) hk (.inl rfl)) hb hi; clear HO_5 HK HB HI0; obtain ⟨HO_5, HK, HB, HI0⟩ := n_; (try clear hb hk hi)) | ((with_reducible refine gate_builtin (b := .append) (xs := #[.tmp 13, .tmp 17]) rfl ?_); at_builtin; refine Kd.R_append (Kd.int .u8) w.heap.size rfl (.tmp 13) (.tmp 17) 22 5 (.int .u8 0) 1 rfl Try.underlying22 info5 rfl (by decide) (by omega) u5 x5_1 ((t379) % 256) [.int .u8 ((t379) % 256)] (fun _ => True) (fun _ => False) rfl rfl ?aP (fun _ hk => hk.elim) ?aF ?aO (Below.refl _ _) ?aS ?aL ?_; (case aP => exact rfl); (case aF => exact (fun _ _ => trivial)); (case aO => exact (kqR HO_5.out)); (case aS => exact (keep_size (w := w) (g := g) (row := none) (kp0 HK.out))); (case aL => have := LMc7.out; omega); intro v383 w9 ho hb hg hat; rw [← Ny382.out] at ho; have n_ := ak4 (IsS135.grown (IsS135.q0 HI0.out) hg (IsS135.own_ne HI0.out HO_5.out (by decide))) (below_weaken (bq1 HB.out (IsS135.ge HI0.out)) HL.out hb) (KeepBut.trans (kp0 HK.out) (KeepBut.of_grown hg g) (Kd.R_base2 HO_5.out)) ho; clear HI0 HB HK HO_5; obtain ⟨HI0, HB, HK, HO384⟩ := n_; clear ho hb hg hat))
   go_roundg k1
   case measure => have := HK1.out; omega
   case rel => exact ⟨(y382), (wrap64 (x6_1 + 1)), (t380), (t381), sq, H', ⟨by have := HK1.out; omega⟩, ⟨kqR HO384.out⟩, ⟨IsS135.q0 HI0.out⟩, ⟨kp0 HK.out⟩, ⟨bq1 HB.out (IsS135.ge HI0.out)⟩⟩
def spec_l1Some.f (k : Nat) (s0_0 : List Int) (s0_1 : Int) (s0_2 : Int) : Option (List Int × Int × Int) := (spec_l1Int.f s0_0 s0_1 s0_2 (([0, 1, 2, 5, 9] : List Int))).bind fun bt388 => ((spec_l1Bytes.f k s0_0 bt388.2.1 bt388.2.2 bt388.1).bind fun bt391 => (some (bt391.1, bt391.2.1, bt391.2.2)))
theorem spec_l1Some.mono : ∀ a0 a1 a2 k, LeO (spec_l1Some.f k a0 a1 a2) (spec_l1Some.f (k + 1) a0 a1 a2) := by
 intro a0 a1 a2 k
 unfold spec_l1Some.f
 repeat' first
  | (with_reducible exact spec_l1Bytes.mono _ _ _ _ _)
  | (with_reducible exact LeO.refl _)
  | (with_reducible exact LeO.none _)
  | (with_reducible refine LeO.ite ?_ ?_)
  | (with_reducible refine LeO.bind ?_ (fun _ => ?_))
  | exact spec_l1Bytes.mono _ _ _ _ _
  | exact LeO.none _
  | refine LeO.ite ?_ ?_
  | refine LeO.bind ?_ (fun _ => ?_)
theorem spec_l1Some.calls (k : Nat) (g : Nat) (s0_0 : List Int) (s0_1 : Int) (s0_2 : Int) (r1 : List Int) (r2 : Int) (r3 : Int) (w0 w : World) (hI : IsS135 w0 w g s0_0 s0_1 s0_2) (hB : Below w0.heap.size w0 w) (h : spec_l1Some.f k s0_0 s0_1 s0_2 = some (r1, r2, r3)) :
 Calls Try.prog 103 #[.pointer (some ⟨g, 0, none⟩)] w fun e w' => ∃ v0_ : Value, e = .returned (v0_) ∧ Kd.R (Kd.int .u8) 5 w' w.heap.size (fun _ => True) v0_ r1 ∧ IsS135 w0 w' g s0_0 r2 r3 ∧ Below w0.heap.size w0 w' ∧ KeepBut w w' g none := by
 have HI0 := am hI
 have HK := am (KeepBut.refl w g none)
 have HL := am hB.size
 clear hI
 have HW0 := am hB.size
 have HB := am hB
 clear hB
 have H : ((spec_l1Int.f s0_0 s0_1 s0_2 (([0, 1, 2, 5, 9] : List Int))).bind fun bt388 => ((spec_l1Bytes.f k s0_0 bt388.2.1 bt388.2.2 bt388.1).bind fun bt391 => (some (bt391.1, bt391.2.1, bt391.2.2)))) = some (r1, r2, r3) := h
 clear h
 obtain ⟨y385, hy385⟩ : ∃ y_ : List Int, y_ = (([0, 1, 2, 5, 9] : List Int)) := ⟨_, rfl⟩
 replace H : ((spec_l1Int.f s0_0 s0_1 s0_2 y385).bind fun bt388 => ((spec_l1Bytes.f k s0_0 bt388.2.1 bt388.2.2 bt388.1).bind fun bt391 => (some (bt391.1, bt391.2.1, bt391.2.2)))) = some (r1, r2, r3) := hx H hy385
 have Ny385 := am hy385
 clear hy385
 replace H := Option.bind_eq_some_iff.mp H
 obtain ⟨⟨t388, t389, t390⟩, A20, H⟩ := H
 replace H : ((spec_l1Bytes.f k s0_0 t389 t390 t388).bind fun bt391 => (some (bt391.1, bt391.2.1, bt391.2.2))) = some (r1, r2, r3) := H
 have A2 := am A20
 clear A20
 replace H := Option.bind_eq_some_iff.mp H
 obtain ⟨⟨t391, t394, t395⟩, A30, H⟩ := H
 replace H : (some (t391, t394, t395)) = some (r1, r2, r3) := H
 have A3 := am A30
 clear A30
 simp only [Option.some.injEq, Prod.mk.injEq] at H
 obtain ⟨rfl, rfl, rfl⟩ := H
 go_enter Try.func103, Try.ntmps103
 go_wp2_with (first | ((with_reducible refine gate_dst (N := 5) rfl ?_); refine Kd.R_lit (Kd.int .i64) _ 3 ?hg (N := 5) ?hd (xs := ([0, 1, 2, 5, 9] : List Int)) (inner := [.int .i64 0, .int .i64 1, .int .i64 2, .int .i64 5, .int .i64 9]) (ok := fun _ => True) (okp := fun _ => True) ?hr ?hp (fun _ hk => hk) trivial (Below.refl _ _) (Nat.le_refl _) (by simp) ?_; (case hd => rfl); (case hg => rfl); (case hr => exact gs); (case hp => exact (Reps.one (ri 0) (Reps.one (ri 1) (Reps.one (ri 2) (Reps.one (ri 5) (Reps.one (ri 9) (Reps.none _ _))))))); intro v386 w4 ho5 hb hg_ hnew_; clear hg_ hnew_; (first | rw [← Ny385.out] at ho5 | (simp only [Int.reduceToNat] at ho5; rw [← Ny385.out] at ho5)); have n_ := ak4 (Kd.R_lower ho5 (keep_size (w := w) (g := g) (row := none) (kp0 HK.out))) (IsS135.below (IsS135.q0 HI0.out) hb) (KeepBut.trans (kp0 HK.out) (KeepBut.of_below hb g none) (.inl rfl)) (below_step (bq1 HB.out (IsS135.ge HI0.out)) hb); clear HI0 HK HB; obtain ⟨HO387, HI0, HK, HB⟩ := n_; clear hb ho5; obtain ⟨Ao6, co6, eo6⟩ := Kd.R_slice HO387.out; subst eo6) | ((with_reducible refine gate_callee (f := 86) rfl ?_); refine goesL_ (some 6) rfl rfl Try.func86 (by kernel_rfl) rfl #[.pointer (some ⟨g, 0, none⟩), .slice Ao6 y385.length co6] rfl ga ?_; (with_reducible refine (spec_l1Int.calls g s0_0 s0_1 s0_2 _ _ y385 t388 t389 t390 w0 _ ?side1 ?side2 ?side3 ?side4 ?side5 A2.out).mono ?_); (case side1 => exact IsS135.q0 HI0.out); (case side2 => exact bq1 HB.out (IsS135.ge HI0.out)); (case side3 => repeat (first | exact (Kd.R_reads' HO387.out).2.2 | (with_reducible refine Kd.C_alloc ?_ _) | (with_reducible refine Kd.C_drewN ?_ _) | (with_reducible refine Kd.C_drew ?_))); (case side4 => exact (Kd.R_reads' HO387.out).2.1); (case side5 => exact far_slice (IsS135.own_ne HI0.out HO387.out (by decide))); rintro e w7 ⟨rfl, hi, hb, hk⟩; refine ⟨_, rfl, ?_⟩; have n_ := ak4 (Kd.R_mono (Kd.R_keep (IsS135.apart (show IsS135 w0 _ g s0_0 s0_1 s0_2 from IsS135.q0 HI0.out) (kqR HO387.out) (by decide)) hk (fun _ h => h.2)) (fun _ h => h.1)) (KeepBut.trans (kp0 HK.out) hk (.inl rfl)) hb hi; clear HO387 HK HB HI0; obtain ⟨HO387, HK, HB, HI0⟩ := n_; (try clear hb hk hi)) | ((with_reducible refine gate_callee (f := 132) rfl ?_); refine goesL_ (some 7) rfl rfl Try.func132 (by kernel_rfl) rfl #[.pointer (some ⟨g, 0, none⟩), .int .i64 t388] rfl ga ?_; (with_reducible refine (spec_l1Bytes.calls k g s0_0 t389 t390 t388 t391 t394 t395 w0 _ ?side1 ?side2 A3.out).mono ?_); (case side1 => exact IsS135.q0 HI0.out); (case side2 => exact bq1 HB.out (IsS135.ge HI0.out)); rintro e w8 ⟨v392, rfl, ho0, hi, hb, hk⟩; refine ⟨_, rfl, ?_⟩; have n_ := ak5 (Kd.R_mono (Kd.R_keep (IsS135.apart (show IsS135 w0 _ g s0_0 t389 t390 from IsS135.q0 HI0.out) (kqR HO387.out) (by decide)) hk (fun _ h => h.2)) (fun _ h => h.1)) (Kd.R_lower ho0 (keep_size (w := w) (g := g) (row := none) (kp0 HK.out))) (KeepBut.trans (kp0 HK.out) hk (.inl rfl)) hb hi; clear HO387 HK HB HI0; obtain ⟨HO387, HO393, HK, HB, HI0⟩ := n_; (try clear hb hk hi ho0)))
 go_ret
 exact ⟨_, rq, kqR HO393.out, IsS135.q0 HI0.out, bq1 HB.out (IsS135.ge HI0.out), kp0 HK.out⟩
def spec_l1Str.f (s0_0 : List Int) (s0_1 : Int) (s0_2 : Int) (l1 : List ByteArray) : Option (ByteArray × Int × Int) := (spec_l1Below.f s0_0 s0_1 s0_2 (l1.length : Int)).bind fun bt396 => (if 0 ≤ bt396.1 then (if bt396.1 < (l1.length : Int) then (some (rdOf ByteArray.empty l1 bt396.1, bt396.2.1, bt396.2.2)) else (none)) else (none))
theorem spec_l1Str.calls (g : Nat) (s0_0 : List Int) (s0_1 : Int) (s0_2 : Int) (A1 : Option Addr) (c1 : Nat) (l1 : List ByteArray) (r1 : ByteArray) (r2 : Int) (r3 : Int) (w0 w : World) (hI : IsS135 w0 w g s0_0 s0_1 s0_2) (hB : Below w0.heap.size w0 w) (hr1 : Kd.C Kd.string w A1 l1.length l1) (hc1 : l1.length ≤ c1) (hf1 : ∀ ad, A1 = some ad → 0 < l1.length → ad.block ≠ g) (h : spec_l1Str.f s0_0 s0_1 s0_2 l1 = some (r1, r2, r3)) :
 Calls Try.prog 114 #[.pointer (some ⟨g, 0, none⟩), .slice A1 l1.length c1] w fun e w' => e = .returned (.string r1) ∧ IsS135 w0 w' g s0_0 r2 r3 ∧ Below w0.heap.size w0 w' ∧ KeepBut w w' g none := by
 have HR1 := am hr1
 have HC1 := am hc1
 clear hr1 hc1
 have HI0 := am hI
 have HK := am (KeepBut.refl w g none)
 have HL := am hB.size
 clear hI
 have HW0 := am hB.size
 have HB := am hB
 clear hB
 have H : ((spec_l1Below.f s0_0 s0_1 s0_2 (l1.length : Int)).bind fun bt396 => (if 0 ≤ bt396.1 then (if bt396.1 < (l1.length : Int) then (some (rdOf ByteArray.empty l1 bt396.1, bt396.2.1, bt396.2.2)) else (none)) else (none))) = some (r1, r2, r3) := h
 clear h
 replace H := Option.bind_eq_some_iff.mp H
 obtain ⟨⟨t396, t397, t398⟩, A30, H⟩ := H
 replace H : (if 0 ≤ t396 then (if t396 < (l1.length : Int) then (some (rdOf ByteArray.empty l1 t396, t397, t398)) else (none)) else (none)) = some (r1, r2, r3) := H
 have A3 := am A30
 clear A30
 by_cases c4 : 0 ≤ t396
 rotate_left
 · rw [if_neg c4] at H
   exact absurd H (by simp)
 rw [if_pos c4] at H
 have c4b0 : decide (0 ≤ t396) = true := decide_eq_true c4
 clear c4
 by_cases c5 : t396 < (l1.length : Int)
 rotate_left
 · rw [if_neg c5] at H
   exact absurd H (by simp)
 rw [if_pos c5] at H
 have c5b0 : decide (t396 < (l1.length : Int)) = true := decide_eq_true c5
 clear c5
 simp only [Option.some.injEq, Prod.mk.injEq] at H
 obtain ⟨rfl, rfl, rfl⟩ := H
 go_enter Try.func114, Try.ntmps114
 go_wp2_with (first | ((with_reducible refine gate_callee (f := 122) rfl ?_); refine goesL_ (some 9) rfl rfl Try.func122 (by kernel_rfl) rfl #[.pointer (some ⟨g, 0, none⟩), .int .i64 (l1.length : Int)] rfl ga ?_; (with_reducible refine (spec_l1Below.calls g s0_0 s0_1 s0_2 (l1.length : Int) t396 t397 t398 w0 _ ?side1 ?side2 A3.out).mono ?_); (case side1 => exact IsS135.q0 HI0.out); (case side2 => exact bq1 HB.out (IsS135.ge HI0.out)); rintro e w6 ⟨rfl, hi, hb, hk⟩; refine ⟨_, rfl, ?_⟩; have n_ := ak3 (KeepBut.trans (kp0 HK.out) hk (.inl rfl)) hb hi; clear HK HB HI0; obtain ⟨HK, HB, HI0⟩ := n_; (try clear hb hk hi); have p399 : 0 ≤ (t396 : Int) := oda; have q399 : t396 < (l1.length : Int) := oda; obtain ⟨ad399, e399, hx399_0⟩ := Kd.at_string HR1.out t396 p399 q399; cases e399; replace hx399_0 := keep_cell HK.out hx399_0 (by first | (rw [add_block]; exact hf1 _ rfl (by omega)) | exact hf1 _ rfl (by omega) | exact hf1 ad399 rfl (by omega)); replace p399 := eq_true p399; replace q399 := eq_true q399))
 go_ret
 exact ⟨rq, IsS135.q0 HI0.out, bq1 HB.out (IsS135.ge HI0.out), kp0 HK.out⟩
def spec_l1Num.f (s0_0 : List Int) (s0_1 : Int) (s0_2 : Int) : Option (Int × Int × Int) := (spec_l1Below.f s0_0 s0_1 s0_2 1000).bind fun bt400 => ((spec_l1Int.f s0_0 bt400.2.1 bt400.2.2 (([0, 1, (-1), 127, 128, (-128), (-129), 255, 256, 32767, 32768, (-32769), 8388608, 2147483647, (-2147483648), 2147483648, (-2147483649), 9223372036854775807, (-9223372036854775808), bt400.1] : List Int))).bind fun bt406 => (some (bt406.1, bt406.2.1, bt406.2.2)))
theorem spec_l1Num.calls (g : Nat) (s0_0 : List Int) (s0_1 : Int) (s0_2 : Int) (r1 : Int) (r2 : Int) (r3 : Int) (w0 w : World) (hI : IsS135 w0 w g s0_0 s0_1 s0_2) (hB : Below w0.heap.size w0 w) (h : spec_l1Num.f s0_0 s0_1 s0_2 = some (r1, r2, r3)) :
 Calls Try.prog 133 #[.pointer (some ⟨g, 0, none⟩)] w fun e w' => e = .returned (.int .i64 r1) ∧ IsS135 w0 w' g s0_0 r2 r3 ∧ Below w0.heap.size w0 w' ∧ KeepBut w w' g none := by
 have HI0 := am hI
 have HK := am (KeepBut.refl w g none)
 have HL := am hB.size
 clear hI
 have HW0 := am hB.size
 have HB := am hB
 clear hB
 have H : ((spec_l1Below.f s0_0 s0_1 s0_2 1000).bind fun bt400 => ((spec_l1Int.f s0_0 bt400.2.1 bt400.2.2 (([0, 1, (-1), 127, 128, (-128), (-129), 255, 256, 32767, 32768, (-32769), 8388608, 2147483647, (-2147483648), 2147483648, (-2147483649), 9223372036854775807, (-9223372036854775808), bt400.1] : List Int))).bind fun bt406 => (some (bt406.1, bt406.2.1, bt406.2.2)))) = some (r1, r2, r3) := h
 clear h
 replace H := Option.bind_eq_some_iff.mp H
 obtain ⟨⟨t400, t401, t402⟩, A20, H⟩ := H
 replace H : ((spec_l1Int.f s0_0 t401 t402 (([0, 1, (-1), 127, 128, (-128), (-129), 255, 256, 32767, 32768, (-32769), 8388608, 2147483647, (-2147483648), 2147483648, (-2147483649), 9223372036854775807, (-9223372036854775808), t400] : List Int))).bind fun bt406 => (some (bt406.1, bt406.2.1, bt406.2.2))) = some (r1, r2, r3) := H
 have A2 := am A20
 clear A20
 obtain ⟨y403, hy403⟩ : ∃ y_ : List Int, y_ = (([0, 1, (-1), 127, 128, (-128), (-129), 255, 256, 32767, 32768, (-32769), 8388608, 2147483647, (-2147483648), 2147483648, (-2147483649), 9223372036854775807, (-9223372036854775808), t400] : List Int)) := ⟨_, rfl⟩
 replace H : ((spec_l1Int.f s0_0 t401 t402 y403).bind fun bt406 => (some (bt406.1, bt406.2.1, bt406.2.2))) = some (r1, r2, r3) := hx H hy403
 have Ny403 := am hy403
 clear hy403
 replace H := Option.bind_eq_some_iff.mp H
 obtain ⟨⟨t406, t407, t408⟩, A30, H⟩ := H
 replace H : (some (t406, t407, t408)) = some (r1, r2, r3) := H
 have A3 := am A30
 clear A30
 simp only [Option.some.injEq, Prod.mk.injEq] at H
 obtain ⟨rfl, rfl, rfl⟩ := H
 go_enter Try.func133, Try.ntmps133
 go_wp2_with (first | ((with_reducible refine gate_callee (f := 122) rfl ?_); refine goesL_ (some 5) rfl rfl Try.func122 (by kernel_rfl) rfl #[.pointer (some ⟨g, 0, none⟩), .int .i64 1000] rfl ga ?_; (with_reducible refine (spec_l1Below.calls g s0_0 s0_1 s0_2 1000 t400 t401 t402 w0 _ ?side1 ?side2 A2.out).mono ?_); (case side1 => exact IsS135.q0 HI0.out); (case side2 => exact bq1 HB.out (IsS135.ge HI0.out)); rintro e w4 ⟨rfl, hi, hb, hk⟩; refine ⟨_, rfl, ?_⟩; have n_ := ak3 (KeepBut.trans (kp0 HK.out) hk (.inl rfl)) hb hi; clear HK HB HI0; obtain ⟨HK, HB, HI0⟩ := n_; (try clear hb hk hi)) | ((with_reducible refine gate_dst (N := 6) rfl ?_); refine Kd.R_lit (Kd.int .i64) _ 3 ?hg (N := 6) ?hd (xs := ([0, 1, (-1), 127, 128, (-128), (-129), 255, 256, 32767, 32768, (-32769), 8388608, 2147483647, (-2147483648), 2147483648, (-2147483649), 9223372036854775807, (-9223372036854775808), t400] : List Int)) (inner := [.int .i64 0, .int .i64 1, .int .i64 (-1), .int .i64 127, .int .i64 128, .int .i64 (-128), .int .i64 (-129), .int .i64 255, .int .i64 256, .int .i64 32767, .int .i64 32768, .int .i64 (-32769), .int .i64 8388608, .int .i64 2147483647, .int .i64 (-2147483648), .int .i64 2147483648, .int .i64 (-2147483649), .int .i64 9223372036854775807, .int .i64 (-9223372036854775808), .int .i64 t400]) (ok := fun _ => True) (okp := fun _ => True) ?hr ?hp (fun _ hk => hk) trivial (Below.refl _ _) (Nat.le_refl _) (by simp) ?_; (case hd => rfl); (case hg => rfl); (case hr => exact gs); (case hp => exact (Reps.one (ri 0) (Reps.one (ri 1) (Reps.one (ri (-1)) (Reps.one (ri 127) (Reps.one (ri 128) (Reps.one (ri (-128)) (Reps.one (ri (-129)) (Reps.one (ri 255) (Reps.one (ri 256) (Reps.one (ri 32767) (Reps.one (ri 32768) (Reps.one (ri (-32769)) (Reps.one (ri 8388608) (Reps.one (ri 2147483647) (Reps.one (ri (-2147483648)) (Reps.one (ri 2147483648) (Reps.one (ri (-2147483649)) (Reps.one (ri 9223372036854775807) (Reps.one (ri (-9223372036854775808)) (Reps.one (show Kd.M (Kd.int .i64) _ _ _ t400 [.int .i64 t400] from rfl) (Reps.none _ _)))))))))))))))))))))); intro v404 w5 ho6 hb hg_ hnew_; clear hg_ hnew_; (first | rw [← Ny403.out] at ho6 | (simp only [Int.reduceToNat] at ho6; rw [← Ny403.out] at ho6)); have n_ := ak4 (Kd.R_lower ho6 (keep_size (w := w) (g := g) (row := none) (kp0 HK.out))) (IsS135.below (IsS135.q0 HI0.out) hb) (KeepBut.trans (kp0 HK.out) (KeepBut.of_below hb g none) (.inl rfl)) (below_step (bq1 HB.out (IsS135.ge HI0.out)) hb); clear HI0 HK HB; obtain ⟨HO405, HI0, HK, HB⟩ := n_; clear hb ho6; obtain ⟨Ao7, co7, eo7⟩ := Kd.R_slice HO405.out; subst eo7) | ((with_reducible refine gate_callee (f := 86) rfl ?_); refine goesL_ (some 7) rfl rfl Try.func86 (by kernel_rfl) rfl #[.pointer (some ⟨g, 0, none⟩), .slice Ao7 y403.length co7] rfl ga ?_; (with_reducible refine (spec_l1Int.calls g s0_0 t401 t402 _ _ y403 t406 t407 t408 w0 _ ?side1 ?side2 ?side3 ?side4 ?side5 A3.out).mono ?_); (case side1 => exact IsS135.q0 HI0.out); (case side2 => exact bq1 HB.out (IsS135.ge HI0.out)); (case side3 => repeat (first | exact (Kd.R_reads' HO405.out).2.2 | (with_reducible refine Kd.C_alloc ?_ _) | (with_reducible refine Kd.C_drewN ?_ _) | (with_reducible refine Kd.C_drew ?_))); (case side4 => exact (Kd.R_reads' HO405.out).2.1); (case side5 => exact far_slice (IsS135.own_ne HI0.out HO405.out (by decide))); rintro e w8 ⟨rfl, hi, hb, hk⟩; refine ⟨_, rfl, ?_⟩; have n_ := ak4 (Kd.R_mono (Kd.R_keep (IsS135.apart (show IsS135 w0 _ g s0_0 t401 t402 from IsS135.q0 HI0.out) (kqR HO405.out) (by decide)) hk (fun _ h => h.2)) (fun _ h => h.1)) (KeepBut.trans (kp0 HK.out) hk (.inl rfl)) hb hi; clear HO405 HK HB HI0; obtain ⟨HO405, HK, HB, HI0⟩ := n_; (try clear hb hk hi)))
 go_ret
 exact ⟨rq, IsS135.q0 HI0.out, bq1 HB.out (IsS135.ge HI0.out), kp0 HK.out⟩
def spec_l3Int.f (a0 : Int) : Option (Int × Int × ByteArray × List Int) := some (2, a0, (⟨#[]⟩ : ByteArray), ([] : List Int))
theorem spec_l3Int.calls (a0 : Int) (r1 : Int) (r2 : Int) (r3 : ByteArray) (r4 : List Int) (w : World) (h : spec_l3Int.f a0 = some (r1, r2, r3, r4)) :
 Calls Try.prog 135 #[.int .i64 a0] w fun e w' => ∃ v3_ : Value, e = .returned (.agg #[.int .i64 r1, .int .i64 r2, .string r3, v3_]) ∧ Kd.R (Kd.int .i64) 3 w' w.heap.size (fun _ => True) v3_ r4 ∧ Below w.heap.size w w' := by
 have hu29 := Try.underlying29
 have HB := am (Below.refl w.heap.size w)
 have H : (some (2, a0, (⟨#[]⟩ : ByteArray), ([] : List Int))) = some (r1, r2, r3, r4) := h
 clear h
 simp only [Option.some.injEq, Prod.mk.injEq] at H
 obtain ⟨rfl, rfl, rfl, rfl⟩ := H
 go_enter Try.func135, Try.ntmps135
 go_wp2_with (first | ((with_reducible refine gate_dst (N := 2) rfl ?_); refine bxe 2 #[.int .i64 0, .int .i64 0, .string (⟨#[]⟩ : ByteArray), .slice none 0 0] 29 ?_; intro gb409 hg w2 hbox hb; have n_ := ak4 (below_step (bq HB.out) hb) hbox ((by rw [hg]; exact (below_size (bq HB.out)) : w.heap.size ≤ gb409)) ((by rw [hg]; exact (below_size (bq HB.out)) : w.heap.size ≤ gb409)); clear HB; obtain ⟨HB, BK409, GW409, GE409⟩ := n_; clear hb hbox hg; obtain ⟨hcz3_0, hcz3_1, hcz3_2, hcz3_3, hfz3_0, hfz3_1, hfz3_2, hfz3_3⟩ := cl4 BK409.out) | ((with_reducible refine gate_store (t := 29) (p := 2) rfl ?_); refine store_event (t := 29) (p := 2) (v := ?vo_w4) (w1 := ((((w2.setCell ⟨gb409, 0, none⟩ (.int .i64 2)).setCell ⟨gb409, 1, none⟩ (.int .i64 a0)).setCell ⟨gb409, 2, none⟩ (.string (⟨#[]⟩ : ByteArray))).setCell ⟨gb409, 3, none⟩ (.slice none 0 0))) ?hg ?ho ?hn ?hr ?_; (case ho => rfl); (case hg => rfl); (case hn => rfl); (case hr => exact gs); intro w4 hw; have n_ : Aside0 (w4.heap[gb409]? = some (.cells #[.int .i64 2, .int .i64 a0, .string (⟨#[]⟩ : ByteArray), .slice none 0 0] 29 (0, 0))) ∧ Aside0 (Below w.heap.size w w4) := ⟨⟨(by rw [hw]; exact (by refine zr ?_; exact bp4 (zb BK409.out)))⟩, ⟨(by rw [hw]; exact (bq1 HB.out GE409.out))⟩⟩; clear hw BK409 HB; obtain ⟨BK409, HB⟩ := n_))
 refine bodyPost_ret (results_cell_row rfl _ _ gb409 29 #[.int .i64 2, .int .i64 a0, .string (⟨#[]⟩ : ByteArray), .slice none 0 0] (0, 0) _ rfl (zq BK409.out) Try.underlying29 rfl (by kernel_rfl)) rfl ?_
 exact ⟨_, rq, rn, bq1 HB.out GE409.out⟩
def spec_l2Draw.l0 : Nat → List Int → Int → List Int → Int → Int → Option (List Int × Int × Int)
 | 0, _, _, _, _, _ => none
 | k + 1, x3, x4, x1000, x1001, x1002 => if x4 > 0 then ((spec_l1Int.f x1000 x1001 x1002 (([0, 1, 2, 3, 127, 128, 16384, 100000] : List Int))).bind fun bt419 => (if x3.length < 17592186044416 then (spec_l2Draw.l0 k (x3 ++ [bt419.1]) (wrap64 (x4 - 1)) x1000 bt419.2.1 bt419.2.2) else (none))) else (some (x3, x1001, x1002))
def spec_l2Draw.f (k : Nat) (s0_0 : List Int) (s0_1 : Int) (s0_2 : Int) : Option (List Int × Int × Int) := (spec_l1Below.f s0_0 s0_1 s0_2 6).bind fun bt413 => (spec_l2Draw.l0 k (([] : List Int)) (wrap64 (1 + bt413.1)) s0_0 bt413.2.1 bt413.2.2)
theorem spec_l2Draw.mono_l : ∀ k, (∀ y0 y1 y2 y3 y4, LeO (spec_l2Draw.l0 k y0 y1 y2 y3 y4) (spec_l2Draw.l0 (k + 1) y0 y1 y2 y3 y4))
 | 0 => fun _ _ _ _ _ r h => by simp [spec_l2Draw.l0] at h
 | k + 1 => by
  have ih0 := spec_l2Draw.mono_l k
  intro y0 y1 y2 y3 y4
  unfold spec_l2Draw.l0
  repeat' first
  | (with_reducible exact ih0 _ _ _ _ _)
  | (with_reducible exact LeO.refl _)
  | (with_reducible exact LeO.none _)
  | (with_reducible refine LeO.ite ?_ ?_)
  | (with_reducible refine LeO.bind ?_ (fun _ => ?_))
  | exact ih0 _ _ _ _ _
  | exact LeO.none _
  | refine LeO.ite ?_ ?_
  | refine LeO.bind ?_ (fun _ => ?_)
theorem spec_l2Draw.mono : ∀ a0 a1 a2 k, LeO (spec_l2Draw.f k a0 a1 a2) (spec_l2Draw.f (k + 1) a0 a1 a2) := by
 intro a0 a1 a2 k
 have ih0 := spec_l2Draw.mono_l k
 unfold spec_l2Draw.f
 repeat' first
  | (with_reducible exact ih0 _ _ _ _ _)
  | (with_reducible exact LeO.refl _)
  | (with_reducible exact LeO.none _)
  | (with_reducible refine LeO.ite ?_ ?_)
  | (with_reducible refine LeO.bind ?_ (fun _ => ?_))
  | exact ih0 _ _ _ _ _
  | exact LeO.none _
  | refine LeO.ite ?_ ?_
  | refine LeO.bind ?_ (fun _ => ?_)
theorem spec_l2Draw.calls (k : Nat) (g : Nat) (s0_0 : List Int) (s0_1 : Int) (s0_2 : Int) (r1 : List Int) (r2 : Int) (r3 : Int) (w0 w : World) (hI : IsS135 w0 w g s0_0 s0_1 s0_2) (hB : Below w0.heap.size w0 w) (h : spec_l2Draw.f k s0_0 s0_1 s0_2 = some (r1, r2, r3)) :
 Calls Try.prog 136 #[.pointer (some ⟨g, 0, none⟩)] w fun e w' => ∃ v0_ : Value, e = .returned (v0_) ∧ Kd.R (Kd.int .i64) 3 w' w.heap.size (fun _ => True) v0_ r1 ∧ IsS135 w0 w' g s0_0 r2 r3 ∧ Below w0.heap.size w0 w' ∧ KeepBut w w' g none := by
 have HI0 := am hI
 have HK := am (KeepBut.refl w g none)
 have HL := am hB.size
 clear hI
 have HW0 := am hB.size
 have HB := am hB
 clear hB
 have H : ((spec_l1Below.f s0_0 s0_1 s0_2 6).bind fun bt413 => (spec_l2Draw.l0 k (([] : List Int)) (wrap64 (1 + bt413.1)) s0_0 bt413.2.1 bt413.2.2)) = some (r1, r2, r3) := h
 clear h
 obtain ⟨y410, hy410⟩ : ∃ y_ : List Int, y_ = (([] : List Int)) := ⟨_, rfl⟩
 replace H : ((spec_l1Below.f s0_0 s0_1 s0_2 6).bind fun bt413 => (spec_l2Draw.l0 k y410 (wrap64 (1 + bt413.1)) s0_0 bt413.2.1 bt413.2.2)) = some (r1, r2, r3) := hx H hy410
 have Ny410 := am hy410
 clear hy410
 replace H := Option.bind_eq_some_iff.mp H
 obtain ⟨⟨t413, t414, t415⟩, A20, H⟩ := H
 replace H : (spec_l2Draw.l0 k y410 (wrap64 (1 + t413)) s0_0 t414 t415) = some (r1, r2, r3) := H
 have A2 := am A20
 clear A20
 have H' := am H
 clear H
 go_enter Try.func136, Try.ntmps136
 go_wp2_with (first | ((with_reducible refine gate_dst (N := 5) rfl ?_); refine Kd.R_lit (Kd.int .i64) _ 3 ?hg (N := 5) ?hd (xs := ([] : List Int)) (inner := []) (ok := fun _ => True) (okp := fun _ => True) ?hr ?hp (fun _ hk => hk) trivial (Below.refl _ _) (Nat.le_refl _) (by simp) ?_; (case hd => rfl); (case hg => rfl); (case hr => exact gs); (case hp => exact (Reps.none _ _)); intro v411 w3 ho4 hb hg_ hnew_; clear hg_ hnew_; (first | rw [← Ny410.out] at ho4 | (simp only [Int.reduceToNat] at ho4; rw [← Ny410.out] at ho4)); have n_ := ak4 (Kd.R_lower ho4 (keep_size (w := w) (g := g) (row := none) (kp0 HK.out))) (IsS135.below (IsS135.q0 HI0.out) hb) (KeepBut.trans (kp0 HK.out) (KeepBut.of_below hb g none) (.inl rfl)) (below_step (bq1 HB.out (IsS135.ge HI0.out)) hb); clear HI0 HK HB; obtain ⟨HO412, HI0, HK, HB⟩ := n_; clear hb ho4) | ((with_reducible refine gate_callee (f := 122) rfl ?_); refine goesL_ (some 7) rfl rfl Try.func122 (by kernel_rfl) rfl #[.pointer (some ⟨g, 0, none⟩), .int .i64 6] rfl ga ?_; (with_reducible refine (spec_l1Below.calls g s0_0 s0_1 s0_2 6 t413 t414 t415 w0 _ ?side1 ?side2 A2.out).mono ?_); (case side1 => exact IsS135.q0 HI0.out); (case side2 => exact bq1 HB.out (IsS135.ge HI0.out)); rintro e w5 ⟨rfl, hi, hb, hk⟩; refine ⟨_, rfl, ?_⟩; have n_ := ak4 (Kd.R_mono (Kd.R_keep (IsS135.apart (show IsS135 w0 _ g s0_0 s0_1 s0_2 from IsS135.q0 HI0.out) (kqR HO412.out) (by decide)) hk (fun _ h => h.2)) (fun _ h => h.1)) (KeepBut.trans (kp0 HK.out) hk (.inl rfl)) hb hi; clear HO412 HK HB HI0; obtain ⟨HO412, HK, HB, HI0⟩ := n_; (try clear hb hk hi)))
 go_loopg [3, 4] k (fun kq v3 v4 w' => ∃ (x3_1 : List Int) (x4_1 : Int) (x1001_1 : Int) (x1002_1 : Int), v4 = .int .i64 x4_1 ∧ Aside0 (spec_l2Draw.l0 kq x3_1 x4_1 s0_0 x1001_1 x1002_1 = some (r1, r2, r3)) ∧ Aside0 (kq ≤ k) ∧ Aside0 (Kd.R (Kd.int .i64) 3 w' w.heap.size (fun _ => True) v3 x3_1) ∧ Aside0 (IsS135 w0 w' g s0_0 x1001_1 x1002_1) ∧ Aside0 (KeepBut w w' g none) ∧ Aside0 (Below w0.heap.size w0 w'))
 case atStart => exact ⟨(y410), (wrap64 (1 + t413)), (t414), (t415), sq, H', ⟨Nat.le_refl _⟩, ⟨kqR HO412.out⟩, ⟨IsS135.q0 HI0.out⟩, ⟨kp0 HK.out⟩, ⟨bq1 HB.out (IsS135.ge HI0.out)⟩⟩
 case round =>
  clear H'
  try clear c1
  try clear p2
  obtain ⟨x3_1, x4_1, x1001_1, x1002_1, rfl, HA, HK1, HO_3, HI0, HK, HB⟩ := hrel
  cases gk with
  | zero => exact absurd HA.out (by simp [spec_l2Draw.l0])
  | succ k1 =>
   have H := HA.out
   clear HA
   simp only [spec_l2Draw.l0] at H
   by_cases c6 : x4_1 > 0
   rotate_left
   · rw [if_neg c6] at H
     have c6b0 : decide (0 < x4_1) = false := decide_eq_false c6
     clear c6
     simp only [Option.some.injEq, Prod.mk.injEq] at H
     obtain ⟨rfl, rfl, rfl⟩ := H
     go_wp2
     go_ret
     exact ⟨_, rq, kqR HO_3.out, IsS135.q0 HI0.out, bq1 HB.out (IsS135.ge HI0.out), kp0 HK.out⟩
   rw [if_pos c6] at H
   have c6b0 : decide (0 < x4_1) = true := decide_eq_true c6
   clear c6
   obtain ⟨y416, hy416⟩ : ∃ y_ : List Int, y_ = (([0, 1, 2, 3, 127, 128, 16384, 100000] : List Int)) := ⟨_, rfl⟩
   replace H : ((spec_l1Int.f s0_0 x1001_1 x1002_1 y416).bind fun bt419 => (if x3_1.length < 17592186044416 then (spec_l2Draw.l0 k1 (x3_1 ++ [bt419.1]) (wrap64 (x4_1 - 1)) s0_0 bt419.2.1 bt419.2.2) else (none))) = some (r1, r2, r3) := hx H hy416
   have Ny416 := am hy416
   clear hy416
   replace H := Option.bind_eq_some_iff.mp H
   obtain ⟨⟨t419, t420, t421⟩, A70, H⟩ := H
   replace H : (if x3_1.length < 17592186044416 then (spec_l2Draw.l0 k1 (x3_1 ++ [t419]) (wrap64 (x4_1 - 1)) s0_0 t420 t421) else (none)) = some (r1, r2, r3) := H
   have A7 := am A70
   clear A70
   by_cases c8 : x3_1.length < 17592186044416
   rotate_left
   · rw [if_neg c8] at H
     exact absurd H (by simp)
   rw [if_pos c8] at H
   have LMc8 := am c8
   clear c8
   obtain ⟨y422, hy422⟩ : ∃ y_ : List Int, y_ = (x3_1 ++ [t419]) := ⟨_, rfl⟩
   replace H : (spec_l2Draw.l0 k1 y422 (wrap64 (x4_1 - 1)) s0_0 t420 t421) = some (r1, r2, r3) := hx H hy422
   have Ny422 := am hy422
   clear hy422
   have H' := am H
   clear H
   go_wp2_with (first | ((with_reducible refine gate_dst (N := 15) rfl ?_); refine Kd.R_lit (Kd.int .i64) _ 3 ?hg (N := 15) ?hd (xs := ([0, 1, 2, 3, 127, 128, 16384, 100000] : List Int)) (inner := [.int .i64 0, .int .i64 1, .int .i64 2, .int .i64 3, .int .i64 127, .int .i64 128, .int .i64 16384, .int .i64 100000]) (ok := fun _ => True) (okp := fun _ => True) ?hr ?hp (fun _ hk => hk) trivial (Below.refl _ _) (Nat.le_refl _) (by simp) ?_; (case hd => rfl); (case hg => rfl); (case hr => exact gs); (case hp => exact (Reps.one (ri 0) (Reps.one (ri 1) (Reps.one (ri 2) (Reps.one (ri 3) (Reps.one (ri 127) (Reps.one (ri 128) (Reps.one (ri 16384) (Reps.one (ri 100000) (Reps.none _ _)))))))))); intro v417 w9 ho10 hb hg_ hnew_; clear hg_ hnew_; (first | rw [← Ny416.out] at ho10 | (simp only [Int.reduceToNat] at ho10; rw [← Ny416.out] at ho10)); have n_ := ak5 (Kd.R_elder' (kqR HO_3.out) (Kd.R_base ho10) hb) (Kd.R_lower (Kd.R_new' ho10 (Kd.R_lt (kqR HO_3.out))) (keep_size (w := w) (g := g) (row := none) (kp0 HK.out))) (IsS135.below (IsS135.q0 HI0.out) hb) (KeepBut.trans (kp0 HK.out) (KeepBut.of_below hb g none) (.inl rfl)) (below_step (bq1 HB.out (IsS135.ge HI0.out)) hb); clear HO_3 HI0 HK HB; obtain ⟨HO_3, HO418, HI0, HK, HB⟩ := n_; clear hb ho10; obtain ⟨Ao11, co11, eo11⟩ := Kd.R_slice HO418.out; subst eo11) | ((with_reducible refine gate_callee (f := 86) rfl ?_); refine goesL_ (some 16) rfl rfl Try.func86 (by kernel_rfl) rfl #[.pointer (some ⟨g, 0, none⟩), .slice Ao11 y416.length co11] rfl ga ?_; (with_reducible refine (spec_l1Int.calls g s0_0 x1001_1 x1002_1 _ _ y416 t419 t420 t421 w0 _ ?side1 ?side2 ?side3 ?side4 ?side5 A7.out).mono ?_); (case side1 => exact IsS135.q0 HI0.out); (case side2 => exact bq1 HB.out (IsS135.ge HI0.out)); (case side3 => repeat (first | exact (Kd.R_reads' HO418.out).2.2 | (with_reducible refine Kd.C_alloc ?_ _) | (with_reducible refine Kd.C_drewN ?_ _) | (with_reducible refine Kd.C_drew ?_))); (case side4 => exact (Kd.R_reads' HO418.out).2.1); (case side5 => exact far_slice (IsS135.own_ne HI0.out HO418.out (by decide))); rintro e w12 ⟨rfl, hi, hb, hk⟩; refine ⟨_, rfl, ?_⟩; have n_ := ak5 (Kd.R_mono (Kd.R_keep (IsS135.apart (show IsS135 w0 _ g s0_0 x1001_1 x1002_1 from IsS135.q0 HI0.out) (kqR HO_3.out) (by decide)) hk (fun _ h => h.2)) (fun _ h => h.1)) (Kd.R_mono (Kd.R_keep (IsS135.apart (show IsS135 w0 _ g s0_0 x1001_1 x1002_1 from IsS135.q0 HI0.out) (kqR HO418.out) (by decide)) hk (fun _ h => h.2)) (fun _ h => h.1)) (KeepBut.trans (kp0 HK.out) hk (.inl rfl)) hb hi; clear HO_3 HO418 HK HB HI0; obtain ⟨HO_3, HO418, HK, HB, HI0⟩ := n_; (try clear hb hk hi)) | ((with_reducible refine gate_builtin (b := .append) (xs := #[.tmp 13, .tmp 17]) rfl ?_); at_builtin; refine Kd.R_append (Kd.int .i64) w.heap.size rfl (.tmp 13) (.tmp 17) 23 3 (.int .i64 0) 8 rfl Try.underlying23 info3 rfl (by decide) (by omega) u3 x3_1 t419 [.int .i64 t419] (fun k_ => some k_ ≠ (.slice Ao11 y416.length co11 : Value).ownBlock) (fun _ => False) rfl rfl ?aP (fun _ hk => hk.elim) ?aF ?aO (Below.refl _ _) ?aS ?aL ?_; (case aP => exact rfl); (case aF => exact (fun k_ hk => Kd.fresh' (Kd.R_lt (kqR HO418.out)) k_ hk)); (case aO => exact (by refine kr ?_; exact Kd.R_mono HO_3.out (fun _ hk => hk.2))); (case aS => exact (keep_size (w := w) (g := g) (row := none) (kp0 HK.out))); (case aL => have := LMc8.out; omega); intro v423 w13 ho hb hg hat; rw [← Ny422.out] at ho; have n_ := ak5 (IsS135.grown (IsS135.q0 HI0.out) hg (IsS135.own_ne HI0.out HO_3.out (by decide))) (Kd.R_after (ok := (fun _ => True)) (kqR HO418.out) hg hat) (below_weaken (bq1 HB.out (IsS135.ge HI0.out)) HL.out hb) (KeepBut.trans (kp0 HK.out) (KeepBut.of_grown hg g) (Kd.R_base2 HO_3.out)) ho; clear HI0 HO418 HB HK HO_3; obtain ⟨HI0, HO418, HB, HK, HO424⟩ := n_; clear ho hb hg hat))
   go_roundg k1
   case measure => have := HK1.out; omega
   case rel => exact ⟨(y422), (wrap64 (x4_1 - 1)), (t420), (t421), sq, H', ⟨by have := HK1.out; omega⟩, ⟨by refine kr ?_; exact Kd.R_mono HO424.out (fun _ hk => trivial)⟩, ⟨IsS135.q0 HI0.out⟩, ⟨kp0 HK.out⟩, ⟨bq1 HB.out (IsS135.ge HI0.out)⟩⟩
def spec_l3Draw.j0 : Nat → Int → Bool → List Int → Int → Int → Option (Int × Int × ByteArray × List Int × Int × Int)
 | 0, _, _, _, _, _ => none
 | k + 1, x4, x8, x1000, x1001, x1002 => if x8 = true then ((spec_l1Num.f x1000 x1001 x1002).bind fun bt429 => ((spec_l1Clip.f bt429.1).bind fun t432 => ((spec_l3Int.f t432).bind fun bt433 => (some (bt433.1, bt433.2.1, bt433.2.2.1, bt433.2.2.2, bt429.2.1, bt429.2.2))))) else (if x4 = 3 then ((spec_l1Str.f x1000 x1001 x1002 (([(⟨#[]⟩ : ByteArray), (⟨#[97]⟩ : ByteArray), (⟨#[121, 97, 114, 100]⟩ : ByteArray), (⟨#[0]⟩ : ByteArray)] : List ByteArray))).bind fun bt442 => (some (4, 0, bt442.1, ([] : List Int), bt442.2.1, bt442.2.2))) else (if x4 = 4 then ((spec_l2Draw.f k x1000 x1001 x1002).bind fun bt445 => (some (6, 0, (⟨#[]⟩ : ByteArray), bt445.1, bt445.2.1, bt445.2.2))) else ((spec_l1Int.f x1000 x1001 x1002 (([128, 130] : List Int))).bind fun bt453 => (some (bt453.1, 0, (⟨#[]⟩ : ByteArray), ([] : List Int), bt453.2.1, bt453.2.2)))))
def spec_l3Draw.f (k : Nat) (s0_0 : List Int) (s0_1 : Int) (s0_2 : Int) : Option (Int × Int × ByteArray × List Int × Int × Int) := (spec_l1Below.f s0_0 s0_1 s0_2 6).bind fun bt426 => (if bt426.1 = 0 then (some (5, 0, (⟨#[]⟩ : ByteArray), ([] : List Int), bt426.2.1, bt426.2.2)) else (if bt426.1 = 1 then (spec_l3Draw.j0 k bt426.1 (bt426.1 == 1) s0_0 bt426.2.1 bt426.2.2) else (spec_l3Draw.j0 k bt426.1 (bt426.1 == 2) s0_0 bt426.2.1 bt426.2.2)))
theorem spec_l3Draw.mono_l : ∀ k, (∀ y0 y1 y2 y3 y4, LeO (spec_l3Draw.j0 k y0 y1 y2 y3 y4) (spec_l3Draw.j0 (k + 1) y0 y1 y2 y3 y4))
 | 0 => fun _ _ _ _ _ r h => by simp [spec_l3Draw.j0] at h
 | k + 1 => by
  have ih0 := spec_l3Draw.mono_l k
  intro y0 y1 y2 y3 y4
  unfold spec_l3Draw.j0
  repeat' first
  | (with_reducible exact ih0 _ _ _ _ _)
  | (with_reducible exact spec_l2Draw.mono _ _ _ _)
  | (with_reducible exact LeO.refl _)
  | (with_reducible exact LeO.none _)
  | (with_reducible refine LeO.ite ?_ ?_)
  | (with_reducible refine LeO.bind ?_ (fun _ => ?_))
  | exact ih0 _ _ _ _ _
  | exact spec_l2Draw.mono _ _ _ _
  | exact LeO.none _
  | refine LeO.ite ?_ ?_
  | refine LeO.bind ?_ (fun _ => ?_)
theorem spec_l3Draw.mono : ∀ a0 a1 a2 k, LeO (spec_l3Draw.f k a0 a1 a2) (spec_l3Draw.f (k + 1) a0 a1 a2) := by
 intro a0 a1 a2 k
 have ih0 := spec_l3Draw.mono_l k
 unfold spec_l3Draw.f
 repeat' first
  | (with_reducible exact ih0 _ _ _ _ _)
  | (with_reducible exact spec_l2Draw.mono _ _ _ _)
  | (with_reducible exact LeO.refl _)
  | (with_reducible exact LeO.none _)
  | (with_reducible refine LeO.ite ?_ ?_)
  | (with_reducible refine LeO.bind ?_ (fun _ => ?_))
  | exact ih0 _ _ _ _ _
  | exact spec_l2Draw.mono _ _ _ _
  | exact LeO.none _
  | refine LeO.ite ?_ ?_
  | refine LeO.bind ?_ (fun _ => ?_)
theorem spec_l3Draw.calls (k : Nat) (g : Nat) (s0_0 : List Int) (s0_1 : Int) (s0_2 : Int) (r1 : Int) (r2 : Int) (r3 : ByteArray) (r4 : List Int) (r5 : Int) (r6 : Int) (w0 w : World) (hI : IsS135 w0 w g s0_0 s0_1 s0_2) (hB : Below w0.heap.size w0 w) (h : spec_l3Draw.f k s0_0 s0_1 s0_2 = some (r1, r2, r3, r4, r5, r6)) :
 Calls Try.prog 105 #[.pointer (some ⟨g, 0, none⟩)] w fun e w' => ∃ v3_ : Value, e = .returned (.agg #[.int .i64 r1, .int .i64 r2, .string r3, v3_]) ∧ Kd.R (Kd.int .i64) 3 w' w.heap.size (fun _ => True) v3_ r4 ∧ IsS135 w0 w' g s0_0 r5 r6 ∧ Below w0.heap.size w0 w' ∧ KeepBut w w' g none := by
 have hu29 := Try.underlying29
 have HI0 := am hI
 have HK := am (KeepBut.refl w g none)
 have HL := am hB.size
 clear hI
 have HW0 := am hB.size
 have HB := am hB
 clear hB
 have H : ((spec_l1Below.f s0_0 s0_1 s0_2 6).bind fun bt426 => (if bt426.1 = 0 then (some (5, 0, (⟨#[]⟩ : ByteArray), ([] : List Int), bt426.2.1, bt426.2.2)) else (if bt426.1 = 1 then (spec_l3Draw.j0 k bt426.1 (bt426.1 == 1) s0_0 bt426.2.1 bt426.2.2) else (spec_l3Draw.j0 k bt426.1 (bt426.1 == 2) s0_0 bt426.2.1 bt426.2.2)))) = some (r1, r2, r3, r4, r5, r6) := h
 clear h
 replace H := Option.bind_eq_some_iff.mp H
 obtain ⟨⟨t426, t427, t428⟩, A20, H⟩ := H
 replace H : (if t426 = 0 then (some (5, 0, (⟨#[]⟩ : ByteArray), ([] : List Int), t427, t428)) else (if t426 = 1 then (spec_l3Draw.j0 k t426 (t426 == 1) s0_0 t427 t428) else (spec_l3Draw.j0 k t426 (t426 == 2) s0_0 t427 t428))) = some (r1, r2, r3, r4, r5, r6) := H
 have A2 := am A20
 clear A20
 by_cases c3 : t426 = 0
 · rw [if_pos c3] at H
   have c3b0 : (t426 == 0) = true := beq_iff_eq.mpr c3
   have c3b1 : (t426 != 0) = false := bne_eq_false_iff_eq.mpr c3
   clear c3
   simp only [Option.some.injEq, Prod.mk.injEq] at H
   obtain ⟨rfl, rfl, rfl, rfl, rfl, rfl⟩ := H
   go_enter Try.func105, Try.ntmps105
   go_wp2_with (first | ((with_reducible refine gate_dst (N := 2) rfl ?_); refine bxe 2 #[.int .i64 0, .int .i64 0, .string (⟨#[]⟩ : ByteArray), .slice none 0 0] 29 ?_; intro gb425 hg w4 hbox hb; have n_ := ak8 (IsS135.below (IsS135.q0 HI0.out) hb) (KeepBut.trans (kp0 HK.out) (KeepBut.of_below hb g none) (.inl rfl)) (below_step (bq1 HB.out (IsS135.ge HI0.out)) hb) hbox ((by rw [hg]; exact (keep_size (w := w) (g := g) (row := none) (kp0 HK.out)) : w.heap.size ≤ gb425)) ((Nat.le_trans HW0.out (by rw [hg]; exact (keep_size (w := w) (g := g) (row := none) (kp0 HK.out)) : w.heap.size ≤ gb425) : w0.heap.size ≤ gb425)) ((by rw [hg]; exact Nat.ne_of_lt (IsS135.lt (show IsS135 w0 _ g s0_0 s0_1 s0_2 from IsS135.q0 HI0.out)) : g ≠ gb425)) ((by rw [hg]; exact Nat.ne_of_gt (IsS135.lt (show IsS135 w0 _ g s0_0 s0_1 s0_2 from IsS135.q0 HI0.out)) : gb425 ≠ g)); clear HI0 HK HB; obtain ⟨HI0, HK, HB, BK425, GW425, GE425, NB0_425, NB425_0⟩ := n_; clear hb hbox hg) | ((with_reducible refine gate_callee (f := 122) rfl ?_); refine goesL_ (some 4) rfl rfl Try.func122 (by kernel_rfl) rfl #[.pointer (some ⟨g, 0, none⟩), .int .i64 6] rfl ga ?_; (with_reducible refine (spec_l1Below.calls g s0_0 s0_1 s0_2 6 t426 t427 t428 w0 _ ?side1 ?side2 A2.out).mono ?_); (case side1 => exact IsS135.q1 HI0.out NB0_425.out); (case side2 => exact bq2 HB.out (IsS135.ge HI0.out) GE425.out); rintro e w5 ⟨rfl, hi, hb, hk⟩; refine ⟨_, rfl, ?_⟩; have n_ := ak4 (KeepBut.blk hk (zb BK425.out) NB425_0.out (by simp)) (KeepBut.trans (kp1 HK.out GW425.out) hk (.inl rfl)) hb hi; clear BK425 HK HB HI0; obtain ⟨BK425, HK, HB, HI0⟩ := n_; (try clear hb hk hi); have hnb6 := NB425_0.out; have hnc6 := NB0_425.out; obtain ⟨hcz7_0, hcz7_1, hcz7_2, hcz7_3, hfz7_0, hfz7_1, hfz7_2, hfz7_3⟩ := cl4 BK425.out))
   refine bodyPost_ret (results_cell_row rfl _ _ gb425 29 #[.int .i64 5, .int .i64 0, .string (⟨#[]⟩ : ByteArray), .slice none 0 0] (0, 0) _ rfl (by refine zr ?_; exact bp4 (zb BK425.out)) Try.underlying29 rfl (by kernel_rfl)) rfl ?_
   exact ⟨_, rq, rn, IsS135.q1 HI0.out NB0_425.out, bq2 HB.out (IsS135.ge HI0.out) GE425.out, kp1 HK.out GW425.out⟩
 rw [if_neg c3] at H
 have c3b0 : (t426 == 0) = false := beq_eq_false_iff_ne.mpr c3
 have c3b1 : (t426 != 0) = true := bne_iff_ne.mpr c3
 have HC8 := am H
 clear H
 go_enter Try.func105, Try.ntmps105
 go_upto_if 8 with (first | ((with_reducible refine gate_dst (N := 2) rfl ?_); refine bxe 2 #[.int .i64 0, .int .i64 0, .string (⟨#[]⟩ : ByteArray), .slice none 0 0] 29 ?_; intro gb425 hg w9 hbox hb; have n_ := ak8 (IsS135.below (IsS135.q0 HI0.out) hb) (KeepBut.trans (kp0 HK.out) (KeepBut.of_below hb g none) (.inl rfl)) (below_step (bq1 HB.out (IsS135.ge HI0.out)) hb) hbox ((by rw [hg]; exact (keep_size (w := w) (g := g) (row := none) (kp0 HK.out)) : w.heap.size ≤ gb425)) ((Nat.le_trans HW0.out (by rw [hg]; exact (keep_size (w := w) (g := g) (row := none) (kp0 HK.out)) : w.heap.size ≤ gb425) : w0.heap.size ≤ gb425)) ((by rw [hg]; exact Nat.ne_of_lt (IsS135.lt (show IsS135 w0 _ g s0_0 s0_1 s0_2 from IsS135.q0 HI0.out)) : g ≠ gb425)) ((by rw [hg]; exact Nat.ne_of_gt (IsS135.lt (show IsS135 w0 _ g s0_0 s0_1 s0_2 from IsS135.q0 HI0.out)) : gb425 ≠ g)); clear HI0 HK HB; obtain ⟨HI0, HK, HB, BK425, GW425, GE425, NB0_425, NB425_0⟩ := n_; clear hb hbox hg) | ((with_reducible refine gate_callee (f := 122) rfl ?_); refine goesL_ (some 4) rfl rfl Try.func122 (by kernel_rfl) rfl #[.pointer (some ⟨g, 0, none⟩), .int .i64 6] rfl ga ?_; (with_reducible refine (spec_l1Below.calls g s0_0 s0_1 s0_2 6 t426 t427 t428 w0 _ ?side1 ?side2 A2.out).mono ?_); (case side1 => exact IsS135.q1 HI0.out NB0_425.out); (case side2 => exact bq2 HB.out (IsS135.ge HI0.out) GE425.out); rintro e w10 ⟨rfl, hi, hb, hk⟩; refine ⟨_, rfl, ?_⟩; have n_ := ak4 (KeepBut.blk hk (zb BK425.out) NB425_0.out (by simp)) (KeepBut.trans (kp1 HK.out GW425.out) hk (.inl rfl)) hb hi; clear BK425 HK HB HI0; obtain ⟨BK425, HK, HB, HI0⟩ := n_; (try clear hb hk hi)))
 (try simp only [Act.put, List.setIfInBounds_toArray, List.set_cons_zero, List.set_cons_succ])
 go_cut [8] (fun v8 wc => ∃ (kq : Nat) (x8_7 : Bool), v8 = .bool x8_7 ∧ Aside0 (spec_l3Draw.j0 kq t426 x8_7 s0_0 t427 t428 = some (r1, r2, r3, r4, r5, r6)) ∧ Aside0 (kq ≤ k) ∧ Aside0 (wc.heap[gb425]? = some (.cells #[.int .i64 0, .int .i64 0, .string (⟨#[]⟩ : ByteArray), (.slice none 0 0)] 29 (0, 0))) ∧ Aside0 (IsS135 w0 wc g s0_0 t427 t428) ∧ Aside0 (KeepBut w wc g none) ∧ Aside0 (Below w0.heap.size w0 wc))
 case first =>
  have H := HC8.out
  clear HC8
  by_cases c11 : t426 = 1
  rotate_left
  · rw [if_neg c11] at H
    have c11b0 : (t426 == 1) = false := beq_eq_false_iff_ne.mpr c11
    have c11b1 : (t426 != 1) = true := bne_iff_ne.mpr c11
    (first | rw [c11b0] | (simp only [i64_w, i32_w]; rw [c11b0]) | skip)
    have H' := am H
    clear H
    go_wp2
    go_meet
    case rel => exact ⟨_, ((t426 == 2)), sq, H', ⟨by first | omega | exact Nat.le_refl _⟩, ⟨zq BK425.out⟩, ⟨IsS135.q1 HI0.out NB0_425.out⟩, ⟨kp1 HK.out GW425.out⟩, ⟨bq2 HB.out (IsS135.ge HI0.out) GE425.out⟩⟩
  rw [if_pos c11] at H
  have c11b0 : (t426 == 1) = true := beq_iff_eq.mpr c11
  have c11b1 : (t426 != 1) = false := bne_eq_false_iff_eq.mpr c11
  clear c11
  (first | rw [c11b0] | (simp only [i64_w, i32_w]; rw [c11b0]) | skip)
  have H' := am H
  clear H
  go_wp2
  go_meet
  case rel => exact ⟨_, ((t426 == 1)), sq, H', ⟨by first | omega | exact Nat.le_refl _⟩, ⟨zq BK425.out⟩, ⟨IsS135.q1 HI0.out NB0_425.out⟩, ⟨kp1 HK.out GW425.out⟩, ⟨bq2 HB.out (IsS135.ge HI0.out) GE425.out⟩⟩
 case rest =>
  clear HC8
  try clear c1
  try clear p2
  try clear c3
  try clear c3b0
  try clear c3b1
  try clear c6
  try clear c10
  try clear c11
  try clear c11b0
  try clear c11b1
  try clear hcz7_0
  try clear hcz7_1
  try clear hcz7_2
  try clear hcz7_3
  try clear hfz7_0
  try clear hfz7_1
  try clear hfz7_2
  try clear hfz7_3
  obtain ⟨kq, x8_7, rfl, HA, HJ7, BK425, HI0, HK, HB⟩ := hcut
  cases kq with
  | zero => exact absurd HA.out (by simp [spec_l3Draw.j0])
  | succ kj7 =>
   have H := HA.out
   clear HA
   simp only [spec_l3Draw.j0] at H
   by_cases c12 : x8_7 = true
   · subst c12
     replace H : ((spec_l1Num.f s0_0 t427 t428).bind fun bt429 => ((spec_l1Clip.f bt429.1).bind fun t432 => ((spec_l3Int.f t432).bind fun bt433 => (some (bt433.1, bt433.2.1, bt433.2.2.1, bt433.2.2.2, bt429.2.1, bt429.2.2))))) = some (r1, r2, r3, r4, r5, r6) := by rw [if_pos rfl] at H; exact H
     replace H := Option.bind_eq_some_iff.mp H
     obtain ⟨⟨t429, t430, t431⟩, A130, H⟩ := H
     replace H : ((spec_l1Clip.f t429).bind fun t432 => ((spec_l3Int.f t432).bind fun bt433 => (some (bt433.1, bt433.2.1, bt433.2.2.1, bt433.2.2.2, t430, t431)))) = some (r1, r2, r3, r4, r5, r6) := H
     have A13 := am A130
     clear A130
     replace H := Option.bind_eq_some_iff.mp H
     obtain ⟨t432, A140, H⟩ := H
     replace H : ((spec_l3Int.f t432).bind fun bt433 => (some (bt433.1, bt433.2.1, bt433.2.2.1, bt433.2.2.2, t430, t431))) = some (r1, r2, r3, r4, r5, r6) := H
     have A14 := am A140
     clear A140
     replace H := Option.bind_eq_some_iff.mp H
     obtain ⟨⟨t433, t434, t435, t436⟩, A150, H⟩ := H
     replace H : (some (t433, t434, t435, t436, t430, t431)) = some (r1, r2, r3, r4, r5, r6) := H
     have A15 := am A150
     clear A150
     simp only [Option.some.injEq, Prod.mk.injEq] at H
     obtain ⟨rfl, rfl, rfl, rfl, rfl, rfl⟩ := H
     go_wp2_with (first | ((with_reducible refine gate_callee (f := 133) rfl ?_); refine goesL_ (some 12) rfl rfl Try.func133 (by kernel_rfl) rfl #[.pointer (some ⟨g, 0, none⟩)] rfl ga ?_; (with_reducible refine (spec_l1Num.calls g s0_0 t427 t428 t429 t430 t431 w0 _ ?side1 ?side2 A13.out).mono ?_); (case side1 => exact IsS135.q1 HI0.out NB0_425.out); (case side2 => exact bq2 HB.out (IsS135.ge HI0.out) GE425.out); rintro e w16 ⟨rfl, hi, hb, hk⟩; refine ⟨_, rfl, ?_⟩; have n_ := ak4 (KeepBut.blk hk (zb BK425.out) NB425_0.out (by simp)) (KeepBut.trans (kp1 HK.out GW425.out) hk (.inl rfl)) hb hi; clear BK425 HK HB HI0; obtain ⟨BK425, HK, HB, HI0⟩ := n_; (try clear hb hk hi)) | ((with_reducible refine gate_callee (f := 109) rfl ?_); refine goesL_ (some 13) rfl rfl Try.func109 (by kernel_rfl) rfl #[.int .i64 t429] rfl ga ?_; (with_reducible refine (spec_l1Clip.calls t429 t432 _ A14.out).mono ?_); rintro e w' ⟨rfl, ⟨nd, rfl⟩⟩; refine ⟨_, rfl, ?_⟩; (try (rw [drewN_self w16]; generalize hq_ : World.drewN w16 _ = w16; have n_ : Aside0 (w16.heap[gb425]? = some (.cells #[.int .i64 0, .int .i64 0, .string (⟨#[]⟩ : ByteArray), .slice none 0 0] 29 (0, 0))) ∧ Aside0 (IsS135 w0 w16 g s0_0 t430 t431) ∧ Aside0 (KeepBut w w16 g none) ∧ Aside0 (Below w0.heap.size w0 w16) := ⟨⟨by rw [← hq_]; exact (zq BK425.out)⟩, ⟨by rw [← hq_]; exact (IsS135.q1 HI0.out NB0_425.out)⟩, ⟨by rw [← hq_]; exact (kp1 HK.out GW425.out)⟩, ⟨by rw [← hq_]; exact (bq2 HB.out (IsS135.ge HI0.out) GE425.out)⟩⟩; clear BK425 HI0 HK HB hq_; obtain ⟨BK425, HI0, HK, HB⟩ := n_))) | ((with_reducible refine gate_callee (f := 135) rfl ?_); refine goesL_ (some 14) rfl rfl Try.func135 (by kernel_rfl) rfl #[.int .i64 t432] rfl ga ?_; (with_reducible refine (spec_l3Int.calls t432 t433 t434 t435 t436 _ A15.out).mono ?_); rintro e w17 ⟨v437, rfl, ho0, hb⟩; refine ⟨_, rfl, ?_⟩; have n_ := ak5 (Kd.R_lower ho0 (keep_size (w := w) (g := g) (row := none) (kp1 HK.out GW425.out))) (blk_below (zb BK425.out) hb) (IsS135.below (IsS135.q1 HI0.out NB0_425.out) hb) (KeepBut.trans (kp1 HK.out GW425.out) (KeepBut.of_below hb g none) (.inl rfl)) (below_step (bq2 HB.out (IsS135.ge HI0.out) GE425.out) hb); clear BK425 HI0 HK HB; obtain ⟨HO438, BK425, HI0, HK, HB⟩ := n_; (try clear hb ho0); have hnb18 := NB425_0.out; have hnc18 := NB0_425.out; obtain ⟨hcz19_0, hcz19_1, hcz19_2, hcz19_3, hfz19_0, hfz19_1, hfz19_2, hfz19_3⟩ := cl4 BK425.out; obtain ⟨Ao20, co20, eo20⟩ := Kd.R_slice HO438.out; subst eo20))
     refine bodyPost_ret (results_cell_row rfl _ _ gb425 29 #[.int .i64 t433, .int .i64 t434, .string t435, .slice Ao20 t436.length co20] (0, 0) _ rfl (by refine zr ?_; exact bp4 (zb BK425.out)) Try.underlying29 rfl (by kernel_rfl)) rfl ?_
     exact ⟨_, rq, by refine kr ?_; exact Kd.R_mono (rf4 gb425 (.int .i64 t433) (.int .i64 t434) (.string t435) (.slice Ao20 t436.length co20) (Kd.R_types HO438.out BK425.out (by decide)) (fun _ hk => hk.2)) (fun _ hk => trivial), IsS135.q1 HI0.out NB0_425.out, bq2 HB.out (IsS135.ge HI0.out) GE425.out, kp1 HK.out GW425.out⟩
   replace c12 := Bool.eq_false_iff.mpr c12
   subst c12
   replace H : (if t426 = 3 then ((spec_l1Str.f s0_0 t427 t428 (([(⟨#[]⟩ : ByteArray), (⟨#[97]⟩ : ByteArray), (⟨#[121, 97, 114, 100]⟩ : ByteArray), (⟨#[0]⟩ : ByteArray)] : List ByteArray))).bind fun bt442 => (some (4, 0, bt442.1, ([] : List Int), bt442.2.1, bt442.2.2))) else (if t426 = 4 then ((spec_l2Draw.f kj7 s0_0 t427 t428).bind fun bt445 => (some (6, 0, (⟨#[]⟩ : ByteArray), bt445.1, bt445.2.1, bt445.2.2))) else ((spec_l1Int.f s0_0 t427 t428 (([128, 130] : List Int))).bind fun bt453 => (some (bt453.1, 0, (⟨#[]⟩ : ByteArray), ([] : List Int), bt453.2.1, bt453.2.2))))) = some (r1, r2, r3, r4, r5, r6) := by rw [if_neg (show ¬ (false = true) by decide)] at H; exact H
   by_cases c21 : t426 = 3
   · rw [if_pos c21] at H
     have c21b0 : (t426 == 3) = true := beq_iff_eq.mpr c21
     have c21b1 : (t426 != 3) = false := bne_eq_false_iff_eq.mpr c21
     clear c21
     obtain ⟨y439, hy439⟩ : ∃ y_ : List ByteArray, y_ = (([(⟨#[]⟩ : ByteArray), (⟨#[97]⟩ : ByteArray), (⟨#[121, 97, 114, 100]⟩ : ByteArray), (⟨#[0]⟩ : ByteArray)] : List ByteArray)) := ⟨_, rfl⟩
     replace H : ((spec_l1Str.f s0_0 t427 t428 y439).bind fun bt442 => (some (4, 0, bt442.1, ([] : List Int), bt442.2.1, bt442.2.2))) = some (r1, r2, r3, r4, r5, r6) := hx H hy439
     have Ny439 := am hy439
     clear hy439
     replace H := Option.bind_eq_some_iff.mp H
     obtain ⟨⟨t442, t443, t444⟩, A220, H⟩ := H
     replace H : (some (4, 0, t442, ([] : List Int), t443, t444)) = some (r1, r2, r3, r4, r5, r6) := H
     have A22 := am A220
     clear A220
     simp only [Option.some.injEq, Prod.mk.injEq] at H
     obtain ⟨rfl, rfl, rfl, rfl, rfl, rfl⟩ := H
     go_wp2_with (first | ((with_reducible refine gate_dst (N := 18) rfl ?_); refine Kd.R_lit Kd.string _ 9 ?hg (N := 18) ?hd (xs := ([(⟨#[]⟩ : ByteArray), (⟨#[97]⟩ : ByteArray), (⟨#[121, 97, 114, 100]⟩ : ByteArray), (⟨#[0]⟩ : ByteArray)] : List ByteArray)) (inner := [.string (⟨#[]⟩ : ByteArray), .string (⟨#[97]⟩ : ByteArray), .string (⟨#[121, 97, 114, 100]⟩ : ByteArray), .string (⟨#[0]⟩ : ByteArray)]) (ok := fun _ => True) (okp := fun _ => True) ?hr ?hp (fun _ hk => hk) trivial (Below.refl _ _) (Nat.le_refl _) (by simp) ?_; (case hd => rfl); (case hg => rfl); (case hr => exact gs); (case hp => exact (Reps.one (show Kd.M Kd.string _ _ _ (⟨#[]⟩ : ByteArray) [.string (⟨#[]⟩ : ByteArray)] from rfl) (Reps.one (show Kd.M Kd.string _ _ _ (⟨#[97]⟩ : ByteArray) [.string (⟨#[97]⟩ : ByteArray)] from rfl) (Reps.one (show Kd.M Kd.string _ _ _ (⟨#[121, 97, 114, 100]⟩ : ByteArray) [.string (⟨#[121, 97, 114, 100]⟩ : ByteArray)] from rfl) (Reps.one (show Kd.M Kd.string _ _ _ (⟨#[0]⟩ : ByteArray) [.string (⟨#[0]⟩ : ByteArray)] from rfl) (Reps.none _ _)))))); intro v440 w23 ho24 hb hg_ hnew_; clear hg_ hnew_; (first | rw [← Ny439.out] at ho24 | (simp only [Int.reduceToNat] at ho24; rw [← Ny439.out] at ho24)); have n_ := ak5 (Kd.R_lower ho24 (keep_size (w := w) (g := g) (row := none) (kp1 HK.out GW425.out))) (blk_below (zb BK425.out) hb) (IsS135.below (IsS135.q1 HI0.out NB0_425.out) hb) (KeepBut.trans (kp1 HK.out GW425.out) (KeepBut.of_below hb g none) (.inl rfl)) (below_step (bq2 HB.out (IsS135.ge HI0.out) GE425.out) hb); clear BK425 HI0 HK HB; obtain ⟨HO441, BK425, HI0, HK, HB⟩ := n_; clear hb ho24; obtain ⟨Ao25, co25, eo25⟩ := Kd.R_slice HO441.out; subst eo25) | ((with_reducible refine gate_callee (f := 114) rfl ?_); refine goesL_ (some 19) rfl rfl Try.func114 (by kernel_rfl) rfl #[.pointer (some ⟨g, 0, none⟩), .slice Ao25 y439.length co25] rfl ga ?_; (with_reducible refine (spec_l1Str.calls g s0_0 t427 t428 _ _ y439 t442 t443 t444 w0 _ ?side1 ?side2 ?side3 ?side4 ?side5 A22.out).mono ?_); (case side1 => exact IsS135.q1 HI0.out NB0_425.out); (case side2 => exact bq2 HB.out (IsS135.ge HI0.out) GE425.out); (case side3 => repeat (first | exact (Kd.R_reads' HO441.out).2.2 | (with_reducible refine Kd.C_alloc ?_ _) | (with_reducible refine Kd.C_drewN ?_ _) | (with_reducible refine Kd.C_drew ?_))); (case side4 => exact (Kd.R_reads' HO441.out).2.1); (case side5 => exact far_slice (IsS135.own_ne HI0.out HO441.out (by decide))); rintro e w26 ⟨rfl, hi, hb, hk⟩; refine ⟨_, rfl, ?_⟩; have n_ := ak5 (KeepBut.blk hk (zb BK425.out) NB425_0.out (by simp)) (Kd.R_mono (Kd.R_keep (IsS135.apart (show IsS135 w0 _ g s0_0 t427 t428 from IsS135.q1 HI0.out NB0_425.out) (kqR HO441.out) (by decide)) hk (fun _ h => h.2)) (fun _ h => h.1)) (KeepBut.trans (kp1 HK.out GW425.out) hk (.inl rfl)) hb hi; clear BK425 HO441 HK HB HI0; obtain ⟨BK425, HO441, HK, HB, HI0⟩ := n_; (try clear hb hk hi); have hnb27 := NB425_0.out; have hnc27 := NB0_425.out; obtain ⟨hcz28_0, hcz28_1, hcz28_2, hcz28_3, hfz28_0, hfz28_1, hfz28_2, hfz28_3⟩ := cl4 BK425.out))
     refine bodyPost_ret (results_cell_row rfl _ _ gb425 29 #[.int .i64 4, .int .i64 0, .string t442, .slice none 0 0] (0, 0) _ rfl (by refine zr ?_; exact bp4 (zb BK425.out)) Try.underlying29 rfl (by kernel_rfl)) rfl ?_
     exact ⟨_, rq, rn, IsS135.q1 HI0.out NB0_425.out, bq2 HB.out (IsS135.ge HI0.out) GE425.out, kp1 HK.out GW425.out⟩
   rw [if_neg c21] at H
   have c21b0 : (t426 == 3) = false := beq_eq_false_iff_ne.mpr c21
   have c21b1 : (t426 != 3) = true := bne_iff_ne.mpr c21
   by_cases c29 : t426 = 4
   · rw [if_pos c29] at H
     have c29b0 : (t426 == 4) = true := beq_iff_eq.mpr c29
     have c29b1 : (t426 != 4) = false := bne_eq_false_iff_eq.mpr c29
     clear c29
     replace H := Option.bind_eq_some_iff.mp H
     obtain ⟨⟨t445, t448, t449⟩, A300, H⟩ := H
     replace H : (some (6, 0, (⟨#[]⟩ : ByteArray), t445, t448, t449)) = some (r1, r2, r3, r4, r5, r6) := H
     have A30 := am A300
     clear A300
     simp only [Option.some.injEq, Prod.mk.injEq] at H
     obtain ⟨rfl, rfl, rfl, rfl, rfl, rfl⟩ := H
     go_wp2_with (first | ((with_reducible refine gate_callee (f := 136) rfl ?_); refine goesL_ (some 24) rfl rfl Try.func136 (by kernel_rfl) rfl #[.pointer (some ⟨g, 0, none⟩)] rfl ga ?_; (with_reducible refine (spec_l2Draw.calls kj7 g s0_0 t427 t428 t445 t448 t449 w0 _ ?side1 ?side2 A30.out).mono ?_); (case side1 => exact IsS135.q1 HI0.out NB0_425.out); (case side2 => exact bq2 HB.out (IsS135.ge HI0.out) GE425.out); rintro e w31 ⟨v446, rfl, ho0, hi, hb, hk⟩; refine ⟨_, rfl, ?_⟩; have n_ := ak5 (KeepBut.blk hk (zb BK425.out) NB425_0.out (by simp)) (Kd.R_lower ho0 (keep_size (w := w) (g := g) (row := none) (kp1 HK.out GW425.out))) (KeepBut.trans (kp1 HK.out GW425.out) hk (.inl rfl)) hb hi; clear BK425 HK HB HI0; obtain ⟨BK425, HO447, HK, HB, HI0⟩ := n_; (try clear hb hk hi ho0); obtain ⟨Ao32, co32, eo32⟩ := Kd.R_slice HO447.out; subst eo32; have hnb33 := NB425_0.out; have hnc33 := NB0_425.out; obtain ⟨hcz34_0, hcz34_1, hcz34_2, hcz34_3, hfz34_0, hfz34_1, hfz34_2, hfz34_3⟩ := cl4 BK425.out))
     refine bodyPost_ret (results_cell_row rfl _ _ gb425 29 #[.int .i64 6, .int .i64 0, .string (⟨#[]⟩ : ByteArray), .slice Ao32 t445.length co32] (0, 0) _ rfl (by refine zr ?_; exact bp4 (zb BK425.out)) Try.underlying29 rfl (by kernel_rfl)) rfl ?_
     exact ⟨_, rq, by refine kr ?_; exact Kd.R_mono (rf4 gb425 (.int .i64 6) (.int .i64 0) (.string (⟨#[]⟩ : ByteArray)) (.slice Ao32 t445.length co32) (Kd.R_types HO447.out BK425.out (by decide)) (fun _ hk => hk.2)) (fun _ hk => trivial), IsS135.q1 HI0.out NB0_425.out, bq2 HB.out (IsS135.ge HI0.out) GE425.out, kp1 HK.out GW425.out⟩
   rw [if_neg c29] at H
   have c29b0 : (t426 == 4) = false := beq_eq_false_iff_ne.mpr c29
   have c29b1 : (t426 != 4) = true := bne_iff_ne.mpr c29
   obtain ⟨y450, hy450⟩ : ∃ y_ : List Int, y_ = (([128, 130] : List Int)) := ⟨_, rfl⟩
   replace H : ((spec_l1Int.f s0_0 t427 t428 y450).bind fun bt453 => (some (bt453.1, 0, (⟨#[]⟩ : ByteArray), ([] : List Int), bt453.2.1, bt453.2.2))) = some (r1, r2, r3, r4, r5, r6) := hx H hy450
   have Ny450 := am hy450
   clear hy450
   replace H := Option.bind_eq_some_iff.mp H
   obtain ⟨⟨t453, t454, t455⟩, A350, H⟩ := H
   replace H : (some (t453, 0, (⟨#[]⟩ : ByteArray), ([] : List Int), t454, t455)) = some (r1, r2, r3, r4, r5, r6) := H
   have A35 := am A350
   clear A350
   simp only [Option.some.injEq, Prod.mk.injEq] at H
   obtain ⟨rfl, rfl, rfl, rfl, rfl, rfl⟩ := H
   go_wp2_with (first | ((with_reducible refine gate_dst (N := 27) rfl ?_); refine Kd.R_lit (Kd.int .i64) _ 3 ?hg (N := 27) ?hd (xs := ([128, 130] : List Int)) (inner := [.int .i64 128, .int .i64 130]) (ok := fun _ => True) (okp := fun _ => True) ?hr ?hp (fun _ hk => hk) trivial (Below.refl _ _) (Nat.le_refl _) (by simp) ?_; (case hd => rfl); (case hg => rfl); (case hr => exact gs); (case hp => exact (Reps.one (ri 128) (Reps.one (ri 130) (Reps.none _ _)))); intro v451 w36 ho37 hb hg_ hnew_; clear hg_ hnew_; (first | rw [← Ny450.out] at ho37 | (simp only [Int.reduceToNat] at ho37; rw [← Ny450.out] at ho37)); have n_ := ak5 (Kd.R_lower ho37 (keep_size (w := w) (g := g) (row := none) (kp1 HK.out GW425.out))) (blk_below (zb BK425.out) hb) (IsS135.below (IsS135.q1 HI0.out NB0_425.out) hb) (KeepBut.trans (kp1 HK.out GW425.out) (KeepBut.of_below hb g none) (.inl rfl)) (below_step (bq2 HB.out (IsS135.ge HI0.out) GE425.out) hb); clear BK425 HI0 HK HB; obtain ⟨HO452, BK425, HI0, HK, HB⟩ := n_; clear hb ho37; obtain ⟨Ao38, co38, eo38⟩ := Kd.R_slice HO452.out; subst eo38) | ((with_reducible refine gate_callee (f := 86) rfl ?_); refine goesL_ (some 28) rfl rfl Try.func86 (by kernel_rfl) rfl #[.pointer (some ⟨g, 0, none⟩), .slice Ao38 y450.length co38] rfl ga ?_; (with_reducible refine (spec_l1Int.calls g s0_0 t427 t428 _ _ y450 t453 t454 t455 w0 _ ?side1 ?side2 ?side3 ?side4 ?side5 A35.out).mono ?_); (case side1 => exact IsS135.q1 HI0.out NB0_425.out); (case side2 => exact bq2 HB.out (IsS135.ge HI0.out) GE425.out); (case side3 => repeat (first | exact (Kd.R_reads' HO452.out).2.2 | (with_reducible refine Kd.C_alloc ?_ _) | (with_reducible refine Kd.C_drewN ?_ _) | (with_reducible refine Kd.C_drew ?_))); (case side4 => exact (Kd.R_reads' HO452.out).2.1); (case side5 => exact far_slice (IsS135.own_ne HI0.out HO452.out (by decide))); rintro e w39 ⟨rfl, hi, hb, hk⟩; refine ⟨_, rfl, ?_⟩; have n_ := ak5 (KeepBut.blk hk (zb BK425.out) NB425_0.out (by simp)) (Kd.R_mono (Kd.R_keep (IsS135.apart (show IsS135 w0 _ g s0_0 t427 t428 from IsS135.q1 HI0.out NB0_425.out) (kqR HO452.out) (by decide)) hk (fun _ h => h.2)) (fun _ h => h.1)) (KeepBut.trans (kp1 HK.out GW425.out) hk (.inl rfl)) hb hi; clear BK425 HO452 HK HB HI0; obtain ⟨BK425, HO452, HK, HB, HI0⟩ := n_; (try clear hb hk hi); have hnb40 := NB425_0.out; have hnc40 := NB0_425.out; obtain ⟨hcz41_0, hcz41_1, hcz41_2, hcz41_3, hfz41_0, hfz41_1, hfz41_2, hfz41_3⟩ := cl4 BK425.out))
   refine bodyPost_ret (results_cell_row rfl _ _ gb425 29 #[.int .i64 t453, .int .i64 0, .string (⟨#[]⟩ : ByteArray), .slice none 0 0] (0, 0) _ rfl (by refine zr ?_; exact bp4 (zb BK425.out)) Try.underlying29 rfl (by kernel_rfl)) rfl ?_
   exact ⟨_, rq, rn, IsS135.q1 HI0.out NB0_425.out, bq2 HB.out (IsS135.ge HI0.out) GE425.out, kp1 HK.out GW425.out⟩
def spec_l2Any.l0 : Nat → List Int → List Int → Int → Int → Option (List Int × Int × Int)
 | 0, _, _, _, _ => none
 | k + 1, x3, x1000, x1001, x1002 => (spec_l1Below.f x1000 x1001 x1002 2).bind fun bt474 => (if (x3.length : Int) < (wrap64 (10 + bt474.1)) then (if x3.length < 17592186044416 then (spec_l2Any.l0 k (x3 ++ [1]) x1000 bt474.2.1 bt474.2.2) else (none)) else (some (x3, bt474.2.1, bt474.2.2)))
def spec_l2Any.f (k : Nat) (s0_0 : List Int) (s0_1 : Int) (s0_2 : Int) : Option (List Int × Int × Int) := (spec_l2Draw.f k s0_0 s0_1 s0_2).bind fun bt456 => ((spec_l1Below.f s0_0 bt456.2.1 bt456.2.2 10).bind fun bt461 => (if bt461.1 = 0 then (some ((([] : List Int)), bt461.2.1, bt461.2.2)) else (if bt461.1 = 1 then ((spec_l1Int.f s0_0 bt461.2.1 bt461.2.2 (([(-1), 100001] : List Int))).bind fun bt470 => (if 0 < (bt456.1.length : Int) then (some ((bt456.1.set (0 : Int).toNat bt470.1), bt470.2.1, bt470.2.2)) else (none))) else (if bt461.1 = 2 then (spec_l2Any.l0 k bt456.1 s0_0 bt461.2.1 bt461.2.2) else (some (bt456.1, bt461.2.1, bt461.2.2))))))
theorem spec_l2Any.mono_l : ∀ k, (∀ y0 y1 y2 y3, LeO (spec_l2Any.l0 k y0 y1 y2 y3) (spec_l2Any.l0 (k + 1) y0 y1 y2 y3))
 | 0 => fun _ _ _ _ r h => by simp [spec_l2Any.l0] at h
 | k + 1 => by
  have ih0 := spec_l2Any.mono_l k
  intro y0 y1 y2 y3
  unfold spec_l2Any.l0
  repeat' first
  | (with_reducible exact ih0 _ _ _ _)
  | (with_reducible exact spec_l2Draw.mono _ _ _ _)
  | (with_reducible exact LeO.refl _)
  | (with_reducible exact LeO.none _)
  | (with_reducible refine LeO.ite ?_ ?_)
  | (with_reducible refine LeO.bind ?_ (fun _ => ?_))
  | exact ih0 _ _ _ _
  | exact spec_l2Draw.mono _ _ _ _
  | exact LeO.none _
  | refine LeO.ite ?_ ?_
  | refine LeO.bind ?_ (fun _ => ?_)
theorem spec_l2Any.mono : ∀ a0 a1 a2 k, LeO (spec_l2Any.f k a0 a1 a2) (spec_l2Any.f (k + 1) a0 a1 a2) := by
 intro a0 a1 a2 k
 have ih0 := spec_l2Any.mono_l k
 unfold spec_l2Any.f
 repeat' first
  | (with_reducible exact ih0 _ _ _ _)
  | (with_reducible exact spec_l2Draw.mono _ _ _ _)
  | (with_reducible exact LeO.refl _)
  | (with_reducible exact LeO.none _)
  | (with_reducible refine LeO.ite ?_ ?_)
  | (with_reducible refine LeO.bind ?_ (fun _ => ?_))
  | exact ih0 _ _ _ _
  | exact spec_l2Draw.mono _ _ _ _
  | exact LeO.none _
  | refine LeO.ite ?_ ?_
  | refine LeO.bind ?_ (fun _ => ?_)
theorem spec_l2Any.calls (k : Nat) (g : Nat) (s0_0 : List Int) (s0_1 : Int) (s0_2 : Int) (r1 : List Int) (r2 : Int) (r3 : Int) (w0 w : World) (hI : IsS135 w0 w g s0_0 s0_1 s0_2) (hB : Below w0.heap.size w0 w) (h : spec_l2Any.f k s0_0 s0_1 s0_2 = some (r1, r2, r3)) :
 Calls Try.prog 134 #[.pointer (some ⟨g, 0, none⟩)] w fun e w' => ∃ v0_ : Value, e = .returned (v0_) ∧ Kd.R (Kd.int .i64) 3 w' w.heap.size (fun _ => True) v0_ r1 ∧ IsS135 w0 w' g s0_0 r2 r3 ∧ Below w0.heap.size w0 w' ∧ KeepBut w w' g none := by
 have HI0 := am hI
 have HK := am (KeepBut.refl w g none)
 have HL := am hB.size
 clear hI
 have HW0 := am hB.size
 have HB := am hB
 clear hB
 have H : ((spec_l2Draw.f k s0_0 s0_1 s0_2).bind fun bt456 => ((spec_l1Below.f s0_0 bt456.2.1 bt456.2.2 10).bind fun bt461 => (if bt461.1 = 0 then (some ((([] : List Int)), bt461.2.1, bt461.2.2)) else (if bt461.1 = 1 then ((spec_l1Int.f s0_0 bt461.2.1 bt461.2.2 (([(-1), 100001] : List Int))).bind fun bt470 => (if 0 < (bt456.1.length : Int) then (some ((bt456.1.set (0 : Int).toNat bt470.1), bt470.2.1, bt470.2.2)) else (none))) else (if bt461.1 = 2 then (spec_l2Any.l0 k bt456.1 s0_0 bt461.2.1 bt461.2.2) else (some (bt456.1, bt461.2.1, bt461.2.2))))))) = some (r1, r2, r3) := h
 clear h
 replace H := Option.bind_eq_some_iff.mp H
 obtain ⟨⟨t456, t459, t460⟩, A20, H⟩ := H
 replace H : ((spec_l1Below.f s0_0 t459 t460 10).bind fun bt461 => (if bt461.1 = 0 then (some ((([] : List Int)), bt461.2.1, bt461.2.2)) else (if bt461.1 = 1 then ((spec_l1Int.f s0_0 bt461.2.1 bt461.2.2 (([(-1), 100001] : List Int))).bind fun bt470 => (if 0 < (t456.length : Int) then (some ((t456.set (0 : Int).toNat bt470.1), bt470.2.1, bt470.2.2)) else (none))) else (if bt461.1 = 2 then (spec_l2Any.l0 k t456 s0_0 bt461.2.1 bt461.2.2) else (some (t456, bt461.2.1, bt461.2.2)))))) = some (r1, r2, r3) := H
 have A2 := am A20
 clear A20
 replace H := Option.bind_eq_some_iff.mp H
 obtain ⟨⟨t461, t462, t463⟩, A30, H⟩ := H
 replace H : (if t461 = 0 then (some ((([] : List Int)), t462, t463)) else (if t461 = 1 then ((spec_l1Int.f s0_0 t462 t463 (([(-1), 100001] : List Int))).bind fun bt470 => (if 0 < (t456.length : Int) then (some ((t456.set (0 : Int).toNat bt470.1), bt470.2.1, bt470.2.2)) else (none))) else (if t461 = 2 then (spec_l2Any.l0 k t456 s0_0 t462 t463) else (some (t456, t462, t463))))) = some (r1, r2, r3) := H
 have A3 := am A30
 clear A30
 by_cases c4 : t461 = 0
 · rw [if_pos c4] at H
   have c4b0 : (t461 == 0) = true := beq_iff_eq.mpr c4
   have c4b1 : (t461 != 0) = false := bne_eq_false_iff_eq.mpr c4
   clear c4
   obtain ⟨y464, hy464⟩ : ∃ y_ : List Int, y_ = (([] : List Int)) := ⟨_, rfl⟩
   replace H : (some (y464, t462, t463)) = some (r1, r2, r3) := hx H hy464
   have Ny464 := am hy464
   clear hy464
   simp only [Option.some.injEq, Prod.mk.injEq] at H
   obtain ⟨rfl, rfl, rfl⟩ := H
   go_enter Try.func134, Try.ntmps134
   go_wp2_with (first | ((with_reducible refine gate_callee (f := 136) rfl ?_); refine goesL_ (some 5) rfl rfl Try.func136 (by kernel_rfl) rfl #[.pointer (some ⟨g, 0, none⟩)] rfl ga ?_; (with_reducible refine (spec_l2Draw.calls k g s0_0 s0_1 s0_2 t456 t459 t460 w0 _ ?side1 ?side2 A2.out).mono ?_); (case side1 => exact IsS135.q0 HI0.out); (case side2 => exact bq1 HB.out (IsS135.ge HI0.out)); rintro e w5 ⟨v457, rfl, ho0, hi, hb, hk⟩; refine ⟨_, rfl, ?_⟩; have n_ := ak4 (Kd.R_lower ho0 (keep_size (w := w) (g := g) (row := none) (kp0 HK.out))) (KeepBut.trans (kp0 HK.out) hk (.inl rfl)) hb hi; clear HK HB HI0; obtain ⟨HO458, HK, HB, HI0⟩ := n_; (try clear hb hk hi ho0)) | ((with_reducible refine gate_callee (f := 122) rfl ?_); refine goesL_ (some 7) rfl rfl Try.func122 (by kernel_rfl) rfl #[.pointer (some ⟨g, 0, none⟩), .int .i64 10] rfl ga ?_; (with_reducible refine (spec_l1Below.calls g s0_0 t459 t460 10 t461 t462 t463 w0 _ ?side1 ?side2 A3.out).mono ?_); (case side1 => exact IsS135.q0 HI0.out); (case side2 => exact bq1 HB.out (IsS135.ge HI0.out)); rintro e w6 ⟨rfl, hi, hb, hk⟩; refine ⟨_, rfl, ?_⟩; have n_ := ak4 (Kd.R_mono (Kd.R_keep (IsS135.apart (show IsS135 w0 _ g s0_0 t459 t460 from IsS135.q0 HI0.out) (kqR HO458.out) (by decide)) hk (fun _ h => h.2)) (fun _ h => h.1)) (KeepBut.trans (kp0 HK.out) hk (.inl rfl)) hb hi; clear HO458 HK HB HI0; obtain ⟨HO458, HK, HB, HI0⟩ := n_; (try clear hb hk hi)) | ((with_reducible refine gate_dst (N := 10) rfl ?_); refine Kd.R_lit (Kd.int .i64) _ 3 ?hg (N := 10) ?hd (xs := ([] : List Int)) (inner := []) (ok := fun _ => True) (okp := fun _ => True) ?hr ?hp (fun _ hk => hk) trivial (Below.refl _ _) (Nat.le_refl _) (by simp) ?_; (case hd => rfl); (case hg => rfl); (case hr => exact gs); (case hp => exact (Reps.none _ _)); intro v465 w7 ho8 hb hg_ hnew_; clear hg_ hnew_; (first | rw [← Ny464.out] at ho8 | (simp only [Int.reduceToNat] at ho8; rw [← Ny464.out] at ho8)); have n_ := ak5 (Kd.R_elder' (kqR HO458.out) (Kd.R_base ho8) hb) (Kd.R_lower (Kd.R_new' ho8 (Kd.R_lt (kqR HO458.out))) (keep_size (w := w) (g := g) (row := none) (kp0 HK.out))) (IsS135.below (IsS135.q0 HI0.out) hb) (KeepBut.trans (kp0 HK.out) (KeepBut.of_below hb g none) (.inl rfl)) (below_step (bq1 HB.out (IsS135.ge HI0.out)) hb); clear HO458 HI0 HK HB; obtain ⟨HO458, HO466, HI0, HK, HB⟩ := n_; clear hb ho8))
   go_ret
   exact ⟨_, rq, by refine kr ?_; exact Kd.R_mono HO466.out (fun _ hk => trivial), IsS135.q0 HI0.out, bq1 HB.out (IsS135.ge HI0.out), kp0 HK.out⟩
 rw [if_neg c4] at H
 have c4b0 : (t461 == 0) = false := beq_eq_false_iff_ne.mpr c4
 have c4b1 : (t461 != 0) = true := bne_iff_ne.mpr c4
 by_cases c9 : t461 = 1
 · rw [if_pos c9] at H
   have c9b0 : (t461 == 1) = true := beq_iff_eq.mpr c9
   have c9b1 : (t461 != 1) = false := bne_eq_false_iff_eq.mpr c9
   clear c9
   obtain ⟨y467, hy467⟩ : ∃ y_ : List Int, y_ = (([(-1), 100001] : List Int)) := ⟨_, rfl⟩
   replace H : ((spec_l1Int.f s0_0 t462 t463 y467).bind fun bt470 => (if 0 < (t456.length : Int) then (some ((t456.set (0 : Int).toNat bt470.1), bt470.2.1, bt470.2.2)) else (none))) = some (r1, r2, r3) := hx H hy467
   have Ny467 := am hy467
   clear hy467
   replace H := Option.bind_eq_some_iff.mp H
   obtain ⟨⟨t470, t471, t472⟩, A100, H⟩ := H
   replace H : (if 0 < (t456.length : Int) then (some ((t456.set (0 : Int).toNat t470), t471, t472)) else (none)) = some (r1, r2, r3) := H
   have A10 := am A100
   clear A100
   by_cases c11 : 0 < (t456.length : Int)
   rotate_left
   · rw [if_neg c11] at H
     exact absurd H (by simp)
   rw [if_pos c11] at H
   have c11b0 : decide (0 < (t456.length : Int)) = true := decide_eq_true c11
   have c11b1 : decide (0 < t456.length) = true := decide_eq_true (by omega)
   clear c11
   obtain ⟨y473, hy473⟩ : ∃ y_ : List Int, y_ = (t456.set (0 : Int).toNat t470) := ⟨_, rfl⟩
   replace H : (some (y473, t471, t472)) = some (r1, r2, r3) := hx H hy473
   have Ny473 := am hy473
   clear hy473
   simp only [Option.some.injEq, Prod.mk.injEq] at H
   obtain ⟨rfl, rfl, rfl⟩ := H
   go_enter Try.func134, Try.ntmps134
   go_wp2_with (first | ((with_reducible refine gate_callee (f := 136) rfl ?_); refine goesL_ (some 5) rfl rfl Try.func136 (by kernel_rfl) rfl #[.pointer (some ⟨g, 0, none⟩)] rfl ga ?_; (with_reducible refine (spec_l2Draw.calls k g s0_0 s0_1 s0_2 t456 t459 t460 w0 _ ?side1 ?side2 A2.out).mono ?_); (case side1 => exact IsS135.q0 HI0.out); (case side2 => exact bq1 HB.out (IsS135.ge HI0.out)); rintro e w13 ⟨v457, rfl, ho0, hi, hb, hk⟩; refine ⟨_, rfl, ?_⟩; have n_ := ak4 (Kd.R_lower ho0 (keep_size (w := w) (g := g) (row := none) (kp0 HK.out))) (KeepBut.trans (kp0 HK.out) hk (.inl rfl)) hb hi; clear HK HB HI0; obtain ⟨HO458, HK, HB, HI0⟩ := n_; (try clear hb hk hi ho0)) | ((with_reducible refine gate_callee (f := 122) rfl ?_); refine goesL_ (some 7) rfl rfl Try.func122 (by kernel_rfl) rfl #[.pointer (some ⟨g, 0, none⟩), .int .i64 10] rfl ga ?_; (with_reducible refine (spec_l1Below.calls g s0_0 t459 t460 10 t461 t462 t463 w0 _ ?side1 ?side2 A3.out).mono ?_); (case side1 => exact IsS135.q0 HI0.out); (case side2 => exact bq1 HB.out (IsS135.ge HI0.out)); rintro e w14 ⟨rfl, hi, hb, hk⟩; refine ⟨_, rfl, ?_⟩; have n_ := ak4 (Kd.R_mono (Kd.R_keep (IsS135.apart (show IsS135 w0 _ g s0_0 t459 t460 from IsS135.q0 HI0.out) (kqR HO458.out) (by decide)) hk (fun _ h => h.2)) (fun _ h => h.1)) (KeepBut.trans (kp0 HK.out) hk (.inl rfl)) hb hi; clear HO458 HK HB HI0; obtain ⟨HO458, HK, HB, HI0⟩ := n_; (try clear hb hk hi)) | ((with_reducible refine gate_dst (N := 15) rfl ?_); refine Kd.R_lit (Kd.int .i64) _ 3 ?hg (N := 15) ?hd (xs := ([(-1), 100001] : List Int)) (inner := [.int .i64 (-1), .int .i64 100001]) (ok := fun _ => True) (okp := fun _ => True) ?hr ?hp (fun _ hk => hk) trivial (Below.refl _ _) (Nat.le_refl _) (by simp) ?_; (case hd => rfl); (case hg => rfl); (case hr => exact gs); (case hp => exact (Reps.one (ri (-1)) (Reps.one (ri 100001) (Reps.none _ _)))); intro v468 w15 ho16 hb hg_ hnew_; clear hg_ hnew_; (first | rw [← Ny467.out] at ho16 | (simp only [Int.reduceToNat] at ho16; rw [← Ny467.out] at ho16)); have n_ := ak5 (Kd.R_elder' (kqR HO458.out) (Kd.R_base ho16) hb) (Kd.R_lower (Kd.R_new' ho16 (Kd.R_lt (kqR HO458.out))) (keep_size (w := w) (g := g) (row := none) (kp0 HK.out))) (IsS135.below (IsS135.q0 HI0.out) hb) (KeepBut.trans (kp0 HK.out) (KeepBut.of_below hb g none) (.inl rfl)) (below_step (bq1 HB.out (IsS135.ge HI0.out)) hb); clear HO458 HI0 HK HB; obtain ⟨HO458, HO469, HI0, HK, HB⟩ := n_; clear hb ho16; obtain ⟨Ao17, co17, eo17⟩ := Kd.R_slice HO469.out; subst eo17) | ((with_reducible refine gate_callee (f := 86) rfl ?_); refine goesL_ (some 16) rfl rfl Try.func86 (by kernel_rfl) rfl #[.pointer (some ⟨g, 0, none⟩), .slice Ao17 y467.length co17] rfl ga ?_; (with_reducible refine (spec_l1Int.calls g s0_0 t462 t463 _ _ y467 t470 t471 t472 w0 _ ?side1 ?side2 ?side3 ?side4 ?side5 A10.out).mono ?_); (case side1 => exact IsS135.q0 HI0.out); (case side2 => exact bq1 HB.out (IsS135.ge HI0.out)); (case side3 => repeat (first | exact (Kd.R_reads' HO469.out).2.2 | (with_reducible refine Kd.C_alloc ?_ _) | (with_reducible refine Kd.C_drewN ?_ _) | (with_reducible refine Kd.C_drew ?_))); (case side4 => exact (Kd.R_reads' HO469.out).2.1); (case side5 => exact far_slice (IsS135.own_ne HI0.out HO469.out (by decide))); rintro e w18 ⟨rfl, hi, hb, hk⟩; refine ⟨_, rfl, ?_⟩; have n_ := ak5 (Kd.R_mono (Kd.R_keep (IsS135.apart (show IsS135 w0 _ g s0_0 t462 t463 from IsS135.q0 HI0.out) (kqR HO458.out) (by decide)) hk (fun _ h => h.2)) (fun _ h => h.1)) (Kd.R_mono (Kd.R_keep (IsS135.apart (show IsS135 w0 _ g s0_0 t462 t463 from IsS135.q0 HI0.out) (kqR HO469.out) (by decide)) hk (fun _ h => h.2)) (fun _ h => h.1)) (KeepBut.trans (kp0 HK.out) hk (.inl rfl)) hb hi; clear HO458 HO469 HK HB HI0; obtain ⟨HO458, HO469, HK, HB, HI0⟩ := n_; (try clear hb hk hi); have p12 : 0 ≤ (0 : Int) := (by omega); have q12 : (0 : Int) < ((t456.length : Int) : Int) := oda; have qi12 : (0 < t456.length) = True := eq_true (by omega); obtain ⟨go12, co12, eo12, gb12, gl12, cl12, HG12⟩ := Kd.R_form HO458.out (by omega); (first | cases eo12 | (injection eo12 with ea_ en_ ec_; (first | subst ea_ | (injection ea_ with ea_; subst ea_)); subst ec_; clear en_)); have GB12 := am gb12; have GG12 := am HG12; clear gb12 gl12 HG12; obtain ⟨hx12_0, hf12_0⟩ := Kd.R_celln 0 HO458.out (0 : Int) p12 q12; (try rw [show ((0 : Int)).toNat = 0 from rfl] at hx12_0); (try simp only [Nat.reduceMul, Nat.zero_mul, Nat.zero_add, Nat.reduceAdd] at hx12_0); (try rw [show ((0 : Int)).toNat = 0 from rfl] at hf12_0); (try simp only [Nat.reduceMul, Nat.zero_mul, Nat.zero_add, Nat.reduceAdd] at hf12_0); replace p12 := eq_true p12; replace q12 := eq_true q12; have n_ := am (Kd.R_mono (ok' := (fun k_ => some k_ ≠ (.slice Ao17 y467.length co17 : Value).ownBlock)) HO458.out (fun k_ hk => hk.2)); clear HO458; have HO458 := n_; clear n_; obtain ⟨hy19_, hz19_⟩ := Kd.R_celln 0 HO458.out (0 : Int) (by omega) (oda); (try simp only [Int.reduceToNat, Int.toNat_zero, Int.toNat_ofNat, Nat.reduceMul, Nat.zero_mul, Nat.zero_add] at hy19_ hz19_); (try rw [show ((0 : Int)).toNat = 0 from rfl] at hy19_); (try rw [show ((0 : Int)).toNat = 0 from rfl] at hz19_); have HP19 := Kd.R_putg HO458.out (0 : Int) t470) | ((with_reducible refine gate_store (t := 3) (p := 17) rfl ?_); refine store_event (t := 3) (p := 17) (v := ?vo_w20) (w1 := (w18.setCell ⟨go12, (0 : Int).toNat, none⟩ (.int .i64 t470))) ?hg ?ho ?hn ?hr ?_; (case ho => rfl); (case hg => rfl); (case hn => rfl); (case hr => exact gs); intro w20 hw; have hg : w18.grownBy w20 (some go12) := (by rw [hw]; exact HP19.2); have hp_ : Kd.R (Kd.int .i64) 3 w20 w.heap.size (fun k_ => some k_ ≠ (.slice Ao17 y467.length co17 : Value).ownBlock) (.slice (some ⟨go12, 0, none⟩) t456.length co12) y473 := (by rw [hw, Ny473.out]; exact HP19.1); clear HP19; have n_ := ak5 (IsS135.grown (IsS135.q0 HI0.out) hg (IsS135.own_ne HI0.out HO458.out (by decide))) hp_ (Kd.R_after (v := (.slice (some ⟨go12, 0, none⟩) t456.length co12)) (v1 := (.slice (some ⟨go12, 0, none⟩) t456.length co12)) (ok := (fun _ => True)) (kqR HO469.out) hg (.inl rfl)) ((by rw [hw]; exact below_set (HB.out) (Nat.le_trans HL.out GB12.out) : Below w0.heap.size w0 w20)) (KeepBut.trans (kp0 HK.out) (KeepBut.of_grown hg g) (Kd.R_base2 HO458.out)); clear HI0 HO458 HO469 HB HK; obtain ⟨HI0, HO458, HO469, HB, HK⟩ := n_; clear hg hw hp_))
   go_ret
   exact ⟨_, rq, by refine kr ?_; exact Kd.R_mono HO458.out (fun _ hk => trivial), IsS135.q0 HI0.out, bq1 HB.out (IsS135.ge HI0.out), kp0 HK.out⟩
 rw [if_neg c9] at H
 have c9b0 : (t461 == 1) = false := beq_eq_false_iff_ne.mpr c9
 have c9b1 : (t461 != 1) = true := bne_iff_ne.mpr c9
 by_cases c21 : t461 = 2
 rotate_left
 · rw [if_neg c21] at H
   have c21b0 : (t461 == 2) = false := beq_eq_false_iff_ne.mpr c21
   have c21b1 : (t461 != 2) = true := bne_iff_ne.mpr c21
   simp only [Option.some.injEq, Prod.mk.injEq] at H
   obtain ⟨rfl, rfl, rfl⟩ := H
   go_enter Try.func134, Try.ntmps134
   go_wp2_with (first | ((with_reducible refine gate_callee (f := 136) rfl ?_); refine goesL_ (some 5) rfl rfl Try.func136 (by kernel_rfl) rfl #[.pointer (some ⟨g, 0, none⟩)] rfl ga ?_; (with_reducible refine (spec_l2Draw.calls k g s0_0 s0_1 s0_2 t456 t459 t460 w0 _ ?side1 ?side2 A2.out).mono ?_); (case side1 => exact IsS135.q0 HI0.out); (case side2 => exact bq1 HB.out (IsS135.ge HI0.out)); rintro e w32 ⟨v457, rfl, ho0, hi, hb, hk⟩; refine ⟨_, rfl, ?_⟩; have n_ := ak4 (Kd.R_lower ho0 (keep_size (w := w) (g := g) (row := none) (kp0 HK.out))) (KeepBut.trans (kp0 HK.out) hk (.inl rfl)) hb hi; clear HK HB HI0; obtain ⟨HO458, HK, HB, HI0⟩ := n_; (try clear hb hk hi ho0)) | ((with_reducible refine gate_callee (f := 122) rfl ?_); refine goesL_ (some 7) rfl rfl Try.func122 (by kernel_rfl) rfl #[.pointer (some ⟨g, 0, none⟩), .int .i64 10] rfl ga ?_; (with_reducible refine (spec_l1Below.calls g s0_0 t459 t460 10 t461 t462 t463 w0 _ ?side1 ?side2 A3.out).mono ?_); (case side1 => exact IsS135.q0 HI0.out); (case side2 => exact bq1 HB.out (IsS135.ge HI0.out)); rintro e w33 ⟨rfl, hi, hb, hk⟩; refine ⟨_, rfl, ?_⟩; have n_ := ak4 (Kd.R_mono (Kd.R_keep (IsS135.apart (show IsS135 w0 _ g s0_0 t459 t460 from IsS135.q0 HI0.out) (kqR HO458.out) (by decide)) hk (fun _ h => h.2)) (fun _ h => h.1)) (KeepBut.trans (kp0 HK.out) hk (.inl rfl)) hb hi; clear HO458 HK HB HI0; obtain ⟨HO458, HK, HB, HI0⟩ := n_; (try clear hb hk hi)))
   go_ret
   exact ⟨_, rq, kqR HO458.out, IsS135.q0 HI0.out, bq1 HB.out (IsS135.ge HI0.out), kp0 HK.out⟩
 rw [if_pos c21] at H
 have c21b0 : (t461 == 2) = true := beq_iff_eq.mpr c21
 have c21b1 : (t461 != 2) = false := bne_eq_false_iff_eq.mpr c21
 clear c21
 have H' := am H
 clear H
 go_enter Try.func134, Try.ntmps134
 go_wp2_with (first | ((with_reducible refine gate_callee (f := 136) rfl ?_); refine goesL_ (some 5) rfl rfl Try.func136 (by kernel_rfl) rfl #[.pointer (some ⟨g, 0, none⟩)] rfl ga ?_; (with_reducible refine (spec_l2Draw.calls k g s0_0 s0_1 s0_2 t456 t459 t460 w0 _ ?side1 ?side2 A2.out).mono ?_); (case side1 => exact IsS135.q0 HI0.out); (case side2 => exact bq1 HB.out (IsS135.ge HI0.out)); rintro e w22 ⟨v457, rfl, ho0, hi, hb, hk⟩; refine ⟨_, rfl, ?_⟩; have n_ := ak4 (Kd.R_lower ho0 (keep_size (w := w) (g := g) (row := none) (kp0 HK.out))) (KeepBut.trans (kp0 HK.out) hk (.inl rfl)) hb hi; clear HK HB HI0; obtain ⟨HO458, HK, HB, HI0⟩ := n_; (try clear hb hk hi ho0)) | ((with_reducible refine gate_callee (f := 122) rfl ?_); refine goesL_ (some 7) rfl rfl Try.func122 (by kernel_rfl) rfl #[.pointer (some ⟨g, 0, none⟩), .int .i64 10] rfl ga ?_; (with_reducible refine (spec_l1Below.calls g s0_0 t459 t460 10 t461 t462 t463 w0 _ ?side1 ?side2 A3.out).mono ?_); (case side1 => exact IsS135.q0 HI0.out); (case side2 => exact bq1 HB.out (IsS135.ge HI0.out)); rintro e w23 ⟨rfl, hi, hb, hk⟩; refine ⟨_, rfl, ?_⟩; have n_ := ak4 (Kd.R_mono (Kd.R_keep (IsS135.apart (show IsS135 w0 _ g s0_0 t459 t460 from IsS135.q0 HI0.out) (kqR HO458.out) (by decide)) hk (fun _ h => h.2)) (fun _ h => h.1)) (KeepBut.trans (kp0 HK.out) hk (.inl rfl)) hb hi; clear HO458 HK HB HI0; obtain ⟨HO458, HK, HB, HI0⟩ := n_; (try clear hb hk hi)))
 go_loopg [3] k (fun kq v3 w' => ∃ (x3_1 : List Int) (x1001_1 : Int) (x1002_1 : Int), Aside0 (spec_l2Any.l0 kq x3_1 s0_0 x1001_1 x1002_1 = some (r1, r2, r3)) ∧ Aside0 (kq ≤ k) ∧ Aside0 (Kd.R (Kd.int .i64) 3 w' w.heap.size (fun _ => True) v3 x3_1) ∧ Aside0 (IsS135 w0 w' g s0_0 x1001_1 x1002_1) ∧ Aside0 (KeepBut w w' g none) ∧ Aside0 (Below w0.heap.size w0 w'))
 case atStart => exact ⟨(t456), (t462), (t463), H', ⟨Nat.le_refl _⟩, ⟨kqR HO458.out⟩, ⟨IsS135.q0 HI0.out⟩, ⟨kp0 HK.out⟩, ⟨bq1 HB.out (IsS135.ge HI0.out)⟩⟩
 case round =>
  clear H'
  try clear c1
  try clear p1
  try clear q1
  try clear hx1
  try clear qi1
  try clear hf1
  try clear c2
  try clear p2
  try clear c4
  try clear c4b0
  try clear c4b1
  try clear c8
  try clear c9
  try clear c9b0
  try clear c9b1
  try clear c11
  try clear c11b0
  try clear c11b1
  try clear c12
  try clear p12
  try clear q12
  try clear hx12
  try clear qi12
  try clear hf12
  try clear c13
  try clear c21
  try clear c21b0
  try clear c21b1
  try clear hx12_0
  try clear p12
  try clear q12
  obtain ⟨x3_1, x1001_1, x1002_1, HA, HK1, HO_3, HI0, HK, HB⟩ := hrel
  cases gk with
  | zero => exact absurd HA.out (by simp [spec_l2Any.l0])
  | succ k1 =>
   have H := HA.out
   clear HA
   simp only [spec_l2Any.l0] at H
   replace H := Option.bind_eq_some_iff.mp H
   obtain ⟨⟨t474, t475, t476⟩, A240, H⟩ := H
   replace H : (if (x3_1.length : Int) < (wrap64 (10 + t474)) then (if x3_1.length < 17592186044416 then (spec_l2Any.l0 k1 (x3_1 ++ [1]) s0_0 t475 t476) else (none)) else (some (x3_1, t475, t476))) = some (r1, r2, r3) := H
   have A24 := am A240
   clear A240
   by_cases c25 : (x3_1.length : Int) < (wrap64 (10 + t474))
   rotate_left
   · rw [if_neg c25] at H
     have c25b0 : decide ((x3_1.length : Int) < (wrap64 (10 + t474))) = false := decide_eq_false c25
     clear c25
     simp only [Option.some.injEq, Prod.mk.injEq] at H
     obtain ⟨rfl, rfl, rfl⟩ := H
     obtain ⟨Ao30, co30, eo30⟩ := Kd.R_slice HO_3.out
     subst eo30
     go_wp2_with (first | ((with_reducible refine gate_callee (f := 122) rfl ?_); refine goesL_ (some 23) rfl rfl Try.func122 (by kernel_rfl) rfl #[.pointer (some ⟨g, 0, none⟩), .int .i64 2] rfl ga ?_; (with_reducible refine (spec_l1Below.calls g s0_0 x1001_1 x1002_1 2 t474 t475 t476 w0 _ ?side1 ?side2 A24.out).mono ?_); (case side1 => exact IsS135.q0 HI0.out); (case side2 => exact bq1 HB.out (IsS135.ge HI0.out)); rintro e w31 ⟨rfl, hi, hb, hk⟩; refine ⟨_, rfl, ?_⟩; have n_ := ak4 (Kd.R_mono (Kd.R_keep (IsS135.apart (show IsS135 w0 _ g s0_0 x1001_1 x1002_1 from IsS135.q0 HI0.out) (kqR HO_3.out) (by decide)) hk (fun _ h => h.2)) (fun _ h => h.1)) (KeepBut.trans (kp0 HK.out) hk (.inl rfl)) hb hi; clear HO_3 HK HB HI0; obtain ⟨HO_3, HK, HB, HI0⟩ := n_; (try clear hb hk hi)))
     go_ret
     exact ⟨_, rq, kqR HO_3.out, IsS135.q0 HI0.out, bq1 HB.out (IsS135.ge HI0.out), kp0 HK.out⟩
   rw [if_pos c25] at H
   have c25b0 : decide ((x3_1.length : Int) < (wrap64 (10 + t474))) = true := decide_eq_true c25
   clear c25
   by_cases c26 : x3_1.length < 17592186044416
   rotate_left
   · rw [if_neg c26] at H
     exact absurd H (by simp)
   rw [if_pos c26] at H
   have LMc26 := am c26
   clear c26
   obtain ⟨y477, hy477⟩ : ∃ y_ : List Int, y_ = (x3_1 ++ [1]) := ⟨_, rfl⟩
   replace H : (spec_l2Any.l0 k1 y477 s0_0 t475 t476) = some (r1, r2, r3) := hx H hy477
   have Ny477 := am hy477
   clear hy477
   have H' := am H
   clear H
   obtain ⟨Ao27, co27, eo27⟩ := Kd.R_slice HO_3.out
   subst eo27
   go_wp2_with (first | ((with_reducible refine gate_callee (f := 122) rfl ?_); refine goesL_ (some 23) rfl rfl Try.func122 (by kernel_rfl) rfl #[.pointer (some ⟨g, 0, none⟩), .int .i64 2] rfl ga ?_; (with_reducible refine (spec_l1Below.calls g s0_0 x1001_1 x1002_1 2 t474 t475 t476 w0 _ ?side1 ?side2 A24.out).mono ?_); (case side1 => exact IsS135.q0 HI0.out); (case side2 => exact bq1 HB.out (IsS135.ge HI0.out)); rintro e w28 ⟨rfl, hi, hb, hk⟩; refine ⟨_, rfl, ?_⟩; have n_ := ak4 (Kd.R_mono (Kd.R_keep (IsS135.apart (show IsS135 w0 _ g s0_0 x1001_1 x1002_1 from IsS135.q0 HI0.out) (kqR HO_3.out) (by decide)) hk (fun _ h => h.2)) (fun _ h => h.1)) (KeepBut.trans (kp0 HK.out) hk (.inl rfl)) hb hi; clear HO_3 HK HB HI0; obtain ⟨HO_3, HK, HB, HI0⟩ := n_; (try clear hb hk hi)) | ((with_reducible refine gate_builtin (b := .append) (xs := #[.tmp 26, .tmp 27]) rfl ?_); at_builtin; refine Kd.R_append (Kd.int .i64) w.heap.size rfl (.tmp 26) (.tmp 27) 23 3 (.int .i64 0) 8 rfl Try.underlying23 info3 rfl (by decide) (by omega) (.slice Ao27 x3_1.length co27) x3_1 1 [.int .i64 1] (fun _ => True) (fun _ => False) rfl rfl ?aP (fun _ hk => hk.elim) ?aF ?aO (Below.refl _ _) ?aS ?aL ?_; (case aP => exact rfl); (case aF => exact (fun _ _ => trivial)); (case aO => exact (kqR HO_3.out)); (case aS => exact (keep_size (w := w) (g := g) (row := none) (kp0 HK.out))); (case aL => have := LMc26.out; omega); intro v478 w29 ho hb hg hat; rw [← Ny477.out] at ho; have n_ := ak4 (IsS135.grown (IsS135.q0 HI0.out) hg (IsS135.own_ne HI0.out HO_3.out (by decide))) (below_weaken (bq1 HB.out (IsS135.ge HI0.out)) HL.out hb) (KeepBut.trans (kp0 HK.out) (KeepBut.of_grown hg g) (Kd.R_base2 HO_3.out)) ho; clear HI0 HB HK HO_3; obtain ⟨HI0, HB, HK, HO479⟩ := n_; clear ho hb hg hat))
   go_roundg k1
   case measure => have := HK1.out; omega
   case rel => exact ⟨(y477), (t475), (t476), H', ⟨by have := HK1.out; omega⟩, ⟨kqR HO479.out⟩, ⟨IsS135.q0 HI0.out⟩, ⟨kp0 HK.out⟩, ⟨bq1 HB.out (IsS135.ge HI0.out)⟩⟩
end Go.Proofs.Ythhnfmbfgplelaa.XFnVals
