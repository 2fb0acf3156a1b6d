/- The functions that one law reaches, as Lean functions, with their walks: printed by a program of this seat (wip/tools) out of the translation. -/
import Derived.Test.YthhnfmbfgplelaaXFnValsx0
import Derived.Test.YthhnfmbfgplelaaXFnValsx8
import Derived.Test.YthhnfmbfgplelaaXFnValsx9
import Derived.Test.YthhnfmbfgplelaaXFnValsx10
namespace Go.Proofs.Ythhnfmbfgplelaa.XFnVals
open Go.RowKit Go.Proofs.YthhnfmbfgplelaaW.PrintWords Go.Proofs.YthhnfmbfgplelaaW.PrintLast Go.Proofs.YthhnfmbfgplelaaW.PrintMore
attribute [local go_sem] max2_int min2_int max_two min_two max_three min_three max_four min_four   -- for this text's walks alone
set_option linter.unusedVariables false
set_option linter.unusedSimpArgs false
set_option maxHeartbeats 8000000
set_option maxRecDepth 100000
def spec_l1At.f (s0_0 : List Int) (s0_1 : Int) (s0_2 : Int) (l1 : List Int) : Option (Int × Int × Int) := (spec_l1Below.f s0_0 s0_1 s0_2 (wrap64 ((l1.length : Int) + 1))).bind fun bt621 => ((spec_l1Int.f s0_0 bt621.2.1 bt621.2.2 (([0, 0, 0, (l1.length : Int), bt621.1, (-1), 9223372036854775807] : List Int))).bind fun bt627 => (some (bt627.1, bt627.2.1, bt627.2.2)))
theorem spec_l1At.calls (g : Nat) (s0_0 : List Int) (s0_1 : Int) (s0_2 : Int) (A1 : Option Addr) (c1 : Nat) (l1 : List Int) (r1 : Int) (r2 : Int) (r3 : Int) (w0 w : World) (hI : IsS135 w0 w g s0_0 s0_1 s0_2) (hB : Below w0.heap.size w0 w) (hr1 : Kd.C (Kd.int .u8) w A1 l1.length l1) (hc1 : l1.length ≤ c1) (hf1 : ∀ ad, A1 = some ad → 0 < l1.length → ad.block ≠ g) (h : spec_l1At.f s0_0 s0_1 s0_2 l1 = some (r1, r2, r3)) :
 Calls Try.prog 106 #[.pointer (some ⟨g, 0, none⟩), .slice A1 l1.length c1] w fun e w' => e = .returned (.int .i64 r1) ∧ IsS135 w0 w' g s0_0 r2 r3 ∧ Below w0.heap.size w0 w' ∧ KeepBut w w' g none := by
 have HR1 := am hr1
 have HC1 := am hc1
 clear hr1 hc1
 have HI0 := am hI
 have HK := am (KeepBut.refl w g none)
 have HL := am hB.size
 clear hI
 have HW0 := am hB.size
 have HB := am hB
 clear hB
 have H : ((spec_l1Below.f s0_0 s0_1 s0_2 (wrap64 ((l1.length : Int) + 1))).bind fun bt621 => ((spec_l1Int.f s0_0 bt621.2.1 bt621.2.2 (([0, 0, 0, (l1.length : Int), bt621.1, (-1), 9223372036854775807] : List Int))).bind fun bt627 => (some (bt627.1, bt627.2.1, bt627.2.2)))) = some (r1, r2, r3) := h
 clear h
 replace H := Option.bind_eq_some_iff.mp H
 obtain ⟨⟨t621, t622, t623⟩, A30, H⟩ := H
 replace H : ((spec_l1Int.f s0_0 t622 t623 (([0, 0, 0, (l1.length : Int), t621, (-1), 9223372036854775807] : List Int))).bind fun bt627 => (some (bt627.1, bt627.2.1, bt627.2.2))) = some (r1, r2, r3) := H
 have A3 := am A30
 clear A30
 obtain ⟨y624, hy624⟩ : ∃ y_ : List Int, y_ = (([0, 0, 0, (l1.length : Int), t621, (-1), 9223372036854775807] : List Int)) := ⟨_, rfl⟩
 replace H : ((spec_l1Int.f s0_0 t622 t623 y624).bind fun bt627 => (some (bt627.1, bt627.2.1, bt627.2.2))) = some (r1, r2, r3) := hx H hy624
 have Ny624 := am hy624
 clear hy624
 replace H := Option.bind_eq_some_iff.mp H
 obtain ⟨⟨t627, t628, t629⟩, A40, H⟩ := H
 replace H : (some (t627, t628, t629)) = some (r1, r2, r3) := H
 have A4 := am A40
 clear A40
 simp only [Option.some.injEq, Prod.mk.injEq] at H
 obtain ⟨rfl, rfl, rfl⟩ := H
 go_enter Try.func106, Try.ntmps106
 go_wp2_with (first | ((with_reducible refine gate_callee (f := 122) rfl ?_); refine goesL_ (some 12) rfl rfl Try.func122 (by kernel_rfl) rfl #[.pointer (some ⟨g, 0, none⟩), .int .i64 (wrap64 ((l1.length : Int) + 1))] rfl ga ?_; (with_reducible refine (spec_l1Below.calls g s0_0 s0_1 s0_2 (wrap64 ((l1.length : Int) + 1)) t621 t622 t623 w0 _ ?side1 ?side2 A3.out).mono ?_); (case side1 => exact IsS135.q0 HI0.out); (case side2 => exact bq1 HB.out (IsS135.ge HI0.out)); rintro e w5 ⟨rfl, hi, hb, hk⟩; refine ⟨_, rfl, ?_⟩; have n_ := ak3 (KeepBut.trans (kp0 HK.out) hk (.inl rfl)) hb hi; clear HK HB HI0; obtain ⟨HK, HB, HI0⟩ := n_; (try clear hb hk hi)) | ((with_reducible refine gate_dst (N := 13) rfl ?_); refine Kd.R_lit (Kd.int .i64) _ 3 ?hg (N := 13) ?hd (xs := ([0, 0, 0, (l1.length : Int), t621, (-1), 9223372036854775807] : List Int)) (inner := [.int .i64 0, .int .i64 0, .int .i64 0, .int .i64 (l1.length : Int), .int .i64 t621, .int .i64 (-1), .int .i64 9223372036854775807]) (ok := fun _ => True) (okp := fun _ => True) ?hr ?hp (fun _ hk => hk) trivial (Below.refl _ _) (Nat.le_refl _) (by simp) ?_; (case hd => rfl); (case hg => rfl); (case hr => exact gs); (case hp => exact (Reps.one (ri 0) (Reps.one (ri 0) (Reps.one (ri 0) (Reps.one (show Kd.M (Kd.int .i64) _ _ _ (l1.length : Int) [.int .i64 (l1.length : Int)] from rfl) (Reps.one (show Kd.M (Kd.int .i64) _ _ _ t621 [.int .i64 t621] from rfl) (Reps.one (ri (-1)) (Reps.one (ri 9223372036854775807) (Reps.none _ _))))))))); intro v625 w6 ho7 hb hg_ hnew_; clear hg_ hnew_; (first | rw [← Ny624.out] at ho7 | (simp only [Int.reduceToNat] at ho7; rw [← Ny624.out] at ho7)); have n_ := ak4 (Kd.R_lower ho7 (keep_size (w := w) (g := g) (row := none) (kp0 HK.out))) (IsS135.below (IsS135.q0 HI0.out) hb) (KeepBut.trans (kp0 HK.out) (KeepBut.of_below hb g none) (.inl rfl)) (below_step (bq1 HB.out (IsS135.ge HI0.out)) hb); clear HI0 HK HB; obtain ⟨HO626, HI0, HK, HB⟩ := n_; clear hb ho7; obtain ⟨Ao8, co8, eo8⟩ := Kd.R_slice HO626.out; subst eo8) | ((with_reducible refine gate_callee (f := 86) rfl ?_); refine goesL_ (some 14) rfl rfl Try.func86 (by kernel_rfl) rfl #[.pointer (some ⟨g, 0, none⟩), .slice Ao8 y624.length co8] rfl ga ?_; (with_reducible refine (spec_l1Int.calls g s0_0 t622 t623 _ _ y624 t627 t628 t629 w0 _ ?side1 ?side2 ?side3 ?side4 ?side5 A4.out).mono ?_); (case side1 => exact IsS135.q0 HI0.out); (case side2 => exact bq1 HB.out (IsS135.ge HI0.out)); (case side3 => repeat (first | exact (Kd.R_reads' HO626.out).2.2 | (with_reducible refine Kd.C_alloc ?_ _) | (with_reducible refine Kd.C_drewN ?_ _) | (with_reducible refine Kd.C_drew ?_))); (case side4 => exact (Kd.R_reads' HO626.out).2.1); (case side5 => exact far_slice (IsS135.own_ne HI0.out HO626.out (by decide))); rintro e w9 ⟨rfl, hi, hb, hk⟩; refine ⟨_, rfl, ?_⟩; have n_ := ak4 (Kd.R_mono (Kd.R_keep (IsS135.apart (show IsS135 w0 _ g s0_0 t622 t623 from IsS135.q0 HI0.out) (kqR HO626.out) (by decide)) hk (fun _ h => h.2)) (fun _ h => h.1)) (KeepBut.trans (kp0 HK.out) hk (.inl rfl)) hb hi; clear HO626 HK HB HI0; obtain ⟨HO626, HK, HB, HI0⟩ := n_; (try clear hb hk hi)))
 go_ret
 exact ⟨rq, IsS135.q0 HI0.out, bq1 HB.out (IsS135.ge HI0.out), kp0 HK.out⟩
def spec_DrawGetVal.f (k : Nat) (l0 : List Int) : Option (List Int × Int) := (spec_l1New.f k l0).bind fun bt630 => ((spec_l3Draw.f k bt630.1 bt630.2.1 bt630.2.2).bind fun bt637 => ((spec_PutVal.f k (([] : List Int)) bt637.1 bt637.2.1 bt637.2.2.1 bt637.2.2.2.1).bind fun t645 => ((spec_l1Bend.f bt630.1 bt637.2.2.2.2.1 bt637.2.2.2.2.2 t645).bind fun bt648 => ((spec_l1At.f bt630.1 bt648.2.1 bt648.2.2 bt648.1).bind fun bt653 => (some (bt648.1, bt653.1))))))
theorem spec_DrawGetVal.mono : ∀ a0 k, LeO (spec_DrawGetVal.f k a0) (spec_DrawGetVal.f (k + 1) a0) := by
 intro a0 k
 unfold spec_DrawGetVal.f
 repeat' first
  | (with_reducible exact spec_PutVal.mono _ _ _ _ _ _)
  | (with_reducible exact spec_l1New.mono _ _)
  | (with_reducible exact spec_l3Draw.mono _ _ _ _)
  | (with_reducible exact LeO.refl _)
  | (with_reducible exact LeO.none _)
  | (with_reducible refine LeO.ite ?_ ?_)
  | (with_reducible refine LeO.bind ?_ (fun _ => ?_))
  | exact spec_PutVal.mono _ _ _ _ _ _
  | exact spec_l1New.mono _ _
  | exact spec_l3Draw.mono _ _ _ _
  | exact LeO.none _
  | refine LeO.ite ?_ ?_
  | refine LeO.bind ?_ (fun _ => ?_)
theorem spec_DrawGetVal.calls (k : Nat) (A0 : Option Addr) (c0 : Nat) (l0 : List Int) (r1 : List Int) (r2 : Int) (w : World) (hr0 : Kd.C (Kd.int .u8) w A0 l0.length l0) (hc0 : l0.length ≤ c0) (h : spec_DrawGetVal.f k l0 = some (r1, r2)) :
 Calls Try.prog 45 #[.slice A0 l0.length c0] w fun e w' => ∃ v0_ : Value, e = .returned (.tuple #[v0_, .int .i64 r2]) ∧ Kd.R (Kd.int .u8) 5 w' w.heap.size (fun _ => True) v0_ r1 ∧ Below w.heap.size w w' := by
 have HR0 := am hr0
 have HC0 := am hc0
 clear hr0 hc0
 have HB := am (Below.refl w.heap.size w)
 have H : ((spec_l1New.f k l0).bind fun bt630 => ((spec_l3Draw.f k bt630.1 bt630.2.1 bt630.2.2).bind fun bt637 => ((spec_PutVal.f k (([] : List Int)) bt637.1 bt637.2.1 bt637.2.2.1 bt637.2.2.2.1).bind fun t645 => ((spec_l1Bend.f bt630.1 bt637.2.2.2.2.1 bt637.2.2.2.2.2 t645).bind fun bt648 => ((spec_l1At.f bt630.1 bt648.2.1 bt648.2.2 bt648.1).bind fun bt653 => (some (bt648.1, bt653.1))))))) = some (r1, r2) := h
 clear h
 replace H := Option.bind_eq_some_iff.mp H
 obtain ⟨⟨t630, t631, t632⟩, A20, H⟩ := H
 replace H : ((spec_l3Draw.f k t630 t631 t632).bind fun bt637 => ((spec_PutVal.f k (([] : List Int)) bt637.1 bt637.2.1 bt637.2.2.1 bt637.2.2.2.1).bind fun t645 => ((spec_l1Bend.f t630 bt637.2.2.2.2.1 bt637.2.2.2.2.2 t645).bind fun bt648 => ((spec_l1At.f t630 bt648.2.1 bt648.2.2 bt648.1).bind fun bt653 => (some (bt648.1, bt653.1)))))) = some (r1, r2) := H
 have A2 := am A20
 clear A20
 obtain ⟨y634, hy634⟩ : ∃ y_ : List Int, y_ = (([] : List Int)) := ⟨_, rfl⟩
 replace H : ((spec_l3Draw.f k t630 t631 t632).bind fun bt637 => ((spec_PutVal.f k y634 bt637.1 bt637.2.1 bt637.2.2.1 bt637.2.2.2.1).bind fun t645 => ((spec_l1Bend.f t630 bt637.2.2.2.2.1 bt637.2.2.2.2.2 t645).bind fun bt648 => ((spec_l1At.f t630 bt648.2.1 bt648.2.2 bt648.1).bind fun bt653 => (some (bt648.1, bt653.1)))))) = some (r1, r2) := hx H hy634
 have Ny634 := am hy634
 clear hy634
 replace H := Option.bind_eq_some_iff.mp H
 obtain ⟨⟨t637, t638, t639, t640, t643, t644⟩, A30, H⟩ := H
 replace H : ((spec_PutVal.f k y634 t637 t638 t639 t640).bind fun t645 => ((spec_l1Bend.f t630 t643 t644 t645).bind fun bt648 => ((spec_l1At.f t630 bt648.2.1 bt648.2.2 bt648.1).bind fun bt653 => (some (bt648.1, bt653.1))))) = some (r1, r2) := H
 have A3 := am A30
 clear A30
 replace H := Option.bind_eq_some_iff.mp H
 obtain ⟨t645, A40, H⟩ := H
 replace H : ((spec_l1Bend.f t630 t643 t644 t645).bind fun bt648 => ((spec_l1At.f t630 bt648.2.1 bt648.2.2 bt648.1).bind fun bt653 => (some (bt648.1, bt653.1)))) = some (r1, r2) := H
 have A4 := am A40
 clear A40
 replace H := Option.bind_eq_some_iff.mp H
 obtain ⟨⟨t648, t651, t652⟩, A50, H⟩ := H
 replace H : ((spec_l1At.f t630 t651 t652 t648).bind fun bt653 => (some (t648, bt653.1))) = some (r1, r2) := H
 have A5 := am A50
 clear A50
 replace H := Option.bind_eq_some_iff.mp H
 obtain ⟨⟨t653, t654, t655⟩, A60, H⟩ := H
 replace H : (some (t648, t653)) = some (r1, r2) := H
 have A6 := am A60
 clear A60
 simp only [Option.some.injEq, Prod.mk.injEq] at H
 obtain ⟨rfl, rfl⟩ := H
 go_enter Try.func45, Try.ntmps45
 go_wp2_with (first | ((with_reducible refine gate_callee (f := 74) rfl ?_); refine goesL_ (some 7) rfl rfl Try.func74 (by kernel_rfl) rfl #[.slice A0 l0.length c0] rfl ga ?_; (with_reducible refine (spec_l1New.calls k _ _ l0 t630 t631 t632 w _ ?side1 ?side2 ?side3 A2.out).mono ?_); (case side1 => exact bq HB.out); (case side2 => exact HR0.out); (case side3 => exact HC0.out); rintro e w7 ⟨g633, rfl, hi, hb, hb2⟩; refine ⟨_, rfl, ?_⟩; have n_ := ak2 hb hi; clear HB; obtain ⟨HB, HI633⟩ := n_; (try clear hb hb2 hi)) | ((with_reducible refine gate_dst (N := 9) rfl ?_); refine Kd.R_lit (Kd.int .u8) _ 5 ?hg (N := 9) ?hd (xs := ([] : List Int)) (inner := []) (ok := fun _ => True) (okp := fun _ => True) ?hr ?hp (fun _ hk => hk) trivial (Below.refl _ _) (Nat.le_refl _) (by simp) ?_; (case hd => rfl); (case hg => rfl); (case hr => exact gs); (case hp => exact (Reps.none _ _)); intro v635 w8 ho9 hb hg_ hnew_; clear hg_ hnew_; (first | rw [← Ny634.out] at ho9 | (simp only [Int.reduceToNat] at ho9; rw [← Ny634.out] at ho9)); have n_ := ak3 (Kd.R_lower ho9 (below_size (bq1 HB.out (IsS135.ge HI633.out)))) (IsS135.below (IsS135.q0 HI633.out) hb) (below_step (bq1 HB.out (IsS135.ge HI633.out)) hb); clear HI633 HB; obtain ⟨HO636, HI633, HB⟩ := n_; clear hb ho9) | ((with_reducible refine gate_callee (f := 105) rfl ?_); refine goesL_ (some 11) rfl rfl Try.func105 (by kernel_rfl) rfl #[.pointer (some ⟨g633, 0, none⟩)] rfl ga ?_; (with_reducible refine (spec_l3Draw.calls k g633 t630 t631 t632 t637 t638 t639 t640 t643 t644 w _ ?side1 ?side2 A3.out).mono ?_); (case side1 => exact IsS135.q0 HI633.out); (case side2 => exact bq1 HB.out (IsS135.ge HI633.out)); rintro e w10 ⟨v641, rfl, ho0, hi, hb, hk⟩; refine ⟨_, rfl, ?_⟩; have n_ := ak4 (Kd.R_mono (Kd.R_keep (IsS135.apart (show IsS135 w _ g633 t630 t631 t632 from IsS135.q0 HI633.out) (kqR HO636.out) (by decide)) hk (fun _ h => h.2)) (fun _ h => h.1)) (Kd.R_lower ho0 (below_size (bq1 HB.out (IsS135.ge HI633.out)))) hb hi; clear HO636 HB HI633; obtain ⟨HO636, HO642, HB, HI633⟩ := n_; (try clear hb hk hi ho0); obtain ⟨Ao11, co11, eo11⟩ := Kd.R_slice HO636.out; subst eo11; obtain ⟨Ao12, co12, eo12⟩ := Kd.R_slice HO642.out; subst eo12) | ((with_reducible refine gate_callee (f := 14) rfl ?_); refine goesL_ (some 12) rfl rfl Try.func14 (by kernel_rfl) rfl #[.slice Ao11 y634.length co11, .agg #[.int .i64 t637, .int .i64 t638, .string t639, .slice Ao12 t640.length co12]] rfl ga ?_; (with_reducible refine (spec_PutVal.calls k _ _ y634 t637 t638 t639 _ _ t640 t645 _ ?side1 ?side2 ?side3 ?side4 A4.out).mono ?_); (case side1 => repeat (first | exact (Kd.R_reads' HO636.out).2.2 | (with_reducible refine Kd.C_alloc ?_ _) | (with_reducible refine Kd.C_drewN ?_ _) | (with_reducible refine Kd.C_drew ?_))); (case side2 => exact (Kd.R_reads' HO636.out).2.1); (case side3 => repeat (first | exact (Kd.R_reads' HO642.out).2.2 | (with_reducible refine Kd.C_alloc ?_ _) | (with_reducible refine Kd.C_drewN ?_ _) | (with_reducible refine Kd.C_drew ?_))); (case side4 => exact (Kd.R_reads' HO642.out).2.1); rintro e w13 ⟨v646, rfl, ho0, hb⟩; refine ⟨_, rfl, ?_⟩; have n_ := ak5 (Kd.R_elder' (kqR HO636.out) (Kd.R_base ho0) hb) (Kd.R_below (kqR HO642.out) hb) (Kd.R_lower (Kd.R_new' ho0 (Kd.R_lt (kqR HO636.out))) (below_size (bq1 HB.out (IsS135.ge HI633.out)))) (IsS135.below (IsS135.q0 HI633.out) hb) (below_step (bq1 HB.out (IsS135.ge HI633.out)) hb); clear HO636 HO642 HI633 HB; obtain ⟨HO636, HO642, HO647, HI633, HB⟩ := n_; (try clear hb ho0); obtain ⟨Ao14, co14, eo14⟩ := Kd.R_slice HO647.out; subst eo14) | ((with_reducible refine gate_callee (f := 77) rfl ?_); refine goesL_ (some 13) rfl rfl Try.func77 (by kernel_rfl) rfl #[.pointer (some ⟨g633, 0, none⟩), .slice Ao14 t645.length co14] rfl ga ?_; (with_reducible refine (spec_l1Bend.calls g633 t630 t643 t644 (fun k_ => some k_ = (.slice Ao14 t645.length co14 : Value).ownBlock) (.slice Ao14 t645.length co14) t645 t648 t651 t652 w _ ?side1 ?side2 ?side3 A5.out).mono ?_); (case side1 => exact IsS135.q0 HI633.out); (case side2 => exact bq1 HB.out (IsS135.ge HI633.out)); (case side3 => exact Kd.R_tight rfl HO647.out); rintro e w15 ⟨v649, rfl, ho0, hi, hb, hkp⟩; refine ⟨_, rfl, ?_⟩; have n_ := ak5 hi (Kd.R_mono (ok' := fun k_ => some k_ ≠ (v649 : Value).ownBlock) (Kd.R_keptB ((IsS135.apart HI633.out HO636.out (by decide))) hkp (fun k_ hk_ hs_ => Or.elim hs_ (fun hs_ => (hk_.1.2) hs_) (fun e_ => (hk_.2) e_))) (fun k_ hk_ => fun e_ => Or.elim (ho0.1 k_ e_.symm) (fun hs_ => hk_.2.1 (Or.inl hs_)) (fun hn_ => Nat.not_le.2 hk_.2.2 hn_))) (Kd.R_mono (ok' := fun k_ => True) (Kd.R_keptB ((IsS135.apart HI633.out (Kd.R_apart' HO642.out (Kd.R_typed HO647.out) (by decide)) (by decide))) hkp (fun k_ hk_ hs_ => Or.elim hs_ (fun hs_ => (hk_.1.2) hs_) (fun e_ => (hk_.2) e_))) (fun k_ hk_ => trivial)) (Kd.R_mono (ok' := fun k_ => some k_ ≠ (.slice Ao11 y634.length co11 : Value).ownBlock) ho0 (fun k_ hk_ => Or.elim hk_ (fun hs_ => fun e_ => ((((IsS135.apart HI633.out HO636.out (by decide))).1 k_ e_.symm).1.2) hs_) (fun hn_ => (Kd.fresh' (Kd.R_lt (kqR HO636.out)) k_ hn_)))) hb; clear HI633 HO636 HO642 HB HO647; obtain ⟨HI633, HO636, HO642, HO650, HB⟩ := n_; (try clear hb hkp ho0); obtain ⟨Ao16, co16, eo16⟩ := Kd.R_slice HO650.out; subst eo16) | ((with_reducible refine gate_callee (f := 106) rfl ?_); refine goesL_ (some 17) rfl rfl Try.func106 (by kernel_rfl) rfl #[.pointer (some ⟨g633, 0, none⟩), .slice Ao16 t648.length co16] rfl ga ?_; (with_reducible refine (spec_l1At.calls g633 t630 t651 t652 _ _ t648 t653 t654 t655 w _ ?side1 ?side2 ?side3 ?side4 ?side5 A6.out).mono ?_); (case side1 => exact IsS135.q0 HI633.out); (case side2 => exact bq1 HB.out (IsS135.ge HI633.out)); (case side3 => repeat (first | exact (Kd.R_reads' HO650.out).2.2 | (with_reducible refine Kd.C_alloc ?_ _) | (with_reducible refine Kd.C_drewN ?_ _) | (with_reducible refine Kd.C_drew ?_))); (case side4 => exact (Kd.R_reads' HO650.out).2.1); (case side5 => exact far_slice (IsS135.own_ne HI633.out HO650.out (by decide))); rintro e w17 ⟨rfl, hi, hb, hk⟩; refine ⟨_, rfl, ?_⟩; have n_ := ak5 (Kd.R_mono (Kd.R_keep (IsS135.apart (show IsS135 w _ g633 t630 t651 t652 from IsS135.q0 HI633.out) (kqR HO636.out) (by decide)) hk (fun _ h => h.2)) (fun _ h => h.1)) (Kd.R_mono (Kd.R_keep (IsS135.apart (show IsS135 w _ g633 t630 t651 t652 from IsS135.q0 HI633.out) (kqR HO642.out) (by decide)) hk (fun _ h => h.2)) (fun _ h => h.1)) (Kd.R_mono (Kd.R_keep (IsS135.apart (show IsS135 w _ g633 t630 t651 t652 from IsS135.q0 HI633.out) (kqR HO650.out) (by decide)) hk (fun _ h => h.2)) (fun _ h => h.1)) hb hi; clear HO636 HO642 HO650 HB HI633; obtain ⟨HO636, HO642, HO650, HB, HI633⟩ := n_; (try clear hb hk hi)))
 go_ret2
 exact ⟨_, rq, by refine kr ?_; exact Kd.R_mono HO650.out (fun _ hk => trivial), bq1 HB.out (IsS135.ge HI633.out)⟩
def spec_l1Once.f (s0_0 : List Int) (s0_1 : Int) (s0_2 : Int) (a1 : Int) : Option (Bool × Int × Int) := (spec_l1Below.f s0_0 s0_1 s0_2 a1).bind fun bt656 => (some ((bt656.1 == 0), bt656.2.1, bt656.2.2))
theorem spec_l1Once.calls (g : Nat) (s0_0 : List Int) (s0_1 : Int) (s0_2 : Int) (a1 : Int) (r1 : Bool) (r2 : Int) (r3 : Int) (w0 w : World) (hI : IsS135 w0 w g s0_0 s0_1 s0_2) (hB : Below w0.heap.size w0 w) (h : spec_l1Once.f s0_0 s0_1 s0_2 a1 = some (r1, r2, r3)) :
 Calls Try.prog 111 #[.pointer (some ⟨g, 0, none⟩), .int .i64 a1] w fun e w' => e = .returned (.bool r1) ∧ IsS135 w0 w' g s0_0 r2 r3 ∧ Below w0.heap.size w0 w' ∧ KeepBut w w' g none := by
 have HI0 := am hI
 have HK := am (KeepBut.refl w g none)
 have HL := am hB.size
 clear hI
 have HW0 := am hB.size
 have HB := am hB
 clear hB
 have H : ((spec_l1Below.f s0_0 s0_1 s0_2 a1).bind fun bt656 => (some ((bt656.1 == 0), bt656.2.1, bt656.2.2))) = some (r1, r2, r3) := h
 clear h
 replace H := Option.bind_eq_some_iff.mp H
 obtain ⟨⟨t656, t657, t658⟩, A30, H⟩ := H
 replace H : (some ((t656 == 0), t657, t658)) = some (r1, r2, r3) := H
 have A3 := am A30
 clear A30
 simp only [Option.some.injEq, Prod.mk.injEq] at H
 obtain ⟨rfl, rfl, rfl⟩ := H
 go_enter Try.func111, Try.ntmps111
 go_wp2_with (first | ((with_reducible refine gate_callee (f := 122) rfl ?_); refine goesL_ (some 7) rfl rfl Try.func122 (by kernel_rfl) rfl #[.pointer (some ⟨g, 0, none⟩), .int .i64 a1] rfl ga ?_; (with_reducible refine (spec_l1Below.calls g s0_0 s0_1 s0_2 a1 t656 t657 t658 w0 _ ?side1 ?side2 A3.out).mono ?_); (case side1 => exact IsS135.q0 HI0.out); (case side2 => exact bq1 HB.out (IsS135.ge HI0.out)); rintro e w4 ⟨rfl, hi, hb, hk⟩; refine ⟨_, rfl, ?_⟩; have n_ := ak3 (KeepBut.trans (kp0 HK.out) hk (.inl rfl)) hb hi; clear HK HB HI0; obtain ⟨HK, HB, HI0⟩ := n_; (try clear hb hk hi)))
 go_ret
 exact ⟨rq, IsS135.q0 HI0.out, bq1 HB.out (IsS135.ge HI0.out), kp0 HK.out⟩
def spec_DrawSameVal.f (k : Nat) (l0 : List Int) : Option (Int × Int × ByteArray × List Int × Int × Int × ByteArray × List Int) := (spec_l1New.f k l0).bind fun bt661 => ((spec_l3Any.f k bt661.1 bt661.2.1 bt661.2.2).bind fun bt665 => ((spec_l1Once.f bt661.1 bt665.2.2.2.2.1 bt665.2.2.2.2.2 3).bind fun bt674 => (if bt674.1 = true then (some (bt665.1, bt665.2.1, bt665.2.2.1, bt665.2.2.2.1, bt665.1, bt665.2.1, bt665.2.2.1, bt665.2.2.2.1)) else ((spec_l3Any.f k bt661.1 bt674.2.1 bt674.2.2).bind fun bt677 => (some (bt665.1, bt665.2.1, bt665.2.2.1, bt665.2.2.2.1, bt677.1, bt677.2.1, bt677.2.2.1, bt677.2.2.2.1))))))
theorem spec_DrawSameVal.mono : ∀ a0 k, LeO (spec_DrawSameVal.f k a0) (spec_DrawSameVal.f (k + 1) a0) := by
 intro a0 k
 unfold spec_DrawSameVal.f
 repeat' first
  | (with_reducible exact spec_l1New.mono _ _)
  | (with_reducible exact spec_l3Any.mono _ _ _ _)
  | (with_reducible exact LeO.refl _)
  | (with_reducible exact LeO.none _)
  | (with_reducible refine LeO.ite ?_ ?_)
  | (with_reducible refine LeO.bind ?_ (fun _ => ?_))
  | exact spec_l1New.mono _ _
  | exact spec_l3Any.mono _ _ _ _
  | exact LeO.none _
  | refine LeO.ite ?_ ?_
  | refine LeO.bind ?_ (fun _ => ?_)
theorem spec_DrawSameVal.calls (k : Nat) (A0 : Option Addr) (c0 : Nat) (l0 : List Int) (r1 : Int) (r2 : Int) (r3 : ByteArray) (r4 : List Int) (r5 : Int) (r6 : Int) (r7 : ByteArray) (r8 : List Int) (w : World) (hr0 : Kd.C (Kd.int .u8) w A0 l0.length l0) (hc0 : l0.length ≤ c0) (h : spec_DrawSameVal.f k l0 = some (r1, r2, r3, r4, r5, r6, r7, r8)) :
 Calls Try.prog 48 #[.slice A0 l0.length c0] w fun e w' => ∃ v3_ v7_ : Value, e = .returned (.tuple #[.agg #[.int .i64 r1, .int .i64 r2, .string r3, v3_], .agg #[.int .i64 r5, .int .i64 r6, .string r7, v7_]]) ∧ Kd.V (Kd.int .i64) 3 w' w.heap.size (fun k_ => (w.heap.size ≤ k_)) v3_ r4 ∧ Kd.V (Kd.int .i64) 3 w' w.heap.size (fun k_ => (w.heap.size ≤ k_)) v7_ r8 ∧ Below w.heap.size w w' := by
 have hu29 := Try.underlying29
 have HR0 := am hr0
 have HC0 := am hc0
 clear hr0 hc0
 have HB := am (Below.refl w.heap.size w)
 have H : ((spec_l1New.f k l0).bind fun bt661 => ((spec_l3Any.f k bt661.1 bt661.2.1 bt661.2.2).bind fun bt665 => ((spec_l1Once.f bt661.1 bt665.2.2.2.2.1 bt665.2.2.2.2.2 3).bind fun bt674 => (if bt674.1 = true then (some (bt665.1, bt665.2.1, bt665.2.2.1, bt665.2.2.2.1, bt665.1, bt665.2.1, bt665.2.2.1, bt665.2.2.2.1)) else ((spec_l3Any.f k bt661.1 bt674.2.1 bt674.2.2).bind fun bt677 => (some (bt665.1, bt665.2.1, bt665.2.2.1, bt665.2.2.2.1, bt677.1, bt677.2.1, bt677.2.2.1, bt677.2.2.2.1))))))) = some (r1, r2, r3, r4, r5, r6, r7, r8) := h
 clear h
 replace H := Option.bind_eq_some_iff.mp H
 obtain ⟨⟨t661, t662, t663⟩, A20, H⟩ := H
 replace H : ((spec_l3Any.f k t661 t662 t663).bind fun bt665 => ((spec_l1Once.f t661 bt665.2.2.2.2.1 bt665.2.2.2.2.2 3).bind fun bt674 => (if bt674.1 = true then (some (bt665.1, bt665.2.1, bt665.2.2.1, bt665.2.2.2.1, bt665.1, bt665.2.1, bt665.2.2.1, bt665.2.2.2.1)) else ((spec_l3Any.f k t661 bt674.2.1 bt674.2.2).bind fun bt677 => (some (bt665.1, bt665.2.1, bt665.2.2.1, bt665.2.2.2.1, bt677.1, bt677.2.1, bt677.2.2.1, bt677.2.2.2.1)))))) = some (r1, r2, r3, r4, r5, r6, r7, r8) := H
 have A2 := am A20
 clear A20
 replace H := Option.bind_eq_some_iff.mp H
 obtain ⟨⟨t665, t666, t667, t668, t671, t672⟩, A30, H⟩ := H
 replace H : ((spec_l1Once.f t661 t671 t672 3).bind fun bt674 => (if bt674.1 = true then (some (t665, t666, t667, t668, t665, t666, t667, t668)) else ((spec_l3Any.f k t661 bt674.2.1 bt674.2.2).bind fun bt677 => (some (t665, t666, t667, t668, bt677.1, bt677.2.1, bt677.2.2.1, bt677.2.2.2.1))))) = some (r1, r2, r3, r4, r5, r6, r7, r8) := H
 have A3 := am A30
 clear A30
 replace H := Option.bind_eq_some_iff.mp H
 obtain ⟨⟨t674, t675, t676⟩, A40, H⟩ := H
 replace H : (if t674 = true then (some (t665, t666, t667, t668, t665, t666, t667, t668)) else ((spec_l3Any.f k t661 t675 t676).bind fun bt677 => (some (t665, t666, t667, t668, bt677.1, bt677.2.1, bt677.2.2.1, bt677.2.2.2.1)))) = some (r1, r2, r3, r4, r5, r6, r7, r8) := H
 have A4 := am A40
 clear A40
 by_cases c5 : t674 = true
 · subst c5
   replace H : (some (t665, t666, t667, t668, t665, t666, t667, t668)) = some (r1, r2, r3, r4, r5, r6, r7, r8) := by rw [if_pos rfl] at H; exact H
   simp only [Option.some.injEq, Prod.mk.injEq] at H
   obtain ⟨rfl, rfl, rfl, rfl, rfl, rfl, rfl, rfl⟩ := H
   go_enter Try.func48, Try.ntmps48
   try go_wp2_with (first | ((with_reducible refine gate_dst (N := 2) rfl ?_); refine bxe 2 #[.int .i64 0, .int .i64 0, .string (⟨#[]⟩ : ByteArray), .slice none 0 0] 29 ?_; intro gb659 hg w6 hbox hb; have n_ := ak4 (below_step (bq HB.out) hb) hbox ((by rw [hg]; exact (below_size (bq HB.out)) : w.heap.size ≤ gb659)) ((by rw [hg]; exact (below_size (bq HB.out)) : w.heap.size ≤ gb659)); clear HB; obtain ⟨HB, BK659, GW659, GE659⟩ := n_; clear hb hbox hg) | ((with_reducible refine gate_dst (N := 3) rfl ?_); refine bxe 3 #[.int .i64 0, .int .i64 0, .string (⟨#[]⟩ : ByteArray), .slice none 0 0] 29 ?_; intro gb660 hg w7 hbox hb; have n_ := ak7 (blk_below (zb BK659.out) hb) (below_step (bq1 HB.out GE659.out) hb) hbox ((by rw [hg]; exact (below_size (bq1 HB.out GE659.out)) : w.heap.size ≤ gb660)) ((by rw [hg]; exact (below_size (bq1 HB.out GE659.out)) : w.heap.size ≤ gb660)) ((nlt hg (zb BK659.out) : gb659 ≠ gb660)) ((ngt hg (zb BK659.out) : gb660 ≠ gb659)); clear BK659 HB; obtain ⟨BK659, HB, BK660, GW660, GE660, NB659_660, NB660_659⟩ := n_; clear hb hbox hg) | ((with_reducible refine gate_callee (f := 74) rfl ?_); refine goesL_ (some 7) rfl rfl Try.func74 (by kernel_rfl) rfl #[.slice A0 l0.length c0] rfl ga ?_; (with_reducible refine (spec_l1New.calls k _ _ l0 t661 t662 t663 w _ ?side1 ?side2 ?side3 A2.out).mono ?_); (case side1 => exact bq2 HB.out GE659.out GE660.out); (case side2 => exact HR0.out); (case side3 => exact HC0.out); rintro e w8 ⟨g664, rfl, hi, hb, hb2⟩; refine ⟨_, rfl, ?_⟩; have n_ := ak8 (blk_below (zb BK659.out) hb2) (blk_below (zb BK660.out) hb2) hb hi (IsS135.ne_blk hi (blk_below (zb BK659.out) hb2) (by decide)) (Ne.symm (IsS135.ne_blk hi (blk_below (zb BK659.out) hb2) (by decide))) (IsS135.ne_blk hi (blk_below (zb BK660.out) hb2) (by decide)) (Ne.symm (IsS135.ne_blk hi (blk_below (zb BK660.out) hb2) (by decide))); clear BK659 BK660 HB; obtain ⟨BK659, BK660, HB, HI664, NB664_659, NB659_664, NB664_660, NB660_664⟩ := n_; (try clear hb hb2 hi)) | ((with_reducible refine gate_callee (f := 104) rfl ?_); refine goesL_ (some 9) rfl rfl Try.func104 (by kernel_rfl) rfl #[.pointer (some ⟨g664, 0, none⟩)] rfl ga ?_; (with_reducible refine (spec_l3Any.calls k g664 t661 t662 t663 t665 t666 t667 t668 t671 t672 w _ ?side1 ?side2 A3.out).mono ?_); (case side1 => exact IsS135.q2 HI664.out NB664_659.out NB664_660.out); (case side2 => exact bq3 HB.out (IsS135.ge HI664.out) GE659.out GE660.out); rintro e w9 ⟨v669, rfl, ho0, hi, hb, hk⟩; refine ⟨_, rfl, ?_⟩; have n_ := ak5 (KeepBut.blk hk (zb BK659.out) NB659_664.out (by simp)) (KeepBut.blk hk (zb BK660.out) NB660_664.out (by simp)) (Kd.R_lower (Kd.R_newM (M := fun k_ => (w.heap.size ≤ k_)) ho0 (below_size (bq3 HB.out (IsS135.ge HI664.out) GE659.out GE660.out)) (fun k_ h_ => h_)) (below_size (bq3 HB.out (IsS135.ge HI664.out) GE659.out GE660.out))) hb hi; clear BK659 BK660 HB HI664; obtain ⟨BK659, BK660, HO670, HB, HI664⟩ := n_; (try clear hb hk hi ho0)) | ((with_reducible refine gate_dst (N := 5) rfl ?_); refine bxe 5 #[.int .i64 0, .int .i64 0, .string (⟨#[]⟩ : ByteArray), .slice none 0 0] 29 ?_; intro gb673 hg w10 hbox hb; have n_ := ak14 (Kd.R_below (kqR HO670.out) hb) (blk_below (zb BK659.out) hb) (blk_below (zb BK660.out) hb) (IsS135.below (IsS135.q2 HI664.out NB664_659.out NB664_660.out) hb) (below_step (bq3 HB.out (IsS135.ge HI664.out) GE659.out GE660.out) hb) hbox ((by rw [hg]; exact (below_size (bq3 HB.out (IsS135.ge HI664.out) GE659.out GE660.out)) : w.heap.size ≤ gb673)) ((by rw [hg]; exact (below_size (bq3 HB.out (IsS135.ge HI664.out) GE659.out GE660.out)) : w.heap.size ≤ gb673)) ((nlt hg (zb BK659.out) : gb659 ≠ gb673)) ((ngt hg (zb BK659.out) : gb673 ≠ gb659)) ((nlt hg (zb BK660.out) : gb660 ≠ gb673)) ((ngt hg (zb BK660.out) : gb673 ≠ gb660)) ((by rw [hg]; exact Nat.ne_of_lt (IsS135.lt (show IsS135 w _ g664 t661 t671 t672 from IsS135.q2 HI664.out NB664_659.out NB664_660.out)) : g664 ≠ gb673)) ((by rw [hg]; exact Nat.ne_of_gt (IsS135.lt (show IsS135 w _ g664 t661 t671 t672 from IsS135.q2 HI664.out NB664_659.out NB664_660.out)) : gb673 ≠ g664)); clear HO670 BK659 BK660 HI664 HB; obtain ⟨HO670, BK659, BK660, HI664, HB, BK673, GW673, GE673, NB659_673, NB673_659, NB660_673, NB673_660, NB664_673, NB673_664⟩ := n_; clear hb hbox hg; have hnb11 := NB673_659.out; have hnc11 := NB659_673.out; have hnb12 := NB673_660.out; have hnc12 := NB660_673.out; have hnb13 := NB673_664.out; have hnc13 := NB664_673.out; obtain ⟨hcz14_0, hcz14_1, hcz14_2, hcz14_3, hfz14_0, hfz14_1, hfz14_2, hfz14_3⟩ := cl4 BK673.out; obtain ⟨Ao15, co15, eo15⟩ := Kd.R_slice HO670.out; subst eo15) | ((with_reducible refine gate_store (t := 29) (p := 5) rfl ?_); refine store_event (t := 29) (p := 5) (v := ?vo_w16) (w1 := ((((w10.setCell ⟨gb673, 0, none⟩ (.int .i64 t665)).setCell ⟨gb673, 1, none⟩ (.int .i64 t666)).setCell ⟨gb673, 2, none⟩ (.string t667)).setCell ⟨gb673, 3, none⟩ (.slice Ao15 t668.length co15))) ?hg ?ho ?hn ?hr ?_; (case ho => rfl); (case hg => rfl); (case hn => rfl); (case hr => exact gs); intro w16 hw; have n_ : Aside0 (Kd.R (Kd.int .i64) 3 w16 w.heap.size (fun k_ => (w.heap.size ≤ k_)) (.slice Ao15 t668.length co15) t668) ∧ Aside0 (w16.heap[gb659]? = some (.cells #[.int .i64 0, .int .i64 0, .string (⟨#[]⟩ : ByteArray), .slice none 0 0] 29 (0, 0))) ∧ Aside0 (w16.heap[gb660]? = some (.cells #[.int .i64 0, .int .i64 0, .string (⟨#[]⟩ : ByteArray), .slice none 0 0] 29 (0, 0))) ∧ Aside0 (w16.heap[gb673]? = some (.cells #[.int .i64 t665, .int .i64 t666, .string t667, .slice Ao15 t668.length co15] 29 (0, 0))) ∧ Aside0 (IsS135 w w16 g664 t661 t671 t672) ∧ Aside0 (Below w.heap.size w w16) := ⟨⟨(by rw [hw]; exact (by refine kr ?_; exact Kd.R_mono (rf4 gb673 (.int .i64 t665) (.int .i64 t666) (.string t667) (.slice Ao15 t668.length co15) (Kd.R_types HO670.out BK673.out (by decide)) (fun _ hk => hk.2)) (fun _ hk => hk.1.1)))⟩, ⟨(by rw [hw]; exact (by refine zr ?_; refine blk_far ?_ NB659_673.out _; refine zr ?_; refine blk_far ?_ NB659_673.out _; refine zr ?_; refine blk_far ?_ NB659_673.out _; refine zr ?_; refine blk_far ?_ NB659_673.out _; refine zr ?_; exact BK659.out))⟩, ⟨(by rw [hw]; exact (by refine zr ?_; refine blk_far ?_ NB660_673.out _; refine zr ?_; refine blk_far ?_ NB660_673.out _; refine zr ?_; refine blk_far ?_ NB660_673.out _; refine zr ?_; refine blk_far ?_ NB660_673.out _; refine zr ?_; exact BK660.out))⟩, ⟨(by rw [hw]; exact (by refine zr ?_; exact bp4 (zb BK673.out)))⟩, ⟨(by rw [hw]; exact (IsS135.q3 HI664.out NB664_659.out NB664_660.out NB664_673.out))⟩, ⟨(by rw [hw]; exact (bq4 HB.out (IsS135.ge HI664.out) GE659.out GE660.out GE673.out))⟩⟩; clear hw HO670 BK659 BK660 BK673 HI664 HB; obtain ⟨HO670, BK659, BK660, BK673, HI664, HB⟩ := n_) | ((with_reducible refine gate_callee (f := 111) rfl ?_); refine goesL_ (some 11) rfl rfl Try.func111 (by kernel_rfl) rfl #[.pointer (some ⟨g664, 0, none⟩), .int .i64 3] rfl ga ?_; (with_reducible refine (spec_l1Once.calls g664 t661 t671 t672 3 true t675 t676 w _ ?side1 ?side2 A4.out).mono ?_); (case side1 => exact IsS135.q3 HI664.out NB664_659.out NB664_660.out NB664_673.out); (case side2 => exact bq4 HB.out (IsS135.ge HI664.out) GE659.out GE660.out GE673.out); rintro e w17 ⟨rfl, hi, hb, hk⟩; refine ⟨_, rfl, ?_⟩; have n_ := ak6 (KeepBut.blk hk (zb BK659.out) NB659_664.out (by simp)) (KeepBut.blk hk (zb BK660.out) NB660_664.out (by simp)) (Kd.R_mono (Kd.R_keep (IsS135.apart (show IsS135 w _ g664 t661 t671 t672 from IsS135.q3 HI664.out NB664_659.out NB664_660.out NB664_673.out) (kqR HO670.out) (by decide)) hk (fun _ h => h.2)) (fun _ h => h.1)) (KeepBut.blk hk (zb BK673.out) NB673_664.out (by simp)) hb hi; clear BK659 BK660 HO670 BK673 HB HI664; obtain ⟨BK659, BK660, HO670, BK673, HB, HI664⟩ := n_; (try clear hb hk hi)))
   have n_ := ak6 (Kd.R_drew HO670.out) (blk_drew BK659.out) (blk_drew BK660.out) (blk_drew BK673.out) (IsS135.drew HI664.out) (below_drew1 HB.out)
   clear HO670 BK659 BK660 BK673 HI664 HB
   obtain ⟨HO670, BK659, BK660, BK673, HI664, HB⟩ := n_
   refine start_ (n := 4) (S := fun w' => w'.cell? ⟨gb673, 0, none⟩ = some (.int .i64 t665) ∧ w'.cell? ⟨gb673, 1, none⟩ = some (.int .i64 t666) ∧ w'.cell? ⟨gb673, 2, none⟩ = some (.string t667) ∧ w'.cell? ⟨gb673, 3, none⟩ = some (.slice Ao15 t668.length co15)) (ds := []) #[false, false, false, false] (by kernel_rfl) rfl rfl ⟨(blk_cell BK673.out 0).trans rfl, (blk_cell BK673.out 1).trans rfl, (blk_cell BK673.out 2).trans rfl, (blk_cell BK673.out 3).trans rfl⟩ (fun hHeld => ?_)
   generalize w17.drew = w18 at HO670 BK659 BK660 BK673 HI664 HB hHeld ⊢
   refine tk 0 (some 12) #[true, false, false, false] rfl rfl (by kernel_rfl) hHeld (Or.inl ⟨by rfl, by rintro w' ⟨s0, s1, s2, s3⟩; go_simp; with_reducible rfl⟩) ?_
   refine tk 1 (some 13) #[true, true, false, false] rfl rfl (by kernel_rfl) hHeld (Or.inl ⟨by rfl, by rintro w' ⟨s0, s1, s2, s3⟩; go_simp; with_reducible rfl⟩) ?_
   refine one_ (i := 2) (N := none) #[true, true, true, false] rfl rfl (by kernel_rfl) (by decide) (fun K hK => ?_)
   have hs19 : w18.cell? ⟨gb659, 0, none⟩ = some (.int .i64 0) := (blk_cell BK659.out 0).trans rfl
   have hfs19 := blk_frozen BK659.out 0
   have hns19_1 := NB660_659.out
   have hns19_2 := NB673_659.out
   have hms19_1 := NB659_660.out
   have hms19_2 := NB659_673.out
   have hs20 : w18.cell? ⟨gb659, 1, none⟩ = some (.int .i64 0) := (blk_cell BK659.out 1).trans rfl
   have hfs20 := blk_frozen BK659.out 1
   have hns20_1 := NB660_659.out
   have hns20_2 := NB673_659.out
   have hms20_1 := NB659_660.out
   have hms20_2 := NB659_673.out
   have hs21 : w18.cell? ⟨gb659, 2, none⟩ = some (.string (⟨#[]⟩ : ByteArray)) := (blk_cell BK659.out 2).trans rfl
   have hfs21 := blk_frozen BK659.out 2
   have hns21_1 := NB660_659.out
   have hns21_2 := NB673_659.out
   have hms21_1 := NB659_660.out
   have hms21_2 := NB659_673.out
   have hs22 : w18.cell? ⟨gb659, 3, none⟩ = some (.slice none 0 0) := (blk_cell BK659.out 3).trans rfl
   have hfs22 := blk_frozen BK659.out 3
   have hns22_1 := NB660_659.out
   have hns22_2 := NB673_659.out
   have hms22_1 := NB659_660.out
   have hms22_2 := NB659_673.out
   refine skip_ (w1 := ?_) (by rfl) rfl ?_ ?_
   rotate_left
   · go_simp
     rfl
   refine hK.out _ _ ⟨((cell_far (p := ⟨gb659, _, none⟩) NB673_659.out _).trans (((cell_far (p := ⟨gb659, _, none⟩) NB673_659.out _).trans (((cell_far (p := ⟨gb659, _, none⟩) NB673_659.out _).trans (((cell_far (p := ⟨gb659, _, none⟩) NB673_659.out _).trans (hHeld.1)))))))), ((cell_far (p := ⟨gb659, _, none⟩) NB673_659.out _).trans (((cell_far (p := ⟨gb659, _, none⟩) NB673_659.out _).trans (((cell_far (p := ⟨gb659, _, none⟩) NB673_659.out _).trans (((cell_far (p := ⟨gb659, _, none⟩) NB673_659.out _).trans (hHeld.2.1)))))))), ((cell_far (p := ⟨gb659, _, none⟩) NB673_659.out _).trans (((cell_far (p := ⟨gb659, _, none⟩) NB673_659.out _).trans (((cell_far (p := ⟨gb659, _, none⟩) NB673_659.out _).trans (((cell_far (p := ⟨gb659, _, none⟩) NB673_659.out _).trans (hHeld.2.2.1)))))))), ((cell_far (p := ⟨gb659, _, none⟩) NB673_659.out _).trans (((cell_far (p := ⟨gb659, _, none⟩) NB673_659.out _).trans (((cell_far (p := ⟨gb659, _, none⟩) NB673_659.out _).trans (((cell_far (p := ⟨gb659, _, none⟩) NB673_659.out _).trans (hHeld.2.2.2))))))))⟩ (fun hHeld => ?_)
   clear hK K
   refine one_ (i := 3) (N := none) #[true, true, true, true] rfl rfl (by kernel_rfl) (by decide) (fun K hK => ?_)
   have hs23 : w18.cell? ⟨gb660, 0, none⟩ = some (.int .i64 0) := (blk_cell BK660.out 0).trans rfl
   have hfs23 := blk_frozen BK660.out 0
   have hns23_0 := NB659_660.out
   have hns23_2 := NB673_660.out
   have hms23_0 := NB660_659.out
   have hms23_2 := NB660_673.out
   have hs24 : w18.cell? ⟨gb660, 1, none⟩ = some (.int .i64 0) := (blk_cell BK660.out 1).trans rfl
   have hfs24 := blk_frozen BK660.out 1
   have hns24_0 := NB659_660.out
   have hns24_2 := NB673_660.out
   have hms24_0 := NB660_659.out
   have hms24_2 := NB660_673.out
   have hs25 : w18.cell? ⟨gb660, 2, none⟩ = some (.string (⟨#[]⟩ : ByteArray)) := (blk_cell BK660.out 2).trans rfl
   have hfs25 := blk_frozen BK660.out 2
   have hns25_0 := NB659_660.out
   have hns25_2 := NB673_660.out
   have hms25_0 := NB660_659.out
   have hms25_2 := NB660_673.out
   have hs26 : w18.cell? ⟨gb660, 3, none⟩ = some (.slice none 0 0) := (blk_cell BK660.out 3).trans rfl
   have hfs26 := blk_frozen BK660.out 3
   have hns26_0 := NB659_660.out
   have hns26_2 := NB673_660.out
   have hms26_0 := NB660_659.out
   have hms26_2 := NB660_673.out
   refine skip_ (w1 := ?_) (by rfl) rfl ?_ ?_
   rotate_left
   · go_simp
     rfl
   refine hK.out _ _ ⟨((cell_far (p := ⟨gb660, _, none⟩) NB673_660.out _).trans (((cell_far (p := ⟨gb660, _, none⟩) NB673_660.out _).trans (((cell_far (p := ⟨gb660, _, none⟩) NB673_660.out _).trans (((cell_far (p := ⟨gb660, _, none⟩) NB673_660.out _).trans (hHeld.1)))))))), ((cell_far (p := ⟨gb660, _, none⟩) NB673_660.out _).trans (((cell_far (p := ⟨gb660, _, none⟩) NB673_660.out _).trans (((cell_far (p := ⟨gb660, _, none⟩) NB673_660.out _).trans (((cell_far (p := ⟨gb660, _, none⟩) NB673_660.out _).trans (hHeld.2.1)))))))), ((cell_far (p := ⟨gb660, _, none⟩) NB673_660.out _).trans (((cell_far (p := ⟨gb660, _, none⟩) NB673_660.out _).trans (((cell_far (p := ⟨gb660, _, none⟩) NB673_660.out _).trans (((cell_far (p := ⟨gb660, _, none⟩) NB673_660.out _).trans (hHeld.2.2.1)))))))), ((cell_far (p := ⟨gb660, _, none⟩) NB673_660.out _).trans (((cell_far (p := ⟨gb660, _, none⟩) NB673_660.out _).trans (((cell_far (p := ⟨gb660, _, none⟩) NB673_660.out _).trans (((cell_far (p := ⟨gb660, _, none⟩) NB673_660.out _).trans (hHeld.2.2.2))))))))⟩ (fun hHeld => ?_)
   clear hK K
   refine done_ (by kernel_rfl) ?_
   try go_wp2
   refine bodyPost_ret (results_cc rfl _ _ gb659 gb660 29 29 #[.int .i64 t665, .int .i64 t666, .string t667, .slice Ao15 t668.length co15] #[.int .i64 t665, .int .i64 t666, .string t667, .slice Ao15 t668.length co15] (0, 0) (0, 0) _ _ rfl (by refine zr ?_; refine blk_far ?_ NB659_660.out _; refine zr ?_; refine blk_far ?_ NB659_660.out _; refine zr ?_; refine blk_far ?_ NB659_660.out _; refine zr ?_; refine blk_far ?_ NB659_660.out _; refine zr ?_; exact bp4 (zb BK659.out)) Try.underlying29 rfl (by kernel_rfl) rfl (by refine zr ?_; refine blk_put (cs := #[.int .i64 t665, .int .i64 t666, .string t667, .slice none 0 0]) ?_ 3 _ rfl; refine zr ?_; refine blk_put (cs := #[.int .i64 t665, .int .i64 t666, .string (⟨#[]⟩ : ByteArray), .slice none 0 0]) ?_ 2 _ rfl; refine zr ?_; refine blk_put (cs := #[.int .i64 t665, .int .i64 0, .string (⟨#[]⟩ : ByteArray), .slice none 0 0]) ?_ 1 _ rfl; refine zr ?_; refine blk_put (cs := #[.int .i64 0, .int .i64 0, .string (⟨#[]⟩ : ByteArray), .slice none 0 0]) ?_ 0 _ rfl; refine zr ?_; refine blk_far ?_ NB660_659.out _; refine zr ?_; refine blk_far ?_ NB660_659.out _; refine zr ?_; refine blk_far ?_ NB660_659.out _; refine zr ?_; refine blk_far ?_ NB660_659.out _; refine zr ?_; exact BK660.out) Try.underlying29 rfl (by kernel_rfl)) rfl ?_
   exact ⟨_, _, rq, Kd.R_V (by refine kr ?_; exact Kd.R_mono (rf4 gb660 (.int .i64 t665) (.int .i64 t666) (.string t667) (.slice Ao15 t668.length co15) (Kd.R_far (p := ⟨gb659, 3, none⟩) (Kd.R_far (p := ⟨gb659, 2, none⟩) (Kd.R_far (p := ⟨gb659, 1, none⟩) (Kd.R_far (p := ⟨gb659, 0, none⟩) (Kd.R_types (Kd.R_types HO670.out BK659.out (by decide)) BK660.out (by decide)) (fun _ hk => hk.1.2) (.int .i64 t665)) (fun _ hk => hk.1.2) (.int .i64 t666)) (fun _ hk => hk.1.2) (.string t667)) (fun _ hk => hk.1.2) (.slice Ao15 t668.length co15)) (fun _ hk => hk.2)) (fun _ hk => hk.1.1)), Kd.R_V (by refine kr ?_; exact Kd.R_mono (rf4 gb660 (.int .i64 t665) (.int .i64 t666) (.string t667) (.slice Ao15 t668.length co15) (Kd.R_far (p := ⟨gb659, 3, none⟩) (Kd.R_far (p := ⟨gb659, 2, none⟩) (Kd.R_far (p := ⟨gb659, 1, none⟩) (Kd.R_far (p := ⟨gb659, 0, none⟩) (Kd.R_types (Kd.R_types HO670.out BK659.out (by decide)) BK660.out (by decide)) (fun _ hk => hk.1.2) (.int .i64 t665)) (fun _ hk => hk.1.2) (.int .i64 t666)) (fun _ hk => hk.1.2) (.string t667)) (fun _ hk => hk.1.2) (.slice Ao15 t668.length co15)) (fun _ hk => hk.2)) (fun _ hk => hk.1.1)), bq4 HB.out (IsS135.ge HI664.out) GE659.out GE660.out GE673.out⟩
 replace c5 := Bool.eq_false_iff.mpr c5
 subst c5
 replace H : ((spec_l3Any.f k t661 t675 t676).bind fun bt677 => (some (t665, t666, t667, t668, bt677.1, bt677.2.1, bt677.2.2.1, bt677.2.2.2.1))) = some (r1, r2, r3, r4, r5, r6, r7, r8) := by rw [if_neg (show ¬ (false = true) by decide)] at H; exact H
 replace H := Option.bind_eq_some_iff.mp H
 obtain ⟨⟨t677, t678, t679, t680, t683, t684⟩, A270, H⟩ := H
 replace H : (some (t665, t666, t667, t668, t677, t678, t679, t680)) = some (r1, r2, r3, r4, r5, r6, r7, r8) := H
 have A27 := am A270
 clear A270
 simp only [Option.some.injEq, Prod.mk.injEq] at H
 obtain ⟨rfl, rfl, rfl, rfl, rfl, rfl, rfl, rfl⟩ := H
 go_enter Try.func48, Try.ntmps48
 try go_wp2_with (first | ((with_reducible refine gate_dst (N := 2) rfl ?_); refine bxe 2 #[.int .i64 0, .int .i64 0, .string (⟨#[]⟩ : ByteArray), .slice none 0 0] 29 ?_; intro gb659 hg w28 hbox hb; have n_ := ak4 (below_step (bq HB.out) hb) hbox ((by rw [hg]; exact (below_size (bq HB.out)) : w.heap.size ≤ gb659)) ((by rw [hg]; exact (below_size (bq HB.out)) : w.heap.size ≤ gb659)); clear HB; obtain ⟨HB, BK659, GW659, GE659⟩ := n_; clear hb hbox hg) | ((with_reducible refine gate_dst (N := 3) rfl ?_); refine bxe 3 #[.int .i64 0, .int .i64 0, .string (⟨#[]⟩ : ByteArray), .slice none 0 0] 29 ?_; intro gb660 hg w29 hbox hb; have n_ := ak7 (blk_below (zb BK659.out) hb) (below_step (bq1 HB.out GE659.out) hb) hbox ((by rw [hg]; exact (below_size (bq1 HB.out GE659.out)) : w.heap.size ≤ gb660)) ((by rw [hg]; exact (below_size (bq1 HB.out GE659.out)) : w.heap.size ≤ gb660)) ((nlt hg (zb BK659.out) : gb659 ≠ gb660)) ((ngt hg (zb BK659.out) : gb660 ≠ gb659)); clear BK659 HB; obtain ⟨BK659, HB, BK660, GW660, GE660, NB659_660, NB660_659⟩ := n_; clear hb hbox hg) | ((with_reducible refine gate_callee (f := 74) rfl ?_); refine goesL_ (some 7) rfl rfl Try.func74 (by kernel_rfl) rfl #[.slice A0 l0.length c0] rfl ga ?_; (with_reducible refine (spec_l1New.calls k _ _ l0 t661 t662 t663 w _ ?side1 ?side2 ?side3 A2.out).mono ?_); (case side1 => exact bq2 HB.out GE659.out GE660.out); (case side2 => exact HR0.out); (case side3 => exact HC0.out); rintro e w30 ⟨g664, rfl, hi, hb, hb2⟩; refine ⟨_, rfl, ?_⟩; have n_ := ak8 (blk_below (zb BK659.out) hb2) (blk_below (zb BK660.out) hb2) hb hi (IsS135.ne_blk hi (blk_below (zb BK659.out) hb2) (by decide)) (Ne.symm (IsS135.ne_blk hi (blk_below (zb BK659.out) hb2) (by decide))) (IsS135.ne_blk hi (blk_below (zb BK660.out) hb2) (by decide)) (Ne.symm (IsS135.ne_blk hi (blk_below (zb BK660.out) hb2) (by decide))); clear BK659 BK660 HB; obtain ⟨BK659, BK660, HB, HI664, NB664_659, NB659_664, NB664_660, NB660_664⟩ := n_; (try clear hb hb2 hi)) | ((with_reducible refine gate_callee (f := 104) rfl ?_); refine goesL_ (some 9) rfl rfl Try.func104 (by kernel_rfl) rfl #[.pointer (some ⟨g664, 0, none⟩)] rfl ga ?_; (with_reducible refine (spec_l3Any.calls k g664 t661 t662 t663 t665 t666 t667 t668 t671 t672 w _ ?side1 ?side2 A3.out).mono ?_); (case side1 => exact IsS135.q2 HI664.out NB664_659.out NB664_660.out); (case side2 => exact bq3 HB.out (IsS135.ge HI664.out) GE659.out GE660.out); rintro e w31 ⟨v669, rfl, ho0, hi, hb, hk⟩; refine ⟨_, rfl, ?_⟩; have n_ := ak5 (KeepBut.blk hk (zb BK659.out) NB659_664.out (by simp)) (KeepBut.blk hk (zb BK660.out) NB660_664.out (by simp)) (Kd.R_lower (Kd.R_newM (M := fun k_ => (w.heap.size ≤ k_)) ho0 (below_size (bq3 HB.out (IsS135.ge HI664.out) GE659.out GE660.out)) (fun k_ h_ => h_)) (below_size (bq3 HB.out (IsS135.ge HI664.out) GE659.out GE660.out))) hb hi; clear BK659 BK660 HB HI664; obtain ⟨BK659, BK660, HO670, HB, HI664⟩ := n_; (try clear hb hk hi ho0)) | ((with_reducible refine gate_dst (N := 5) rfl ?_); refine bxe 5 #[.int .i64 0, .int .i64 0, .string (⟨#[]⟩ : ByteArray), .slice none 0 0] 29 ?_; intro gb673 hg w32 hbox hb; have n_ := ak14 (Kd.R_below (kqR HO670.out) hb) (blk_below (zb BK659.out) hb) (blk_below (zb BK660.out) hb) (IsS135.below (IsS135.q2 HI664.out NB664_659.out NB664_660.out) hb) (below_step (bq3 HB.out (IsS135.ge HI664.out) GE659.out GE660.out) hb) hbox ((by rw [hg]; exact (below_size (bq3 HB.out (IsS135.ge HI664.out) GE659.out GE660.out)) : w.heap.size ≤ gb673)) ((by rw [hg]; exact (below_size (bq3 HB.out (IsS135.ge HI664.out) GE659.out GE660.out)) : w.heap.size ≤ gb673)) ((nlt hg (zb BK659.out) : gb659 ≠ gb673)) ((ngt hg (zb BK659.out) : gb673 ≠ gb659)) ((nlt hg (zb BK660.out) : gb660 ≠ gb673)) ((ngt hg (zb BK660.out) : gb673 ≠ gb660)) ((by rw [hg]; exact Nat.ne_of_lt (IsS135.lt (show IsS135 w _ g664 t661 t671 t672 from IsS135.q2 HI664.out NB664_659.out NB664_660.out)) : g664 ≠ gb673)) ((by rw [hg]; exact Nat.ne_of_gt (IsS135.lt (show IsS135 w _ g664 t661 t671 t672 from IsS135.q2 HI664.out NB664_659.out NB664_660.out)) : gb673 ≠ g664)); clear HO670 BK659 BK660 HI664 HB; obtain ⟨HO670, BK659, BK660, HI664, HB, BK673, GW673, GE673, NB659_673, NB673_659, NB660_673, NB673_660, NB664_673, NB673_664⟩ := n_; clear hb hbox hg; have hnb33 := NB673_659.out; have hnc33 := NB659_673.out; have hnb34 := NB673_660.out; have hnc34 := NB660_673.out; have hnb35 := NB673_664.out; have hnc35 := NB664_673.out; obtain ⟨hcz36_0, hcz36_1, hcz36_2, hcz36_3, hfz36_0, hfz36_1, hfz36_2, hfz36_3⟩ := cl4 BK673.out; obtain ⟨Ao37, co37, eo37⟩ := Kd.R_slice HO670.out; subst eo37) | ((with_reducible refine gate_store (t := 29) (p := 5) rfl ?_); refine store_event (t := 29) (p := 5) (v := ?vo_w38) (w1 := ((((w32.setCell ⟨gb673, 0, none⟩ (.int .i64 t665)).setCell ⟨gb673, 1, none⟩ (.int .i64 t666)).setCell ⟨gb673, 2, none⟩ (.string t667)).setCell ⟨gb673, 3, none⟩ (.slice Ao37 t668.length co37))) ?hg ?ho ?hn ?hr ?_; (case ho => rfl); (case hg => rfl); (case hn => rfl); (case hr => exact gs); intro w38 hw; have n_ : Aside0 (Kd.R (Kd.int .i64) 3 w38 w.heap.size (fun k_ => (w.heap.size ≤ k_)) (.slice Ao37 t668.length co37) t668) ∧ Aside0 (w38.heap[gb659]? = some (.cells #[.int .i64 0, .int .i64 0, .string (⟨#[]⟩ : ByteArray), .slice none 0 0] 29 (0, 0))) ∧ Aside0 (w38.heap[gb660]? = some (.cells #[.int .i64 0, .int .i64 0, .string (⟨#[]⟩ : ByteArray), .slice none 0 0] 29 (0, 0))) ∧ Aside0 (w38.heap[gb673]? = some (.cells #[.int .i64 t665, .int .i64 t666, .string t667, .slice Ao37 t668.length co37] 29 (0, 0))) ∧ Aside0 (IsS135 w w38 g664 t661 t671 t672) ∧ Aside0 (Below w.heap.size w w38) := ⟨⟨(by rw [hw]; exact (by refine kr ?_; exact Kd.R_mono (rf4 gb673 (.int .i64 t665) (.int .i64 t666) (.string t667) (.slice Ao37 t668.length co37) (Kd.R_types HO670.out BK673.out (by decide)) (fun _ hk => hk.2)) (fun _ hk => hk.1.1)))⟩, ⟨(by rw [hw]; exact (by refine zr ?_; refine blk_far ?_ NB659_673.out _; refine zr ?_; refine blk_far ?_ NB659_673.out _; refine zr ?_; refine blk_far ?_ NB659_673.out _; refine zr ?_; refine blk_far ?_ NB659_673.out _; refine zr ?_; exact BK659.out))⟩, ⟨(by rw [hw]; exact (by refine zr ?_; refine blk_far ?_ NB660_673.out _; refine zr ?_; refine blk_far ?_ NB660_673.out _; refine zr ?_; refine blk_far ?_ NB660_673.out _; refine zr ?_; refine blk_far ?_ NB660_673.out _; refine zr ?_; exact BK660.out))⟩, ⟨(by rw [hw]; exact (by refine zr ?_; exact bp4 (zb BK673.out)))⟩, ⟨(by rw [hw]; exact (IsS135.q3 HI664.out NB664_659.out NB664_660.out NB664_673.out))⟩, ⟨(by rw [hw]; exact (bq4 HB.out (IsS135.ge HI664.out) GE659.out GE660.out GE673.out))⟩⟩; clear hw HO670 BK659 BK660 BK673 HI664 HB; obtain ⟨HO670, BK659, BK660, BK673, HI664, HB⟩ := n_) | ((with_reducible refine gate_callee (f := 111) rfl ?_); refine goesL_ (some 11) rfl rfl Try.func111 (by kernel_rfl) rfl #[.pointer (some ⟨g664, 0, none⟩), .int .i64 3] rfl ga ?_; (with_reducible refine (spec_l1Once.calls g664 t661 t671 t672 3 false t675 t676 w _ ?side1 ?side2 A4.out).mono ?_); (case side1 => exact IsS135.q3 HI664.out NB664_659.out NB664_660.out NB664_673.out); (case side2 => exact bq4 HB.out (IsS135.ge HI664.out) GE659.out GE660.out GE673.out); rintro e w39 ⟨rfl, hi, hb, hk⟩; refine ⟨_, rfl, ?_⟩; have n_ := ak6 (KeepBut.blk hk (zb BK659.out) NB659_664.out (by simp)) (KeepBut.blk hk (zb BK660.out) NB660_664.out (by simp)) (Kd.R_mono (Kd.R_keep (IsS135.apart (show IsS135 w _ g664 t661 t671 t672 from IsS135.q3 HI664.out NB664_659.out NB664_660.out NB664_673.out) (kqR HO670.out) (by decide)) hk (fun _ h => h.2)) (fun _ h => h.1)) (KeepBut.blk hk (zb BK673.out) NB673_664.out (by simp)) hb hi; clear BK659 BK660 HO670 BK673 HB HI664; obtain ⟨BK659, BK660, HO670, BK673, HB, HI664⟩ := n_; (try clear hb hk hi)))
 have n_ := ak6 (Kd.R_drew HO670.out) (blk_drew BK659.out) (blk_drew BK660.out) (blk_drew BK673.out) (IsS135.drew HI664.out) (below_drew1 HB.out)
 clear HO670 BK659 BK660 BK673 HI664 HB
 obtain ⟨HO670, BK659, BK660, BK673, HI664, HB⟩ := n_
 refine start_ (n := 5) (S := fun w' => w'.cell? ⟨gb673, 0, none⟩ = some (.int .i64 t665) ∧ w'.cell? ⟨gb673, 1, none⟩ = some (.int .i64 t666) ∧ w'.cell? ⟨gb673, 2, none⟩ = some (.string t667) ∧ w'.cell? ⟨gb673, 3, none⟩ = some (.slice Ao37 t668.length co37)) (ds := []) #[false, false, false, false, false] (by kernel_rfl) rfl rfl ⟨(blk_cell BK673.out 0).trans rfl, (blk_cell BK673.out 1).trans rfl, (blk_cell BK673.out 2).trans rfl, (blk_cell BK673.out 3).trans rfl⟩ (fun hHeld => ?_)
 generalize w39.drew = w40 at HO670 BK659 BK660 BK673 HI664 HB hHeld ⊢
 refine pu 1 (some 15) #[false, true, false, false, false] rfl rfl (by kernel_rfl) (Or.inl ⟨by rfl, by intro w'; go_simp; with_reducible rfl⟩) ?_
 refine tk 0 (some 14) #[true, true, false, false, false] rfl rfl (by kernel_rfl) hHeld (Or.inl ⟨by rfl, by rintro w' ⟨s0, s1, s2, s3⟩; go_simp; with_reducible rfl⟩) ?_
 refine one_ (i := 2) (N := some 16) #[true, true, true, false, false] rfl rfl (by kernel_rfl) (by decide) (fun K hK => ?_)
 refine goes_ Try.func104 (by kernel_rfl) rfl #[.pointer (some ⟨g664, 0, none⟩)] (by rfl) rfl rfl ga ?_
 with_reducible refine (spec_l3Any.calls k g664 t661 t675 t676 t677 t678 t679 t680 t683 t684 w _ ?side1 ?side2 A27.out).mono ?_
 (case side1 => exact IsS135.q3 HI664.out NB664_659.out NB664_660.out NB664_673.out)
 (case side2 => exact bq4 HB.out (IsS135.ge HI664.out) GE659.out GE660.out GE673.out)
 rintro e w41 ⟨v681, rfl, ho0, hi, hb, hk⟩
 refine ⟨_, rfl, ?_⟩
 have n_ := ak7 (KeepBut.blk hk (zb BK659.out) NB659_664.out (by simp)) (KeepBut.blk hk (zb BK660.out) NB660_664.out (by simp)) (Kd.R_mono (Kd.R_told (Kd.R_oldK (IsS135.apart (show IsS135 w _ g664 t661 t675 t676 from IsS135.q3 HI664.out NB664_659.out NB664_660.out NB664_673.out) (kqR HO670.out) (by decide)) hk) (Kd.R_base ho0)) (fun _ h_ => h_.1)) (KeepBut.blk hk (zb BK673.out) NB673_664.out (by simp)) (Kd.R_lower (Kd.R_new' (Kd.R_newM (M := fun k_ => (w.heap.size ≤ k_)) ho0 (below_size (bq4 HB.out (IsS135.ge HI664.out) GE659.out GE660.out GE673.out)) (fun k_ h_ => h_)) (Kd.R_lt (kqR HO670.out))) (below_size (bq4 HB.out (IsS135.ge HI664.out) GE659.out GE660.out GE673.out))) hb hi
 clear BK659 BK660 HO670 BK673 HB HI664
 obtain ⟨BK659, BK660, HO670, BK673, HO682, HB, HI664⟩ := n_
 (try clear hb hk hi ho0)
 obtain ⟨Ao49, co49, eo49⟩ := Kd.R_slice HO682.out
 (first | subst eo49 | (injection eo49 with f1_ f2_ f3_; have f4_ := f1_.symm; have f5_ := f3_.symm; clear f1_ f2_ f3_; subst f4_; subst f5_))
 refine hK.out _ _ ⟨(blk_cell BK673.out 0).trans rfl, (blk_cell BK673.out 1).trans rfl, (blk_cell BK673.out 2).trans rfl, (blk_cell BK673.out 3).trans rfl⟩ (fun hHeld => ?_)
 clear hK K
 refine norm_ (a' := ?_) ?_ ?_
 rotate_left
 · show Act.put _ (some 16) _ = _
   simp only [Act.put, List.setIfInBounds_toArray, List.set_cons_zero, List.set_cons_succ, i64_w, i32_w]
   rfl
 refine one_ (i := 3) (N := none) #[true, true, true, true, false] rfl rfl (by kernel_rfl) (by decide) (fun K hK => ?_)
 have hs42 : w41.cell? ⟨gb659, 0, none⟩ = some (.int .i64 0) := (blk_cell BK659.out 0).trans rfl
 have hfs42 := blk_frozen BK659.out 0
 have hns42_1 := NB660_659.out
 have hns42_2 := NB673_659.out
 have hms42_1 := NB659_660.out
 have hms42_2 := NB659_673.out
 have hs43 : w41.cell? ⟨gb659, 1, none⟩ = some (.int .i64 0) := (blk_cell BK659.out 1).trans rfl
 have hfs43 := blk_frozen BK659.out 1
 have hns43_1 := NB660_659.out
 have hns43_2 := NB673_659.out
 have hms43_1 := NB659_660.out
 have hms43_2 := NB659_673.out
 have hs44 : w41.cell? ⟨gb659, 2, none⟩ = some (.string (⟨#[]⟩ : ByteArray)) := (blk_cell BK659.out 2).trans rfl
 have hfs44 := blk_frozen BK659.out 2
 have hns44_1 := NB660_659.out
 have hns44_2 := NB673_659.out
 have hms44_1 := NB659_660.out
 have hms44_2 := NB659_673.out
 have hs45 : w41.cell? ⟨gb659, 3, none⟩ = some (.slice none 0 0) := (blk_cell BK659.out 3).trans rfl
 have hfs45 := blk_frozen BK659.out 3
 have hns45_1 := NB660_659.out
 have hns45_2 := NB673_659.out
 have hms45_1 := NB659_660.out
 have hms45_2 := NB659_673.out
 refine skip_ (w1 := ?_) (by rfl) rfl ?_ ?_
 rotate_left
 · go_simp
   rfl
 refine hK.out _ _ ⟨((cell_far (p := ⟨gb659, _, none⟩) NB673_659.out _).trans (((cell_far (p := ⟨gb659, _, none⟩) NB673_659.out _).trans (((cell_far (p := ⟨gb659, _, none⟩) NB673_659.out _).trans (((cell_far (p := ⟨gb659, _, none⟩) NB673_659.out _).trans (hHeld.1)))))))), ((cell_far (p := ⟨gb659, _, none⟩) NB673_659.out _).trans (((cell_far (p := ⟨gb659, _, none⟩) NB673_659.out _).trans (((cell_far (p := ⟨gb659, _, none⟩) NB673_659.out _).trans (((cell_far (p := ⟨gb659, _, none⟩) NB673_659.out _).trans (hHeld.2.1)))))))), ((cell_far (p := ⟨gb659, _, none⟩) NB673_659.out _).trans (((cell_far (p := ⟨gb659, _, none⟩) NB673_659.out _).trans (((cell_far (p := ⟨gb659, _, none⟩) NB673_659.out _).trans (((cell_far (p := ⟨gb659, _, none⟩) NB673_659.out _).trans (hHeld.2.2.1)))))))), ((cell_far (p := ⟨gb659, _, none⟩) NB673_659.out _).trans (((cell_far (p := ⟨gb659, _, none⟩) NB673_659.out _).trans (((cell_far (p := ⟨gb659, _, none⟩) NB673_659.out _).trans (((cell_far (p := ⟨gb659, _, none⟩) NB673_659.out _).trans (hHeld.2.2.2))))))))⟩ (fun hHeld => ?_)
 clear hK K
 refine one_ (i := 4) (N := none) #[true, true, true, true, true] rfl rfl (by kernel_rfl) (by decide) (fun K hK => ?_)
 have hs46 : w41.cell? ⟨gb660, 0, none⟩ = some (.int .i64 0) := (blk_cell BK660.out 0).trans rfl
 have hfs46 := blk_frozen BK660.out 0
 have hns46_0 := NB659_660.out
 have hns46_2 := NB673_660.out
 have hms46_0 := NB660_659.out
 have hms46_2 := NB660_673.out
 have hs47 : w41.cell? ⟨gb660, 1, none⟩ = some (.int .i64 0) := (blk_cell BK660.out 1).trans rfl
 have hfs47 := blk_frozen BK660.out 1
 have hns47_0 := NB659_660.out
 have hns47_2 := NB673_660.out
 have hms47_0 := NB660_659.out
 have hms47_2 := NB660_673.out
 have hs48 : w41.cell? ⟨gb660, 2, none⟩ = some (.string (⟨#[]⟩ : ByteArray)) := (blk_cell BK660.out 2).trans rfl
 have hfs48 := blk_frozen BK660.out 2
 have hns48_0 := NB659_660.out
 have hns48_2 := NB673_660.out
 have hms48_0 := NB660_659.out
 have hms48_2 := NB660_673.out
 have hs50 : w41.cell? ⟨gb660, 3, none⟩ = some (.slice none 0 0) := (blk_cell BK660.out 3).trans rfl
 have hfs50 := blk_frozen BK660.out 3
 have hns50_0 := NB659_660.out
 have hns50_2 := NB673_660.out
 have hms50_0 := NB660_659.out
 have hms50_2 := NB660_673.out
 refine skip_ (w1 := ?_) (by rfl) rfl ?_ ?_
 rotate_left
 · go_simp
   rfl
 refine hK.out _ _ ⟨((cell_far (p := ⟨gb660, _, none⟩) NB673_660.out _).trans (((cell_far (p := ⟨gb660, _, none⟩) NB673_660.out _).trans (((cell_far (p := ⟨gb660, _, none⟩) NB673_660.out _).trans (((cell_far (p := ⟨gb660, _, none⟩) NB673_660.out _).trans (hHeld.1)))))))), ((cell_far (p := ⟨gb660, _, none⟩) NB673_660.out _).trans (((cell_far (p := ⟨gb660, _, none⟩) NB673_660.out _).trans (((cell_far (p := ⟨gb660, _, none⟩) NB673_660.out _).trans (((cell_far (p := ⟨gb660, _, none⟩) NB673_660.out _).trans (hHeld.2.1)))))))), ((cell_far (p := ⟨gb660, _, none⟩) NB673_660.out _).trans (((cell_far (p := ⟨gb660, _, none⟩) NB673_660.out _).trans (((cell_far (p := ⟨gb660, _, none⟩) NB673_660.out _).trans (((cell_far (p := ⟨gb660, _, none⟩) NB673_660.out _).trans (hHeld.2.2.1)))))))), ((cell_far (p := ⟨gb660, _, none⟩) NB673_660.out _).trans (((cell_far (p := ⟨gb660, _, none⟩) NB673_660.out _).trans (((cell_far (p := ⟨gb660, _, none⟩) NB673_660.out _).trans (((cell_far (p := ⟨gb660, _, none⟩) NB673_660.out _).trans (hHeld.2.2.2))))))))⟩ (fun hHeld => ?_)
 clear hK K
 refine done_ (by kernel_rfl) ?_
 try go_wp2
 refine bodyPost_ret (results_cc rfl _ _ gb659 gb660 29 29 #[.int .i64 t665, .int .i64 t666, .string t667, .slice Ao37 t668.length co37] #[.int .i64 t677, .int .i64 t678, .string t679, .slice Ao49 t680.length co49] (0, 0) (0, 0) _ _ rfl (by refine zr ?_; refine blk_far ?_ NB659_660.out _; refine zr ?_; refine blk_far ?_ NB659_660.out _; refine zr ?_; refine blk_far ?_ NB659_660.out _; refine zr ?_; refine blk_far ?_ NB659_660.out _; refine zr ?_; exact bp4 (zb BK659.out)) Try.underlying29 rfl (by kernel_rfl) rfl (by refine zr ?_; refine blk_put (cs := #[.int .i64 t677, .int .i64 t678, .string t679, .slice none 0 0]) ?_ 3 _ rfl; refine zr ?_; refine blk_put (cs := #[.int .i64 t677, .int .i64 t678, .string (⟨#[]⟩ : ByteArray), .slice none 0 0]) ?_ 2 _ rfl; refine zr ?_; refine blk_put (cs := #[.int .i64 t677, .int .i64 0, .string (⟨#[]⟩ : ByteArray), .slice none 0 0]) ?_ 1 _ rfl; refine zr ?_; refine blk_put (cs := #[.int .i64 0, .int .i64 0, .string (⟨#[]⟩ : ByteArray), .slice none 0 0]) ?_ 0 _ rfl; refine zr ?_; refine blk_far ?_ NB660_659.out _; refine zr ?_; refine blk_far ?_ NB660_659.out _; refine zr ?_; refine blk_far ?_ NB660_659.out _; refine zr ?_; refine blk_far ?_ NB660_659.out _; refine zr ?_; exact BK660.out) Try.underlying29 rfl (by kernel_rfl)) rfl ?_
 exact ⟨_, _, rq, Kd.R_V (by refine kr ?_; exact Kd.R_mono (rf4 gb660 (.int .i64 t677) (.int .i64 t678) (.string t679) (.slice Ao49 t680.length co49) (Kd.R_far (p := ⟨gb659, 3, none⟩) (Kd.R_far (p := ⟨gb659, 2, none⟩) (Kd.R_far (p := ⟨gb659, 1, none⟩) (Kd.R_far (p := ⟨gb659, 0, none⟩) (Kd.R_types (Kd.R_types HO670.out BK659.out (by decide)) BK660.out (by decide)) (fun _ hk => hk.1.2) (.int .i64 t665)) (fun _ hk => hk.1.2) (.int .i64 t666)) (fun _ hk => hk.1.2) (.string t667)) (fun _ hk => hk.1.2) (.slice Ao37 t668.length co37)) (fun _ hk => hk.2)) (fun _ hk => hk.1.1.1)), Kd.R_V (by refine kr ?_; exact Kd.R_mono (rf4 gb660 (.int .i64 t677) (.int .i64 t678) (.string t679) (.slice Ao49 t680.length co49) (Kd.R_far (p := ⟨gb659, 3, none⟩) (Kd.R_far (p := ⟨gb659, 2, none⟩) (Kd.R_far (p := ⟨gb659, 1, none⟩) (Kd.R_far (p := ⟨gb659, 0, none⟩) (Kd.R_types (Kd.R_types HO682.out BK659.out (by decide)) BK660.out (by decide)) (fun _ hk => hk.1.2) (.int .i64 t665)) (fun _ hk => hk.1.2) (.int .i64 t666)) (fun _ hk => hk.1.2) (.string t667)) (fun _ hk => hk.1.2) (.slice Ao37 t668.length co37)) (fun _ hk => hk.2)) (fun _ hk => hk.1.1.1.1)), bq4 HB.out (IsS135.ge HI664.out) GE659.out GE660.out GE673.out⟩
def spec_SameOid.l0 : Nat → List Int → List Int → Int → Option (Bool)
 | 0, _, _, _ => none
 | k + 1, x0, x1, x5 => if x5 < (x0.length : Int) then (if 0 ≤ x5 then (if x5 < (x1.length : Int) then (if (rd x0 x5) = (rd x1 x5) then (spec_SameOid.l0 k x0 x1 (wrap64 (x5 + 1))) else (some false)) else (none)) else (none)) else (some true)
def spec_SameOid.f (k : Nat) (l0 : List Int) (l1 : List Int) : Option (Bool) := if (l0.length : Int) = (l1.length : Int) then (spec_SameOid.l0 k l0 l1 0) else (some false)
theorem spec_SameOid.mono_l : ∀ k, (∀ y0 y1 y2, LeO (spec_SameOid.l0 k y0 y1 y2) (spec_SameOid.l0 (k + 1) y0 y1 y2))
 | 0 => fun _ _ _ r h => by simp [spec_SameOid.l0] at h
 | k + 1 => by
  have ih0 := spec_SameOid.mono_l k
  intro y0 y1 y2
  unfold spec_SameOid.l0
  repeat' first
  | (with_reducible exact ih0 _ _ _)
  | (with_reducible exact LeO.refl _)
  | (with_reducible exact LeO.none _)
  | (with_reducible refine LeO.ite ?_ ?_)
  | (with_reducible refine LeO.bind ?_ (fun _ => ?_))
  | exact ih0 _ _ _
  | exact LeO.none _
  | refine LeO.ite ?_ ?_
  | refine LeO.bind ?_ (fun _ => ?_)
theorem spec_SameOid.mono : ∀ a0 a1 k, LeO (spec_SameOid.f k a0 a1) (spec_SameOid.f (k + 1) a0 a1) := by
 intro a0 a1 k
 have ih0 := spec_SameOid.mono_l k
 unfold spec_SameOid.f
 repeat' first
  | (with_reducible exact ih0 _ _ _)
  | (with_reducible exact LeO.refl _)
  | (with_reducible exact LeO.none _)
  | (with_reducible refine LeO.ite ?_ ?_)
  | (with_reducible refine LeO.bind ?_ (fun _ => ?_))
  | exact ih0 _ _ _
  | exact LeO.none _
  | refine LeO.ite ?_ ?_
  | refine LeO.bind ?_ (fun _ => ?_)
theorem spec_SameOid.calls (k : Nat) (A0 : Option Addr) (c0 : Nat) (l0 : List Int) (A1 : Option Addr) (c1 : Nat) (l1 : List Int) (r : Bool) (w : World) (hr0 : Kd.C (Kd.int .i64) w A0 l0.length l0) (hc0 : l0.length ≤ c0) (hr1 : Kd.C (Kd.int .i64) w A1 l1.length l1) (hc1 : l1.length ≤ c1) (h : spec_SameOid.f k l0 l1 = some r) :
 Calls Try.prog 113 #[.slice A0 l0.length c0, .slice A1 l1.length c1] w fun e w' => e = .returned (.bool r) ∧ Drawn0 w w' := by
 have HR0 := am hr0
 have HC0 := am hc0
 clear hr0 hc0
 have HR1 := am hr1
 have HC1 := am hc1
 clear hr1 hc1
 have H : (if (l0.length : Int) = (l1.length : Int) then (spec_SameOid.l0 k l0 l1 0) else (some false)) = some r := h
 clear h
 by_cases c3 : (l0.length : Int) = (l1.length : Int)
 rotate_left
 · rw [if_neg c3] at H
   have c3b0 : ((l0.length : Int) == (l1.length : Int)) = false := beq_eq_false_iff_ne.mpr c3
   have c3b1 : ((l0.length : Int) != (l1.length : Int)) = true := bne_iff_ne.mpr c3
   have c3b2 : (l0.length == l1.length) = false := by first | simpa using c3 | (simp at c3 ⊢; omega)
   obtain rfl := Option.some.inj H
   go_enter Try.func113, Try.ntmps113
   go_wp2
   repeat (go_quiet (fail); try go_wp2)
   go_ret
   exact ⟨by first | rfl | (simp; done) | (simp [*]; done), by repeat (first | exact Drawn0.refl _ | apply Drawn0.step)⟩
 rw [if_pos c3] at H
 have c3b0 : ((l0.length : Int) == (l1.length : Int)) = true := beq_iff_eq.mpr c3
 have c3b1 : ((l0.length : Int) != (l1.length : Int)) = false := bne_eq_false_iff_eq.mpr c3
 have c3b2 : (l0.length == l1.length) = true := by first | simpa using c3 | (simp at c3 ⊢; omega)
 clear c3
 have H' := am H
 clear H
 go_enter Try.func113, Try.ntmps113
 go_wp2
 repeat (go_quiet (fail); try go_wp2)
 go_loopg [5] k (fun kq v5 w' => ∃ (x5_1 : Int), v5 = .int .i64 x5_1 ∧ Aside0 (spec_SameOid.l0 kq l0 l1 x5_1 = some r) ∧ Aside0 (kq ≤ k) ∧ Drawn0 w w')
 case atStart => exact ⟨(0), sq, H', ⟨Nat.le_refl _⟩, by repeat (first | exact Drawn0.refl _ | apply Drawn0.step)⟩
 case round =>
  clear H'
  try clear c1
  try clear p2
  try clear c3
  try clear c3b0
  try clear c3b1
  try clear c3b2
  obtain ⟨x5_1, rfl, HA, HK1, ⟨m1, rfl⟩⟩ := hrel
  cases gk with
  | zero => exact absurd HA.out (by simp [spec_SameOid.l0])
  | succ k1 =>
   have H := HA.out
   clear HA
   simp only [spec_SameOid.l0] at H
   by_cases c4 : x5_1 < (l0.length : Int)
   rotate_left
   · rw [if_neg c4] at H
     have c4b0 : decide (x5_1 < (l0.length : Int)) = false := decide_eq_false c4
     clear c4
     obtain rfl := Option.some.inj H
     go_wp2
     repeat (go_quiet (fail); try go_wp2)
     go_ret
     exact ⟨by first | rfl | (simp; done) | (simp [*]; done), by repeat (first | exact Drawn0.refl _ | apply Drawn0.step)⟩
   rw [if_pos c4] at H
   have c4b0 : decide (x5_1 < (l0.length : Int)) = true := decide_eq_true c4
   clear c4
   by_cases c5 : 0 ≤ x5_1
   rotate_left
   · rw [if_neg c5] at H
     exact absurd H (by simp)
   rw [if_pos c5] at H
   have c5b0 : decide (0 ≤ x5_1) = true := decide_eq_true c5
   clear c5
   by_cases c6 : x5_1 < (l1.length : Int)
   rotate_left
   · rw [if_neg c6] at H
     exact absurd H (by simp)
   rw [if_pos c6] at H
   have c6b0 : decide (x5_1 < (l1.length : Int)) = true := decide_eq_true c6
   clear c6
   by_cases c7 : (rd l0 x5_1) = (rd l1 x5_1)
   rotate_left
   · rw [if_neg c7] at H
     have c7b0 : ((rd l0 x5_1) == (rd l1 x5_1)) = false := beq_eq_false_iff_ne.mpr c7
     have c7b1 : ((rd l0 x5_1) != (rd l1 x5_1)) = true := bne_iff_ne.mpr c7
     obtain rfl := Option.some.inj H
     have p685 : 0 ≤ (x5_1 : Int) := oda
     have q685 : x5_1 < (l0.length : Int) := oda
     obtain ⟨ad685, e685, hx685_0⟩ := Kd.at_int HR0.out x5_1 p685 q685
     cases e685
     replace p685 := eq_true p685
     replace q685 := eq_true q685
     have p686 : 0 ≤ (x5_1 : Int) := oda
     have q686 : x5_1 < (l1.length : Int) := oda
     obtain ⟨ad686, e686, hx686_0⟩ := Kd.at_int HR1.out x5_1 p686 q686
     cases e686
     replace p686 := eq_true p686
     replace q686 := eq_true q686
     go_wp2
     repeat (go_quiet (fail); try go_wp2)
     go_ret
     exact ⟨by first | rfl | (simp; done) | (simp [*]; done), by repeat (first | exact Drawn0.refl _ | apply Drawn0.step)⟩
   rw [if_pos c7] at H
   have c7b0 : ((rd l0 x5_1) == (rd l1 x5_1)) = true := beq_iff_eq.mpr c7
   have c7b1 : ((rd l0 x5_1) != (rd l1 x5_1)) = false := bne_eq_false_iff_eq.mpr c7
   clear c7
   have H' := am H
   clear H
   have p685 : 0 ≤ (x5_1 : Int) := oda
   have q685 : x5_1 < (l0.length : Int) := oda
   obtain ⟨ad685, e685, hx685_0⟩ := Kd.at_int HR0.out x5_1 p685 q685
   cases e685
   replace p685 := eq_true p685
   replace q685 := eq_true q685
   have p686 : 0 ≤ (x5_1 : Int) := oda
   have q686 : x5_1 < (l1.length : Int) := oda
   obtain ⟨ad686, e686, hx686_0⟩ := Kd.at_int HR1.out x5_1 p686 q686
   cases e686
   replace p686 := eq_true p686
   replace q686 := eq_true q686
   go_wp2
   repeat (go_quiet (fail); try go_wp2)
   go_roundg k1
   case measure => have := HK1.out; omega
   case rel => exact ⟨(wrap64 (x5_1 + 1)), sq, H', ⟨by have := HK1.out; omega⟩, by repeat (first | exact Drawn0.refl _ | apply Drawn0.step)⟩
def spec_SameVal.f (k : Nat) (a0_0 : Int) (a0_1 : Int) (a0_2 : ByteArray) (l0_3 : List Int) (a1_0 : Int) (a1_1 : Int) (a1_2 : ByteArray) (l1_3 : List Int) : Option (Bool) := if a0_0 = a1_0 then (if a0_1 = a1_1 then (if a0_2.toList = a1_2.toList then ((spec_SameOid.f k l0_3 l1_3).bind fun t689 => (some t689)) else (some false)) else (some false)) else (some false)
theorem spec_SameVal.mono : ∀ a0 a1 a2 a3 a4 a5 a6 a7 k, LeO (spec_SameVal.f k a0 a1 a2 a3 a4 a5 a6 a7) (spec_SameVal.f (k + 1) a0 a1 a2 a3 a4 a5 a6 a7) := by
 intro a0 a1 a2 a3 a4 a5 a6 a7 k
 unfold spec_SameVal.f
 repeat' first
  | (with_reducible exact spec_SameOid.mono _ _ _)
  | (with_reducible exact LeO.refl _)
  | (with_reducible exact LeO.none _)
  | (with_reducible refine LeO.ite ?_ ?_)
  | (with_reducible refine LeO.bind ?_ (fun _ => ?_))
  | exact spec_SameOid.mono _ _ _
  | exact LeO.none _
  | refine LeO.ite ?_ ?_
  | refine LeO.bind ?_ (fun _ => ?_)
theorem spec_SameVal.calls (k : Nat) (a0_0 : Int) (a0_1 : Int) (a0_2 : ByteArray) (A0_3 : Option Addr) (c0_3 : Nat) (l0_3 : List Int) (a1_0 : Int) (a1_1 : Int) (a1_2 : ByteArray) (A1_3 : Option Addr) (c1_3 : Nat) (l1_3 : List Int) (r : Bool) (w : World) (hr0_3 : Kd.C (Kd.int .i64) w A0_3 l0_3.length l0_3) (hc0_3 : l0_3.length ≤ c0_3) (hr1_3 : Kd.C (Kd.int .i64) w A1_3 l1_3.length l1_3) (hc1_3 : l1_3.length ≤ c1_3) (h : spec_SameVal.f k a0_0 a0_1 a0_2 l0_3 a1_0 a1_1 a1_2 l1_3 = some r) :
 Calls Try.prog 50 #[.agg #[.int .i64 a0_0, .int .i64 a0_1, .string a0_2, .slice A0_3 l0_3.length c0_3], .agg #[.int .i64 a1_0, .int .i64 a1_1, .string a1_2, .slice A1_3 l1_3.length c1_3]] w fun e w' => e = .returned (.bool r) ∧ Below w.heap.size w w' := by
 have hu29 := Try.underlying29
 have HR0_3 := am hr0_3
 have HC0_3 := am hc0_3
 clear hr0_3 hc0_3
 have HR1_3 := am hr1_3
 have HC1_3 := am hc1_3
 clear hr1_3 hc1_3
 have HB := am (Below.refl w.heap.size w)
 have H : (if a0_0 = a1_0 then (if a0_1 = a1_1 then (if a0_2.toList = a1_2.toList then ((spec_SameOid.f k l0_3 l1_3).bind fun t689 => (some t689)) else (some false)) else (some false)) else (some false)) = some r := h
 clear h
 by_cases c3 : a0_0 = a1_0
 rotate_left
 · rw [if_neg c3] at H
   have c3b0 : (a0_0 == a1_0) = false := beq_eq_false_iff_ne.mpr c3
   have c3b1 : (a0_0 != a1_0) = true := bne_iff_ne.mpr c3
   obtain rfl := Option.some.inj H
   go_enter Try.func50, Try.ntmps50
   go_wp2_with (first | ((with_reducible refine gate_dst (N := 2) rfl ?_); refine bxe 2 #[.int .i64 a0_0, .int .i64 a0_1, .string a0_2, .slice A0_3 l0_3.length c0_3] 29 ?_; intro gb687 hg w22 hbox hb; have n_ := ak4 (below_step (bq HB.out) hb) hbox ((by rw [hg]; exact (below_size (bq HB.out)) : w.heap.size ≤ gb687)) ((by rw [hg]; exact (below_size (bq HB.out)) : w.heap.size ≤ gb687)); clear HB; obtain ⟨HB, BK687, GW687, GE687⟩ := n_; clear hb hbox hg) | ((with_reducible refine gate_dst (N := 3) rfl ?_); refine bxe 3 #[.int .i64 a1_0, .int .i64 a1_1, .string a1_2, .slice A1_3 l1_3.length c1_3] 29 ?_; intro gb688 hg w23 hbox hb; have n_ := ak7 (blk_below (zb BK687.out) hb) (below_step (bq1 HB.out GE687.out) hb) hbox ((by rw [hg]; exact (below_size (bq1 HB.out GE687.out)) : w.heap.size ≤ gb688)) ((by rw [hg]; exact (below_size (bq1 HB.out GE687.out)) : w.heap.size ≤ gb688)) ((nlt hg (zb BK687.out) : gb687 ≠ gb688)) ((ngt hg (zb BK687.out) : gb688 ≠ gb687)); clear BK687 HB; obtain ⟨BK687, HB, BK688, GW688, GE688, NB687_688, NB688_687⟩ := n_; clear hb hbox hg; have hnb24 := NB687_688.out; have hnc24 := NB688_687.out; obtain ⟨hcz25_0, hcz25_1, hcz25_2, hcz25_3, hfz25_0, hfz25_1, hfz25_2, hfz25_3⟩ := cl4 BK687.out; obtain ⟨hcz26_0, hcz26_1, hcz26_2, hcz26_3, hfz26_0, hfz26_1, hfz26_2, hfz26_3⟩ := cl4 BK688.out))
   go_ret
   exact ⟨rq, bq2 HB.out GE687.out GE688.out⟩
 rw [if_pos c3] at H
 have c3b0 : (a0_0 == a1_0) = true := beq_iff_eq.mpr c3
 have c3b1 : (a0_0 != a1_0) = false := bne_eq_false_iff_eq.mpr c3
 clear c3
 by_cases c4 : a0_1 = a1_1
 rotate_left
 · rw [if_neg c4] at H
   have c4b0 : (a0_1 == a1_1) = false := beq_eq_false_iff_ne.mpr c4
   have c4b1 : (a0_1 != a1_1) = true := bne_iff_ne.mpr c4
   obtain rfl := Option.some.inj H
   go_enter Try.func50, Try.ntmps50
   go_wp2_with (first | ((with_reducible refine gate_dst (N := 2) rfl ?_); refine bxe 2 #[.int .i64 a0_0, .int .i64 a0_1, .string a0_2, .slice A0_3 l0_3.length c0_3] 29 ?_; intro gb687 hg w17 hbox hb; have n_ := ak4 (below_step (bq HB.out) hb) hbox ((by rw [hg]; exact (below_size (bq HB.out)) : w.heap.size ≤ gb687)) ((by rw [hg]; exact (below_size (bq HB.out)) : w.heap.size ≤ gb687)); clear HB; obtain ⟨HB, BK687, GW687, GE687⟩ := n_; clear hb hbox hg) | ((with_reducible refine gate_dst (N := 3) rfl ?_); refine bxe 3 #[.int .i64 a1_0, .int .i64 a1_1, .string a1_2, .slice A1_3 l1_3.length c1_3] 29 ?_; intro gb688 hg w18 hbox hb; have n_ := ak7 (blk_below (zb BK687.out) hb) (below_step (bq1 HB.out GE687.out) hb) hbox ((by rw [hg]; exact (below_size (bq1 HB.out GE687.out)) : w.heap.size ≤ gb688)) ((by rw [hg]; exact (below_size (bq1 HB.out GE687.out)) : w.heap.size ≤ gb688)) ((nlt hg (zb BK687.out) : gb687 ≠ gb688)) ((ngt hg (zb BK687.out) : gb688 ≠ gb687)); clear BK687 HB; obtain ⟨BK687, HB, BK688, GW688, GE688, NB687_688, NB688_687⟩ := n_; clear hb hbox hg; have hnb19 := NB687_688.out; have hnc19 := NB688_687.out; obtain ⟨hcz20_0, hcz20_1, hcz20_2, hcz20_3, hfz20_0, hfz20_1, hfz20_2, hfz20_3⟩ := cl4 BK687.out; obtain ⟨hcz21_0, hcz21_1, hcz21_2, hcz21_3, hfz21_0, hfz21_1, hfz21_2, hfz21_3⟩ := cl4 BK688.out))
   go_ret
   exact ⟨rq, bq2 HB.out GE687.out GE688.out⟩
 rw [if_pos c4] at H
 have c4b0 : (a0_1 == a1_1) = true := beq_iff_eq.mpr c4
 have c4b1 : (a0_1 != a1_1) = false := bne_eq_false_iff_eq.mpr c4
 clear c4
 by_cases c5 : a0_2.toList = a1_2.toList
 rotate_left
 · rw [if_neg c5] at H
   have c5b0 : (a0_2.toList == a1_2.toList) = false := beq_eq_false_iff_ne.mpr c5
   have c5b1 : (a0_2.toList != a1_2.toList) = true := bne_iff_ne.mpr c5
   obtain rfl := Option.some.inj H
   go_enter Try.func50, Try.ntmps50
   go_wp2_with (first | ((with_reducible refine gate_dst (N := 2) rfl ?_); refine bxe 2 #[.int .i64 a0_0, .int .i64 a0_1, .string a0_2, .slice A0_3 l0_3.length c0_3] 29 ?_; intro gb687 hg w12 hbox hb; have n_ := ak4 (below_step (bq HB.out) hb) hbox ((by rw [hg]; exact (below_size (bq HB.out)) : w.heap.size ≤ gb687)) ((by rw [hg]; exact (below_size (bq HB.out)) : w.heap.size ≤ gb687)); clear HB; obtain ⟨HB, BK687, GW687, GE687⟩ := n_; clear hb hbox hg) | ((with_reducible refine gate_dst (N := 3) rfl ?_); refine bxe 3 #[.int .i64 a1_0, .int .i64 a1_1, .string a1_2, .slice A1_3 l1_3.length c1_3] 29 ?_; intro gb688 hg w13 hbox hb; have n_ := ak7 (blk_below (zb BK687.out) hb) (below_step (bq1 HB.out GE687.out) hb) hbox ((by rw [hg]; exact (below_size (bq1 HB.out GE687.out)) : w.heap.size ≤ gb688)) ((by rw [hg]; exact (below_size (bq1 HB.out GE687.out)) : w.heap.size ≤ gb688)) ((nlt hg (zb BK687.out) : gb687 ≠ gb688)) ((ngt hg (zb BK687.out) : gb688 ≠ gb687)); clear BK687 HB; obtain ⟨BK687, HB, BK688, GW688, GE688, NB687_688, NB688_687⟩ := n_; clear hb hbox hg; have hnb14 := NB687_688.out; have hnc14 := NB688_687.out; obtain ⟨hcz15_0, hcz15_1, hcz15_2, hcz15_3, hfz15_0, hfz15_1, hfz15_2, hfz15_3⟩ := cl4 BK687.out; obtain ⟨hcz16_0, hcz16_1, hcz16_2, hcz16_3, hfz16_0, hfz16_1, hfz16_2, hfz16_3⟩ := cl4 BK688.out))
   go_ret
   exact ⟨rq, bq2 HB.out GE687.out GE688.out⟩
 rw [if_pos c5] at H
 have c5b0 : (a0_2.toList == a1_2.toList) = true := beq_iff_eq.mpr c5
 have c5b1 : (a0_2.toList != a1_2.toList) = false := bne_eq_false_iff_eq.mpr c5
 clear c5
 replace H := Option.bind_eq_some_iff.mp H
 obtain ⟨t689, A60, H⟩ := H
 replace H : (some t689) = some r := H
 have A6 := am A60
 clear A60
 obtain rfl := Option.some.inj H
 go_enter Try.func50, Try.ntmps50
 go_wp2_with (first | ((with_reducible refine gate_dst (N := 2) rfl ?_); refine bxe 2 #[.int .i64 a0_0, .int .i64 a0_1, .string a0_2, .slice A0_3 l0_3.length c0_3] 29 ?_; intro gb687 hg w7 hbox hb; have n_ := ak4 (below_step (bq HB.out) hb) hbox ((by rw [hg]; exact (below_size (bq HB.out)) : w.heap.size ≤ gb687)) ((by rw [hg]; exact (below_size (bq HB.out)) : w.heap.size ≤ gb687)); clear HB; obtain ⟨HB, BK687, GW687, GE687⟩ := n_; clear hb hbox hg) | ((with_reducible refine gate_dst (N := 3) rfl ?_); refine bxe 3 #[.int .i64 a1_0, .int .i64 a1_1, .string a1_2, .slice A1_3 l1_3.length c1_3] 29 ?_; intro gb688 hg w8 hbox hb; have n_ := ak7 (blk_below (zb BK687.out) hb) (below_step (bq1 HB.out GE687.out) hb) hbox ((by rw [hg]; exact (below_size (bq1 HB.out GE687.out)) : w.heap.size ≤ gb688)) ((by rw [hg]; exact (below_size (bq1 HB.out GE687.out)) : w.heap.size ≤ gb688)) ((nlt hg (zb BK687.out) : gb687 ≠ gb688)) ((ngt hg (zb BK687.out) : gb688 ≠ gb687)); clear BK687 HB; obtain ⟨BK687, HB, BK688, GW688, GE688, NB687_688, NB688_687⟩ := n_; clear hb hbox hg; have hnb9 := NB687_688.out; have hnc9 := NB688_687.out; obtain ⟨hcz10_0, hcz10_1, hcz10_2, hcz10_3, hfz10_0, hfz10_1, hfz10_2, hfz10_3⟩ := cl4 BK687.out; obtain ⟨hcz11_0, hcz11_1, hcz11_2, hcz11_3, hfz11_0, hfz11_1, hfz11_2, hfz11_3⟩ := cl4 BK688.out) | (go_at_call 113; (with_reducible refine (spec_SameOid.calls k _ _ l0_3 _ _ l1_3 t689 _ ?side1 ?side2 ?side3 ?side4 A6.out).mono ?_); (case side1 => exact cq (Kd.C_below HR0_3.out HB.out)); (case side2 => exact HC0_3.out); (case side3 => exact cq (Kd.C_below HR1_3.out HB.out)); (case side4 => exact HC1_3.out); rintro e w' ⟨rfl, ⟨nd, rfl⟩⟩))
 go_ret
 exact ⟨rq, bq2 HB.out GE687.out GE688.out⟩
end Go.Proofs.Ythhnfmbfgplelaa.XFnVals
