/- The functions that one law reaches, as Lean functions, with their walks: printed by a program of this seat (wip/tools) out of the translation. -/
import Derived.Test.YthhnfmbfgplelaaXFnValsx0
import Derived.Test.YthhnfmbfgplelaaXFnValsx3
import Derived.Test.YthhnfmbfgplelaaXFnValsx5
import Derived.Test.YthhnfmbfgplelaaXFnValsx8
import Derived.Test.YthhnfmbfgplelaaXFnValsx9
namespace Go.Proofs.Ythhnfmbfgplelaa.XFnVals
open Go.RowKit Go.Proofs.YthhnfmbfgplelaaW.PrintWords Go.Proofs.YthhnfmbfgplelaaW.PrintLast Go.Proofs.YthhnfmbfgplelaaW.PrintMore
attribute [local go_sem] max2_int min2_int max_two min_two max_three min_three max_four min_four   -- for this text's walks alone
set_option linter.unusedVariables false
set_option linter.unusedSimpArgs false
set_option maxHeartbeats 8000000
set_option maxRecDepth 100000
def spec_l3Any.f (k : Nat) (s0_0 : List Int) (s0_1 : Int) (s0_2 : Int) : Option (Int × Int × ByteArray × List Int × Int × Int) := (spec_l3Draw.f k s0_0 s0_1 s0_2).bind fun bt481 => ((spec_l1Below.f s0_0 bt481.2.2.2.2.1 bt481.2.2.2.2.2 12).bind fun bt490 => (if bt490.1 = 0 then ((spec_l1Int.f s0_0 bt490.2.1 bt490.2.2 (([0, 1, 2, 4, 5, 6, 128, 129, 130] : List Int))).bind fun bt496 => (some (bt496.1, bt481.2.1, bt481.2.2.1, bt481.2.2.2.1, bt496.2.1, bt496.2.2))) else (if bt490.1 = 1 then ((spec_l1Num.f s0_0 bt490.2.1 bt490.2.2).bind fun bt499 => (some (bt481.1, bt499.1, bt481.2.2.1, bt481.2.2.2.1, bt499.2.1, bt499.2.2))) else (if bt490.1 = 2 then ((spec_l1Below.f s0_0 bt490.2.1 bt490.2.2 2).bind fun bt502 => (if 0 ≤ (wrap64 (20 + bt502.1)) then (if (wrap64 (20 + bt502.1) : Int).toNat ≤ 281474976710656 then (some (bt481.1, bt481.2.1, strOfNums (List.replicate (wrap64 (20 + bt502.1) : Int).toNat 0), bt481.2.2.2.1, bt502.2.1, bt502.2.2)) else (none)) else (none))) else (if bt490.1 = 3 then ((spec_l2Any.f k s0_0 bt490.2.1 bt490.2.2).bind fun bt508 => (some (bt481.1, bt481.2.1, bt481.2.2.1, bt508.1, bt508.2.1, bt508.2.2))) else (some (bt481.1, bt481.2.1, bt481.2.2.1, bt481.2.2.2.1, bt490.2.1, bt490.2.2)))))))
theorem spec_l3Any.mono : ∀ a0 a1 a2 k, LeO (spec_l3Any.f k a0 a1 a2) (spec_l3Any.f (k + 1) a0 a1 a2) := by
 intro a0 a1 a2 k
 unfold spec_l3Any.f
 repeat' first
  | (with_reducible exact spec_l2Any.mono _ _ _ _)
  | (with_reducible exact spec_l3Draw.mono _ _ _ _)
  | (with_reducible exact LeO.refl _)
  | (with_reducible exact LeO.none _)
  | (with_reducible refine LeO.ite ?_ ?_)
  | (with_reducible refine LeO.bind ?_ (fun _ => ?_))
  | exact spec_l2Any.mono _ _ _ _
  | exact spec_l3Draw.mono _ _ _ _
  | exact LeO.none _
  | refine LeO.ite ?_ ?_
  | refine LeO.bind ?_ (fun _ => ?_)
theorem spec_l3Any.calls (k : Nat) (g : Nat) (s0_0 : List Int) (s0_1 : Int) (s0_2 : Int) (r1 : Int) (r2 : Int) (r3 : ByteArray) (r4 : List Int) (r5 : Int) (r6 : Int) (w0 w : World) (hI : IsS135 w0 w g s0_0 s0_1 s0_2) (hB : Below w0.heap.size w0 w) (h : spec_l3Any.f k s0_0 s0_1 s0_2 = some (r1, r2, r3, r4, r5, r6)) :
 Calls Try.prog 104 #[.pointer (some ⟨g, 0, none⟩)] w fun e w' => ∃ v3_ : Value, e = .returned (.agg #[.int .i64 r1, .int .i64 r2, .string r3, v3_]) ∧ Kd.R (Kd.int .i64) 3 w' w.heap.size (fun _ => True) v3_ r4 ∧ IsS135 w0 w' g s0_0 r5 r6 ∧ Below w0.heap.size w0 w' ∧ KeepBut w w' g none := by
 have hu29 := Try.underlying29
 have HI0 := am hI
 have HK := am (KeepBut.refl w g none)
 have HL := am hB.size
 clear hI
 have HW0 := am hB.size
 have HB := am hB
 clear hB
 have H : ((spec_l3Draw.f k s0_0 s0_1 s0_2).bind fun bt481 => ((spec_l1Below.f s0_0 bt481.2.2.2.2.1 bt481.2.2.2.2.2 12).bind fun bt490 => (if bt490.1 = 0 then ((spec_l1Int.f s0_0 bt490.2.1 bt490.2.2 (([0, 1, 2, 4, 5, 6, 128, 129, 130] : List Int))).bind fun bt496 => (some (bt496.1, bt481.2.1, bt481.2.2.1, bt481.2.2.2.1, bt496.2.1, bt496.2.2))) else (if bt490.1 = 1 then ((spec_l1Num.f s0_0 bt490.2.1 bt490.2.2).bind fun bt499 => (some (bt481.1, bt499.1, bt481.2.2.1, bt481.2.2.2.1, bt499.2.1, bt499.2.2))) else (if bt490.1 = 2 then ((spec_l1Below.f s0_0 bt490.2.1 bt490.2.2 2).bind fun bt502 => (if 0 ≤ (wrap64 (20 + bt502.1)) then (if (wrap64 (20 + bt502.1) : Int).toNat ≤ 281474976710656 then (some (bt481.1, bt481.2.1, strOfNums (List.replicate (wrap64 (20 + bt502.1) : Int).toNat 0), bt481.2.2.2.1, bt502.2.1, bt502.2.2)) else (none)) else (none))) else (if bt490.1 = 3 then ((spec_l2Any.f k s0_0 bt490.2.1 bt490.2.2).bind fun bt508 => (some (bt481.1, bt481.2.1, bt481.2.2.1, bt508.1, bt508.2.1, bt508.2.2))) else (some (bt481.1, bt481.2.1, bt481.2.2.1, bt481.2.2.2.1, bt490.2.1, bt490.2.2)))))))) = some (r1, r2, r3, r4, r5, r6) := h
 clear h
 replace H := Option.bind_eq_some_iff.mp H
 obtain ⟨⟨t481, t482, t483, t484, t487, t488⟩, A20, H⟩ := H
 replace H : ((spec_l1Below.f s0_0 t487 t488 12).bind fun bt490 => (if bt490.1 = 0 then ((spec_l1Int.f s0_0 bt490.2.1 bt490.2.2 (([0, 1, 2, 4, 5, 6, 128, 129, 130] : List Int))).bind fun bt496 => (some (bt496.1, t482, t483, t484, bt496.2.1, bt496.2.2))) else (if bt490.1 = 1 then ((spec_l1Num.f s0_0 bt490.2.1 bt490.2.2).bind fun bt499 => (some (t481, bt499.1, t483, t484, bt499.2.1, bt499.2.2))) else (if bt490.1 = 2 then ((spec_l1Below.f s0_0 bt490.2.1 bt490.2.2 2).bind fun bt502 => (if 0 ≤ (wrap64 (20 + bt502.1)) then (if (wrap64 (20 + bt502.1) : Int).toNat ≤ 281474976710656 then (some (t481, t482, strOfNums (List.replicate (wrap64 (20 + bt502.1) : Int).toNat 0), t484, bt502.2.1, bt502.2.2)) else (none)) else (none))) else (if bt490.1 = 3 then ((spec_l2Any.f k s0_0 bt490.2.1 bt490.2.2).bind fun bt508 => (some (t481, t482, t483, bt508.1, bt508.2.1, bt508.2.2))) else (some (t481, t482, t483, t484, bt490.2.1, bt490.2.2))))))) = some (r1, r2, r3, r4, r5, r6) := H
 have A2 := am A20
 clear A20
 replace H := Option.bind_eq_some_iff.mp H
 obtain ⟨⟨t490, t491, t492⟩, A30, H⟩ := H
 replace H : (if t490 = 0 then ((spec_l1Int.f s0_0 t491 t492 (([0, 1, 2, 4, 5, 6, 128, 129, 130] : List Int))).bind fun bt496 => (some (bt496.1, t482, t483, t484, bt496.2.1, bt496.2.2))) else (if t490 = 1 then ((spec_l1Num.f s0_0 t491 t492).bind fun bt499 => (some (t481, bt499.1, t483, t484, bt499.2.1, bt499.2.2))) else (if t490 = 2 then ((spec_l1Below.f s0_0 t491 t492 2).bind fun bt502 => (if 0 ≤ (wrap64 (20 + bt502.1)) then (if (wrap64 (20 + bt502.1) : Int).toNat ≤ 281474976710656 then (some (t481, t482, strOfNums (List.replicate (wrap64 (20 + bt502.1) : Int).toNat 0), t484, bt502.2.1, bt502.2.2)) else (none)) else (none))) else (if t490 = 3 then ((spec_l2Any.f k s0_0 t491 t492).bind fun bt508 => (some (t481, t482, t483, bt508.1, bt508.2.1, bt508.2.2))) else (some (t481, t482, t483, t484, t491, t492)))))) = some (r1, r2, r3, r4, r5, r6) := H
 have A3 := am A30
 clear A30
 by_cases c4 : t490 = 0
 · rw [if_pos c4] at H
   have c4b0 : (t490 == 0) = true := beq_iff_eq.mpr c4
   have c4b1 : (t490 != 0) = false := bne_eq_false_iff_eq.mpr c4
   clear c4
   obtain ⟨y493, hy493⟩ : ∃ y_ : List Int, y_ = (([0, 1, 2, 4, 5, 6, 128, 129, 130] : List Int)) := ⟨_, rfl⟩
   replace H : ((spec_l1Int.f s0_0 t491 t492 y493).bind fun bt496 => (some (bt496.1, t482, t483, t484, bt496.2.1, bt496.2.2))) = some (r1, r2, r3, r4, r5, r6) := hx H hy493
   have Ny493 := am hy493
   clear hy493
   replace H := Option.bind_eq_some_iff.mp H
   obtain ⟨⟨t496, t497, t498⟩, A50, H⟩ := H
   replace H : (some (t496, t482, t483, t484, t497, t498)) = some (r1, r2, r3, r4, r5, r6) := H
   have A5 := am A50
   clear A50
   simp only [Option.some.injEq, Prod.mk.injEq] at H
   obtain ⟨rfl, rfl, rfl, rfl, rfl, rfl⟩ := H
   go_enter Try.func104, Try.ntmps104
   go_wp2_with (first | ((with_reducible refine gate_dst (N := 2) rfl ?_); refine bxe 2 #[.int .i64 0, .int .i64 0, .string (⟨#[]⟩ : ByteArray), .slice none 0 0] 29 ?_; intro gb480 hg w6 hbox hb; have n_ := ak8 (IsS135.below (IsS135.q0 HI0.out) hb) (KeepBut.trans (kp0 HK.out) (KeepBut.of_below hb g none) (.inl rfl)) (below_step (bq1 HB.out (IsS135.ge HI0.out)) hb) hbox ((by rw [hg]; exact (keep_size (w := w) (g := g) (row := none) (kp0 HK.out)) : w.heap.size ≤ gb480)) ((Nat.le_trans HW0.out (by rw [hg]; exact (keep_size (w := w) (g := g) (row := none) (kp0 HK.out)) : w.heap.size ≤ gb480) : w0.heap.size ≤ gb480)) ((by rw [hg]; exact Nat.ne_of_lt (IsS135.lt (show IsS135 w0 _ g s0_0 s0_1 s0_2 from IsS135.q0 HI0.out)) : g ≠ gb480)) ((by rw [hg]; exact Nat.ne_of_gt (IsS135.lt (show IsS135 w0 _ g s0_0 s0_1 s0_2 from IsS135.q0 HI0.out)) : gb480 ≠ g)); clear HI0 HK HB; obtain ⟨HI0, HK, HB, BK480, GW480, GE480, NB0_480, NB480_0⟩ := n_; clear hb hbox hg) | ((with_reducible refine gate_callee (f := 105) rfl ?_); refine goesL_ (some 5) rfl rfl Try.func105 (by kernel_rfl) rfl #[.pointer (some ⟨g, 0, none⟩)] rfl ga ?_; (with_reducible refine (spec_l3Draw.calls k g s0_0 s0_1 s0_2 t481 t482 t483 t484 t487 t488 w0 _ ?side1 ?side2 A2.out).mono ?_); (case side1 => exact IsS135.q1 HI0.out NB0_480.out); (case side2 => exact bq2 HB.out (IsS135.ge HI0.out) GE480.out); rintro e w7 ⟨v485, rfl, ho0, hi, hb, hk⟩; refine ⟨_, rfl, ?_⟩; have n_ := ak5 (KeepBut.blk hk (zb BK480.out) NB480_0.out (by simp)) (Kd.R_lower ho0 (keep_size (w := w) (g := g) (row := none) (kp1 HK.out GW480.out))) (KeepBut.trans (kp1 HK.out GW480.out) hk (.inl rfl)) hb hi; clear BK480 HK HB HI0; obtain ⟨BK480, HO486, HK, HB, HI0⟩ := n_; (try clear hb hk hi ho0)) | ((with_reducible refine gate_dst (N := 3) rfl ?_); refine bxe 3 #[.int .i64 0, .int .i64 0, .string (⟨#[]⟩ : ByteArray), .slice none 0 0] 29 ?_; intro gb489 hg w8 hbox hb; have n_ := ak12 (Kd.R_below (kqR HO486.out) hb) (IsS135.below (IsS135.q1 HI0.out NB0_480.out) hb) (blk_below (zb BK480.out) hb) (KeepBut.trans (kp1 HK.out GW480.out) (KeepBut.of_below hb g none) (.inl rfl)) (below_step (bq2 HB.out (IsS135.ge HI0.out) GE480.out) hb) hbox ((by rw [hg]; exact (keep_size (w := w) (g := g) (row := none) (kp1 HK.out GW480.out)) : w.heap.size ≤ gb489)) ((Nat.le_trans HW0.out (by rw [hg]; exact (keep_size (w := w) (g := g) (row := none) (kp1 HK.out GW480.out)) : w.heap.size ≤ gb489) : w0.heap.size ≤ gb489)) ((nlt hg (zb BK480.out) : gb480 ≠ gb489)) ((ngt hg (zb BK480.out) : gb489 ≠ gb480)) ((by rw [hg]; exact Nat.ne_of_lt (IsS135.lt (show IsS135 w0 _ g s0_0 t487 t488 from IsS135.q1 HI0.out NB0_480.out)) : g ≠ gb489)) ((by rw [hg]; exact Nat.ne_of_gt (IsS135.lt (show IsS135 w0 _ g s0_0 t487 t488 from IsS135.q1 HI0.out NB0_480.out)) : gb489 ≠ g)); clear HO486 HI0 BK480 HK HB; obtain ⟨HO486, HI0, BK480, HK, HB, BK489, GW489, GE489, NB480_489, NB489_480, NB0_489, NB489_0⟩ := n_; clear hb hbox hg; have hnb9 := NB489_480.out; have hnc9 := NB480_489.out; have hnb10 := NB489_0.out; have hnc10 := NB0_489.out; obtain ⟨hcz11_0, hcz11_1, hcz11_2, hcz11_3, hfz11_0, hfz11_1, hfz11_2, hfz11_3⟩ := cl4 BK489.out; obtain ⟨Ao12, co12, eo12⟩ := Kd.R_slice HO486.out; subst eo12) | ((with_reducible refine gate_callee (f := 122) rfl ?_); refine goesL_ (some 7) rfl rfl Try.func122 (by kernel_rfl) rfl #[.pointer (some ⟨g, 0, none⟩), .int .i64 12] rfl ga ?_; (with_reducible refine (spec_l1Below.calls g s0_0 t487 t488 12 t490 t491 t492 w0 _ ?side1 ?side2 A3.out).mono ?_); (case side1 => exact IsS135.q2 HI0.out NB0_480.out NB0_489.out); (case side2 => exact bq3 HB.out (IsS135.ge HI0.out) GE480.out GE489.out); rintro e w13 ⟨rfl, hi, hb, hk⟩; refine ⟨_, rfl, ?_⟩; have n_ := ak6 (KeepBut.blk hk (g' := gb480) (o := .cells #[.int .i64 0, .int .i64 0, .string (⟨#[]⟩ : ByteArray), .slice none 0 0] 29 (0, 0)) (by refine zr ?_; refine blk_far ?_ NB480_489.out _; refine zr ?_; refine blk_far ?_ NB480_489.out _; refine zr ?_; refine blk_far ?_ NB480_489.out _; refine zr ?_; refine blk_far ?_ NB480_489.out _; refine zr ?_; exact BK480.out) NB480_0.out (by simp)) (Kd.R_mono (Kd.R_keep (IsS135.apart (show IsS135 w0 _ g s0_0 t487 t488 from IsS135.q2 HI0.out NB0_480.out NB0_489.out) (by refine kr ?_; exact (Kd.R_mono (rf4 gb489 (.int .i64 t481) (.int .i64 t482) (.string t483) (.slice Ao12 t484.length co12) (Kd.R_types HO486.out BK489.out (by decide)) (fun _ hk => hk.2)) (fun _ h_ => h_.1))) (by decide)) hk (fun _ h => h.2)) (fun _ h => h.1)) (KeepBut.blk hk (g' := gb489) (o := .cells #[.int .i64 t481, .int .i64 t482, .string t483, .slice Ao12 t484.length co12] 29 (0, 0)) (by refine zr ?_; exact bp4 (zb BK489.out)) NB489_0.out (by simp)) (KeepBut.trans (kp2 HK.out GW480.out GW489.out) hk (.inl rfl)) hb hi; clear BK480 HO486 BK489 HK HB HI0; obtain ⟨BK480, HO486, BK489, HK, HB, HI0⟩ := n_; (try clear hb hk hi)) | ((with_reducible refine gate_dst (N := 11) rfl ?_); refine Kd.R_lit (Kd.int .i64) _ 3 ?hg (N := 11) ?hd (xs := ([0, 1, 2, 4, 5, 6, 128, 129, 130] : List Int)) (inner := [.int .i64 0, .int .i64 1, .int .i64 2, .int .i64 4, .int .i64 5, .int .i64 6, .int .i64 128, .int .i64 129, .int .i64 130]) (ok := fun _ => True) (okp := fun _ => True) ?hr ?hp (fun _ hk => hk) trivial (Below.refl _ _) (Nat.le_refl _) (by simp) ?_; (case hd => rfl); (case hg => rfl); (case hr => exact gs); (case hp => exact (Reps.one (ri 0) (Reps.one (ri 1) (Reps.one (ri 2) (Reps.one (ri 4) (Reps.one (ri 5) (Reps.one (ri 6) (Reps.one (ri 128) (Reps.one (ri 129) (Reps.one (ri 130) (Reps.none _ _))))))))))); intro v494 w14 ho15 hb hg_ hnew_; clear hg_ hnew_; (first | rw [← Ny493.out] at ho15 | (simp only [Int.reduceToNat] at ho15; rw [← Ny493.out] at ho15)); have n_ := ak7 (Kd.R_elder' (kqR HO486.out) (Kd.R_base ho15) hb) (Kd.R_lower (Kd.R_new' ho15 (Kd.R_lt (kqR HO486.out))) (keep_size (w := w) (g := g) (row := none) (kp2 HK.out GW480.out GW489.out))) (IsS135.below (IsS135.q2 HI0.out NB0_480.out NB0_489.out) hb) (blk_below (zb BK480.out) hb) (blk_below (zb BK489.out) hb) (KeepBut.trans (kp2 HK.out GW480.out GW489.out) (KeepBut.of_below hb g none) (.inl rfl)) (below_step (bq3 HB.out (IsS135.ge HI0.out) GE480.out GE489.out) hb); clear HO486 HI0 BK480 BK489 HK HB; obtain ⟨HO486, HO495, HI0, BK480, BK489, HK, HB⟩ := n_; clear hb ho15; obtain ⟨Ao16, co16, eo16⟩ := Kd.R_slice HO495.out; subst eo16) | ((with_reducible refine gate_callee (f := 86) rfl ?_); refine goesL_ (some 12) rfl rfl Try.func86 (by kernel_rfl) rfl #[.pointer (some ⟨g, 0, none⟩), .slice Ao16 y493.length co16] rfl ga ?_; (with_reducible refine (spec_l1Int.calls g s0_0 t491 t492 _ _ y493 t496 t497 t498 w0 _ ?side1 ?side2 ?side3 ?side4 ?side5 A5.out).mono ?_); (case side1 => exact IsS135.q2 HI0.out NB0_480.out NB0_489.out); (case side2 => exact bq3 HB.out (IsS135.ge HI0.out) GE480.out GE489.out); (case side3 => repeat (first | exact (Kd.R_reads' HO495.out).2.2 | (with_reducible refine Kd.C_alloc ?_ _) | (with_reducible refine Kd.C_drewN ?_ _) | (with_reducible refine Kd.C_drew ?_))); (case side4 => exact (Kd.R_reads' HO495.out).2.1); (case side5 => exact far_slice (IsS135.own_ne HI0.out HO495.out (by decide))); rintro e w17 ⟨rfl, hi, hb, hk⟩; refine ⟨_, rfl, ?_⟩; have n_ := ak7 (KeepBut.blk hk (zb BK480.out) NB480_0.out (by simp)) (Kd.R_mono (Kd.R_keep (IsS135.apart (show IsS135 w0 _ g s0_0 t491 t492 from IsS135.q2 HI0.out NB0_480.out NB0_489.out) (kqR HO486.out) (by decide)) hk (fun _ h => h.2)) (fun _ h => h.1)) (KeepBut.blk hk (zb BK489.out) NB489_0.out (by simp)) (Kd.R_mono (Kd.R_keep (IsS135.apart (show IsS135 w0 _ g s0_0 t491 t492 from IsS135.q2 HI0.out NB0_480.out NB0_489.out) (kqR HO495.out) (by decide)) hk (fun _ h => h.2)) (fun _ h => h.1)) (KeepBut.trans (kp2 HK.out GW480.out GW489.out) hk (.inl rfl)) hb hi; clear BK480 HO486 BK489 HO495 HK HB HI0; obtain ⟨BK480, HO486, BK489, HO495, HK, HB, HI0⟩ := n_; (try clear hb hk hi); obtain ⟨hcz18_0, hcz18_1, hcz18_2, hcz18_3, hfz18_0, hfz18_1, hfz18_2, hfz18_3⟩ := cl4 BK489.out; have hnb19 := NB480_0.out; have hnc19 := NB0_480.out; obtain ⟨hcz20_0, hcz20_1, hcz20_2, hcz20_3, hfz20_0, hfz20_1, hfz20_2, hfz20_3⟩ := cl4 BK480.out))
   refine bodyPost_ret (results_cell_row rfl _ _ gb480 29 #[.int .i64 t496, .int .i64 t482, .string t483, .slice Ao12 t484.length co12] (0, 0) _ rfl (by refine zr ?_; refine blk_put (cs := #[.int .i64 t496, .int .i64 t482, .string t483, .slice none 0 0]) ?_ 3 _ rfl; refine zr ?_; refine blk_put (cs := #[.int .i64 t496, .int .i64 t482, .string (⟨#[]⟩ : ByteArray), .slice none 0 0]) ?_ 2 _ rfl; refine zr ?_; refine blk_put (cs := #[.int .i64 t496, .int .i64 0, .string (⟨#[]⟩ : ByteArray), .slice none 0 0]) ?_ 1 _ rfl; refine zr ?_; refine blk_put (cs := #[.int .i64 0, .int .i64 0, .string (⟨#[]⟩ : ByteArray), .slice none 0 0]) ?_ 0 _ rfl; refine zr ?_; refine blk_far ?_ NB480_489.out _; refine zr ?_; exact BK480.out) Try.underlying29 rfl (by kernel_rfl)) rfl ?_
   exact ⟨_, rq, by refine kr ?_; exact Kd.R_mono (rf4 gb480 (.int .i64 t496) (.int .i64 t482) (.string t483) (.slice Ao12 t484.length co12) (Kd.R_far (p := ⟨gb489, 0, none⟩) (Kd.R_types (Kd.R_types HO486.out BK489.out (by decide)) BK480.out (by decide)) (fun _ hk => hk.1.2) (.int .i64 t496)) (fun _ hk => hk.2)) (fun _ hk => trivial), IsS135.q2 HI0.out NB0_480.out NB0_489.out, bq3 HB.out (IsS135.ge HI0.out) GE480.out GE489.out, kp2 HK.out GW480.out GW489.out⟩
 rw [if_neg c4] at H
 have c4b0 : (t490 == 0) = false := beq_eq_false_iff_ne.mpr c4
 have c4b1 : (t490 != 0) = true := bne_iff_ne.mpr c4
 by_cases c21 : t490 = 1
 · rw [if_pos c21] at H
   have c21b0 : (t490 == 1) = true := beq_iff_eq.mpr c21
   have c21b1 : (t490 != 1) = false := bne_eq_false_iff_eq.mpr c21
   clear c21
   replace H := Option.bind_eq_some_iff.mp H
   obtain ⟨⟨t499, t500, t501⟩, A220, H⟩ := H
   replace H : (some (t481, t499, t483, t484, t500, t501)) = some (r1, r2, r3, r4, r5, r6) := H
   have A22 := am A220
   clear A220
   simp only [Option.some.injEq, Prod.mk.injEq] at H
   obtain ⟨rfl, rfl, rfl, rfl, rfl, rfl⟩ := H
   go_enter Try.func104, Try.ntmps104
   go_wp2_with (first | ((with_reducible refine gate_dst (N := 2) rfl ?_); refine bxe 2 #[.int .i64 0, .int .i64 0, .string (⟨#[]⟩ : ByteArray), .slice none 0 0] 29 ?_; intro gb480 hg w23 hbox hb; have n_ := ak8 (IsS135.below (IsS135.q0 HI0.out) hb) (KeepBut.trans (kp0 HK.out) (KeepBut.of_below hb g none) (.inl rfl)) (below_step (bq1 HB.out (IsS135.ge HI0.out)) hb) hbox ((by rw [hg]; exact (keep_size (w := w) (g := g) (row := none) (kp0 HK.out)) : w.heap.size ≤ gb480)) ((Nat.le_trans HW0.out (by rw [hg]; exact (keep_size (w := w) (g := g) (row := none) (kp0 HK.out)) : w.heap.size ≤ gb480) : w0.heap.size ≤ gb480)) ((by rw [hg]; exact Nat.ne_of_lt (IsS135.lt (show IsS135 w0 _ g s0_0 s0_1 s0_2 from IsS135.q0 HI0.out)) : g ≠ gb480)) ((by rw [hg]; exact Nat.ne_of_gt (IsS135.lt (show IsS135 w0 _ g s0_0 s0_1 s0_2 from IsS135.q0 HI0.out)) : gb480 ≠ g)); clear HI0 HK HB; obtain ⟨HI0, HK, HB, BK480, GW480, GE480, NB0_480, NB480_0⟩ := n_; clear hb hbox hg) | ((with_reducible refine gate_callee (f := 105) rfl ?_); refine goesL_ (some 5) rfl rfl Try.func105 (by kernel_rfl) rfl #[.pointer (some ⟨g, 0, none⟩)] rfl ga ?_; (with_reducible refine (spec_l3Draw.calls k g s0_0 s0_1 s0_2 t481 t482 t483 t484 t487 t488 w0 _ ?side1 ?side2 A2.out).mono ?_); (case side1 => exact IsS135.q1 HI0.out NB0_480.out); (case side2 => exact bq2 HB.out (IsS135.ge HI0.out) GE480.out); rintro e w24 ⟨v485, rfl, ho0, hi, hb, hk⟩; refine ⟨_, rfl, ?_⟩; have n_ := ak5 (KeepBut.blk hk (zb BK480.out) NB480_0.out (by simp)) (Kd.R_lower ho0 (keep_size (w := w) (g := g) (row := none) (kp1 HK.out GW480.out))) (KeepBut.trans (kp1 HK.out GW480.out) hk (.inl rfl)) hb hi; clear BK480 HK HB HI0; obtain ⟨BK480, HO486, HK, HB, HI0⟩ := n_; (try clear hb hk hi ho0)) | ((with_reducible refine gate_dst (N := 3) rfl ?_); refine bxe 3 #[.int .i64 0, .int .i64 0, .string (⟨#[]⟩ : ByteArray), .slice none 0 0] 29 ?_; intro gb489 hg w25 hbox hb; have n_ := ak12 (Kd.R_below (kqR HO486.out) hb) (IsS135.below (IsS135.q1 HI0.out NB0_480.out) hb) (blk_below (zb BK480.out) hb) (KeepBut.trans (kp1 HK.out GW480.out) (KeepBut.of_below hb g none) (.inl rfl)) (below_step (bq2 HB.out (IsS135.ge HI0.out) GE480.out) hb) hbox ((by rw [hg]; exact (keep_size (w := w) (g := g) (row := none) (kp1 HK.out GW480.out)) : w.heap.size ≤ gb489)) ((Nat.le_trans HW0.out (by rw [hg]; exact (keep_size (w := w) (g := g) (row := none) (kp1 HK.out GW480.out)) : w.heap.size ≤ gb489) : w0.heap.size ≤ gb489)) ((nlt hg (zb BK480.out) : gb480 ≠ gb489)) ((ngt hg (zb BK480.out) : gb489 ≠ gb480)) ((by rw [hg]; exact Nat.ne_of_lt (IsS135.lt (show IsS135 w0 _ g s0_0 t487 t488 from IsS135.q1 HI0.out NB0_480.out)) : g ≠ gb489)) ((by rw [hg]; exact Nat.ne_of_gt (IsS135.lt (show IsS135 w0 _ g s0_0 t487 t488 from IsS135.q1 HI0.out NB0_480.out)) : gb489 ≠ g)); clear HO486 HI0 BK480 HK HB; obtain ⟨HO486, HI0, BK480, HK, HB, BK489, GW489, GE489, NB480_489, NB489_480, NB0_489, NB489_0⟩ := n_; clear hb hbox hg; have hnb26 := NB489_480.out; have hnc26 := NB480_489.out; have hnb27 := NB489_0.out; have hnc27 := NB0_489.out; obtain ⟨hcz28_0, hcz28_1, hcz28_2, hcz28_3, hfz28_0, hfz28_1, hfz28_2, hfz28_3⟩ := cl4 BK489.out; obtain ⟨Ao29, co29, eo29⟩ := Kd.R_slice HO486.out; subst eo29) | ((with_reducible refine gate_callee (f := 122) rfl ?_); refine goesL_ (some 7) rfl rfl Try.func122 (by kernel_rfl) rfl #[.pointer (some ⟨g, 0, none⟩), .int .i64 12] rfl ga ?_; (with_reducible refine (spec_l1Below.calls g s0_0 t487 t488 12 t490 t491 t492 w0 _ ?side1 ?side2 A3.out).mono ?_); (case side1 => exact IsS135.q2 HI0.out NB0_480.out NB0_489.out); (case side2 => exact bq3 HB.out (IsS135.ge HI0.out) GE480.out GE489.out); rintro e w30 ⟨rfl, hi, hb, hk⟩; refine ⟨_, rfl, ?_⟩; have n_ := ak6 (KeepBut.blk hk (g' := gb480) (o := .cells #[.int .i64 0, .int .i64 0, .string (⟨#[]⟩ : ByteArray), .slice none 0 0] 29 (0, 0)) (by refine zr ?_; refine blk_far ?_ NB480_489.out _; refine zr ?_; refine blk_far ?_ NB480_489.out _; refine zr ?_; refine blk_far ?_ NB480_489.out _; refine zr ?_; refine blk_far ?_ NB480_489.out _; refine zr ?_; exact BK480.out) NB480_0.out (by simp)) (Kd.R_mono (Kd.R_keep (IsS135.apart (show IsS135 w0 _ g s0_0 t487 t488 from IsS135.q2 HI0.out NB0_480.out NB0_489.out) (by refine kr ?_; exact (Kd.R_mono (rf4 gb489 (.int .i64 t481) (.int .i64 t482) (.string t483) (.slice Ao29 t484.length co29) (Kd.R_types HO486.out BK489.out (by decide)) (fun _ hk => hk.2)) (fun _ h_ => h_.1))) (by decide)) hk (fun _ h => h.2)) (fun _ h => h.1)) (KeepBut.blk hk (g' := gb489) (o := .cells #[.int .i64 t481, .int .i64 t482, .string t483, .slice Ao29 t484.length co29] 29 (0, 0)) (by refine zr ?_; exact bp4 (zb BK489.out)) NB489_0.out (by simp)) (KeepBut.trans (kp2 HK.out GW480.out GW489.out) hk (.inl rfl)) hb hi; clear BK480 HO486 BK489 HK HB HI0; obtain ⟨BK480, HO486, BK489, HK, HB, HI0⟩ := n_; (try clear hb hk hi)) | ((with_reducible refine gate_callee (f := 133) rfl ?_); refine goesL_ (some 17) rfl rfl Try.func133 (by kernel_rfl) rfl #[.pointer (some ⟨g, 0, none⟩)] rfl ga ?_; (with_reducible refine (spec_l1Num.calls g s0_0 t491 t492 t499 t500 t501 w0 _ ?side1 ?side2 A22.out).mono ?_); (case side1 => exact IsS135.q2 HI0.out NB0_480.out NB0_489.out); (case side2 => exact bq3 HB.out (IsS135.ge HI0.out) GE480.out GE489.out); rintro e w31 ⟨rfl, hi, hb, hk⟩; refine ⟨_, rfl, ?_⟩; have n_ := ak6 (KeepBut.blk hk (zb BK480.out) NB480_0.out (by simp)) (Kd.R_mono (Kd.R_keep (IsS135.apart (show IsS135 w0 _ g s0_0 t491 t492 from IsS135.q2 HI0.out NB0_480.out NB0_489.out) (kqR HO486.out) (by decide)) hk (fun _ h => h.2)) (fun _ h => h.1)) (KeepBut.blk hk (zb BK489.out) NB489_0.out (by simp)) (KeepBut.trans (kp2 HK.out GW480.out GW489.out) hk (.inl rfl)) hb hi; clear BK480 HO486 BK489 HK HB HI0; obtain ⟨BK480, HO486, BK489, HK, HB, HI0⟩ := n_; (try clear hb hk hi); obtain ⟨hcz32_0, hcz32_1, hcz32_2, hcz32_3, hfz32_0, hfz32_1, hfz32_2, hfz32_3⟩ := cl4 BK489.out; have hnb33 := NB480_0.out; have hnc33 := NB0_480.out; obtain ⟨hcz34_0, hcz34_1, hcz34_2, hcz34_3, hfz34_0, hfz34_1, hfz34_2, hfz34_3⟩ := cl4 BK480.out))
   refine bodyPost_ret (results_cell_row rfl _ _ gb480 29 #[.int .i64 t481, .int .i64 t499, .string t483, .slice Ao29 t484.length co29] (0, 0) _ rfl (by refine zr ?_; refine blk_put (cs := #[.int .i64 t481, .int .i64 t499, .string t483, .slice none 0 0]) ?_ 3 _ rfl; refine zr ?_; refine blk_put (cs := #[.int .i64 t481, .int .i64 t499, .string (⟨#[]⟩ : ByteArray), .slice none 0 0]) ?_ 2 _ rfl; refine zr ?_; refine blk_put (cs := #[.int .i64 t481, .int .i64 0, .string (⟨#[]⟩ : ByteArray), .slice none 0 0]) ?_ 1 _ rfl; refine zr ?_; refine blk_put (cs := #[.int .i64 0, .int .i64 0, .string (⟨#[]⟩ : ByteArray), .slice none 0 0]) ?_ 0 _ rfl; refine zr ?_; refine blk_far ?_ NB480_489.out _; refine zr ?_; exact BK480.out) Try.underlying29 rfl (by kernel_rfl)) rfl ?_
   exact ⟨_, rq, by refine kr ?_; exact Kd.R_mono (rf4 gb480 (.int .i64 t481) (.int .i64 t499) (.string t483) (.slice Ao29 t484.length co29) (Kd.R_far (p := ⟨gb489, 1, none⟩) (Kd.R_types (Kd.R_types HO486.out BK489.out (by decide)) BK480.out (by decide)) (fun _ hk => hk.1.2) (.int .i64 t499)) (fun _ hk => hk.2)) (fun _ hk => trivial), IsS135.q2 HI0.out NB0_480.out NB0_489.out, bq3 HB.out (IsS135.ge HI0.out) GE480.out GE489.out, kp2 HK.out GW480.out GW489.out⟩
 rw [if_neg c21] at H
 have c21b0 : (t490 == 1) = false := beq_eq_false_iff_ne.mpr c21
 have c21b1 : (t490 != 1) = true := bne_iff_ne.mpr c21
 by_cases c35 : t490 = 2
 · rw [if_pos c35] at H
   have c35b0 : (t490 == 2) = true := beq_iff_eq.mpr c35
   have c35b1 : (t490 != 2) = false := bne_eq_false_iff_eq.mpr c35
   clear c35
   replace H := Option.bind_eq_some_iff.mp H
   obtain ⟨⟨t502, t503, t504⟩, A360, H⟩ := H
   replace H : (if 0 ≤ (wrap64 (20 + t502)) then (if (wrap64 (20 + t502) : Int).toNat ≤ 281474976710656 then (some (t481, t482, strOfNums (List.replicate (wrap64 (20 + t502) : Int).toNat 0), t484, t503, t504)) else (none)) else (none)) = some (r1, r2, r3, r4, r5, r6) := H
   have A36 := am A360
   clear A360
   obtain ⟨ji37, hji37⟩ : ∃ j_ : Int, (wrap64 (20 + t502)) = j_ := ⟨_, rfl⟩
   replace H : (if 0 ≤ (ji37) then (if (ji37 : Int).toNat ≤ 281474976710656 then (some (t481, t482, strOfNums (List.replicate (ji37 : Int).toNat 0), t484, t503, t504)) else (none)) else (none)) = some (r1, r2, r3, r4, r5, r6) := by first | (rw [hji37] at H; exact H) | (simp only [hji37] at H ⊢; exact H)
   (try rw [hji37] at A2)
   (try rw [hji37] at A3)
   (try rw [hji37] at A36)
   have hji37w : (IntKind.i64.wrap (20 + t502)) = ji37 := (i64_w _).trans hji37
   by_cases c38 : 0 ≤ (ji37)
   rotate_left
   · rw [if_neg c38] at H
     exact absurd H (by simp)
   rw [if_pos c38] at H
   have c38b0 := eq_true c38
   have c38b1 : decide (0 ≤ (ji37)) = true := decide_eq_true c38
   clear c38
   by_cases c39 : (ji37 : Int).toNat ≤ 281474976710656
   rotate_left
   · rw [if_neg c39] at H
     exact absurd H (by simp)
   rw [if_pos c39] at H
   have c39b0 := eq_true c39
   have c39b1 : decide ((ji37 : Int).toNat ≤ 281474976710656) = true := decide_eq_true c39
   clear c39
   obtain ⟨y505, hy505⟩ : ∃ y_ : List Int, y_ = (List.replicate (ji37 : Int).toNat 0) := ⟨_, rfl⟩
   replace H : (some (t481, t482, strOfNums y505, t484, t503, t504)) = some (r1, r2, r3, r4, r5, r6) := hx H hy505
   have Ny505 := am hy505
   clear hy505
   simp only [Option.some.injEq, Prod.mk.injEq] at H
   obtain ⟨rfl, rfl, rfl, rfl, rfl, rfl⟩ := H
   go_enter Try.func104, Try.ntmps104
   go_wp2_with (first | ((with_reducible refine gate_dst (N := 2) rfl ?_); refine bxe 2 #[.int .i64 0, .int .i64 0, .string (⟨#[]⟩ : ByteArray), .slice none 0 0] 29 ?_; intro gb480 hg w40 hbox hb; have n_ := ak8 (IsS135.below (IsS135.q0 HI0.out) hb) (KeepBut.trans (kp0 HK.out) (KeepBut.of_below hb g none) (.inl rfl)) (below_step (bq1 HB.out (IsS135.ge HI0.out)) hb) hbox ((by rw [hg]; exact (keep_size (w := w) (g := g) (row := none) (kp0 HK.out)) : w.heap.size ≤ gb480)) ((Nat.le_trans HW0.out (by rw [hg]; exact (keep_size (w := w) (g := g) (row := none) (kp0 HK.out)) : w.heap.size ≤ gb480) : w0.heap.size ≤ gb480)) ((by rw [hg]; exact Nat.ne_of_lt (IsS135.lt (show IsS135 w0 _ g s0_0 s0_1 s0_2 from IsS135.q0 HI0.out)) : g ≠ gb480)) ((by rw [hg]; exact Nat.ne_of_gt (IsS135.lt (show IsS135 w0 _ g s0_0 s0_1 s0_2 from IsS135.q0 HI0.out)) : gb480 ≠ g)); clear HI0 HK HB; obtain ⟨HI0, HK, HB, BK480, GW480, GE480, NB0_480, NB480_0⟩ := n_; clear hb hbox hg) | ((with_reducible refine gate_callee (f := 105) rfl ?_); refine goesL_ (some 5) rfl rfl Try.func105 (by kernel_rfl) rfl #[.pointer (some ⟨g, 0, none⟩)] rfl ga ?_; (with_reducible refine (spec_l3Draw.calls k g s0_0 s0_1 s0_2 t481 t482 t483 t484 t487 t488 w0 _ ?side1 ?side2 A2.out).mono ?_); (case side1 => exact IsS135.q1 HI0.out NB0_480.out); (case side2 => exact bq2 HB.out (IsS135.ge HI0.out) GE480.out); rintro e w41 ⟨v485, rfl, ho0, hi, hb, hk⟩; refine ⟨_, rfl, ?_⟩; have n_ := ak5 (KeepBut.blk hk (zb BK480.out) NB480_0.out (by simp)) (Kd.R_lower ho0 (keep_size (w := w) (g := g) (row := none) (kp1 HK.out GW480.out))) (KeepBut.trans (kp1 HK.out GW480.out) hk (.inl rfl)) hb hi; clear BK480 HK HB HI0; obtain ⟨BK480, HO486, HK, HB, HI0⟩ := n_; (try clear hb hk hi ho0)) | ((with_reducible refine gate_dst (N := 3) rfl ?_); refine bxe 3 #[.int .i64 0, .int .i64 0, .string (⟨#[]⟩ : ByteArray), .slice none 0 0] 29 ?_; intro gb489 hg w42 hbox hb; have n_ := ak12 (Kd.R_below (kqR HO486.out) hb) (IsS135.below (IsS135.q1 HI0.out NB0_480.out) hb) (blk_below (zb BK480.out) hb) (KeepBut.trans (kp1 HK.out GW480.out) (KeepBut.of_below hb g none) (.inl rfl)) (below_step (bq2 HB.out (IsS135.ge HI0.out) GE480.out) hb) hbox ((by rw [hg]; exact (keep_size (w := w) (g := g) (row := none) (kp1 HK.out GW480.out)) : w.heap.size ≤ gb489)) ((Nat.le_trans HW0.out (by rw [hg]; exact (keep_size (w := w) (g := g) (row := none) (kp1 HK.out GW480.out)) : w.heap.size ≤ gb489) : w0.heap.size ≤ gb489)) ((nlt hg (zb BK480.out) : gb480 ≠ gb489)) ((ngt hg (zb BK480.out) : gb489 ≠ gb480)) ((by rw [hg]; exact Nat.ne_of_lt (IsS135.lt (show IsS135 w0 _ g s0_0 t487 t488 from IsS135.q1 HI0.out NB0_480.out)) : g ≠ gb489)) ((by rw [hg]; exact Nat.ne_of_gt (IsS135.lt (show IsS135 w0 _ g s0_0 t487 t488 from IsS135.q1 HI0.out NB0_480.out)) : gb489 ≠ g)); clear HO486 HI0 BK480 HK HB; obtain ⟨HO486, HI0, BK480, HK, HB, BK489, GW489, GE489, NB480_489, NB489_480, NB0_489, NB489_0⟩ := n_; clear hb hbox hg; have hnb43 := NB489_480.out; have hnc43 := NB480_489.out; have hnb44 := NB489_0.out; have hnc44 := NB0_489.out; obtain ⟨hcz45_0, hcz45_1, hcz45_2, hcz45_3, hfz45_0, hfz45_1, hfz45_2, hfz45_3⟩ := cl4 BK489.out; obtain ⟨Ao46, co46, eo46⟩ := Kd.R_slice HO486.out; subst eo46) | ((with_reducible refine gate_callee (f := 122) rfl ?_); refine goesL_ (some 7) rfl rfl Try.func122 (by kernel_rfl) rfl #[.pointer (some ⟨g, 0, none⟩), .int .i64 12] rfl ga ?_; (with_reducible refine (spec_l1Below.calls g s0_0 t487 t488 12 t490 t491 t492 w0 _ ?side1 ?side2 A3.out).mono ?_); (case side1 => exact IsS135.q2 HI0.out NB0_480.out NB0_489.out); (case side2 => exact bq3 HB.out (IsS135.ge HI0.out) GE480.out GE489.out); rintro e w47 ⟨rfl, hi, hb, hk⟩; refine ⟨_, rfl, ?_⟩; have n_ := ak6 (KeepBut.blk hk (g' := gb480) (o := .cells #[.int .i64 0, .int .i64 0, .string (⟨#[]⟩ : ByteArray), .slice none 0 0] 29 (0, 0)) (by refine zr ?_; refine blk_far ?_ NB480_489.out _; refine zr ?_; refine blk_far ?_ NB480_489.out _; refine zr ?_; refine blk_far ?_ NB480_489.out _; refine zr ?_; refine blk_far ?_ NB480_489.out _; refine zr ?_; exact BK480.out) NB480_0.out (by simp)) (Kd.R_mono (Kd.R_keep (IsS135.apart (show IsS135 w0 _ g s0_0 t487 t488 from IsS135.q2 HI0.out NB0_480.out NB0_489.out) (by refine kr ?_; exact (Kd.R_mono (rf4 gb489 (.int .i64 t481) (.int .i64 t482) (.string t483) (.slice Ao46 t484.length co46) (Kd.R_types HO486.out BK489.out (by decide)) (fun _ hk => hk.2)) (fun _ h_ => h_.1))) (by decide)) hk (fun _ h => h.2)) (fun _ h => h.1)) (KeepBut.blk hk (g' := gb489) (o := .cells #[.int .i64 t481, .int .i64 t482, .string t483, .slice Ao46 t484.length co46] 29 (0, 0)) (by refine zr ?_; exact bp4 (zb BK489.out)) NB489_0.out (by simp)) (KeepBut.trans (kp2 HK.out GW480.out GW489.out) hk (.inl rfl)) hb hi; clear BK480 HO486 BK489 HK HB HI0; obtain ⟨BK480, HO486, BK489, HK, HB, HI0⟩ := n_; (try clear hb hk hi)) | ((with_reducible refine gate_callee (f := 122) rfl ?_); refine goesL_ (some 22) rfl rfl Try.func122 (by kernel_rfl) rfl #[.pointer (some ⟨g, 0, none⟩), .int .i64 2] rfl ga ?_; (with_reducible refine (spec_l1Below.calls g s0_0 t491 t492 2 t502 t503 t504 w0 _ ?side1 ?side2 A36.out).mono ?_); (case side1 => exact IsS135.q2 HI0.out NB0_480.out NB0_489.out); (case side2 => exact bq3 HB.out (IsS135.ge HI0.out) GE480.out GE489.out); rintro e w48 ⟨rfl, hi, hb, hk⟩; refine ⟨_, rfl, ?_⟩; have n_ := ak6 (KeepBut.blk hk (zb BK480.out) NB480_0.out (by simp)) (Kd.R_mono (Kd.R_keep (IsS135.apart (show IsS135 w0 _ g s0_0 t491 t492 from IsS135.q2 HI0.out NB0_480.out NB0_489.out) (kqR HO486.out) (by decide)) hk (fun _ h => h.2)) (fun _ h => h.1)) (KeepBut.blk hk (zb BK489.out) NB489_0.out (by simp)) (KeepBut.trans (kp2 HK.out GW480.out GW489.out) hk (.inl rfl)) hb hi; clear BK480 HO486 BK489 HK HB HI0; obtain ⟨BK480, HO486, BK489, HK, HB, HI0⟩ := n_; (try clear hb hk hi)) | ((with_reducible refine gate_dst (N := 24) rfl ?_); refine Kd.R_make (Kd.int .u8) _ 5 rfl (N := 24) rfl 22 _ _ rfl ji37 rfl rfl Try.underlying22 (.int .u8 0) 1 info5 rfl (by decide) (by omega) 0 (ok := fun _ => True) (okp := fun _ => True) rfl (fun _ hk => hk) trivial (oda) (Nat.le_trans (Nat.mul_le_mul_right _ (oda : ji37.toNat ≤ 281474976710656)) (by omega)) (Below.refl _ _) (Nat.le_refl _) ?_; intro v506 w49 ho50 hb hg_ hnew_; clear hg_ hnew_; (first | rw [← Ny505.out] at ho50 | (simp only [Int.reduceToNat] at ho50; rw [← Ny505.out] at ho50)); have n_ := ak7 (Kd.R_below (kqR HO486.out) hb) (Kd.R_lower ho50 (keep_size (w := w) (g := g) (row := none) (kp2 HK.out GW480.out GW489.out))) (IsS135.below (IsS135.q2 HI0.out NB0_480.out NB0_489.out) hb) (blk_below (zb BK480.out) hb) (blk_below (zb BK489.out) hb) (KeepBut.trans (kp2 HK.out GW480.out GW489.out) (KeepBut.of_below hb g none) (.inl rfl)) (below_step (bq3 HB.out (IsS135.ge HI0.out) GE480.out GE489.out) hb); clear HO486 HI0 BK480 BK489 HK HB; obtain ⟨HO486, HO507, HI0, BK480, BK489, HK, HB⟩ := n_; clear hb ho50; have hcv51 := own_string (P := Try.prog) Try.underlying22 Try.underlying5 Try.underlying9 (Kd.own_of_R HO507.out); obtain ⟨hcz52_0, hcz52_1, hcz52_2, hcz52_3, hfz52_0, hfz52_1, hfz52_2, hfz52_3⟩ := cl4 BK489.out; have hnb53 := NB480_0.out; have hnc53 := NB0_480.out; obtain ⟨hcz54_0, hcz54_1, hcz54_2, hcz54_3, hfz54_0, hfz54_1, hfz54_2, hfz54_3⟩ := cl4 BK480.out))
   refine bodyPost_ret (results_cell_row rfl _ _ gb480 29 #[.int .i64 t481, .int .i64 t482, .string (strOfNums y505), .slice Ao46 t484.length co46] (0, 0) _ rfl (by refine zr ?_; refine blk_put (cs := #[.int .i64 t481, .int .i64 t482, .string (strOfNums y505), .slice none 0 0]) ?_ 3 _ rfl; refine zr ?_; refine blk_put (cs := #[.int .i64 t481, .int .i64 t482, .string (⟨#[]⟩ : ByteArray), .slice none 0 0]) ?_ 2 _ rfl; refine zr ?_; refine blk_put (cs := #[.int .i64 t481, .int .i64 0, .string (⟨#[]⟩ : ByteArray), .slice none 0 0]) ?_ 1 _ rfl; refine zr ?_; refine blk_put (cs := #[.int .i64 0, .int .i64 0, .string (⟨#[]⟩ : ByteArray), .slice none 0 0]) ?_ 0 _ rfl; refine zr ?_; refine blk_far ?_ NB480_489.out _; refine zr ?_; exact BK480.out) Try.underlying29 rfl (by kernel_rfl)) rfl ?_
   exact ⟨_, by first | rfl | (simp [errW_none, errW_some] <;> rfl) | (simp only [← hji37]; first | rfl | (simp [errW_none, errW_some] <;> rfl)) | (simp [*, errW_none, errW_some] <;> rfl), by refine kr ?_; exact Kd.R_mono (rf4 gb480 (.int .i64 t481) (.int .i64 t482) (.string (strOfNums y505)) (.slice Ao46 t484.length co46) (Kd.R_far (p := ⟨gb489, 2, none⟩) (Kd.R_types (Kd.R_types HO486.out BK489.out (by decide)) BK480.out (by decide)) (fun _ hk => hk.1.2) (.string (strOfNums y505))) (fun _ hk => hk.2)) (fun _ hk => trivial), IsS135.q2 HI0.out NB0_480.out NB0_489.out, bq3 HB.out (IsS135.ge HI0.out) GE480.out GE489.out, kp2 HK.out GW480.out GW489.out⟩
 rw [if_neg c35] at H
 have c35b0 : (t490 == 2) = false := beq_eq_false_iff_ne.mpr c35
 have c35b1 : (t490 != 2) = true := bne_iff_ne.mpr c35
 by_cases c55 : t490 = 3
 rotate_left
 · rw [if_neg c55] at H
   have c55b0 : (t490 == 3) = false := beq_eq_false_iff_ne.mpr c55
   have c55b1 : (t490 != 3) = true := bne_iff_ne.mpr c55
   simp only [Option.some.injEq, Prod.mk.injEq] at H
   obtain ⟨rfl, rfl, rfl, rfl, rfl, rfl⟩ := H
   go_enter Try.func104, Try.ntmps104
   go_wp2_with (first | ((with_reducible refine gate_dst (N := 2) rfl ?_); refine bxe 2 #[.int .i64 0, .int .i64 0, .string (⟨#[]⟩ : ByteArray), .slice none 0 0] 29 ?_; intro gb480 hg w70 hbox hb; have n_ := ak8 (IsS135.below (IsS135.q0 HI0.out) hb) (KeepBut.trans (kp0 HK.out) (KeepBut.of_below hb g none) (.inl rfl)) (below_step (bq1 HB.out (IsS135.ge HI0.out)) hb) hbox ((by rw [hg]; exact (keep_size (w := w) (g := g) (row := none) (kp0 HK.out)) : w.heap.size ≤ gb480)) ((Nat.le_trans HW0.out (by rw [hg]; exact (keep_size (w := w) (g := g) (row := none) (kp0 HK.out)) : w.heap.size ≤ gb480) : w0.heap.size ≤ gb480)) ((by rw [hg]; exact Nat.ne_of_lt (IsS135.lt (show IsS135 w0 _ g s0_0 s0_1 s0_2 from IsS135.q0 HI0.out)) : g ≠ gb480)) ((by rw [hg]; exact Nat.ne_of_gt (IsS135.lt (show IsS135 w0 _ g s0_0 s0_1 s0_2 from IsS135.q0 HI0.out)) : gb480 ≠ g)); clear HI0 HK HB; obtain ⟨HI0, HK, HB, BK480, GW480, GE480, NB0_480, NB480_0⟩ := n_; clear hb hbox hg) | ((with_reducible refine gate_callee (f := 105) rfl ?_); refine goesL_ (some 5) rfl rfl Try.func105 (by kernel_rfl) rfl #[.pointer (some ⟨g, 0, none⟩)] rfl ga ?_; (with_reducible refine (spec_l3Draw.calls k g s0_0 s0_1 s0_2 t481 t482 t483 t484 t487 t488 w0 _ ?side1 ?side2 A2.out).mono ?_); (case side1 => exact IsS135.q1 HI0.out NB0_480.out); (case side2 => exact bq2 HB.out (IsS135.ge HI0.out) GE480.out); rintro e w71 ⟨v485, rfl, ho0, hi, hb, hk⟩; refine ⟨_, rfl, ?_⟩; have n_ := ak5 (KeepBut.blk hk (zb BK480.out) NB480_0.out (by simp)) (Kd.R_lower ho0 (keep_size (w := w) (g := g) (row := none) (kp1 HK.out GW480.out))) (KeepBut.trans (kp1 HK.out GW480.out) hk (.inl rfl)) hb hi; clear BK480 HK HB HI0; obtain ⟨BK480, HO486, HK, HB, HI0⟩ := n_; (try clear hb hk hi ho0)) | ((with_reducible refine gate_dst (N := 3) rfl ?_); refine bxe 3 #[.int .i64 0, .int .i64 0, .string (⟨#[]⟩ : ByteArray), .slice none 0 0] 29 ?_; intro gb489 hg w72 hbox hb; have n_ := ak12 (Kd.R_below (kqR HO486.out) hb) (IsS135.below (IsS135.q1 HI0.out NB0_480.out) hb) (blk_below (zb BK480.out) hb) (KeepBut.trans (kp1 HK.out GW480.out) (KeepBut.of_below hb g none) (.inl rfl)) (below_step (bq2 HB.out (IsS135.ge HI0.out) GE480.out) hb) hbox ((by rw [hg]; exact (keep_size (w := w) (g := g) (row := none) (kp1 HK.out GW480.out)) : w.heap.size ≤ gb489)) ((Nat.le_trans HW0.out (by rw [hg]; exact (keep_size (w := w) (g := g) (row := none) (kp1 HK.out GW480.out)) : w.heap.size ≤ gb489) : w0.heap.size ≤ gb489)) ((nlt hg (zb BK480.out) : gb480 ≠ gb489)) ((ngt hg (zb BK480.out) : gb489 ≠ gb480)) ((by rw [hg]; exact Nat.ne_of_lt (IsS135.lt (show IsS135 w0 _ g s0_0 t487 t488 from IsS135.q1 HI0.out NB0_480.out)) : g ≠ gb489)) ((by rw [hg]; exact Nat.ne_of_gt (IsS135.lt (show IsS135 w0 _ g s0_0 t487 t488 from IsS135.q1 HI0.out NB0_480.out)) : gb489 ≠ g)); clear HO486 HI0 BK480 HK HB; obtain ⟨HO486, HI0, BK480, HK, HB, BK489, GW489, GE489, NB480_489, NB489_480, NB0_489, NB489_0⟩ := n_; clear hb hbox hg; have hnb73 := NB489_480.out; have hnc73 := NB480_489.out; have hnb74 := NB489_0.out; have hnc74 := NB0_489.out; obtain ⟨hcz75_0, hcz75_1, hcz75_2, hcz75_3, hfz75_0, hfz75_1, hfz75_2, hfz75_3⟩ := cl4 BK489.out; obtain ⟨Ao76, co76, eo76⟩ := Kd.R_slice HO486.out; subst eo76) | ((with_reducible refine gate_callee (f := 122) rfl ?_); refine goesL_ (some 7) rfl rfl Try.func122 (by kernel_rfl) rfl #[.pointer (some ⟨g, 0, none⟩), .int .i64 12] rfl ga ?_; (with_reducible refine (spec_l1Below.calls g s0_0 t487 t488 12 t490 t491 t492 w0 _ ?side1 ?side2 A3.out).mono ?_); (case side1 => exact IsS135.q2 HI0.out NB0_480.out NB0_489.out); (case side2 => exact bq3 HB.out (IsS135.ge HI0.out) GE480.out GE489.out); rintro e w77 ⟨rfl, hi, hb, hk⟩; refine ⟨_, rfl, ?_⟩; have n_ := ak6 (KeepBut.blk hk (g' := gb480) (o := .cells #[.int .i64 0, .int .i64 0, .string (⟨#[]⟩ : ByteArray), .slice none 0 0] 29 (0, 0)) (by refine zr ?_; refine blk_far ?_ NB480_489.out _; refine zr ?_; refine blk_far ?_ NB480_489.out _; refine zr ?_; refine blk_far ?_ NB480_489.out _; refine zr ?_; refine blk_far ?_ NB480_489.out _; refine zr ?_; exact BK480.out) NB480_0.out (by simp)) (Kd.R_mono (Kd.R_keep (IsS135.apart (show IsS135 w0 _ g s0_0 t487 t488 from IsS135.q2 HI0.out NB0_480.out NB0_489.out) (by refine kr ?_; exact (Kd.R_mono (rf4 gb489 (.int .i64 t481) (.int .i64 t482) (.string t483) (.slice Ao76 t484.length co76) (Kd.R_types HO486.out BK489.out (by decide)) (fun _ hk => hk.2)) (fun _ h_ => h_.1))) (by decide)) hk (fun _ h => h.2)) (fun _ h => h.1)) (KeepBut.blk hk (g' := gb489) (o := .cells #[.int .i64 t481, .int .i64 t482, .string t483, .slice Ao76 t484.length co76] 29 (0, 0)) (by refine zr ?_; exact bp4 (zb BK489.out)) NB489_0.out (by simp)) (KeepBut.trans (kp2 HK.out GW480.out GW489.out) hk (.inl rfl)) hb hi; clear BK480 HO486 BK489 HK HB HI0; obtain ⟨BK480, HO486, BK489, HK, HB, HI0⟩ := n_; (try clear hb hk hi); obtain ⟨hcz78_0, hcz78_1, hcz78_2, hcz78_3, hfz78_0, hfz78_1, hfz78_2, hfz78_3⟩ := cl4 BK489.out; have hnb79 := NB480_0.out; have hnc79 := NB0_480.out; obtain ⟨hcz80_0, hcz80_1, hcz80_2, hcz80_3, hfz80_0, hfz80_1, hfz80_2, hfz80_3⟩ := cl4 BK480.out))
   refine bodyPost_ret (results_cell_row rfl _ _ gb480 29 #[.int .i64 t481, .int .i64 t482, .string t483, .slice Ao76 t484.length co76] (0, 0) _ rfl (by refine zr ?_; exact bp4 (zb BK480.out)) Try.underlying29 rfl (by kernel_rfl)) rfl ?_
   exact ⟨_, rq, by refine kr ?_; exact Kd.R_mono (rf4 gb480 (.int .i64 t481) (.int .i64 t482) (.string t483) (.slice Ao76 t484.length co76) (Kd.R_types HO486.out BK480.out (by decide)) (fun _ hk => hk.2)) (fun _ hk => trivial), IsS135.q2 HI0.out NB0_480.out NB0_489.out, bq3 HB.out (IsS135.ge HI0.out) GE480.out GE489.out, kp2 HK.out GW480.out GW489.out⟩
 rw [if_pos c55] at H
 have c55b0 : (t490 == 3) = true := beq_iff_eq.mpr c55
 have c55b1 : (t490 != 3) = false := bne_eq_false_iff_eq.mpr c55
 clear c55
 replace H := Option.bind_eq_some_iff.mp H
 obtain ⟨⟨t508, t511, t512⟩, A560, H⟩ := H
 replace H : (some (t481, t482, t483, t508, t511, t512)) = some (r1, r2, r3, r4, r5, r6) := H
 have A56 := am A560
 clear A560
 simp only [Option.some.injEq, Prod.mk.injEq] at H
 obtain ⟨rfl, rfl, rfl, rfl, rfl, rfl⟩ := H
 go_enter Try.func104, Try.ntmps104
 go_wp2_with (first | ((with_reducible refine gate_dst (N := 2) rfl ?_); refine bxe 2 #[.int .i64 0, .int .i64 0, .string (⟨#[]⟩ : ByteArray), .slice none 0 0] 29 ?_; intro gb480 hg w57 hbox hb; have n_ := ak8 (IsS135.below (IsS135.q0 HI0.out) hb) (KeepBut.trans (kp0 HK.out) (KeepBut.of_below hb g none) (.inl rfl)) (below_step (bq1 HB.out (IsS135.ge HI0.out)) hb) hbox ((by rw [hg]; exact (keep_size (w := w) (g := g) (row := none) (kp0 HK.out)) : w.heap.size ≤ gb480)) ((Nat.le_trans HW0.out (by rw [hg]; exact (keep_size (w := w) (g := g) (row := none) (kp0 HK.out)) : w.heap.size ≤ gb480) : w0.heap.size ≤ gb480)) ((by rw [hg]; exact Nat.ne_of_lt (IsS135.lt (show IsS135 w0 _ g s0_0 s0_1 s0_2 from IsS135.q0 HI0.out)) : g ≠ gb480)) ((by rw [hg]; exact Nat.ne_of_gt (IsS135.lt (show IsS135 w0 _ g s0_0 s0_1 s0_2 from IsS135.q0 HI0.out)) : gb480 ≠ g)); clear HI0 HK HB; obtain ⟨HI0, HK, HB, BK480, GW480, GE480, NB0_480, NB480_0⟩ := n_; clear hb hbox hg) | ((with_reducible refine gate_callee (f := 105) rfl ?_); refine goesL_ (some 5) rfl rfl Try.func105 (by kernel_rfl) rfl #[.pointer (some ⟨g, 0, none⟩)] rfl ga ?_; (with_reducible refine (spec_l3Draw.calls k g s0_0 s0_1 s0_2 t481 t482 t483 t484 t487 t488 w0 _ ?side1 ?side2 A2.out).mono ?_); (case side1 => exact IsS135.q1 HI0.out NB0_480.out); (case side2 => exact bq2 HB.out (IsS135.ge HI0.out) GE480.out); rintro e w58 ⟨v485, rfl, ho0, hi, hb, hk⟩; refine ⟨_, rfl, ?_⟩; have n_ := ak5 (KeepBut.blk hk (zb BK480.out) NB480_0.out (by simp)) (Kd.R_lower ho0 (keep_size (w := w) (g := g) (row := none) (kp1 HK.out GW480.out))) (KeepBut.trans (kp1 HK.out GW480.out) hk (.inl rfl)) hb hi; clear BK480 HK HB HI0; obtain ⟨BK480, HO486, HK, HB, HI0⟩ := n_; (try clear hb hk hi ho0)) | ((with_reducible refine gate_dst (N := 3) rfl ?_); refine bxe 3 #[.int .i64 0, .int .i64 0, .string (⟨#[]⟩ : ByteArray), .slice none 0 0] 29 ?_; intro gb489 hg w59 hbox hb; have n_ := ak12 (Kd.R_below (kqR HO486.out) hb) (IsS135.below (IsS135.q1 HI0.out NB0_480.out) hb) (blk_below (zb BK480.out) hb) (KeepBut.trans (kp1 HK.out GW480.out) (KeepBut.of_below hb g none) (.inl rfl)) (below_step (bq2 HB.out (IsS135.ge HI0.out) GE480.out) hb) hbox ((by rw [hg]; exact (keep_size (w := w) (g := g) (row := none) (kp1 HK.out GW480.out)) : w.heap.size ≤ gb489)) ((Nat.le_trans HW0.out (by rw [hg]; exact (keep_size (w := w) (g := g) (row := none) (kp1 HK.out GW480.out)) : w.heap.size ≤ gb489) : w0.heap.size ≤ gb489)) ((nlt hg (zb BK480.out) : gb480 ≠ gb489)) ((ngt hg (zb BK480.out) : gb489 ≠ gb480)) ((by rw [hg]; exact Nat.ne_of_lt (IsS135.lt (show IsS135 w0 _ g s0_0 t487 t488 from IsS135.q1 HI0.out NB0_480.out)) : g ≠ gb489)) ((by rw [hg]; exact Nat.ne_of_gt (IsS135.lt (show IsS135 w0 _ g s0_0 t487 t488 from IsS135.q1 HI0.out NB0_480.out)) : gb489 ≠ g)); clear HO486 HI0 BK480 HK HB; obtain ⟨HO486, HI0, BK480, HK, HB, BK489, GW489, GE489, NB480_489, NB489_480, NB0_489, NB489_0⟩ := n_; clear hb hbox hg; have hnb60 := NB489_480.out; have hnc60 := NB480_489.out; have hnb61 := NB489_0.out; have hnc61 := NB0_489.out; obtain ⟨hcz62_0, hcz62_1, hcz62_2, hcz62_3, hfz62_0, hfz62_1, hfz62_2, hfz62_3⟩ := cl4 BK489.out; obtain ⟨Ao63, co63, eo63⟩ := Kd.R_slice HO486.out; subst eo63) | ((with_reducible refine gate_callee (f := 122) rfl ?_); refine goesL_ (some 7) rfl rfl Try.func122 (by kernel_rfl) rfl #[.pointer (some ⟨g, 0, none⟩), .int .i64 12] rfl ga ?_; (with_reducible refine (spec_l1Below.calls g s0_0 t487 t488 12 t490 t491 t492 w0 _ ?side1 ?side2 A3.out).mono ?_); (case side1 => exact IsS135.q2 HI0.out NB0_480.out NB0_489.out); (case side2 => exact bq3 HB.out (IsS135.ge HI0.out) GE480.out GE489.out); rintro e w64 ⟨rfl, hi, hb, hk⟩; refine ⟨_, rfl, ?_⟩; have n_ := ak6 (KeepBut.blk hk (g' := gb480) (o := .cells #[.int .i64 0, .int .i64 0, .string (⟨#[]⟩ : ByteArray), .slice none 0 0] 29 (0, 0)) (by refine zr ?_; refine blk_far ?_ NB480_489.out _; refine zr ?_; refine blk_far ?_ NB480_489.out _; refine zr ?_; refine blk_far ?_ NB480_489.out _; refine zr ?_; refine blk_far ?_ NB480_489.out _; refine zr ?_; exact BK480.out) NB480_0.out (by simp)) (Kd.R_mono (Kd.R_keep (IsS135.apart (show IsS135 w0 _ g s0_0 t487 t488 from IsS135.q2 HI0.out NB0_480.out NB0_489.out) (by refine kr ?_; exact (Kd.R_mono (rf4 gb489 (.int .i64 t481) (.int .i64 t482) (.string t483) (.slice Ao63 t484.length co63) (Kd.R_types HO486.out BK489.out (by decide)) (fun _ hk => hk.2)) (fun _ h_ => h_.1))) (by decide)) hk (fun _ h => h.2)) (fun _ h => h.1)) (KeepBut.blk hk (g' := gb489) (o := .cells #[.int .i64 t481, .int .i64 t482, .string t483, .slice Ao63 t484.length co63] 29 (0, 0)) (by refine zr ?_; exact bp4 (zb BK489.out)) NB489_0.out (by simp)) (KeepBut.trans (kp2 HK.out GW480.out GW489.out) hk (.inl rfl)) hb hi; clear BK480 HO486 BK489 HK HB HI0; obtain ⟨BK480, HO486, BK489, HK, HB, HI0⟩ := n_; (try clear hb hk hi)) | ((with_reducible refine gate_callee (f := 134) rfl ?_); refine goesL_ (some 30) rfl rfl Try.func134 (by kernel_rfl) rfl #[.pointer (some ⟨g, 0, none⟩)] rfl ga ?_; (with_reducible refine (spec_l2Any.calls k g s0_0 t491 t492 t508 t511 t512 w0 _ ?side1 ?side2 A56.out).mono ?_); (case side1 => exact IsS135.q2 HI0.out NB0_480.out NB0_489.out); (case side2 => exact bq3 HB.out (IsS135.ge HI0.out) GE480.out GE489.out); rintro e w65 ⟨v509, rfl, ho0, hi, hb, hk⟩; refine ⟨_, rfl, ?_⟩; have n_ := ak7 (KeepBut.blk hk (zb BK480.out) NB480_0.out (by simp)) (Kd.R_mono (Kd.R_told (Kd.R_oldK (IsS135.apart (show IsS135 w0 _ g s0_0 t491 t492 from IsS135.q2 HI0.out NB0_480.out NB0_489.out) (kqR HO486.out) (by decide)) hk) (Kd.R_base ho0)) (fun _ h_ => h_.1)) (KeepBut.blk hk (zb BK489.out) NB489_0.out (by simp)) (Kd.R_lower (Kd.R_new' ho0 (Kd.R_lt (kqR HO486.out))) (keep_size (w := w) (g := g) (row := none) (kp2 HK.out GW480.out GW489.out))) (KeepBut.trans (kp2 HK.out GW480.out GW489.out) hk (.inl rfl)) hb hi; clear BK480 HO486 BK489 HK HB HI0; obtain ⟨BK480, HO486, BK489, HO510, HK, HB, HI0⟩ := n_; (try clear hb hk hi ho0); obtain ⟨Ao66, co66, eo66⟩ := Kd.R_slice HO510.out; subst eo66; obtain ⟨hcz67_0, hcz67_1, hcz67_2, hcz67_3, hfz67_0, hfz67_1, hfz67_2, hfz67_3⟩ := cl4 BK489.out; have hnb68 := NB480_0.out; have hnc68 := NB0_480.out; obtain ⟨hcz69_0, hcz69_1, hcz69_2, hcz69_3, hfz69_0, hfz69_1, hfz69_2, hfz69_3⟩ := cl4 BK480.out))
 refine bodyPost_ret (results_cell_row rfl _ _ gb480 29 #[.int .i64 t481, .int .i64 t482, .string t483, .slice Ao66 t508.length co66] (0, 0) _ rfl (by refine zr ?_; refine blk_put (cs := #[.int .i64 t481, .int .i64 t482, .string t483, .slice none 0 0]) ?_ 3 _ rfl; refine zr ?_; refine blk_put (cs := #[.int .i64 t481, .int .i64 t482, .string (⟨#[]⟩ : ByteArray), .slice none 0 0]) ?_ 2 _ rfl; refine zr ?_; refine blk_put (cs := #[.int .i64 t481, .int .i64 0, .string (⟨#[]⟩ : ByteArray), .slice none 0 0]) ?_ 1 _ rfl; refine zr ?_; refine blk_put (cs := #[.int .i64 0, .int .i64 0, .string (⟨#[]⟩ : ByteArray), .slice none 0 0]) ?_ 0 _ rfl; refine zr ?_; refine blk_far ?_ NB480_489.out _; refine zr ?_; exact BK480.out) Try.underlying29 rfl (by kernel_rfl)) rfl ?_
 exact ⟨_, rq, by refine kr ?_; exact Kd.R_mono (rf4 gb480 (.int .i64 t481) (.int .i64 t482) (.string t483) (.slice Ao66 t508.length co66) (Kd.R_far (p := ⟨gb489, 3, none⟩) (Kd.R_types (Kd.R_types HO510.out BK489.out (by decide)) BK480.out (by decide)) (fun _ hk => hk.1.2) (.slice Ao66 t508.length co66)) (fun _ hk => hk.2)) (fun _ hk => trivial), IsS135.q2 HI0.out NB0_480.out NB0_489.out, bq3 HB.out (IsS135.ge HI0.out) GE480.out GE489.out, kp2 HK.out GW480.out GW489.out⟩
def spec_DrawPutVal.f (k : Nat) (l0 : List Int) : Option (List Int × Int × Int × ByteArray × List Int) := (spec_l1New.f k l0).bind fun bt514 => ((spec_l1Some.f k bt514.1 bt514.2.1 bt514.2.2).bind fun bt518 => ((spec_l3Any.f k bt514.1 bt518.2.1 bt518.2.2).bind fun bt523 => (some (bt518.1, bt523.1, bt523.2.1, bt523.2.2.1, bt523.2.2.2.1))))
theorem spec_DrawPutVal.mono : ∀ a0 k, LeO (spec_DrawPutVal.f k a0) (spec_DrawPutVal.f (k + 1) a0) := by
 intro a0 k
 unfold spec_DrawPutVal.f
 repeat' first
  | (with_reducible exact spec_l1New.mono _ _)
  | (with_reducible exact spec_l1Some.mono _ _ _ _)
  | (with_reducible exact spec_l3Any.mono _ _ _ _)
  | (with_reducible exact LeO.refl _)
  | (with_reducible exact LeO.none _)
  | (with_reducible refine LeO.ite ?_ ?_)
  | (with_reducible refine LeO.bind ?_ (fun _ => ?_))
  | exact spec_l1New.mono _ _
  | exact spec_l1Some.mono _ _ _ _
  | exact spec_l3Any.mono _ _ _ _
  | exact LeO.none _
  | refine LeO.ite ?_ ?_
  | refine LeO.bind ?_ (fun _ => ?_)
theorem spec_DrawPutVal.calls (k : Nat) (A0 : Option Addr) (c0 : Nat) (l0 : List Int) (r1 : List Int) (r2 : Int) (r3 : Int) (r4 : ByteArray) (r5 : List Int) (w : World) (hr0 : Kd.C (Kd.int .u8) w A0 l0.length l0) (hc0 : l0.length ≤ c0) (h : spec_DrawPutVal.f k l0 = some (r1, r2, r3, r4, r5)) :
 Calls Try.prog 44 #[.slice A0 l0.length c0] w fun e w' => ∃ v0_ v4_ : Value, e = .returned (.tuple #[v0_, .agg #[.int .i64 r2, .int .i64 r3, .string r4, v4_]]) ∧ Kd.R (Kd.int .u8) 5 w' w.heap.size (fun _ => True) v0_ r1 ∧ Kd.R (Kd.int .i64) 3 w' w.heap.size (fun _ => True) v4_ r5 ∧ Below w.heap.size w w' := by
 have hu29 := Try.underlying29
 have HR0 := am hr0
 have HC0 := am hc0
 clear hr0 hc0
 have HB := am (Below.refl w.heap.size w)
 have H : ((spec_l1New.f k l0).bind fun bt514 => ((spec_l1Some.f k bt514.1 bt514.2.1 bt514.2.2).bind fun bt518 => ((spec_l3Any.f k bt514.1 bt518.2.1 bt518.2.2).bind fun bt523 => (some (bt518.1, bt523.1, bt523.2.1, bt523.2.2.1, bt523.2.2.2.1))))) = some (r1, r2, r3, r4, r5) := h
 clear h
 replace H := Option.bind_eq_some_iff.mp H
 obtain ⟨⟨t514, t515, t516⟩, A20, H⟩ := H
 replace H : ((spec_l1Some.f k t514 t515 t516).bind fun bt518 => ((spec_l3Any.f k t514 bt518.2.1 bt518.2.2).bind fun bt523 => (some (bt518.1, bt523.1, bt523.2.1, bt523.2.2.1, bt523.2.2.2.1)))) = some (r1, r2, r3, r4, r5) := H
 have A2 := am A20
 clear A20
 replace H := Option.bind_eq_some_iff.mp H
 obtain ⟨⟨t518, t521, t522⟩, A30, H⟩ := H
 replace H : ((spec_l3Any.f k t514 t521 t522).bind fun bt523 => (some (t518, bt523.1, bt523.2.1, bt523.2.2.1, bt523.2.2.2.1))) = some (r1, r2, r3, r4, r5) := H
 have A3 := am A30
 clear A30
 replace H := Option.bind_eq_some_iff.mp H
 obtain ⟨⟨t523, t524, t525, t526, t529, t530⟩, A40, H⟩ := H
 replace H : (some (t518, t523, t524, t525, t526)) = some (r1, r2, r3, r4, r5) := H
 have A4 := am A40
 clear A40
 simp only [Option.some.injEq, Prod.mk.injEq] at H
 obtain ⟨rfl, rfl, rfl, rfl, rfl⟩ := H
 go_enter Try.func44, Try.ntmps44
 go_wp2_with (first | ((with_reducible refine gate_dst (N := 3) rfl ?_); refine bxe 3 #[.int .i64 0, .int .i64 0, .string (⟨#[]⟩ : ByteArray), .slice none 0 0] 29 ?_; intro gb513 hg w5 hbox hb; have n_ := ak4 (below_step (bq HB.out) hb) hbox ((by rw [hg]; exact (below_size (bq HB.out)) : w.heap.size ≤ gb513)) ((by rw [hg]; exact (below_size (bq HB.out)) : w.heap.size ≤ gb513)); clear HB; obtain ⟨HB, BK513, GW513, GE513⟩ := n_; clear hb hbox hg) | ((with_reducible refine gate_callee (f := 74) rfl ?_); refine goesL_ (some 6) rfl rfl Try.func74 (by kernel_rfl) rfl #[.slice A0 l0.length c0] rfl ga ?_; (with_reducible refine (spec_l1New.calls k _ _ l0 t514 t515 t516 w _ ?side1 ?side2 ?side3 A2.out).mono ?_); (case side1 => exact bq1 HB.out GE513.out); (case side2 => exact HR0.out); (case side3 => exact HC0.out); rintro e w6 ⟨g517, rfl, hi, hb, hb2⟩; refine ⟨_, rfl, ?_⟩; have n_ := ak5 (blk_below (zb BK513.out) hb2) hb hi (IsS135.ne_blk hi (blk_below (zb BK513.out) hb2) (by decide)) (Ne.symm (IsS135.ne_blk hi (blk_below (zb BK513.out) hb2) (by decide))); clear BK513 HB; obtain ⟨BK513, HB, HI517, NB517_513, NB513_517⟩ := n_; (try clear hb hb2 hi)) | ((with_reducible refine gate_callee (f := 103) rfl ?_); refine goesL_ (some 8) rfl rfl Try.func103 (by kernel_rfl) rfl #[.pointer (some ⟨g517, 0, none⟩)] rfl ga ?_; (with_reducible refine (spec_l1Some.calls k g517 t514 t515 t516 t518 t521 t522 w _ ?side1 ?side2 A3.out).mono ?_); (case side1 => exact IsS135.q1 HI517.out NB517_513.out); (case side2 => exact bq2 HB.out (IsS135.ge HI517.out) GE513.out); rintro e w7 ⟨v519, rfl, ho0, hi, hb, hk⟩; refine ⟨_, rfl, ?_⟩; have n_ := ak4 (KeepBut.blk hk (zb BK513.out) NB513_517.out (by simp)) (Kd.R_lower ho0 (below_size (bq2 HB.out (IsS135.ge HI517.out) GE513.out))) hb hi; clear BK513 HB HI517; obtain ⟨BK513, HO520, HB, HI517⟩ := n_; (try clear hb hk hi ho0)) | ((with_reducible refine gate_callee (f := 104) rfl ?_); refine goesL_ (some 10) rfl rfl Try.func104 (by kernel_rfl) rfl #[.pointer (some ⟨g517, 0, none⟩)] rfl ga ?_; (with_reducible refine (spec_l3Any.calls k g517 t514 t521 t522 t523 t524 t525 t526 t529 t530 w _ ?side1 ?side2 A4.out).mono ?_); (case side1 => exact IsS135.q1 HI517.out NB517_513.out); (case side2 => exact bq2 HB.out (IsS135.ge HI517.out) GE513.out); rintro e w8 ⟨v527, rfl, ho0, hi, hb, hk⟩; refine ⟨_, rfl, ?_⟩; have n_ := ak5 (KeepBut.blk hk (zb BK513.out) NB513_517.out (by simp)) (Kd.R_mono (Kd.R_keep (IsS135.apart (show IsS135 w _ g517 t514 t521 t522 from IsS135.q1 HI517.out NB517_513.out) (kqR HO520.out) (by decide)) hk (fun _ h => h.2)) (fun _ h => h.1)) (Kd.R_lower ho0 (below_size (bq2 HB.out (IsS135.ge HI517.out) GE513.out))) hb hi; clear BK513 HO520 HB HI517; obtain ⟨BK513, HO520, HO528, HB, HI517⟩ := n_; (try clear hb hk hi ho0); have hnb9 := NB513_517.out; have hnc9 := NB517_513.out; obtain ⟨hcz10_0, hcz10_1, hcz10_2, hcz10_3, hfz10_0, hfz10_1, hfz10_2, hfz10_3⟩ := cl4 BK513.out; obtain ⟨Ao11, co11, eo11⟩ := Kd.R_slice HO528.out; subst eo11) | ((with_reducible refine gate_store (t := 29) (p := 3) rfl ?_); refine store_event (t := 29) (p := 3) (v := ?vo_w12) (w1 := ((((w8.setCell ⟨gb513, 0, none⟩ (.int .i64 t523)).setCell ⟨gb513, 1, none⟩ (.int .i64 t524)).setCell ⟨gb513, 2, none⟩ (.string t525)).setCell ⟨gb513, 3, none⟩ (.slice Ao11 t526.length co11))) ?hg ?ho ?hn ?hr ?_; (case ho => rfl); (case hg => rfl); (case hn => rfl); (case hr => exact gs); intro w12 hw; have n_ : Aside0 (Kd.R (Kd.int .u8) 5 w12 w.heap.size (fun _ => True) v519 t518) ∧ Aside0 (Kd.R (Kd.int .i64) 3 w12 w.heap.size (fun _ => True) (.slice Ao11 t526.length co11) t526) ∧ Aside0 (w12.heap[gb513]? = some (.cells #[.int .i64 t523, .int .i64 t524, .string t525, .slice Ao11 t526.length co11] 29 (0, 0))) ∧ Aside0 (IsS135 w w12 g517 t514 t529 t530) ∧ Aside0 (Below w.heap.size w w12) := ⟨⟨(by rw [hw]; exact (by refine kr ?_; exact Kd.R_mono (rf4 gb513 (.int .i64 t523) (.int .i64 t524) (.string t525) (.slice Ao11 t526.length co11) (Kd.R_types HO520.out BK513.out (by decide)) (fun _ hk => hk.2)) (fun _ hk => trivial)))⟩, ⟨(by rw [hw]; exact (by refine kr ?_; exact Kd.R_mono (rf4 gb513 (.int .i64 t523) (.int .i64 t524) (.string t525) (.slice Ao11 t526.length co11) (Kd.R_types HO528.out BK513.out (by decide)) (fun _ hk => hk.2)) (fun _ hk => trivial)))⟩, ⟨(by rw [hw]; exact (by refine zr ?_; exact bp4 (zb BK513.out)))⟩, ⟨(by rw [hw]; exact (IsS135.q1 HI517.out NB517_513.out))⟩, ⟨(by rw [hw]; exact (bq2 HB.out (IsS135.ge HI517.out) GE513.out))⟩⟩; clear hw HO520 HO528 BK513 HI517 HB; obtain ⟨HO520, HO528, BK513, HI517, HB⟩ := n_))
 refine bodyPost_ret (results_tc rfl _ _ gb513 29 #[.int .i64 t523, .int .i64 t524, .string t525, .slice Ao11 t526.length co11] (0, 0) _ rfl (zq BK513.out) Try.underlying29 rfl (by kernel_rfl)) rfl ?_
 exact ⟨_, _, rq, kqR HO520.out, kqR HO528.out, bq2 HB.out (IsS135.ge HI517.out) GE513.out⟩
def spec_PutOid.l0 : Nat → List Int → List Int → Int → Option (List Int)
 | 0, _, _, _ => none
 | k + 1, x0, x3, x4 => if x4 < (x0.length : Int) then (if 0 ≤ x4 then ((spec_l2Group.f k (rd x0 x4)).bind fun t536 => (if x3.length + t536.length < 140737488355328 then (spec_PutOid.l0 k x0 (x3 ++ t536) (wrap64 (x4 + 1))) else (none))) else (none)) else (some x3)
def spec_PutOid.f (k : Nat) (l0 : List Int) : Option (List Int) := (some (([] : List Int) : List Int)).bind fun y531 => ((spec_OidOk.f k l0).bind fun t534 => (if t534 = true then (spec_PutOid.l0 k l0 y531 0) else (some y531)))
theorem spec_PutOid.mono_l : ∀ k, (∀ y0 y1 y2, LeO (spec_PutOid.l0 k y0 y1 y2) (spec_PutOid.l0 (k + 1) y0 y1 y2))
 | 0 => fun _ _ _ r h => by simp [spec_PutOid.l0] at h
 | k + 1 => by
  have ih0 := spec_PutOid.mono_l k
  intro y0 y1 y2
  unfold spec_PutOid.l0
  repeat' first
  | (with_reducible exact ih0 _ _ _)
  | (with_reducible exact spec_OidOk.mono _ _)
  | (with_reducible exact spec_l2Group.mono _ _)
  | (with_reducible exact LeO.refl _)
  | (with_reducible exact LeO.none _)
  | (with_reducible refine LeO.ite ?_ ?_)
  | (with_reducible refine LeO.bind ?_ (fun _ => ?_))
  | exact ih0 _ _ _
  | exact spec_OidOk.mono _ _
  | exact spec_l2Group.mono _ _
  | exact LeO.none _
  | refine LeO.ite ?_ ?_
  | refine LeO.bind ?_ (fun _ => ?_)
theorem spec_PutOid.mono : ∀ a0 k, LeO (spec_PutOid.f k a0) (spec_PutOid.f (k + 1) a0) := by
 intro a0 k
 have ih0 := spec_PutOid.mono_l k
 unfold spec_PutOid.f
 repeat' first
  | (with_reducible exact ih0 _ _ _)
  | (with_reducible exact spec_OidOk.mono _ _)
  | (with_reducible exact spec_l2Group.mono _ _)
  | (with_reducible exact LeO.refl _)
  | (with_reducible exact LeO.none _)
  | (with_reducible refine LeO.ite ?_ ?_)
  | (with_reducible refine LeO.bind ?_ (fun _ => ?_))
  | exact ih0 _ _ _
  | exact spec_OidOk.mono _ _
  | exact spec_l2Group.mono _ _
  | exact LeO.none _
  | refine LeO.ite ?_ ?_
  | refine LeO.bind ?_ (fun _ => ?_)
theorem spec_PutOid.calls (k : Nat) (A0 : Option Addr) (c0 : Nat) (l0 : List Int) (r : List Int) (w : World) (hr0 : Kd.C (Kd.int .i64) w A0 l0.length l0) (hc0 : l0.length ≤ c0) (h : spec_PutOid.f k l0 = some r) :
 Calls Try.prog 65 #[.slice A0 l0.length c0] w fun e w' => ∃ v0_ : Value, e = .returned (v0_) ∧ Kd.R (Kd.int .u8) 5 w' w.heap.size (fun _ => True) v0_ r ∧ Below w.heap.size w w' := by
 have HR0 := am hr0
 have HC0 := am hc0
 clear hr0 hc0
 have HB := am (Below.refl w.heap.size w)
 have H : ((some (([] : List Int) : List Int)).bind fun y531 => ((spec_OidOk.f k l0).bind fun t534 => (if t534 = true then (spec_PutOid.l0 k l0 y531 0) else (some y531)))) = some r := h
 clear h
 obtain ⟨y531, hy531⟩ : ∃ y_ : List Int, y_ = (([] : List Int)) := ⟨_, rfl⟩
 replace H : ((spec_OidOk.f k l0).bind fun t534 => (if t534 = true then (spec_PutOid.l0 k l0 y531 0) else (some y531))) = some r := hx H hy531
 have Ny531 := am hy531
 clear hy531
 replace H := Option.bind_eq_some_iff.mp H
 obtain ⟨t534, A20, H⟩ := H
 replace H : (if t534 = true then (spec_PutOid.l0 k l0 y531 0) else (some y531)) = some r := H
 have A2 := am A20
 clear A20
 by_cases c3 : t534 = true
 rotate_left
 · replace c3 := Bool.eq_false_iff.mpr c3
   subst c3
   replace H : (some y531) = some r := by rw [if_neg (show ¬ (false = true) by decide)] at H; exact H
   obtain rfl := Option.some.inj H
   go_enter Try.func65, Try.ntmps65
   go_wp2_with (first | ((with_reducible refine gate_dst (N := 5) rfl ?_); refine Kd.R_lit (Kd.int .u8) _ 5 ?hg (N := 5) ?hd (xs := ([] : List Int)) (inner := []) (ok := fun _ => True) (okp := fun _ => True) ?hr ?hp (fun _ hk => hk) trivial (Below.refl _ _) (Nat.le_refl _) (by simp) ?_; (case hd => rfl); (case hg => rfl); (case hr => exact gs); (case hp => exact (Reps.none _ _)); intro v532 w13 ho14 hb hg_ hnew_; clear hg_ hnew_; (first | rw [← Ny531.out] at ho14 | (simp only [Int.reduceToNat] at ho14; rw [← Ny531.out] at ho14)); have n_ := ak2 (Kd.R_lower ho14 (below_size (bq HB.out))) (below_step (bq HB.out) hb); clear HB; obtain ⟨HO533, HB⟩ := n_; clear hb ho14) | ((with_reducible refine gate_callee (f := 110) rfl ?_); refine goesL_ (some 7) rfl rfl Try.func110 (by kernel_rfl) rfl #[.slice A0 l0.length c0] rfl ga ?_; (with_reducible refine (spec_OidOk.calls k _ _ l0 false _ ?side1 ?side2 A2.out).mono ?_); (case side1 => exact cq (Kd.C_below HR0.out HB.out)); (case side2 => exact HC0.out); rintro e w' ⟨rfl, ⟨nd, rfl⟩⟩; refine ⟨_, rfl, ?_⟩))
   go_ret
   exact ⟨_, rq, kqR HO533.out, bq HB.out⟩
 subst c3
 replace H : (spec_PutOid.l0 k l0 y531 0) = some r := by rw [if_pos rfl] at H; exact H
 have H' := am H
 clear H
 go_enter Try.func65, Try.ntmps65
 go_wp2_with (first | ((with_reducible refine gate_dst (N := 5) rfl ?_); refine Kd.R_lit (Kd.int .u8) _ 5 ?hg (N := 5) ?hd (xs := ([] : List Int)) (inner := []) (ok := fun _ => True) (okp := fun _ => True) ?hr ?hp (fun _ hk => hk) trivial (Below.refl _ _) (Nat.le_refl _) (by simp) ?_; (case hd => rfl); (case hg => rfl); (case hr => exact gs); (case hp => exact (Reps.none _ _)); intro v532 w4 ho5 hb hg_ hnew_; clear hg_ hnew_; (first | rw [← Ny531.out] at ho5 | (simp only [Int.reduceToNat] at ho5; rw [← Ny531.out] at ho5)); have n_ := ak2 (Kd.R_lower ho5 (below_size (bq HB.out))) (below_step (bq HB.out) hb); clear HB; obtain ⟨HO533, HB⟩ := n_; clear hb ho5) | ((with_reducible refine gate_callee (f := 110) rfl ?_); refine goesL_ (some 7) rfl rfl Try.func110 (by kernel_rfl) rfl #[.slice A0 l0.length c0] rfl ga ?_; (with_reducible refine (spec_OidOk.calls k _ _ l0 true _ ?side1 ?side2 A2.out).mono ?_); (case side1 => exact cq (Kd.C_below HR0.out HB.out)); (case side2 => exact HC0.out); rintro e w' ⟨rfl, ⟨nd, rfl⟩⟩; refine ⟨_, rfl, ?_⟩))
 go_loopg [3, 4] k (fun kq v3 v4 w' => ∃ (x3_1 : List Int) (x4_1 : Int), v4 = .int .i64 x4_1 ∧ Aside0 (spec_PutOid.l0 kq l0 x3_1 x4_1 = some r) ∧ Aside0 (kq ≤ k) ∧ Aside0 (Kd.R (Kd.int .u8) 5 w' w.heap.size (fun _ => True) v3 x3_1) ∧ Aside0 (Below w.heap.size w w'))
 case atStart => exact ⟨(y531), (0), sq, H', ⟨Nat.le_refl _⟩, ⟨kqR HO533.out⟩, ⟨bq HB.out⟩⟩
 case round =>
  clear H'
  try clear c1
  try clear p2
  try clear c3
  obtain ⟨x3_1, x4_1, rfl, HA, HK1, HO_3, HB⟩ := hrel
  cases gk with
  | zero => exact absurd HA.out (by simp [spec_PutOid.l0])
  | succ k1 =>
   have H := HA.out
   clear HA
   simp only [spec_PutOid.l0] at H
   by_cases c6 : x4_1 < (l0.length : Int)
   rotate_left
   · rw [if_neg c6] at H
     have c6b0 : decide (x4_1 < (l0.length : Int)) = false := decide_eq_false c6
     clear c6
     obtain rfl := Option.some.inj H
     go_wp2
     go_ret
     exact ⟨_, rq, kqR HO_3.out, bq HB.out⟩
   rw [if_pos c6] at H
   have c6b0 : decide (x4_1 < (l0.length : Int)) = true := decide_eq_true c6
   clear c6
   by_cases c7 : 0 ≤ x4_1
   rotate_left
   · rw [if_neg c7] at H
     exact absurd H (by simp)
   rw [if_pos c7] at H
   have c7b0 : decide (0 ≤ x4_1) = true := decide_eq_true c7
   clear c7
   replace H := Option.bind_eq_some_iff.mp H
   obtain ⟨t536, A80, H⟩ := H
   replace H : (if x3_1.length + t536.length < 140737488355328 then (spec_PutOid.l0 k1 l0 (x3_1 ++ t536) (wrap64 (x4_1 + 1))) else (none)) = some r := H
   have A8 := am A80
   clear A80
   by_cases c9 : x3_1.length + t536.length < 140737488355328
   rotate_left
   · rw [if_neg c9] at H
     exact absurd H (by simp)
   rw [if_pos c9] at H
   have LMc9 := am c9
   clear c9
   obtain ⟨y539, hy539⟩ : ∃ y_ : List Int, y_ = (x3_1 ++ t536) := ⟨_, rfl⟩
   replace H : (spec_PutOid.l0 k1 l0 y539 (wrap64 (x4_1 + 1))) = some r := hx H hy539
   have Ny539 := am hy539
   clear hy539
   have H' := am H
   clear H
   have p535 : 0 ≤ (x4_1 : Int) := oda
   have q535 : x4_1 < (l0.length : Int) := oda
   obtain ⟨ad535, e535, hx535_0⟩ := Kd.at_int HR0.out x4_1 p535 q535
   cases e535
   replace hx535_0 := (HB.out.cell (World.block_lt_of_cell? w _ hx535_0)).trans hx535_0
   replace p535 := eq_true p535
   replace q535 := eq_true q535
   go_wp2_with (first | ((with_reducible refine gate_callee (f := 124) rfl ?_); refine goesL_ (some 21) rfl rfl Try.func124 (by kernel_rfl) rfl #[.int .i64 (rd l0 x4_1)] rfl ga ?_; (with_reducible refine (spec_l2Group.calls k1 (rd l0 x4_1) t536 _ A8.out).mono ?_); rintro e w10 ⟨v537, rfl, ho0, hb⟩; refine ⟨_, rfl, ?_⟩; have n_ := ak3 (Kd.R_elder' (kqR HO_3.out) (Kd.R_base ho0) hb) (Kd.R_lower (Kd.R_new' ho0 (Kd.R_lt (kqR HO_3.out))) (below_size (bq HB.out))) (below_step (bq HB.out) hb); clear HO_3 HB; obtain ⟨HO_3, HO538, HB⟩ := n_; (try clear hb ho0); obtain ⟨Ao12, co12, eo12⟩ := Kd.R_slice HO538.out; subst eo12) | ((with_reducible refine gate_builtin (b := .append) (xs := #[.tmp 16, .tmp 21]) rfl ?_); at_builtin; refine Kd.R_append_rows (Kd.int .u8) (w0 := w) w.heap.size rfl (.tmp 16) (.tmp 21) 22 5 (.int .u8 0) 1 rfl Try.underlying22 info5 rfl (by decide) (by omega) u3 x3_1 t536 _ _ _ (fun k_ => some k_ ≠ (.slice Ao12 t536.length co12 : Value).ownBlock) (fun _ => False) rfl rfl ?aO ?aR (fun _ _ h => h) (fun _ h => h.elim) ?aF ?aB ?aS ?aL ?_; (case aR => repeat (first | exact (Kd.R_reads' HO538.out).2.2 | (with_reducible refine Kd.C_alloc ?_ _) | (with_reducible refine Kd.C_drewN ?_ _) | (with_reducible refine Kd.C_drew ?_))); (case aB => exact (bq HB.out)); (case aF => exact (fun k_ hk => Kd.fresh' (Kd.R_lt (kqR HO538.out)) k_ hk)); (case aO => exact (by refine kr ?_; exact Kd.R_mono HO_3.out (fun _ hk => hk.2))); (case aS => exact (below_size (bq HB.out))); (case aL => have := LMc9.out; omega); intro v540 w11 ho hb hg hat; rw [← Ny539.out] at ho; have n_ := ak3 (Kd.R_after (ok := (fun _ => True)) (kqR HO538.out) hg hat) hb ho; clear HO538 HB HO_3; obtain ⟨HO538, HB, HO541⟩ := n_; clear ho hb hg hat))
   go_roundg k1
   case measure => have := HK1.out; omega
   case rel => exact ⟨(y539), (wrap64 (x4_1 + 1)), sq, H', ⟨by have := HK1.out; omega⟩, ⟨by refine kr ?_; exact Kd.R_mono HO541.out (fun _ hk => trivial)⟩, ⟨bq HB.out⟩⟩
def spec_PutTlv.j0 : Nat → Int → List Int → List Int → Bool → Option (List Int)
 | 0, _, _, _, _ => none
 | k + 1, x1, x2, x7, x18 => if x18 = true then (some x7) else (if x7.length < 140737488355328 then ((some (x7 ++ [(x1) % 256] : List Int)).bind fun y549 => (if (x2.length : Int) > 127 then (if y549.length < 140737488355328 then ((some (y549 ++ [129] : List Int)).bind fun y552 => (if y552.length < 140737488355328 then ((some (y552 ++ [((x2.length : Int)) % 256] : List Int)).bind fun y555 => (if y555.length + x2.length < 140737488355328 then (some (y555 ++ x2)) else (none))) else (none))) else (none)) else (if y549.length < 140737488355328 then ((some (y549 ++ [((x2.length : Int)) % 256] : List Int)).bind fun y561 => (if y561.length + x2.length < 140737488355328 then (some (y561 ++ x2)) else (none))) else (none)))) else (none))
def spec_PutTlv.f (k : Nat) (l0 : List Int) (a1 : Int) (l2 : List Int) : Option (List Int) := (some (([] : List Int) : List Int)).bind fun y542 => (if y542.length + l0.length < 140737488355328 then ((some (y542 ++ l0 : List Int)).bind fun y545 => ((spec_l1In.f a1 0 255).bind fun t548 => (if t548 = true then (spec_PutTlv.j0 k a1 l2 y545 (decide ((l2.length : Int) > 250))) else (spec_PutTlv.j0 k a1 l2 y545 true)))) else (none))
theorem spec_PutTlv.mono_l : ∀ k, (∀ y0 y1 y2 y3, LeO (spec_PutTlv.j0 k y0 y1 y2 y3) (spec_PutTlv.j0 (k + 1) y0 y1 y2 y3))
 | 0 => fun _ _ _ _ r h => by simp [spec_PutTlv.j0] at h
 | k + 1 => by
  have ih0 := spec_PutTlv.mono_l k
  intro y0 y1 y2 y3
  unfold spec_PutTlv.j0
  repeat' first
  | (with_reducible exact ih0 _ _ _ _)
  | (with_reducible exact LeO.refl _)
  | (with_reducible exact LeO.none _)
  | (with_reducible refine LeO.ite ?_ ?_)
  | (with_reducible refine LeO.bind ?_ (fun _ => ?_))
  | exact ih0 _ _ _ _
  | exact LeO.none _
  | refine LeO.ite ?_ ?_
  | refine LeO.bind ?_ (fun _ => ?_)
theorem spec_PutTlv.mono : ∀ a0 a1 a2 k, LeO (spec_PutTlv.f k a0 a1 a2) (spec_PutTlv.f (k + 1) a0 a1 a2) := by
 intro a0 a1 a2 k
 have ih0 := spec_PutTlv.mono_l k
 unfold spec_PutTlv.f
 repeat' first
  | (with_reducible exact ih0 _ _ _ _)
  | (with_reducible exact LeO.refl _)
  | (with_reducible exact LeO.none _)
  | (with_reducible refine LeO.ite ?_ ?_)
  | (with_reducible refine LeO.bind ?_ (fun _ => ?_))
  | exact ih0 _ _ _ _
  | exact LeO.none _
  | refine LeO.ite ?_ ?_
  | refine LeO.bind ?_ (fun _ => ?_)
theorem spec_PutTlv.calls (k : Nat) (A0 : Option Addr) (c0 : Nat) (l0 : List Int) (a1 : Int) (A2 : Option Addr) (c2 : Nat) (l2 : List Int) (r : List Int) (w : World) (hr0 : Kd.C (Kd.int .u8) w A0 l0.length l0) (hc0 : l0.length ≤ c0) (hr2 : Kd.C (Kd.int .u8) w A2 l2.length l2) (hc2 : l2.length ≤ c2) (h : spec_PutTlv.f k l0 a1 l2 = some r) :
 Calls Try.prog 66 #[.slice A0 l0.length c0, .int .i64 a1, .slice A2 l2.length c2] w fun e w' => ∃ v0_ : Value, e = .returned (v0_) ∧ Kd.R (Kd.int .u8) 5 w' w.heap.size (fun _ => True) v0_ r ∧ Below w.heap.size w w' := by
 have HR0 := am hr0
 have HC0 := am hc0
 clear hr0 hc0
 have HR2 := am hr2
 have HC2 := am hc2
 clear hr2 hc2
 have HB := am (Below.refl w.heap.size w)
 have H : ((some (([] : List Int) : List Int)).bind fun y542 => (if y542.length + l0.length < 140737488355328 then ((some (y542 ++ l0 : List Int)).bind fun y545 => ((spec_l1In.f a1 0 255).bind fun t548 => (if t548 = true then (spec_PutTlv.j0 k a1 l2 y545 (decide ((l2.length : Int) > 250))) else (spec_PutTlv.j0 k a1 l2 y545 true)))) else (none))) = some r := h
 clear h
 obtain ⟨y542, hy542⟩ : ∃ y_ : List Int, y_ = (([] : List Int)) := ⟨_, rfl⟩
 replace H : (if y542.length + l0.length < 140737488355328 then ((some (y542 ++ l0 : List Int)).bind fun y545 => ((spec_l1In.f a1 0 255).bind fun t548 => (if t548 = true then (spec_PutTlv.j0 k a1 l2 y545 (decide ((l2.length : Int) > 250))) else (spec_PutTlv.j0 k a1 l2 y545 true)))) else (none)) = some r := hx H hy542
 have Ny542 := am hy542
 clear hy542
 by_cases c4 : y542.length + l0.length < 140737488355328
 rotate_left
 · rw [if_neg c4] at H
   exact absurd H (by simp)
 rw [if_pos c4] at H
 have LMc4 := am c4
 clear c4
 obtain ⟨y545, hy545⟩ : ∃ y_ : List Int, y_ = (y542 ++ l0) := ⟨_, rfl⟩
 replace H : ((spec_l1In.f a1 0 255).bind fun t548 => (if t548 = true then (spec_PutTlv.j0 k a1 l2 y545 (decide ((l2.length : Int) > 250))) else (spec_PutTlv.j0 k a1 l2 y545 true))) = some r := hx H hy545
 have Ny545 := am hy545
 clear hy545
 have HC5 := am H
 clear H
 go_enter Try.func66, Try.ntmps66
 go_upto_region 2 with (first | ((with_reducible refine gate_dst (N := 8) rfl ?_); (try (refine gate_guard (by rfl) ?_; dsimp only)); refine Kd.R_lit (Kd.int .u8) _ 5 ?hg (N := 8) ?hd (xs := ([] : List Int)) (inner := []) (ok := fun _ => True) (okp := fun _ => True) ?hr ?hp (fun _ hk => hk) trivial (Below.refl _ _) (Nat.le_refl _) (by simp) ?_; (case hd => rfl); (case hg => rfl); (case hr => exact gs); (case hp => exact (Reps.none _ _)); intro v543 w6 ho7 hb hg_ hnew_; clear hg_ hnew_; (first | rw [← Ny542.out] at ho7 | (simp only [Int.reduceToNat] at ho7; rw [← Ny542.out] at ho7)); have n_ := ak2 (Kd.R_lower ho7 (below_size (bq HB.out))) (below_step (bq HB.out) hb); clear HB; obtain ⟨HO544, HB⟩ := n_; clear hb ho7) | ((with_reducible refine gate_builtin (b := .append) (xs := #[.tmp 8, .tmp 9]) rfl ?_); (try (refine gate_guard (by rfl) ?_; dsimp only)); at_builtin; refine Kd.R_append_rows (Kd.int .u8) (w0 := w) w.heap.size rfl (.tmp 8) (.tmp 9) 22 5 (.int .u8 0) 1 rfl Try.underlying22 info5 rfl (by decide) (by omega) v543 y542 l0 _ _ _ (fun _ => True) (fun _ => False) rfl rfl ?aO ?aR (fun _ _ h => h) (fun _ h => h.elim) ?aF ?aB ?aS ?aL ?_; (case aR => exact cq (Kd.C_below HR0.out HB.out)); (case aB => exact (bq HB.out)); (case aF => exact (fun _ _ => trivial)); (case aO => exact (kqR HO544.out)); (case aS => exact (below_size (bq HB.out))); (case aL => have := LMc4.out; omega); intro v546 w8 ho hb hg hat; rw [← Ny545.out] at ho; have n_ := ak2 hb ho; clear HB HO544; obtain ⟨HB, HO547⟩ := n_; clear ho hb hg hat))
 (try simp only [Act.put, List.setIfInBounds_toArray, List.set_cons_zero, List.set_cons_succ])
 go_cut [18] (fun v18 wc => ∃ (kq : Nat) (x18_4 : Bool), v18 = .bool x18_4 ∧ Aside0 (spec_PutTlv.j0 kq a1 l2 y545 x18_4 = some r) ∧ Aside0 (kq ≤ k) ∧ Aside0 (Kd.R (Kd.int .u8) 5 wc w.heap.size (fun _ => True) v546 y545) ∧ Aside0 (Below w.heap.size w wc))
 case first =>
  have H := HC5.out
  clear HC5
  replace H := Option.bind_eq_some_iff.mp H
  obtain ⟨t548, A90, H⟩ := H
  replace H : (if t548 = true then (spec_PutTlv.j0 k a1 l2 y545 (decide ((l2.length : Int) > 250))) else (spec_PutTlv.j0 k a1 l2 y545 true)) = some r := H
  have A9 := am A90
  clear A90
  by_cases c10 : t548 = true
  · subst c10
    replace H : (spec_PutTlv.j0 k a1 l2 y545 (decide ((l2.length : Int) > 250))) = some r := by rw [if_pos rfl] at H; exact H
    have H' := am H
    clear H
    go_wp2_with (first | ((with_reducible refine gate_callee (f := 88) rfl ?_); refine goesL_ (some 12) rfl rfl Try.func88 (by kernel_rfl) rfl #[.int .i64 a1, .int .i64 0, .int .i64 255] rfl ga ?_; (with_reducible refine (spec_l1In.calls a1 0 255 true _ A9.out).mono ?_); rintro e w' ⟨rfl, ⟨nd, rfl⟩⟩; refine ⟨_, rfl, ?_⟩))
    go_meet
    case rel => exact ⟨_, (decide ((l2.length : Int) > 250)), sq, H', ⟨by first | omega | exact Nat.le_refl _⟩, ⟨kqR HO547.out⟩, ⟨bq HB.out⟩⟩
  replace c10 := Bool.eq_false_iff.mpr c10
  subst c10
  replace H : (spec_PutTlv.j0 k a1 l2 y545 true) = some r := by rw [if_neg (show ¬ (false = true) by decide)] at H; exact H
  have H' := am H
  clear H
  go_wp2_with (first | ((with_reducible refine gate_callee (f := 88) rfl ?_); refine goesL_ (some 12) rfl rfl Try.func88 (by kernel_rfl) rfl #[.int .i64 a1, .int .i64 0, .int .i64 255] rfl ga ?_; (with_reducible refine (spec_l1In.calls a1 0 255 false _ A9.out).mono ?_); rintro e w' ⟨rfl, ⟨nd, rfl⟩⟩; refine ⟨_, rfl, ?_⟩))
  go_meet
  case rel => exact ⟨_, (true), sq, H', ⟨by first | omega | exact Nat.le_refl _⟩, ⟨kqR HO547.out⟩, ⟨bq HB.out⟩⟩
 case rest =>
  clear HC5
  try clear c1
  try clear c2
  try clear p2
  try clear c4
  try clear c6
  try clear c8
  try clear c10
  obtain ⟨kq, x18_4, rfl, HA, HJ4, HO_7, HB⟩ := hcut
  cases kq with
  | zero => exact absurd HA.out (by simp [spec_PutTlv.j0])
  | succ kj4 =>
   have H := HA.out
   clear HA
   simp only [spec_PutTlv.j0] at H
   by_cases c11 : x18_4 = true
   · subst c11
     replace H : (some y545) = some r := by rw [if_pos rfl] at H; exact H
     obtain rfl := Option.some.inj H
     go_wp2
     go_ret
     exact ⟨_, rq, kqR HO_7.out, bq HB.out⟩
   replace c11 := Bool.eq_false_iff.mpr c11
   subst c11
   replace H : (if y545.length < 140737488355328 then ((some (y545 ++ [(a1) % 256] : List Int)).bind fun y549 => (if (l2.length : Int) > 127 then (if y549.length < 140737488355328 then ((some (y549 ++ [129] : List Int)).bind fun y552 => (if y552.length < 140737488355328 then ((some (y552 ++ [((l2.length : Int)) % 256] : List Int)).bind fun y555 => (if y555.length + l2.length < 140737488355328 then (some (y555 ++ l2)) else (none))) else (none))) else (none)) else (if y549.length < 140737488355328 then ((some (y549 ++ [((l2.length : Int)) % 256] : List Int)).bind fun y561 => (if y561.length + l2.length < 140737488355328 then (some (y561 ++ l2)) else (none))) else (none)))) else (none)) = some r := by rw [if_neg (show ¬ (false = true) by decide)] at H; exact H
   by_cases c12 : y545.length < 140737488355328
   rotate_left
   · rw [if_neg c12] at H
     exact absurd H (by simp)
   rw [if_pos c12] at H
   have LMc12 := am c12
   clear c12
   obtain ⟨y549, hy549⟩ : ∃ y_ : List Int, y_ = (y545 ++ [(a1) % 256]) := ⟨_, rfl⟩
   replace H : (if (l2.length : Int) > 127 then (if y549.length < 140737488355328 then ((some (y549 ++ [129] : List Int)).bind fun y552 => (if y552.length < 140737488355328 then ((some (y552 ++ [((l2.length : Int)) % 256] : List Int)).bind fun y555 => (if y555.length + l2.length < 140737488355328 then (some (y555 ++ l2)) else (none))) else (none))) else (none)) else (if y549.length < 140737488355328 then ((some (y549 ++ [((l2.length : Int)) % 256] : List Int)).bind fun y561 => (if y561.length + l2.length < 140737488355328 then (some (y561 ++ l2)) else (none))) else (none))) = some r := hx H hy549
   have Ny549 := am hy549
   clear hy549
   by_cases c13 : (l2.length : Int) > 127
   rotate_left
   · rw [if_neg c13] at H
     have c13b0 : decide (127 < (l2.length : Int)) = false := decide_eq_false c13
     have c13b1 : decide (127 < l2.length) = false := decide_eq_false (by omega)
     clear c13
     by_cases c21 : y549.length < 140737488355328
     rotate_left
     · rw [if_neg c21] at H
       exact absurd H (by simp)
     rw [if_pos c21] at H
     have LMc21 := am c21
     clear c21
     obtain ⟨y561, hy561⟩ : ∃ y_ : List Int, y_ = (y549 ++ [((l2.length : Int)) % 256]) := ⟨_, rfl⟩
     replace H : (if y561.length + l2.length < 140737488355328 then (some (y561 ++ l2)) else (none)) = some r := hx H hy561
     have Ny561 := am hy561
     clear hy561
     by_cases c22 : y561.length + l2.length < 140737488355328
     rotate_left
     · rw [if_neg c22] at H
       exact absurd H (by simp)
     rw [if_pos c22] at H
     have LMc22 := am c22
     clear c22
     obtain ⟨y564, hy564⟩ : ∃ y_ : List Int, y_ = (y561 ++ l2) := ⟨_, rfl⟩
     replace H : (some y564) = some r := hx H hy564
     have Ny564 := am hy564
     clear hy564
     obtain rfl := Option.some.inj H
     go_wp2_with (first | ((with_reducible refine gate_builtin (b := .append) (xs := #[.tmp 20, .tmp 23]) rfl ?_); (try (refine gate_guard (by rfl) ?_; dsimp only)); at_builtin; refine Kd.R_append (Kd.int .u8) (w0 := w) w.heap.size rfl (.tmp 20) (.tmp 23) 22 5 (.int .u8 0) 1 rfl Try.underlying22 info5 rfl (by decide) (by omega) v546 y545 ((a1) % 256) [.int .u8 ((a1) % 256)] (fun _ => True) (fun _ => False) rfl rfl ?aP (fun _ hk => hk.elim) ?aF ?aO ?aB ?aS ?aL ?_; (case aP => exact rfl); (case aB => exact (bq HB.out)); (case aF => exact (fun _ _ => trivial)); (case aO => exact (kqR HO_7.out)); (case aS => exact (below_size (bq HB.out))); (case aL => have := LMc12.out; omega); intro v550 w23 ho hb hg hat; rw [← Ny549.out] at ho; have n_ := ak2 hb ho; clear HB HO_7; obtain ⟨HB, HO551⟩ := n_; clear ho hb hg hat) | ((with_reducible refine gate_builtin (b := .append) (xs := #[.tmp 31, .tmp 35]) rfl ?_); (try (refine gate_guard (by rfl) ?_; dsimp only)); at_builtin; refine Kd.R_append (Kd.int .u8) (w0 := w) w.heap.size rfl (.tmp 31) (.tmp 35) 22 5 (.int .u8 0) 1 rfl Try.underlying22 info5 rfl (by decide) (by omega) v550 y549 (((l2.length : Int)) % 256) [.int .u8 (((l2.length : Int)) % 256)] (fun _ => True) (fun _ => False) rfl rfl ?aP (fun _ hk => hk.elim) ?aF ?aO ?aB ?aS ?aL ?_; (case aP => exact rfl); (case aB => exact (bq HB.out)); (case aF => exact (fun _ _ => trivial)); (case aO => exact (kqR HO551.out)); (case aS => exact (below_size (bq HB.out))); (case aL => have := LMc21.out; omega); intro v562 w24 ho hb hg hat; rw [← Ny561.out] at ho; have n_ := ak2 hb ho; clear HB HO551; obtain ⟨HB, HO563⟩ := n_; clear ho hb hg hat) | ((with_reducible refine gate_builtin (b := .append) (xs := #[.tmp 36, .tmp 37]) rfl ?_); (try (refine gate_guard (by rfl) ?_; dsimp only)); at_builtin; refine Kd.R_append_rows (Kd.int .u8) (w0 := w) w.heap.size rfl (.tmp 36) (.tmp 37) 22 5 (.int .u8 0) 1 rfl Try.underlying22 info5 rfl (by decide) (by omega) v562 y561 l2 _ _ _ (fun _ => True) (fun _ => False) rfl rfl ?aO ?aR (fun _ _ h => h) (fun _ h => h.elim) ?aF ?aB ?aS ?aL ?_; (case aR => exact cq (Kd.C_below HR2.out HB.out)); (case aB => exact (bq HB.out)); (case aF => exact (fun _ _ => trivial)); (case aO => exact (kqR HO563.out)); (case aS => exact (below_size (bq HB.out))); (case aL => have := LMc22.out; omega); intro v565 w25 ho hb hg hat; rw [← Ny564.out] at ho; have n_ := ak2 hb ho; clear HB HO563; obtain ⟨HB, HO566⟩ := n_; clear ho hb hg hat))
     go_ret
     exact ⟨_, rq, kqR HO566.out, bq HB.out⟩
   rw [if_pos c13] at H
   have c13b0 : decide (127 < (l2.length : Int)) = true := decide_eq_true c13
   have c13b1 : decide (127 < l2.length) = true := decide_eq_true (by omega)
   clear c13
   by_cases c14 : y549.length < 140737488355328
   rotate_left
   · rw [if_neg c14] at H
     exact absurd H (by simp)
   rw [if_pos c14] at H
   have LMc14 := am c14
   clear c14
   obtain ⟨y552, hy552⟩ : ∃ y_ : List Int, y_ = (y549 ++ [129]) := ⟨_, rfl⟩
   replace H : (if y552.length < 140737488355328 then ((some (y552 ++ [((l2.length : Int)) % 256] : List Int)).bind fun y555 => (if y555.length + l2.length < 140737488355328 then (some (y555 ++ l2)) else (none))) else (none)) = some r := hx H hy552
   have Ny552 := am hy552
   clear hy552
   by_cases c15 : y552.length < 140737488355328
   rotate_left
   · rw [if_neg c15] at H
     exact absurd H (by simp)
   rw [if_pos c15] at H
   have LMc15 := am c15
   clear c15
   obtain ⟨y555, hy555⟩ : ∃ y_ : List Int, y_ = (y552 ++ [((l2.length : Int)) % 256]) := ⟨_, rfl⟩
   replace H : (if y555.length + l2.length < 140737488355328 then (some (y555 ++ l2)) else (none)) = some r := hx H hy555
   have Ny555 := am hy555
   clear hy555
   by_cases c16 : y555.length + l2.length < 140737488355328
   rotate_left
   · rw [if_neg c16] at H
     exact absurd H (by simp)
   rw [if_pos c16] at H
   have LMc16 := am c16
   clear c16
   obtain ⟨y558, hy558⟩ : ∃ y_ : List Int, y_ = (y555 ++ l2) := ⟨_, rfl⟩
   replace H : (some y558) = some r := hx H hy558
   have Ny558 := am hy558
   clear hy558
   obtain rfl := Option.some.inj H
   go_wp2_with (first | ((with_reducible refine gate_builtin (b := .append) (xs := #[.tmp 20, .tmp 23]) rfl ?_); (try (refine gate_guard (by rfl) ?_; dsimp only)); at_builtin; refine Kd.R_append (Kd.int .u8) (w0 := w) w.heap.size rfl (.tmp 20) (.tmp 23) 22 5 (.int .u8 0) 1 rfl Try.underlying22 info5 rfl (by decide) (by omega) v546 y545 ((a1) % 256) [.int .u8 ((a1) % 256)] (fun _ => True) (fun _ => False) rfl rfl ?aP (fun _ hk => hk.elim) ?aF ?aO ?aB ?aS ?aL ?_; (case aP => exact rfl); (case aB => exact (bq HB.out)); (case aF => exact (fun _ _ => trivial)); (case aO => exact (kqR HO_7.out)); (case aS => exact (below_size (bq HB.out))); (case aL => have := LMc12.out; omega); intro v550 w17 ho hb hg hat; rw [← Ny549.out] at ho; have n_ := ak2 hb ho; clear HB HO_7; obtain ⟨HB, HO551⟩ := n_; clear ho hb hg hat) | ((with_reducible refine gate_builtin (b := .append) (xs := #[.tmp 28, .tmp 29]) rfl ?_); (try (refine gate_guard (by rfl) ?_; dsimp only)); at_builtin; refine Kd.R_append (Kd.int .u8) (w0 := w) w.heap.size rfl (.tmp 28) (.tmp 29) 22 5 (.int .u8 0) 1 rfl Try.underlying22 info5 rfl (by decide) (by omega) v550 y549 129 [.int .u8 129] (fun _ => True) (fun _ => False) rfl rfl ?aP (fun _ hk => hk.elim) ?aF ?aO ?aB ?aS ?aL ?_; (case aP => exact rfl); (case aB => exact (bq HB.out)); (case aF => exact (fun _ _ => trivial)); (case aO => exact (kqR HO551.out)); (case aS => exact (below_size (bq HB.out))); (case aL => have := LMc14.out; omega); intro v553 w18 ho hb hg hat; rw [← Ny552.out] at ho; have n_ := ak2 hb ho; clear HB HO551; obtain ⟨HB, HO554⟩ := n_; clear ho hb hg hat) | ((with_reducible refine gate_builtin (b := .append) (xs := #[.tmp 31, .tmp 35]) rfl ?_); (try (refine gate_guard (by rfl) ?_; dsimp only)); at_builtin; refine Kd.R_append (Kd.int .u8) (w0 := w) w.heap.size rfl (.tmp 31) (.tmp 35) 22 5 (.int .u8 0) 1 rfl Try.underlying22 info5 rfl (by decide) (by omega) v553 y552 (((l2.length : Int)) % 256) [.int .u8 (((l2.length : Int)) % 256)] (fun _ => True) (fun _ => False) rfl rfl ?aP (fun _ hk => hk.elim) ?aF ?aO ?aB ?aS ?aL ?_; (case aP => exact rfl); (case aB => exact (bq HB.out)); (case aF => exact (fun _ _ => trivial)); (case aO => exact (kqR HO554.out)); (case aS => exact (below_size (bq HB.out))); (case aL => have := LMc15.out; omega); intro v556 w19 ho hb hg hat; rw [← Ny555.out] at ho; have n_ := ak2 hb ho; clear HB HO554; obtain ⟨HB, HO557⟩ := n_; clear ho hb hg hat) | ((with_reducible refine gate_builtin (b := .append) (xs := #[.tmp 36, .tmp 37]) rfl ?_); (try (refine gate_guard (by rfl) ?_; dsimp only)); at_builtin; refine Kd.R_append_rows (Kd.int .u8) (w0 := w) w.heap.size rfl (.tmp 36) (.tmp 37) 22 5 (.int .u8 0) 1 rfl Try.underlying22 info5 rfl (by decide) (by omega) v556 y555 l2 _ _ _ (fun _ => True) (fun _ => False) rfl rfl ?aO ?aR (fun _ _ h => h) (fun _ h => h.elim) ?aF ?aB ?aS ?aL ?_; (case aR => exact cq (Kd.C_below HR2.out HB.out)); (case aB => exact (bq HB.out)); (case aF => exact (fun _ _ => trivial)); (case aO => exact (kqR HO557.out)); (case aS => exact (below_size (bq HB.out))); (case aL => have := LMc16.out; omega); intro v559 w20 ho hb hg hat; rw [← Ny558.out] at ho; have n_ := ak2 hb ho; clear HB HO557; obtain ⟨HB, HO560⟩ := n_; clear ho hb hg hat))
   go_ret
   exact ⟨_, rq, kqR HO560.out, bq HB.out⟩
def spec_PutVal.f (k : Nat) (l0 : List Int) (a1_0 : Int) (a1_1 : Int) (a1_2 : ByteArray) (l1_3 : List Int) : Option (List Int) := (spec_ValOk.f k a1_0 a1_1 a1_2 l1_3).bind fun t568 => (if t568 = true then (if a1_0 = 2 then ((spec_PutInt.f k a1_1).bind fun t578 => ((spec_PutTlv.f k l0 a1_0 t578).bind fun t581 => (some t581))) else (if a1_0 = 4 then (if (a1_2.size : Int) < 140737488355328 then ((spec_PutTlv.f k l0 a1_0 (bytesOf a1_2)).bind fun t587 => (some t587)) else (none)) else (if a1_0 = 6 then ((spec_PutOid.f k l1_3).bind fun t590 => ((spec_PutTlv.f k l0 a1_0 t590).bind fun t593 => (some t593))) else ((spec_PutTlv.f k l0 a1_0 (([] : List Int))).bind fun t596 => (some t596))))) else ((some (([] : List Int) : List Int)).bind fun y569 => (if y569.length + l0.length < 140737488355328 then (some (y569 ++ l0)) else (none))))
theorem spec_PutVal.mono : ∀ a0 a1 a2 a3 a4 k, LeO (spec_PutVal.f k a0 a1 a2 a3 a4) (spec_PutVal.f (k + 1) a0 a1 a2 a3 a4) := by
 intro a0 a1 a2 a3 a4 k
 unfold spec_PutVal.f
 repeat' first
  | (with_reducible exact spec_PutInt.mono _ _)
  | (with_reducible exact spec_PutOid.mono _ _)
  | (with_reducible exact spec_PutTlv.mono _ _ _ _)
  | (with_reducible exact spec_ValOk.mono _ _ _ _ _)
  | (with_reducible exact LeO.refl _)
  | (with_reducible exact LeO.none _)
  | (with_reducible refine LeO.ite ?_ ?_)
  | (with_reducible refine LeO.bind ?_ (fun _ => ?_))
  | exact spec_PutInt.mono _ _
  | exact spec_PutOid.mono _ _
  | exact spec_PutTlv.mono _ _ _ _
  | exact spec_ValOk.mono _ _ _ _ _
  | exact LeO.none _
  | refine LeO.ite ?_ ?_
  | refine LeO.bind ?_ (fun _ => ?_)
theorem spec_PutVal.calls (k : Nat) (A0 : Option Addr) (c0 : Nat) (l0 : List Int) (a1_0 : Int) (a1_1 : Int) (a1_2 : ByteArray) (A1_3 : Option Addr) (c1_3 : Nat) (l1_3 : List Int) (r : List Int) (w : World) (hr0 : Kd.C (Kd.int .u8) w A0 l0.length l0) (hc0 : l0.length ≤ c0) (hr1_3 : Kd.C (Kd.int .i64) w A1_3 l1_3.length l1_3) (hc1_3 : l1_3.length ≤ c1_3) (h : spec_PutVal.f k l0 a1_0 a1_1 a1_2 l1_3 = some r) :
 Calls Try.prog 14 #[.slice A0 l0.length c0, .agg #[.int .i64 a1_0, .int .i64 a1_1, .string a1_2, .slice A1_3 l1_3.length c1_3]] w fun e w' => ∃ v0_ : Value, e = .returned (v0_) ∧ Kd.R (Kd.int .u8) 5 w' w.heap.size (fun _ => True) v0_ r ∧ Below w.heap.size w w' := by
 have hu29 := Try.underlying29
 have HR0 := am hr0
 have HC0 := am hc0
 clear hr0 hc0
 have HR1_3 := am hr1_3
 have HC1_3 := am hc1_3
 clear hr1_3 hc1_3
 have HB := am (Below.refl w.heap.size w)
 have H : ((spec_ValOk.f k a1_0 a1_1 a1_2 l1_3).bind fun t568 => (if t568 = true then (if a1_0 = 2 then ((spec_PutInt.f k a1_1).bind fun t578 => ((spec_PutTlv.f k l0 a1_0 t578).bind fun t581 => (some t581))) else (if a1_0 = 4 then (if (a1_2.size : Int) < 140737488355328 then ((spec_PutTlv.f k l0 a1_0 (bytesOf a1_2)).bind fun t587 => (some t587)) else (none)) else (if a1_0 = 6 then ((spec_PutOid.f k l1_3).bind fun t590 => ((spec_PutTlv.f k l0 a1_0 t590).bind fun t593 => (some t593))) else ((spec_PutTlv.f k l0 a1_0 (([] : List Int))).bind fun t596 => (some t596))))) else ((some (([] : List Int) : List Int)).bind fun y569 => (if y569.length + l0.length < 140737488355328 then (some (y569 ++ l0)) else (none))))) = some r := h
 clear h
 replace H := Option.bind_eq_some_iff.mp H
 obtain ⟨t568, A30, H⟩ := H
 replace H : (if t568 = true then (if a1_0 = 2 then ((spec_PutInt.f k a1_1).bind fun t578 => ((spec_PutTlv.f k l0 a1_0 t578).bind fun t581 => (some t581))) else (if a1_0 = 4 then (if (a1_2.size : Int) < 140737488355328 then ((spec_PutTlv.f k l0 a1_0 (bytesOf a1_2)).bind fun t587 => (some t587)) else (none)) else (if a1_0 = 6 then ((spec_PutOid.f k l1_3).bind fun t590 => ((spec_PutTlv.f k l0 a1_0 t590).bind fun t593 => (some t593))) else ((spec_PutTlv.f k l0 a1_0 (([] : List Int))).bind fun t596 => (some t596))))) else ((some (([] : List Int) : List Int)).bind fun y569 => (if y569.length + l0.length < 140737488355328 then (some (y569 ++ l0)) else (none)))) = some r := H
 have A3 := am A30
 clear A30
 by_cases c4 : t568 = true
 rotate_left
 · replace c4 := Bool.eq_false_iff.mpr c4
   subst c4
   replace H : ((some (([] : List Int) : List Int)).bind fun y569 => (if y569.length + l0.length < 140737488355328 then (some (y569 ++ l0)) else (none))) = some r := by rw [if_neg (show ¬ (false = true) by decide)] at H; exact H
   obtain ⟨y569, hy569⟩ : ∃ y_ : List Int, y_ = (([] : List Int)) := ⟨_, rfl⟩
   replace H : (if y569.length + l0.length < 140737488355328 then (some (y569 ++ l0)) else (none)) = some r := hx H hy569
   have Ny569 := am hy569
   clear hy569
   by_cases c52 : y569.length + l0.length < 140737488355328
   rotate_left
   · rw [if_neg c52] at H
     exact absurd H (by simp)
   rw [if_pos c52] at H
   have LMc52 := am c52
   clear c52
   obtain ⟨y572, hy572⟩ : ∃ y_ : List Int, y_ = (y569 ++ l0) := ⟨_, rfl⟩
   replace H : (some y572) = some r := hx H hy572
   have Ny572 := am hy572
   clear hy572
   obtain rfl := Option.some.inj H
   go_enter Try.func14, Try.ntmps14
   go_wp2_with (first | ((with_reducible refine gate_dst (N := 3) rfl ?_); refine bxe 3 #[.int .i64 a1_0, .int .i64 a1_1, .string a1_2, .slice A1_3 l1_3.length c1_3] 29 ?_; intro gb567 hg w53 hbox hb; have n_ := ak4 (below_step (bq HB.out) hb) hbox ((by rw [hg]; exact (below_size (bq HB.out)) : w.heap.size ≤ gb567)) ((by rw [hg]; exact (below_size (bq HB.out)) : w.heap.size ≤ gb567)); clear HB; obtain ⟨HB, BK567, GW567, GE567⟩ := n_; clear hb hbox hg; obtain ⟨hcz54_0, hcz54_1, hcz54_2, hcz54_3, hfz54_0, hfz54_1, hfz54_2, hfz54_3⟩ := cl4 BK567.out) | ((with_reducible refine gate_callee (f := 47) rfl ?_); refine goesL_ (some 7) rfl rfl Try.func47 (by kernel_rfl) rfl #[.agg #[.int .i64 a1_0, .int .i64 a1_1, .string a1_2, .slice A1_3 l1_3.length c1_3]] rfl ga ?_; (with_reducible refine (spec_ValOk.calls k a1_0 a1_1 a1_2 _ _ l1_3 false _ ?side1 ?side2 A3.out).mono ?_); (case side1 => exact cq (Kd.C_below HR1_3.out HB.out)); (case side2 => exact HC1_3.out); rintro e w55 ⟨rfl, hb⟩; refine ⟨_, rfl, ?_⟩; have n_ := ak2 (blk_below (zb BK567.out) hb) (below_step (bq1 HB.out GE567.out) hb); clear BK567 HB; obtain ⟨BK567, HB⟩ := n_; (try clear hb)) | ((with_reducible refine gate_dst (N := 9) rfl ?_); refine Kd.R_lit (Kd.int .u8) _ 5 ?hg (N := 9) ?hd (xs := ([] : List Int)) (inner := []) (ok := fun _ => True) (okp := fun _ => True) ?hr ?hp (fun _ hk => hk) trivial (Below.refl _ _) (Nat.le_refl _) (by simp) ?_; (case hd => rfl); (case hg => rfl); (case hr => exact gs); (case hp => exact (Reps.none _ _)); intro v570 w56 ho57 hb hg_ hnew_; clear hg_ hnew_; (first | rw [← Ny569.out] at ho57 | (simp only [Int.reduceToNat] at ho57; rw [← Ny569.out] at ho57)); have n_ := ak3 (Kd.R_lower ho57 (below_size (bq1 HB.out GE567.out))) (blk_below (zb BK567.out) hb) (below_step (bq1 HB.out GE567.out) hb); clear BK567 HB; obtain ⟨HO571, BK567, HB⟩ := n_; clear hb ho57) | ((with_reducible refine gate_builtin (b := .append) (xs := #[.tmp 9, .tmp 10]) rfl ?_); at_builtin; refine Kd.R_append_rows (Kd.int .u8) (w0 := w) w.heap.size rfl (.tmp 9) (.tmp 10) 22 5 (.int .u8 0) 1 rfl Try.underlying22 info5 rfl (by decide) (by omega) v570 y569 l0 _ _ _ (fun _ => True) (fun _ => False) rfl rfl ?aO ?aR (fun _ _ h => h) (fun _ h => h.elim) ?aF ?aB ?aS ?aL ?_; (case aR => exact cq (Kd.C_below HR0.out HB.out)); (case aB => exact (bq1 HB.out GE567.out)); (case aF => exact (fun _ _ => trivial)); (case aO => exact (kqR HO571.out)); (case aS => exact (below_size (bq1 HB.out GE567.out))); (case aL => have := LMc52.out; omega); intro v573 w58 ho hb hg hat; rw [← Ny572.out] at ho; have n_ := ak3 (blk_grown (g := gb567) (o := .cells #[.int .i64 a1_0, .int .i64 a1_1, .string a1_2, .slice A1_3 l1_3.length c1_3] 29 (0, 0)) (zq BK567.out) hg (Kd.R_ne HO571.out BK567.out (by decide))) hb ho; clear BK567 HB HO571; obtain ⟨BK567, HB, HO574⟩ := n_; clear ho hb hg hat))
   go_ret
   exact ⟨_, rq, kqR HO574.out, bq1 HB.out GE567.out⟩
 subst c4
 replace H : (if a1_0 = 2 then ((spec_PutInt.f k a1_1).bind fun t578 => ((spec_PutTlv.f k l0 a1_0 t578).bind fun t581 => (some t581))) else (if a1_0 = 4 then (if (a1_2.size : Int) < 140737488355328 then ((spec_PutTlv.f k l0 a1_0 (bytesOf a1_2)).bind fun t587 => (some t587)) else (none)) else (if a1_0 = 6 then ((spec_PutOid.f k l1_3).bind fun t590 => ((spec_PutTlv.f k l0 a1_0 t590).bind fun t593 => (some t593))) else ((spec_PutTlv.f k l0 a1_0 (([] : List Int))).bind fun t596 => (some t596))))) = some r := by rw [if_pos rfl] at H; exact H
 obtain ⟨y575, hy575⟩ : ∃ y_ : List Int, y_ = (([] : List Int)) := ⟨_, rfl⟩
 replace H : (if a1_0 = 2 then ((spec_PutInt.f k a1_1).bind fun t578 => ((spec_PutTlv.f k l0 a1_0 t578).bind fun t581 => (some t581))) else (if a1_0 = 4 then (if (a1_2.size : Int) < 140737488355328 then ((spec_PutTlv.f k l0 a1_0 (bytesOf a1_2)).bind fun t587 => (some t587)) else (none)) else (if a1_0 = 6 then ((spec_PutOid.f k l1_3).bind fun t590 => ((spec_PutTlv.f k l0 a1_0 t590).bind fun t593 => (some t593))) else ((spec_PutTlv.f k l0 a1_0 y575).bind fun t596 => (some t596))))) = some r := hx H hy575
 have Ny575 := am hy575
 clear hy575
 by_cases c5 : a1_0 = 2
 · rw [if_pos c5] at H
   have c5b0 : (a1_0 == 2) = true := beq_iff_eq.mpr c5
   have c5b1 : (a1_0 != 2) = false := bne_eq_false_iff_eq.mpr c5
   clear c5
   replace H := Option.bind_eq_some_iff.mp H
   obtain ⟨t578, A60, H⟩ := H
   replace H : ((spec_PutTlv.f k l0 a1_0 t578).bind fun t581 => (some t581)) = some r := H
   have A6 := am A60
   clear A60
   replace H := Option.bind_eq_some_iff.mp H
   obtain ⟨t581, A70, H⟩ := H
   replace H : (some t581) = some r := H
   have A7 := am A70
   clear A70
   obtain rfl := Option.some.inj H
   go_enter Try.func14, Try.ntmps14
   go_wp2_with (first | ((with_reducible refine gate_dst (N := 3) rfl ?_); refine bxe 3 #[.int .i64 a1_0, .int .i64 a1_1, .string a1_2, .slice A1_3 l1_3.length c1_3] 29 ?_; intro gb567 hg w8 hbox hb; have n_ := ak4 (below_step (bq HB.out) hb) hbox ((by rw [hg]; exact (below_size (bq HB.out)) : w.heap.size ≤ gb567)) ((by rw [hg]; exact (below_size (bq HB.out)) : w.heap.size ≤ gb567)); clear HB; obtain ⟨HB, BK567, GW567, GE567⟩ := n_; clear hb hbox hg; obtain ⟨hcz9_0, hcz9_1, hcz9_2, hcz9_3, hfz9_0, hfz9_1, hfz9_2, hfz9_3⟩ := cl4 BK567.out) | ((with_reducible refine gate_callee (f := 47) rfl ?_); refine goesL_ (some 7) rfl rfl Try.func47 (by kernel_rfl) rfl #[.agg #[.int .i64 a1_0, .int .i64 a1_1, .string a1_2, .slice A1_3 l1_3.length c1_3]] rfl ga ?_; (with_reducible refine (spec_ValOk.calls k a1_0 a1_1 a1_2 _ _ l1_3 true _ ?side1 ?side2 A3.out).mono ?_); (case side1 => exact cq (Kd.C_below HR1_3.out HB.out)); (case side2 => exact HC1_3.out); rintro e w10 ⟨rfl, hb⟩; refine ⟨_, rfl, ?_⟩; have n_ := ak2 (blk_below (zb BK567.out) hb) (below_step (bq1 HB.out GE567.out) hb); clear BK567 HB; obtain ⟨BK567, HB⟩ := n_; (try clear hb)) | ((with_reducible refine gate_dst (N := 12) rfl ?_); refine Kd.R_lit (Kd.int .u8) _ 5 ?hg (N := 12) ?hd (xs := ([] : List Int)) (inner := []) (ok := fun _ => True) (okp := fun _ => True) ?hr ?hp (fun _ hk => hk) trivial (Below.refl _ _) (Nat.le_refl _) (by simp) ?_; (case hd => rfl); (case hg => rfl); (case hr => exact gs); (case hp => exact (Reps.none _ _)); intro v576 w11 ho12 hb hg_ hnew_; clear hg_ hnew_; (first | rw [← Ny575.out] at ho12 | (simp only [Int.reduceToNat] at ho12; rw [← Ny575.out] at ho12)); have n_ := ak3 (Kd.R_lower ho12 (below_size (bq1 HB.out GE567.out))) (blk_below (zb BK567.out) hb) (below_step (bq1 HB.out GE567.out) hb); clear BK567 HB; obtain ⟨HO577, BK567, HB⟩ := n_; clear hb ho12; obtain ⟨hcz13_0, hcz13_1, hcz13_2, hcz13_3, hfz13_0, hfz13_1, hfz13_2, hfz13_3⟩ := cl4 BK567.out) | ((with_reducible refine gate_callee (f := 64) rfl ?_); refine goesL_ (some 19) rfl rfl Try.func64 (by kernel_rfl) rfl #[.int .i64 a1_1] rfl ga ?_; (with_reducible refine (spec_PutInt.calls k a1_1 t578 _ A6.out).mono ?_); rintro e w14 ⟨v579, rfl, ho0, hb⟩; refine ⟨_, rfl, ?_⟩; have n_ := ak4 (Kd.R_elder' (kqR HO577.out) (Kd.R_base ho0) hb) (Kd.R_lower (Kd.R_new' ho0 (Kd.R_lt (kqR HO577.out))) (below_size (bq1 HB.out GE567.out))) (blk_below (zb BK567.out) hb) (below_step (bq1 HB.out GE567.out) hb); clear HO577 BK567 HB; obtain ⟨HO577, HO580, BK567, HB⟩ := n_; (try clear hb ho0); obtain ⟨hcz15_0, hcz15_1, hcz15_2, hcz15_3, hfz15_0, hfz15_1, hfz15_2, hfz15_3⟩ := cl4 BK567.out; obtain ⟨Ao16, co16, eo16⟩ := Kd.R_slice HO580.out; subst eo16) | ((with_reducible refine gate_callee (f := 66) rfl ?_); refine goesL_ (some 34) rfl rfl Try.func66 (by kernel_rfl) rfl #[.slice A0 l0.length c0, .int .i64 a1_0, .slice Ao16 t578.length co16] rfl ga ?_; (with_reducible refine (spec_PutTlv.calls k _ _ l0 a1_0 _ _ t578 t581 _ ?side1 ?side2 ?side3 ?side4 A7.out).mono ?_); (case side1 => exact cq (Kd.C_below HR0.out HB.out)); (case side2 => exact HC0.out); (case side3 => repeat (first | exact (Kd.R_reads' HO580.out).2.2 | (with_reducible refine Kd.C_alloc ?_ _) | (with_reducible refine Kd.C_drewN ?_ _) | (with_reducible refine Kd.C_drew ?_))); (case side4 => exact (Kd.R_reads' HO580.out).2.1); rintro e w17 ⟨v582, rfl, ho0, hb⟩; refine ⟨_, rfl, ?_⟩; have n_ := ak5 (Kd.R_elder' (kqR HO577.out) (Kd.R_base ho0) hb) (Kd.R_elder' (kqR HO580.out) (Kd.R_base ho0) hb) (Kd.R_lower (Kd.R_new' (Kd.R_new' ho0 (Kd.R_lt (kqR HO577.out))) (Kd.R_lt (kqR HO580.out))) (below_size (bq1 HB.out GE567.out))) (blk_below (zb BK567.out) hb) (below_step (bq1 HB.out GE567.out) hb); clear HO577 HO580 BK567 HB; obtain ⟨HO577, HO580, HO583, BK567, HB⟩ := n_; (try clear hb ho0)))
   go_ret
   exact ⟨_, rq, by refine kr ?_; exact Kd.R_mono HO583.out (fun _ hk => trivial), bq1 HB.out GE567.out⟩
 rw [if_neg c5] at H
 have c5b0 : (a1_0 == 2) = false := beq_eq_false_iff_ne.mpr c5
 have c5b1 : (a1_0 != 2) = true := bne_iff_ne.mpr c5
 by_cases c18 : a1_0 = 4
 · rw [if_pos c18] at H
   have c18b0 : (a1_0 == 4) = true := beq_iff_eq.mpr c18
   have c18b1 : (a1_0 != 4) = false := bne_eq_false_iff_eq.mpr c18
   clear c18
   by_cases c19 : (a1_2.size : Int) < 140737488355328
   rotate_left
   · rw [if_neg c19] at H
     exact absurd H (by simp)
   rw [if_pos c19] at H
   have c19b0 := eq_true c19
   have c19b1 : decide ((a1_2.size : Int) < 140737488355328) = true := decide_eq_true c19
   clear c19
   obtain ⟨y584, hy584⟩ : ∃ y_ : List Int, y_ = (bytesOf a1_2) := ⟨_, rfl⟩
   replace H : ((spec_PutTlv.f k l0 a1_0 y584).bind fun t587 => (some t587)) = some r := hx H hy584
   have Ny584 := am hy584
   clear hy584
   replace H := Option.bind_eq_some_iff.mp H
   obtain ⟨t587, A200, H⟩ := H
   replace H : (some t587) = some r := H
   have A20 := am A200
   clear A200
   obtain rfl := Option.some.inj H
   go_enter Try.func14, Try.ntmps14
   go_wp2_with (first | ((with_reducible refine gate_dst (N := 3) rfl ?_); refine bxe 3 #[.int .i64 a1_0, .int .i64 a1_1, .string a1_2, .slice A1_3 l1_3.length c1_3] 29 ?_; intro gb567 hg w21 hbox hb; have n_ := ak4 (below_step (bq HB.out) hb) hbox ((by rw [hg]; exact (below_size (bq HB.out)) : w.heap.size ≤ gb567)) ((by rw [hg]; exact (below_size (bq HB.out)) : w.heap.size ≤ gb567)); clear HB; obtain ⟨HB, BK567, GW567, GE567⟩ := n_; clear hb hbox hg; obtain ⟨hcz22_0, hcz22_1, hcz22_2, hcz22_3, hfz22_0, hfz22_1, hfz22_2, hfz22_3⟩ := cl4 BK567.out) | ((with_reducible refine gate_callee (f := 47) rfl ?_); refine goesL_ (some 7) rfl rfl Try.func47 (by kernel_rfl) rfl #[.agg #[.int .i64 a1_0, .int .i64 a1_1, .string a1_2, .slice A1_3 l1_3.length c1_3]] rfl ga ?_; (with_reducible refine (spec_ValOk.calls k a1_0 a1_1 a1_2 _ _ l1_3 true _ ?side1 ?side2 A3.out).mono ?_); (case side1 => exact cq (Kd.C_below HR1_3.out HB.out)); (case side2 => exact HC1_3.out); rintro e w23 ⟨rfl, hb⟩; refine ⟨_, rfl, ?_⟩; have n_ := ak2 (blk_below (zb BK567.out) hb) (below_step (bq1 HB.out GE567.out) hb); clear BK567 HB; obtain ⟨BK567, HB⟩ := n_; (try clear hb)) | ((with_reducible refine gate_dst (N := 12) rfl ?_); refine Kd.R_lit (Kd.int .u8) _ 5 ?hg (N := 12) ?hd (xs := ([] : List Int)) (inner := []) (ok := fun _ => True) (okp := fun _ => True) ?hr ?hp (fun _ hk => hk) trivial (Below.refl _ _) (Nat.le_refl _) (by simp) ?_; (case hd => rfl); (case hg => rfl); (case hr => exact gs); (case hp => exact (Reps.none _ _)); intro v576 w24 ho25 hb hg_ hnew_; clear hg_ hnew_; (first | rw [← Ny575.out] at ho25 | (simp only [Int.reduceToNat] at ho25; rw [← Ny575.out] at ho25)); have n_ := ak3 (Kd.R_lower ho25 (below_size (bq1 HB.out GE567.out))) (blk_below (zb BK567.out) hb) (below_step (bq1 HB.out GE567.out) hb); clear BK567 HB; obtain ⟨HO577, BK567, HB⟩ := n_; clear hb ho25; obtain ⟨hcz26_0, hcz26_1, hcz26_2, hcz26_3, hfz26_0, hfz26_1, hfz26_2, hfz26_3⟩ := cl4 BK567.out) | ((with_reducible refine gate_dst (N := 24) rfl ?_); refine strb_event ?hg (N := 24) ?hd 9 22 5 (x := .tmp 23) ?ho (s := a1_2) (y := y584) Ny584.out ?hx Try.underlying9 Try.underlying22 Try.underlying5 (by have h_ : (a1_2.size : Int) < (140737488355328 : Int) := oda; omega) ?_; (case hd => rfl); (case hg => rfl); (case ho => rfl); (case hx => first | (go_simp; done) | (go_simp; rfl)); intro As584 cs584 w27 hs_ hl_ hb; have n_ := ak5 (Kd.R_below (kqR HO577.out) hb) (blk_below (zb BK567.out) hb) (below_step (bq1 HB.out GE567.out) hb) hs_ hl_; clear HO577 BK567 HB; obtain ⟨HO577, BK567, HB, HRs584, HCs584⟩ := n_; clear hb hs_ hl_; obtain ⟨hcz28_0, hcz28_1, hcz28_2, hcz28_3, hfz28_0, hfz28_1, hfz28_2, hfz28_3⟩ := cl4 BK567.out) | ((with_reducible refine gate_callee (f := 66) rfl ?_); refine goesL_ (some 34) rfl rfl Try.func66 (by kernel_rfl) rfl #[.slice A0 l0.length c0, .int .i64 a1_0, .slice As584 y584.length cs584] rfl ga ?_; (with_reducible refine (spec_PutTlv.calls k _ _ l0 a1_0 _ _ y584 t587 _ ?side1 ?side2 ?side3 ?side4 A20.out).mono ?_); (case side1 => exact cq (Kd.C_below HR0.out HB.out)); (case side2 => exact HC0.out); (case side3 => repeat (first | exact (by repeat (first | (with_reducible exact HRs584.out) | (with_reducible refine Kd.C_alloc ?_ _) | (with_reducible refine Kd.C_drewN ?_ _) | (with_reducible refine Kd.C_drew ?_) | exact HRs584.out)) | (with_reducible refine Kd.C_alloc ?_ _) | (with_reducible refine Kd.C_drewN ?_ _) | (with_reducible refine Kd.C_drew ?_))); (case side4 => exact HCs584.out); rintro e w29 ⟨v588, rfl, ho0, hb⟩; refine ⟨_, rfl, ?_⟩; have n_ := ak5 (Kd.R_elder' (kqR HO577.out) (Kd.R_base ho0) hb) (Kd.R_lower (Kd.R_new' ho0 (Kd.R_lt (kqR HO577.out))) (below_size (bq1 HB.out GE567.out))) (blk_below (zb BK567.out) hb) (Kd.C_below (by repeat (first | (with_reducible exact HRs584.out) | (with_reducible refine Kd.C_alloc ?_ _) | (with_reducible refine Kd.C_drewN ?_ _) | (with_reducible refine Kd.C_drew ?_) | exact HRs584.out)) hb) (below_step (bq1 HB.out GE567.out) hb); clear HO577 BK567 HRs584 HB; obtain ⟨HO577, HO589, BK567, HRs584, HB⟩ := n_; (try clear hb ho0)))
   go_ret
   exact ⟨_, rq, by refine kr ?_; exact Kd.R_mono HO589.out (fun _ hk => trivial), bq1 HB.out GE567.out⟩
 rw [if_neg c18] at H
 have c18b0 : (a1_0 == 4) = false := beq_eq_false_iff_ne.mpr c18
 have c18b1 : (a1_0 != 4) = true := bne_iff_ne.mpr c18
 by_cases c30 : a1_0 = 6
 rotate_left
 · rw [if_neg c30] at H
   have c30b0 : (a1_0 == 6) = false := beq_eq_false_iff_ne.mpr c30
   have c30b1 : (a1_0 != 6) = true := bne_iff_ne.mpr c30
   replace H := Option.bind_eq_some_iff.mp H
   obtain ⟨t596, A430, H⟩ := H
   replace H : (some t596) = some r := H
   have A43 := am A430
   clear A430
   obtain rfl := Option.some.inj H
   go_enter Try.func14, Try.ntmps14
   go_wp2_with (first | ((with_reducible refine gate_dst (N := 3) rfl ?_); refine bxe 3 #[.int .i64 a1_0, .int .i64 a1_1, .string a1_2, .slice A1_3 l1_3.length c1_3] 29 ?_; intro gb567 hg w44 hbox hb; have n_ := ak4 (below_step (bq HB.out) hb) hbox ((by rw [hg]; exact (below_size (bq HB.out)) : w.heap.size ≤ gb567)) ((by rw [hg]; exact (below_size (bq HB.out)) : w.heap.size ≤ gb567)); clear HB; obtain ⟨HB, BK567, GW567, GE567⟩ := n_; clear hb hbox hg; obtain ⟨hcz45_0, hcz45_1, hcz45_2, hcz45_3, hfz45_0, hfz45_1, hfz45_2, hfz45_3⟩ := cl4 BK567.out) | ((with_reducible refine gate_callee (f := 47) rfl ?_); refine goesL_ (some 7) rfl rfl Try.func47 (by kernel_rfl) rfl #[.agg #[.int .i64 a1_0, .int .i64 a1_1, .string a1_2, .slice A1_3 l1_3.length c1_3]] rfl ga ?_; (with_reducible refine (spec_ValOk.calls k a1_0 a1_1 a1_2 _ _ l1_3 true _ ?side1 ?side2 A3.out).mono ?_); (case side1 => exact cq (Kd.C_below HR1_3.out HB.out)); (case side2 => exact HC1_3.out); rintro e w46 ⟨rfl, hb⟩; refine ⟨_, rfl, ?_⟩; have n_ := ak2 (blk_below (zb BK567.out) hb) (below_step (bq1 HB.out GE567.out) hb); clear BK567 HB; obtain ⟨BK567, HB⟩ := n_; (try clear hb)) | ((with_reducible refine gate_dst (N := 12) rfl ?_); refine Kd.R_lit (Kd.int .u8) _ 5 ?hg (N := 12) ?hd (xs := ([] : List Int)) (inner := []) (ok := fun _ => True) (okp := fun _ => True) ?hr ?hp (fun _ hk => hk) trivial (Below.refl _ _) (Nat.le_refl _) (by simp) ?_; (case hd => rfl); (case hg => rfl); (case hr => exact gs); (case hp => exact (Reps.none _ _)); intro v576 w47 ho48 hb hg_ hnew_; clear hg_ hnew_; (first | rw [← Ny575.out] at ho48 | (simp only [Int.reduceToNat] at ho48; rw [← Ny575.out] at ho48)); have n_ := ak3 (Kd.R_lower ho48 (below_size (bq1 HB.out GE567.out))) (blk_below (zb BK567.out) hb) (below_step (bq1 HB.out GE567.out) hb); clear BK567 HB; obtain ⟨HO577, BK567, HB⟩ := n_; clear hb ho48; obtain ⟨hcz49_0, hcz49_1, hcz49_2, hcz49_3, hfz49_0, hfz49_1, hfz49_2, hfz49_3⟩ := cl4 BK567.out; obtain ⟨Ao50, co50, eo50⟩ := Kd.R_slice HO577.out; subst eo50) | ((with_reducible refine gate_callee (f := 66) rfl ?_); refine goesL_ (some 34) rfl rfl Try.func66 (by kernel_rfl) rfl #[.slice A0 l0.length c0, .int .i64 a1_0, .slice Ao50 y575.length co50] rfl ga ?_; (with_reducible refine (spec_PutTlv.calls k _ _ l0 a1_0 _ _ y575 t596 _ ?side1 ?side2 ?side3 ?side4 A43.out).mono ?_); (case side1 => exact cq (Kd.C_below HR0.out HB.out)); (case side2 => exact HC0.out); (case side3 => repeat (first | exact (Kd.R_reads' HO577.out).2.2 | (with_reducible refine Kd.C_alloc ?_ _) | (with_reducible refine Kd.C_drewN ?_ _) | (with_reducible refine Kd.C_drew ?_))); (case side4 => exact (Kd.R_reads' HO577.out).2.1); rintro e w51 ⟨v597, rfl, ho0, hb⟩; refine ⟨_, rfl, ?_⟩; have n_ := ak4 (Kd.R_elder' (kqR HO577.out) (Kd.R_base ho0) hb) (Kd.R_lower (Kd.R_new' ho0 (Kd.R_lt (kqR HO577.out))) (below_size (bq1 HB.out GE567.out))) (blk_below (zb BK567.out) hb) (below_step (bq1 HB.out GE567.out) hb); clear HO577 BK567 HB; obtain ⟨HO577, HO598, BK567, HB⟩ := n_; (try clear hb ho0)))
   go_ret
   exact ⟨_, rq, by refine kr ?_; exact Kd.R_mono HO598.out (fun _ hk => trivial), bq1 HB.out GE567.out⟩
 rw [if_pos c30] at H
 have c30b0 : (a1_0 == 6) = true := beq_iff_eq.mpr c30
 have c30b1 : (a1_0 != 6) = false := bne_eq_false_iff_eq.mpr c30
 clear c30
 replace H := Option.bind_eq_some_iff.mp H
 obtain ⟨t590, A310, H⟩ := H
 replace H : ((spec_PutTlv.f k l0 a1_0 t590).bind fun t593 => (some t593)) = some r := H
 have A31 := am A310
 clear A310
 replace H := Option.bind_eq_some_iff.mp H
 obtain ⟨t593, A320, H⟩ := H
 replace H : (some t593) = some r := H
 have A32 := am A320
 clear A320
 obtain rfl := Option.some.inj H
 go_enter Try.func14, Try.ntmps14
 go_wp2_with (first | ((with_reducible refine gate_dst (N := 3) rfl ?_); refine bxe 3 #[.int .i64 a1_0, .int .i64 a1_1, .string a1_2, .slice A1_3 l1_3.length c1_3] 29 ?_; intro gb567 hg w33 hbox hb; have n_ := ak4 (below_step (bq HB.out) hb) hbox ((by rw [hg]; exact (below_size (bq HB.out)) : w.heap.size ≤ gb567)) ((by rw [hg]; exact (below_size (bq HB.out)) : w.heap.size ≤ gb567)); clear HB; obtain ⟨HB, BK567, GW567, GE567⟩ := n_; clear hb hbox hg; obtain ⟨hcz34_0, hcz34_1, hcz34_2, hcz34_3, hfz34_0, hfz34_1, hfz34_2, hfz34_3⟩ := cl4 BK567.out) | ((with_reducible refine gate_callee (f := 47) rfl ?_); refine goesL_ (some 7) rfl rfl Try.func47 (by kernel_rfl) rfl #[.agg #[.int .i64 a1_0, .int .i64 a1_1, .string a1_2, .slice A1_3 l1_3.length c1_3]] rfl ga ?_; (with_reducible refine (spec_ValOk.calls k a1_0 a1_1 a1_2 _ _ l1_3 true _ ?side1 ?side2 A3.out).mono ?_); (case side1 => exact cq (Kd.C_below HR1_3.out HB.out)); (case side2 => exact HC1_3.out); rintro e w35 ⟨rfl, hb⟩; refine ⟨_, rfl, ?_⟩; have n_ := ak2 (blk_below (zb BK567.out) hb) (below_step (bq1 HB.out GE567.out) hb); clear BK567 HB; obtain ⟨BK567, HB⟩ := n_; (try clear hb)) | ((with_reducible refine gate_dst (N := 12) rfl ?_); refine Kd.R_lit (Kd.int .u8) _ 5 ?hg (N := 12) ?hd (xs := ([] : List Int)) (inner := []) (ok := fun _ => True) (okp := fun _ => True) ?hr ?hp (fun _ hk => hk) trivial (Below.refl _ _) (Nat.le_refl _) (by simp) ?_; (case hd => rfl); (case hg => rfl); (case hr => exact gs); (case hp => exact (Reps.none _ _)); intro v576 w36 ho37 hb hg_ hnew_; clear hg_ hnew_; (first | rw [← Ny575.out] at ho37 | (simp only [Int.reduceToNat] at ho37; rw [← Ny575.out] at ho37)); have n_ := ak3 (Kd.R_lower ho37 (below_size (bq1 HB.out GE567.out))) (blk_below (zb BK567.out) hb) (below_step (bq1 HB.out GE567.out) hb); clear BK567 HB; obtain ⟨HO577, BK567, HB⟩ := n_; clear hb ho37; obtain ⟨hcz38_0, hcz38_1, hcz38_2, hcz38_3, hfz38_0, hfz38_1, hfz38_2, hfz38_3⟩ := cl4 BK567.out) | ((with_reducible refine gate_callee (f := 65) rfl ?_); refine goesL_ (some 29) rfl rfl Try.func65 (by kernel_rfl) rfl #[.slice A1_3 l1_3.length c1_3] rfl ga ?_; (with_reducible refine (spec_PutOid.calls k _ _ l1_3 t590 _ ?side1 ?side2 A31.out).mono ?_); (case side1 => exact cq (Kd.C_below HR1_3.out HB.out)); (case side2 => exact HC1_3.out); rintro e w39 ⟨v591, rfl, ho0, hb⟩; refine ⟨_, rfl, ?_⟩; have n_ := ak4 (Kd.R_elder' (kqR HO577.out) (Kd.R_base ho0) hb) (Kd.R_lower (Kd.R_new' ho0 (Kd.R_lt (kqR HO577.out))) (below_size (bq1 HB.out GE567.out))) (blk_below (zb BK567.out) hb) (below_step (bq1 HB.out GE567.out) hb); clear HO577 BK567 HB; obtain ⟨HO577, HO592, BK567, HB⟩ := n_; (try clear hb ho0); obtain ⟨hcz40_0, hcz40_1, hcz40_2, hcz40_3, hfz40_0, hfz40_1, hfz40_2, hfz40_3⟩ := cl4 BK567.out; obtain ⟨Ao41, co41, eo41⟩ := Kd.R_slice HO592.out; subst eo41) | ((with_reducible refine gate_callee (f := 66) rfl ?_); refine goesL_ (some 34) rfl rfl Try.func66 (by kernel_rfl) rfl #[.slice A0 l0.length c0, .int .i64 a1_0, .slice Ao41 t590.length co41] rfl ga ?_; (with_reducible refine (spec_PutTlv.calls k _ _ l0 a1_0 _ _ t590 t593 _ ?side1 ?side2 ?side3 ?side4 A32.out).mono ?_); (case side1 => exact cq (Kd.C_below HR0.out HB.out)); (case side2 => exact HC0.out); (case side3 => repeat (first | exact (Kd.R_reads' HO592.out).2.2 | (with_reducible refine Kd.C_alloc ?_ _) | (with_reducible refine Kd.C_drewN ?_ _) | (with_reducible refine Kd.C_drew ?_))); (case side4 => exact (Kd.R_reads' HO592.out).2.1); rintro e w42 ⟨v594, rfl, ho0, hb⟩; refine ⟨_, rfl, ?_⟩; have n_ := ak5 (Kd.R_elder' (kqR HO577.out) (Kd.R_base ho0) hb) (Kd.R_elder' (kqR HO592.out) (Kd.R_base ho0) hb) (Kd.R_lower (Kd.R_new' (Kd.R_new' ho0 (Kd.R_lt (kqR HO577.out))) (Kd.R_lt (kqR HO592.out))) (below_size (bq1 HB.out GE567.out))) (blk_below (zb BK567.out) hb) (below_step (bq1 HB.out GE567.out) hb); clear HO577 HO592 BK567 HB; obtain ⟨HO577, HO592, HO595, BK567, HB⟩ := n_; (try clear hb ho0)))
 go_ret
 exact ⟨_, rq, by refine kr ?_; exact Kd.R_mono HO595.out (fun _ hk => trivial), bq1 HB.out GE567.out⟩
def spec_l1Bend.f (s0_0 : List Int) (s0_1 : Int) (s0_2 : Int) (l1 : List Int) : Option (List Int × Int × Int) := if (l1.length : Int) = 0 then (some (l1, s0_1, s0_2)) else ((spec_l1Below.f s0_0 s0_1 s0_2 5).bind fun bt599 => (if bt599.1 = 0 then ((spec_l1Below.f s0_0 bt599.2.1 bt599.2.2 (l1.length : Int)).bind fun bt602 => ((spec_l1Int.f s0_0 bt602.2.1 bt602.2.2 (([0, 1, 2, 4, 5, 6, 48, 127, 128, 129, 160, 255] : List Int))).bind fun bt608 => (if 0 ≤ bt602.1 then (if bt602.1 < (l1.length : Int) then (some ((l1.set (bt602.1 : Int).toNat ((bt608.1) % 256)), bt608.2.1, bt608.2.2)) else (none)) else (none)))) else (if bt599.1 = 1 then (if l1.length < 140737488355328 then (some ((l1 ++ [3]), bt599.2.1, bt599.2.2)) else (none)) else (if bt599.1 = 2 then ((spec_l1Below.f s0_0 bt599.2.1 bt599.2.2 (l1.length : Int)).bind fun bt615 => (if 0 ≤ bt615.1 then (if bt615.1 ≤ (l1.length : Int) then (some ((l1.take (bt615.1 : Int).toNat), bt615.2.1, bt615.2.2)) else (none)) else (none))) else (some (l1, bt599.2.1, bt599.2.2))))))
theorem spec_l1Bend.calls (g : Nat) (s0_0 : List Int) (s0_1 : Int) (s0_2 : Int) (P1_ : Nat → Prop) (u9000_ : Value) (l1 : List Int) (r1 : List Int) (r2 : Int) (r3 : Int) (w0 w : World) (hI : IsS135 w0 w g s0_0 s0_1 s0_2) (hB : Below w0.heap.size w0 w) (ho1 : Kd.R (Kd.int .u8) 5 w w0.heap.size P1_ u9000_ l1) (h : spec_l1Bend.f s0_0 s0_1 s0_2 l1 = some (r1, r2, r3)) :
 Calls Try.prog 77 #[.pointer (some ⟨g, 0, none⟩), u9000_] w fun e w' => ∃ v0_ : Value, e = .returned (v0_) ∧ Kd.R (Kd.int .u8) 5 w' w0.heap.size (fun k_ => (P1_ k_ ∨ w.heap.size ≤ k_)) v0_ r1 ∧ IsS135 w0 w' g s0_0 r2 r3 ∧ Below w0.heap.size w0 w' ∧ Kept w w' (fun k_ => (P1_ k_) ∨ k_ = g) := by
 have HO1 := am (show Kd.R (Kd.int .u8) 5 w w0.heap.size (fun k_ => (P1_ k_ ∨ w.heap.size ≤ k_)) u9000_ l1 from Kd.R_mono ho1 (fun k_ hk => (.inl hk)))
 have HI0 := am hI
 have HL := am hB.size
 clear hI
 have HK := am (Kept.refl w (fun k_ => (P1_ k_) ∨ k_ = g))
 have HW0 := am hB.size
 have HB := am hB
 clear hB
 have H : (if (l1.length : Int) = 0 then (some (l1, s0_1, s0_2)) else ((spec_l1Below.f s0_0 s0_1 s0_2 5).bind fun bt599 => (if bt599.1 = 0 then ((spec_l1Below.f s0_0 bt599.2.1 bt599.2.2 (l1.length : Int)).bind fun bt602 => ((spec_l1Int.f s0_0 bt602.2.1 bt602.2.2 (([0, 1, 2, 4, 5, 6, 48, 127, 128, 129, 160, 255] : List Int))).bind fun bt608 => (if 0 ≤ bt602.1 then (if bt602.1 < (l1.length : Int) then (some ((l1.set (bt602.1 : Int).toNat ((bt608.1) % 256)), bt608.2.1, bt608.2.2)) else (none)) else (none)))) else (if bt599.1 = 1 then (if l1.length < 140737488355328 then (some ((l1 ++ [3]), bt599.2.1, bt599.2.2)) else (none)) else (if bt599.1 = 2 then ((spec_l1Below.f s0_0 bt599.2.1 bt599.2.2 (l1.length : Int)).bind fun bt615 => (if 0 ≤ bt615.1 then (if bt615.1 ≤ (l1.length : Int) then (some ((l1.take (bt615.1 : Int).toNat), bt615.2.1, bt615.2.2)) else (none)) else (none))) else (some (l1, bt599.2.1, bt599.2.2))))))) = some (r1, r2, r3) := h
 clear h
 by_cases c3 : (l1.length : Int) = 0
 · rw [if_pos c3] at H
   have c3b0 : ((l1.length : Int) == 0) = true := beq_iff_eq.mpr c3
   have c3b1 : ((l1.length : Int) != 0) = false := bne_eq_false_iff_eq.mpr c3
   clear c3
   simp only [Option.some.injEq, Prod.mk.injEq] at H
   obtain ⟨rfl, rfl, rfl⟩ := H
   obtain ⟨Ao4, co4, eo4⟩ := Kd.R_slice HO1.out
   subst eo4
   go_enter Try.func77, Try.ntmps77
   go_wp2
   go_ret
   exact ⟨_, rq, kqR HO1.out, IsS135.q0 HI0.out, bq1 HB.out (IsS135.ge HI0.out), by repeat (first | (with_reducible first | exact HK.out | apply Kept.alloc | apply Kept.drewN | apply Kept.drew | refine Kept.setCell ?_ (.inl (.inr rfl)) _) | exact HK.out)⟩
 rw [if_neg c3] at H
 have c3b0 : ((l1.length : Int) == 0) = false := beq_eq_false_iff_ne.mpr c3
 have c3b1 : ((l1.length : Int) != 0) = true := bne_iff_ne.mpr c3
 have c3b2 : ¬ (l1 = []) := fun h_ => c3 (by rw [h_]; rfl)
 replace H := Option.bind_eq_some_iff.mp H
 obtain ⟨⟨t599, t600, t601⟩, A50, H⟩ := H
 replace H : (if t599 = 0 then ((spec_l1Below.f s0_0 t600 t601 (l1.length : Int)).bind fun bt602 => ((spec_l1Int.f s0_0 bt602.2.1 bt602.2.2 (([0, 1, 2, 4, 5, 6, 48, 127, 128, 129, 160, 255] : List Int))).bind fun bt608 => (if 0 ≤ bt602.1 then (if bt602.1 < (l1.length : Int) then (some ((l1.set (bt602.1 : Int).toNat ((bt608.1) % 256)), bt608.2.1, bt608.2.2)) else (none)) else (none)))) else (if t599 = 1 then (if l1.length < 140737488355328 then (some ((l1 ++ [3]), t600, t601)) else (none)) else (if t599 = 2 then ((spec_l1Below.f s0_0 t600 t601 (l1.length : Int)).bind fun bt615 => (if 0 ≤ bt615.1 then (if bt615.1 ≤ (l1.length : Int) then (some ((l1.take (bt615.1 : Int).toNat), bt615.2.1, bt615.2.2)) else (none)) else (none))) else (some (l1, t600, t601))))) = some (r1, r2, r3) := H
 have A5 := am A50
 clear A50
 by_cases c6 : t599 = 0
 · rw [if_pos c6] at H
   have c6b0 : (t599 == 0) = true := beq_iff_eq.mpr c6
   have c6b1 : (t599 != 0) = false := bne_eq_false_iff_eq.mpr c6
   clear c6
   replace H := Option.bind_eq_some_iff.mp H
   obtain ⟨⟨t602, t603, t604⟩, A70, H⟩ := H
   replace H : ((spec_l1Int.f s0_0 t603 t604 (([0, 1, 2, 4, 5, 6, 48, 127, 128, 129, 160, 255] : List Int))).bind fun bt608 => (if 0 ≤ t602 then (if t602 < (l1.length : Int) then (some ((l1.set (t602 : Int).toNat ((bt608.1) % 256)), bt608.2.1, bt608.2.2)) else (none)) else (none))) = some (r1, r2, r3) := H
   have A7 := am A70
   clear A70
   obtain ⟨y605, hy605⟩ : ∃ y_ : List Int, y_ = (([0, 1, 2, 4, 5, 6, 48, 127, 128, 129, 160, 255] : List Int)) := ⟨_, rfl⟩
   replace H : ((spec_l1Int.f s0_0 t603 t604 y605).bind fun bt608 => (if 0 ≤ t602 then (if t602 < (l1.length : Int) then (some ((l1.set (t602 : Int).toNat ((bt608.1) % 256)), bt608.2.1, bt608.2.2)) else (none)) else (none))) = some (r1, r2, r3) := hx H hy605
   have Ny605 := am hy605
   clear hy605
   replace H := Option.bind_eq_some_iff.mp H
   obtain ⟨⟨t608, t609, t610⟩, A80, H⟩ := H
   replace H : (if 0 ≤ t602 then (if t602 < (l1.length : Int) then (some ((l1.set (t602 : Int).toNat ((t608) % 256)), t609, t610)) else (none)) else (none)) = some (r1, r2, r3) := H
   have A8 := am A80
   clear A80
   by_cases c9 : 0 ≤ t602
   rotate_left
   · rw [if_neg c9] at H
     exact absurd H (by simp)
   rw [if_pos c9] at H
   have c9b0 : decide (0 ≤ t602) = true := decide_eq_true c9
   clear c9
   by_cases c10 : t602 < (l1.length : Int)
   rotate_left
   · rw [if_neg c10] at H
     exact absurd H (by simp)
   rw [if_pos c10] at H
   have c10b0 : decide (t602 < (l1.length : Int)) = true := decide_eq_true c10
   clear c10
   obtain ⟨y611, hy611⟩ : ∃ y_ : List Int, y_ = (l1.set (t602 : Int).toNat ((t608) % 256)) := ⟨_, rfl⟩
   replace H : (some (y611, t609, t610)) = some (r1, r2, r3) := hx H hy611
   have Ny611 := am hy611
   clear hy611
   simp only [Option.some.injEq, Prod.mk.injEq] at H
   obtain ⟨rfl, rfl, rfl⟩ := H
   obtain ⟨Ao12, co12, eo12⟩ := Kd.R_slice HO1.out
   subst eo12
   go_enter Try.func77, Try.ntmps77
   go_wp2_with (first | ((with_reducible refine gate_callee (f := 122) rfl ?_); refine goesL_ (some 10) rfl rfl Try.func122 (by kernel_rfl) rfl #[.pointer (some ⟨g, 0, none⟩), .int .i64 5] rfl ga ?_; (with_reducible refine (spec_l1Below.calls g s0_0 s0_1 s0_2 5 t599 t600 t601 w0 _ ?side1 ?side2 A5.out).mono ?_); (case side1 => exact IsS135.q0 HI0.out); (case side2 => exact bq1 HB.out (IsS135.ge HI0.out)); rintro e w13 ⟨rfl, hi, hb, hk⟩; refine ⟨_, rfl, ?_⟩; have n_ := ak4 (Kd.R_mono (Kd.R_keep (IsS135.apart (show IsS135 w0 _ g s0_0 s0_1 s0_2 from IsS135.q0 HI0.out) (kqR HO1.out) (by decide)) hk (fun _ h => h.2)) (fun _ h => h.1)) (Kept.of_keep (S := (fun k_ => (P1_ k_) ∨ k_ = g)) (by repeat (first | (with_reducible first | exact HK.out | apply Kept.alloc | apply Kept.drewN | apply Kept.drew | refine Kept.setCell ?_ (.inl (.inr rfl)) _) | exact HK.out)) hk (.inl (.inr rfl))) hb hi; clear HO1 HK HB HI0; obtain ⟨HO1, HK, HB, HI0⟩ := n_; (try clear hb hk hi)) | ((with_reducible refine gate_callee (f := 122) rfl ?_); refine goesL_ (some 17) rfl rfl Try.func122 (by kernel_rfl) rfl #[.pointer (some ⟨g, 0, none⟩), .int .i64 (l1.length : Int)] rfl ga ?_; (with_reducible refine (spec_l1Below.calls g s0_0 t600 t601 (l1.length : Int) t602 t603 t604 w0 _ ?side1 ?side2 A7.out).mono ?_); (case side1 => exact IsS135.q0 HI0.out); (case side2 => exact bq1 HB.out (IsS135.ge HI0.out)); rintro e w14 ⟨rfl, hi, hb, hk⟩; refine ⟨_, rfl, ?_⟩; have n_ := ak4 (Kd.R_mono (Kd.R_keep (IsS135.apart (show IsS135 w0 _ g s0_0 t600 t601 from IsS135.q0 HI0.out) (kqR HO1.out) (by decide)) hk (fun _ h => h.2)) (fun _ h => h.1)) (Kept.of_keep (S := (fun k_ => (P1_ k_) ∨ k_ = g)) (by repeat (first | (with_reducible first | exact HK.out | apply Kept.alloc | apply Kept.drewN | apply Kept.drew | refine Kept.setCell ?_ (.inl (.inr rfl)) _) | exact HK.out)) hk (.inl (.inr rfl))) hb hi; clear HO1 HK HB HI0; obtain ⟨HO1, HK, HB, HI0⟩ := n_; (try clear hb hk hi)) | ((with_reducible refine gate_dst (N := 19) rfl ?_); refine Kd.R_lit (Kd.int .i64) _ 3 ?hg (N := 19) ?hd (xs := ([0, 1, 2, 4, 5, 6, 48, 127, 128, 129, 160, 255] : List Int)) (inner := [.int .i64 0, .int .i64 1, .int .i64 2, .int .i64 4, .int .i64 5, .int .i64 6, .int .i64 48, .int .i64 127, .int .i64 128, .int .i64 129, .int .i64 160, .int .i64 255]) (ok := fun _ => True) (okp := fun _ => True) ?hr ?hp (fun _ hk => hk) trivial (Below.refl _ _) (Nat.le_refl _) (by simp) ?_; (case hd => rfl); (case hg => rfl); (case hr => exact gs); (case hp => exact (Reps.one (ri 0) (Reps.one (ri 1) (Reps.one (ri 2) (Reps.one (ri 4) (Reps.one (ri 5) (Reps.one (ri 6) (Reps.one (ri 48) (Reps.one (ri 127) (Reps.one (ri 128) (Reps.one (ri 129) (Reps.one (ri 160) (Reps.one (ri 255) (Reps.none _ _)))))))))))))); intro v606 w15 ho16 hb hg_ hnew_; clear hg_ hnew_; (first | rw [← Ny605.out] at ho16 | (simp only [Int.reduceToNat] at ho16; rw [← Ny605.out] at ho16)); have n_ := ak5 (Kd.R_below (kqR HO1.out) hb) (Kd.R_lower (Kd.R_newM (M := fun k_ => (P1_ k_ ∨ w.heap.size ≤ k_)) ho16 (by first | exact HK.out.1 | exact (show Kept w _ (fun k_ => (P1_ k_) ∨ k_ = g) from by repeat (first | (with_reducible first | exact HK.out | apply Kept.alloc | apply Kept.drewN | apply Kept.drew | refine Kept.setCell ?_ (.inl (.inr rfl)) _) | exact HK.out)).1) (fun k_ h_ => .inr h_)) (below_size (bq1 HB.out (IsS135.ge HI0.out)))) (IsS135.below (IsS135.q0 HI0.out) hb) (Kept.below (S := (fun k_ => (P1_ k_) ∨ k_ = g)) (by repeat (first | (with_reducible first | exact HK.out | apply Kept.alloc | apply Kept.drewN | apply Kept.drew | refine Kept.setCell ?_ (.inl (.inr rfl)) _) | exact HK.out)) hb) (below_step (bq1 HB.out (IsS135.ge HI0.out)) hb); clear HO1 HI0 HK HB; obtain ⟨HO1, HO607, HI0, HK, HB⟩ := n_; clear hb ho16; obtain ⟨Ao17, co17, eo17⟩ := Kd.R_slice HO607.out; subst eo17) | ((with_reducible refine gate_callee (f := 86) rfl ?_); refine goesL_ (some 20) rfl rfl Try.func86 (by kernel_rfl) rfl #[.pointer (some ⟨g, 0, none⟩), .slice Ao17 y605.length co17] rfl ga ?_; (with_reducible refine (spec_l1Int.calls g s0_0 t603 t604 _ _ y605 t608 t609 t610 w0 _ ?side1 ?side2 ?side3 ?side4 ?side5 A8.out).mono ?_); (case side1 => exact IsS135.q0 HI0.out); (case side2 => exact bq1 HB.out (IsS135.ge HI0.out)); (case side3 => repeat (first | exact (Kd.R_reads' HO607.out).2.2 | (with_reducible refine Kd.C_alloc ?_ _) | (with_reducible refine Kd.C_drewN ?_ _) | (with_reducible refine Kd.C_drew ?_))); (case side4 => exact (Kd.R_reads' HO607.out).2.1); (case side5 => exact far_slice (IsS135.own_ne HI0.out HO607.out (by decide))); rintro e w18 ⟨rfl, hi, hb, hk⟩; refine ⟨_, rfl, ?_⟩; have n_ := ak5 (Kd.R_mono (Kd.R_keep (IsS135.apart (show IsS135 w0 _ g s0_0 t603 t604 from IsS135.q0 HI0.out) (kqR HO1.out) (by decide)) hk (fun _ h => h.2)) (fun _ h => h.1)) (Kd.R_mono (Kd.R_keep (IsS135.apart (show IsS135 w0 _ g s0_0 t603 t604 from IsS135.q0 HI0.out) (kqR HO607.out) (by decide)) hk (fun _ h => h.2)) (fun _ h => h.1)) (Kept.of_keep (S := (fun k_ => (P1_ k_) ∨ k_ = g)) (by repeat (first | (with_reducible first | exact HK.out | apply Kept.alloc | apply Kept.drewN | apply Kept.drew | refine Kept.setCell ?_ (.inl (.inr rfl)) _) | exact HK.out)) hk (.inl (.inr rfl))) hb hi; clear HO1 HO607 HK HB HI0; obtain ⟨HO1, HO607, HK, HB, HI0⟩ := n_; (try clear hb hk hi); have p11 : 0 ≤ (t602 : Int) := oda; have q11 : (t602 : Int) < ((l1.length : Int) : Int) := oda; obtain ⟨go11, co11, eo11, gb11, gl11, cl11, HG11⟩ := Kd.R_form HO1.out (by omega); (first | cases eo11 | (injection eo11 with ea_ en_ ec_; (first | subst ea_ | (injection ea_ with ea_; subst ea_)); subst ec_; clear en_)); have GB11 := am gb11; have GG11 := am HG11; clear gb11 gl11 HG11; have HMgo11 := am (show (P1_ go11 ∨ w.heap.size ≤ go11) from (HO1.out.1 _ rfl)); obtain ⟨hx11_0, hf11_0⟩ := Kd.R_celln 0 HO1.out (t602 : Int) p11 q11; replace p11 := eq_true p11; replace q11 := eq_true q11; obtain ⟨hy19_, hz19_⟩ := Kd.R_celln 0 HO1.out (t602 : Int) (oda) (oda); have HP19 := Kd.R_putg HO1.out (t602 : Int) ((t608) % 256)) | ((with_reducible refine gate_store (t := 5) (p := 22) rfl ?_); refine store_event (t := 5) (p := 22) (v := ?vo_w20) (w1 := (w18.setCell ⟨go11, (t602 : Int).toNat, none⟩ (.int .u8 ((t608) % 256)))) ?hg ?ho ?hn ?hr ?_; (case ho => rfl); (case hg => rfl); (case hn => rfl); (case hr => exact gs); intro w20 hw; have hg : w18.grownBy w20 (some go11) := (by rw [hw]; exact HP19.2); have hp_ : Kd.R (Kd.int .u8) 5 w20 w0.heap.size (fun k_ => (P1_ k_ ∨ w.heap.size ≤ k_)) (.slice (some ⟨go11, 0, none⟩) l1.length co12) y611 := (by rw [hw, Ny611.out]; exact HP19.1); clear HP19; have n_ := ak5 (IsS135.grown (IsS135.q0 HI0.out) hg (IsS135.own_ne HI0.out HO1.out (by decide))) hp_ (Kd.R_over' (v := (.slice (some ⟨go11, 0, none⟩) l1.length co12)) (kqR HO607.out) (Kd.R_typed HO1.out) (by decide) hg) ((by rw [hw]; exact below_set (HB.out) GB11.out : Below w0.heap.size w0 w20)) (Kept.of_grown (S := (fun k_ => (P1_ k_) ∨ k_ = g)) hg (by repeat (first | (with_reducible first | exact HK.out | apply Kept.alloc | apply Kept.drewN | apply Kept.drew | refine Kept.setCell ?_ (.inl (.inr rfl)) _) | exact HK.out)) (fun k_ e_ => Or.imp_left Or.inl ((HO1.out.1 k_ e_)))); clear HI0 HO1 HO607 HB HK; obtain ⟨HI0, HO1, HO607, HB, HK⟩ := n_; clear hg hw hp_))
   go_ret
   exact ⟨_, rq, kqR HO1.out, IsS135.q0 HI0.out, bq1 HB.out (IsS135.ge HI0.out), by repeat (first | (with_reducible first | exact HK.out | apply Kept.alloc | apply Kept.drewN | apply Kept.drew | refine Kept.setCell ?_ (.inl (.inr rfl)) _) | exact HK.out)⟩
 rw [if_neg c6] at H
 have c6b0 : (t599 == 0) = false := beq_eq_false_iff_ne.mpr c6
 have c6b1 : (t599 != 0) = true := bne_iff_ne.mpr c6
 by_cases c21 : t599 = 1
 · rw [if_pos c21] at H
   have c21b0 : (t599 == 1) = true := beq_iff_eq.mpr c21
   have c21b1 : (t599 != 1) = false := bne_eq_false_iff_eq.mpr c21
   clear c21
   by_cases c22 : l1.length < 140737488355328
   rotate_left
   · rw [if_neg c22] at H
     exact absurd H (by simp)
   rw [if_pos c22] at H
   have LMc22 := am c22
   clear c22
   obtain ⟨y612, hy612⟩ : ∃ y_ : List Int, y_ = (l1 ++ [3]) := ⟨_, rfl⟩
   replace H : (some (y612, t600, t601)) = some (r1, r2, r3) := hx H hy612
   have Ny612 := am hy612
   clear hy612
   simp only [Option.some.injEq, Prod.mk.injEq] at H
   obtain ⟨rfl, rfl, rfl⟩ := H
   obtain ⟨Ao23, co23, eo23⟩ := Kd.R_slice HO1.out
   subst eo23
   go_enter Try.func77, Try.ntmps77
   go_wp2_with (first | ((with_reducible refine gate_callee (f := 122) rfl ?_); refine goesL_ (some 10) rfl rfl Try.func122 (by kernel_rfl) rfl #[.pointer (some ⟨g, 0, none⟩), .int .i64 5] rfl ga ?_; (with_reducible refine (spec_l1Below.calls g s0_0 s0_1 s0_2 5 t599 t600 t601 w0 _ ?side1 ?side2 A5.out).mono ?_); (case side1 => exact IsS135.q0 HI0.out); (case side2 => exact bq1 HB.out (IsS135.ge HI0.out)); rintro e w24 ⟨rfl, hi, hb, hk⟩; refine ⟨_, rfl, ?_⟩; have n_ := ak4 (Kd.R_mono (Kd.R_keep (IsS135.apart (show IsS135 w0 _ g s0_0 s0_1 s0_2 from IsS135.q0 HI0.out) (kqR HO1.out) (by decide)) hk (fun _ h => h.2)) (fun _ h => h.1)) (Kept.of_keep (S := (fun k_ => (P1_ k_) ∨ k_ = g)) (by repeat (first | (with_reducible first | exact HK.out | apply Kept.alloc | apply Kept.drewN | apply Kept.drew | refine Kept.setCell ?_ (.inl (.inr rfl)) _) | exact HK.out)) hk (.inl (.inr rfl))) hb hi; clear HO1 HK HB HI0; obtain ⟨HO1, HK, HB, HI0⟩ := n_; (try clear hb hk hi)) | ((with_reducible refine gate_builtin (b := .append) (xs := #[.tmp 25, .tmp 26]) rfl ?_); at_builtin; refine Kd.R_append (Kd.int .u8) (w0 := w0) w0.heap.size rfl (.tmp 25) (.tmp 26) 22 5 (.int .u8 0) 1 rfl Try.underlying22 info5 rfl (by decide) (by omega) (.slice Ao23 l1.length co23) l1 3 [.int .u8 3] (fun k_ => (P1_ k_ ∨ w.heap.size ≤ k_)) (fun _ => False) rfl rfl ?aP (fun _ hk => hk.elim) ?aF ?aO ?aB ?aS ?aL ?_; (case aP => exact rfl); (case aB => exact (bq1 HB.out (IsS135.ge HI0.out))); (case aF => exact (fun k_ hk => (.inr (Nat.le_trans (by first | exact HK.out.1 | exact (show Kept w _ (fun k_ => (P1_ k_) ∨ k_ = g) from by repeat (first | (with_reducible first | exact HK.out | apply Kept.alloc | apply Kept.drewN | apply Kept.drew | refine Kept.setCell ?_ (.inl (.inr rfl)) _) | exact HK.out)).1) hk)))); (case aO => exact (kqR HO1.out)); (case aS => exact (below_size (bq1 HB.out (IsS135.ge HI0.out)))); (case aL => have := LMc22.out; omega); intro v613 w25 ho hb hg hat; rw [← Ny612.out] at ho; have n_ := ak4 (IsS135.grown (IsS135.q0 HI0.out) hg (IsS135.own_ne HI0.out HO1.out (by decide))) hb (Kept.of_grown (S := (fun k_ => (P1_ k_) ∨ k_ = g)) hg (by repeat (first | (with_reducible first | exact HK.out | apply Kept.alloc | apply Kept.drewN | apply Kept.drew | refine Kept.setCell ?_ (.inl (.inr rfl)) _) | exact HK.out)) (fun k_ e_ => Or.imp_left Or.inl ((HO1.out.1 k_ e_)))) ho; clear HI0 HB HK HO1; obtain ⟨HI0, HB, HK, HO614⟩ := n_; clear ho hb hg hat))
   go_ret
   exact ⟨_, rq, kqR HO614.out, IsS135.q0 HI0.out, bq1 HB.out (IsS135.ge HI0.out), by repeat (first | (with_reducible first | exact HK.out | apply Kept.alloc | apply Kept.drewN | apply Kept.drew | refine Kept.setCell ?_ (.inl (.inr rfl)) _) | exact HK.out)⟩
 rw [if_neg c21] at H
 have c21b0 : (t599 == 1) = false := beq_eq_false_iff_ne.mpr c21
 have c21b1 : (t599 != 1) = true := bne_iff_ne.mpr c21
 by_cases c26 : t599 = 2
 rotate_left
 · rw [if_neg c26] at H
   have c26b0 : (t599 == 2) = false := beq_eq_false_iff_ne.mpr c26
   have c26b1 : (t599 != 2) = true := bne_iff_ne.mpr c26
   simp only [Option.some.injEq, Prod.mk.injEq] at H
   obtain ⟨rfl, rfl, rfl⟩ := H
   obtain ⟨Ao34, co34, eo34⟩ := Kd.R_slice HO1.out
   subst eo34
   go_enter Try.func77, Try.ntmps77
   go_wp2_with (first | ((with_reducible refine gate_callee (f := 122) rfl ?_); refine goesL_ (some 10) rfl rfl Try.func122 (by kernel_rfl) rfl #[.pointer (some ⟨g, 0, none⟩), .int .i64 5] rfl ga ?_; (with_reducible refine (spec_l1Below.calls g s0_0 s0_1 s0_2 5 t599 t600 t601 w0 _ ?side1 ?side2 A5.out).mono ?_); (case side1 => exact IsS135.q0 HI0.out); (case side2 => exact bq1 HB.out (IsS135.ge HI0.out)); rintro e w35 ⟨rfl, hi, hb, hk⟩; refine ⟨_, rfl, ?_⟩; have n_ := ak4 (Kd.R_mono (Kd.R_keep (IsS135.apart (show IsS135 w0 _ g s0_0 s0_1 s0_2 from IsS135.q0 HI0.out) (kqR HO1.out) (by decide)) hk (fun _ h => h.2)) (fun _ h => h.1)) (Kept.of_keep (S := (fun k_ => (P1_ k_) ∨ k_ = g)) (by repeat (first | (with_reducible first | exact HK.out | apply Kept.alloc | apply Kept.drewN | apply Kept.drew | refine Kept.setCell ?_ (.inl (.inr rfl)) _) | exact HK.out)) hk (.inl (.inr rfl))) hb hi; clear HO1 HK HB HI0; obtain ⟨HO1, HK, HB, HI0⟩ := n_; (try clear hb hk hi)))
   go_ret
   exact ⟨_, rq, kqR HO1.out, IsS135.q0 HI0.out, bq1 HB.out (IsS135.ge HI0.out), by repeat (first | (with_reducible first | exact HK.out | apply Kept.alloc | apply Kept.drewN | apply Kept.drew | refine Kept.setCell ?_ (.inl (.inr rfl)) _) | exact HK.out)⟩
 rw [if_pos c26] at H
 have c26b0 : (t599 == 2) = true := beq_iff_eq.mpr c26
 have c26b1 : (t599 != 2) = false := bne_eq_false_iff_eq.mpr c26
 clear c26
 replace H := Option.bind_eq_some_iff.mp H
 obtain ⟨⟨t615, t616, t617⟩, A270, H⟩ := H
 replace H : (if 0 ≤ t615 then (if t615 ≤ (l1.length : Int) then (some ((l1.take (t615 : Int).toNat), t616, t617)) else (none)) else (none)) = some (r1, r2, r3) := H
 have A27 := am A270
 clear A270
 by_cases c28 : 0 ≤ t615
 rotate_left
 · rw [if_neg c28] at H
   exact absurd H (by simp)
 rw [if_pos c28] at H
 have c28b0 := eq_true c28
 have c28b1 : decide (0 ≤ t615) = true := decide_eq_true c28
 clear c28
 by_cases c29 : t615 ≤ (l1.length : Int)
 rotate_left
 · rw [if_neg c29] at H
   exact absurd H (by simp)
 rw [if_pos c29] at H
 have c29b0 := eq_true c29
 have c29b1 : decide (t615 ≤ (l1.length : Int)) = true := decide_eq_true c29
 clear c29
 obtain ⟨y618, hy618⟩ : ∃ y_ : List Int, y_ = (l1.take (t615 : Int).toNat) := ⟨_, rfl⟩
 replace H : (some (y618, t616, t617)) = some (r1, r2, r3) := hx H hy618
 have Ny618 := am hy618
 clear hy618
 simp only [Option.some.injEq, Prod.mk.injEq] at H
 obtain ⟨rfl, rfl, rfl⟩ := H
 obtain ⟨Ao30, co30, eo30⟩ := Kd.R_slice HO1.out
 subst eo30
 go_enter Try.func77, Try.ntmps77
 go_wp2_with (first | ((with_reducible refine gate_callee (f := 122) rfl ?_); refine goesL_ (some 10) rfl rfl Try.func122 (by kernel_rfl) rfl #[.pointer (some ⟨g, 0, none⟩), .int .i64 5] rfl ga ?_; (with_reducible refine (spec_l1Below.calls g s0_0 s0_1 s0_2 5 t599 t600 t601 w0 _ ?side1 ?side2 A5.out).mono ?_); (case side1 => exact IsS135.q0 HI0.out); (case side2 => exact bq1 HB.out (IsS135.ge HI0.out)); rintro e w31 ⟨rfl, hi, hb, hk⟩; refine ⟨_, rfl, ?_⟩; have n_ := ak4 (Kd.R_mono (Kd.R_keep (IsS135.apart (show IsS135 w0 _ g s0_0 s0_1 s0_2 from IsS135.q0 HI0.out) (kqR HO1.out) (by decide)) hk (fun _ h => h.2)) (fun _ h => h.1)) (Kept.of_keep (S := (fun k_ => (P1_ k_) ∨ k_ = g)) (by repeat (first | (with_reducible first | exact HK.out | apply Kept.alloc | apply Kept.drewN | apply Kept.drew | refine Kept.setCell ?_ (.inl (.inr rfl)) _) | exact HK.out)) hk (.inl (.inr rfl))) hb hi; clear HO1 HK HB HI0; obtain ⟨HO1, HK, HB, HI0⟩ := n_; (try clear hb hk hi)) | ((with_reducible refine gate_callee (f := 122) rfl ?_); refine goesL_ (some 34) rfl rfl Try.func122 (by kernel_rfl) rfl #[.pointer (some ⟨g, 0, none⟩), .int .i64 (l1.length : Int)] rfl ga ?_; (with_reducible refine (spec_l1Below.calls g s0_0 t600 t601 (l1.length : Int) t615 t616 t617 w0 _ ?side1 ?side2 A27.out).mono ?_); (case side1 => exact IsS135.q0 HI0.out); (case side2 => exact bq1 HB.out (IsS135.ge HI0.out)); rintro e w32 ⟨rfl, hi, hb, hk⟩; refine ⟨_, rfl, ?_⟩; have n_ := ak4 (Kd.R_mono (Kd.R_keep (IsS135.apart (show IsS135 w0 _ g s0_0 t600 t601 from IsS135.q0 HI0.out) (kqR HO1.out) (by decide)) hk (fun _ h => h.2)) (fun _ h => h.1)) (Kept.of_keep (S := (fun k_ => (P1_ k_) ∨ k_ = g)) (by repeat (first | (with_reducible first | exact HK.out | apply Kept.alloc | apply Kept.drewN | apply Kept.drew | refine Kept.setCell ?_ (.inl (.inr rfl)) _) | exact HK.out)) hk (.inl (.inr rfl))) hb hi; clear HO1 HK HB HI0; obtain ⟨HO1, HK, HB, HI0⟩ := n_; (try clear hb hk hi); have q33 : (t615 : Int) ≤ ((l1.length : Int) : Int) := oda; obtain ⟨i033, hi033, _, hsz33, _⟩ := info_parts info5; have hcut33 := cut_to (P := Try.prog) 22 5 .i64 Try.underlying22 hi033 Ao30 l1.length co30 t615 (oda) q33 (Kd.R_reads' HO1.out).2.1; have hr33 := Kd.R_take (m := (t615 : Int).toNat) HO1.out (by omega); have hy33 : y618.length = (t615 : Int).toNat := (by rw [Ny618.out, List.length_take]; omega); rw [← Ny618.out] at hr33; rw [← hy33] at hr33 hcut33; clear hy33 hi033 hsz33 HO1; have HO620 := am hr33; clear hr33; replace q33 := eq_true q33))
 go_ret
 exact ⟨_, rq, kqR HO620.out, IsS135.q0 HI0.out, bq1 HB.out (IsS135.ge HI0.out), by repeat (first | (with_reducible first | exact HK.out | apply Kept.alloc | apply Kept.drewN | apply Kept.drew | refine Kept.setCell ?_ (.inl (.inr rfl)) _) | exact HK.out)⟩
end Go.Proofs.Ythhnfmbfgplelaa.XFnVals
