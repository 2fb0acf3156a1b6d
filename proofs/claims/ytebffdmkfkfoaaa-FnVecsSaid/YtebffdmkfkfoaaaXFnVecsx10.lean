/- The functions that one law reaches, as Lean functions, with their walks: printed by a program of this seat (wip/tools) out of the translation. -/
import Derived.Test.YtebffdmkfkfoaaaXFnVecsx0
import Derived.Test.YtebffdmkfkfoaaaXFnVecsx2
import Derived.Test.YtebffdmkfkfoaaaXFnVecsx8
import Derived.Test.YtebffdmkfkfoaaaXFnVecsx9
namespace Go.Proofs.Ytebffdmkfkfoaaa.XFnVecs
open Go.RowKit Go.Proofs.YtebffdmkfkfoaaaW.PrintWords Go.Proofs.YtebffdmkfkfoaaaW.PrintLast Go.Proofs.YtebffdmkfkfoaaaW.PrintMore
attribute [local go_sem] max2_int min2_int max_two min_two max_three min_three max_four min_four   -- for this text's walks alone
set_option linter.unusedVariables false
set_option linter.unusedSimpArgs false

/-! ### spec_l1Bend: function 115 -/
def spec_l1Bend.f (s0_0 : List Int) (s0_1 : Int) (s0_2 : Int) (l1 : List Int) : Option (List Int × Int × Int) := if (l1.length : Int) = 0 then (some (l1, s0_1, s0_2)) else ((spec_l1Below.f s0_0 s0_1 s0_2 5).bind fun bt409 => (if bt409.1 = 0 then ((spec_l1Below.f s0_0 bt409.2.1 bt409.2.2 (l1.length : Int)).bind fun bt412 => ((spec_l1Int.f s0_0 bt412.2.1 bt412.2.2 (([0, 1, 2, 4, 5, 6, 48, 127, 128, 129, 160, 255] : List Int))).bind fun bt418 => (if 0 ≤ bt412.1 then (if bt412.1 < (l1.length : Int) then (some ((l1.set (bt412.1 : Int).toNat ((bt418.1) % 256)), bt418.2.1, bt418.2.2)) else (none)) else (none)))) else (if bt409.1 = 1 then (if l1.length < 140737488355328 then (some ((l1 ++ [3]), bt409.2.1, bt409.2.2)) else (none)) else (if bt409.1 = 2 then ((spec_l1Below.f s0_0 bt409.2.1 bt409.2.2 (l1.length : Int)).bind fun bt425 => (if 0 ≤ bt425.1 then (if bt425.1 ≤ (l1.length : Int) then (some ((l1.take (bt425.1 : Int).toNat), bt425.2.1, bt425.2.2)) else (none)) else (none))) else (some (l1, bt409.2.1, bt409.2.2))))))
set_option maxHeartbeats 8000000 in
set_option maxRecDepth 100000 in
theorem spec_l1Bend.calls (g : Nat) (s0_0 : List Int) (s0_1 : Int) (s0_2 : Int) (P1_ : Nat → Prop) (u9000_ : Value) (l1 : List Int) (r1 : List Int) (r2 : Int) (r3 : Int) (w0 w : World) (hI : IsS133 w0 w g s0_0 s0_1 s0_2) (hB : Below w0.heap.size w0 w) (ho1 : Kd.R (Kd.int .u8) 5 w w0.heap.size P1_ u9000_ l1) (h : spec_l1Bend.f s0_0 s0_1 s0_2 l1 = some (r1, r2, r3)) :
 Calls Try.prog 115 #[.pointer (some ⟨g, 0, none⟩), u9000_] w fun e w' => ∃ v0_ : Value, e = .returned (v0_) ∧ Kd.R (Kd.int .u8) 5 w' w0.heap.size (fun k_ => (P1_ k_ ∨ w.heap.size ≤ k_)) v0_ r1 ∧ IsS133 w0 w' g s0_0 r2 r3 ∧ Below w0.heap.size w0 w' ∧ Kept w w' (fun k_ => (P1_ k_) ∨ k_ = g) := by
 have HO1 := am (show Kd.R (Kd.int .u8) 5 w w0.heap.size (fun k_ => (P1_ k_ ∨ w.heap.size ≤ k_)) u9000_ l1 from Kd.R_mono ho1 (fun k_ hk => (.inl hk)))
 have HI0 := am hI
 have HL := am hB.size
 clear hI
 have HK := am (Kept.refl w (fun k_ => (P1_ k_) ∨ k_ = g))
 have HW0 := am hB.size
 have HB := am hB
 clear hB
 have H : (if (l1.length : Int) = 0 then (some (l1, s0_1, s0_2)) else ((spec_l1Below.f s0_0 s0_1 s0_2 5).bind fun bt409 => (if bt409.1 = 0 then ((spec_l1Below.f s0_0 bt409.2.1 bt409.2.2 (l1.length : Int)).bind fun bt412 => ((spec_l1Int.f s0_0 bt412.2.1 bt412.2.2 (([0, 1, 2, 4, 5, 6, 48, 127, 128, 129, 160, 255] : List Int))).bind fun bt418 => (if 0 ≤ bt412.1 then (if bt412.1 < (l1.length : Int) then (some ((l1.set (bt412.1 : Int).toNat ((bt418.1) % 256)), bt418.2.1, bt418.2.2)) else (none)) else (none)))) else (if bt409.1 = 1 then (if l1.length < 140737488355328 then (some ((l1 ++ [3]), bt409.2.1, bt409.2.2)) else (none)) else (if bt409.1 = 2 then ((spec_l1Below.f s0_0 bt409.2.1 bt409.2.2 (l1.length : Int)).bind fun bt425 => (if 0 ≤ bt425.1 then (if bt425.1 ≤ (l1.length : Int) then (some ((l1.take (bt425.1 : Int).toNat), bt425.2.1, bt425.2.2)) else (none)) else (none))) else (some (l1, bt409.2.1, bt409.2.2))))))) = some (r1, r2, r3) := h
 clear h
 by_cases c3 : (l1.length : Int) = 0
 · rw [if_pos c3] at H
   have c3b0 : ((l1.length : Int) == 0) = true := beq_iff_eq.mpr c3
   have c3b1 : ((l1.length : Int) != 0) = false := bne_eq_false_iff_eq.mpr c3
   clear c3
   simp only [Option.some.injEq, Prod.mk.injEq] at H
   obtain ⟨rfl, rfl, rfl⟩ := H
   obtain ⟨Ao4, co4, eo4⟩ := Kd.R_slice HO1.out
   subst eo4
   go_enter Try.func115, Try.ntmps115
   go_wp2
   go_ret
   exact ⟨_, rq, kqR HO1.out, IsS133.q0 HI0.out, bq1 HB.out (IsS133.ge HI0.out), by repeat (first | (with_reducible first | exact HK.out | apply Kept.alloc | apply Kept.drewN | apply Kept.drew | refine Kept.setCell ?_ (.inl (.inr rfl)) _) | exact HK.out)⟩
 rw [if_neg c3] at H
 have c3b0 : ((l1.length : Int) == 0) = false := beq_eq_false_iff_ne.mpr c3
 have c3b1 : ((l1.length : Int) != 0) = true := bne_iff_ne.mpr c3
 have c3b2 : ¬ (l1 = []) := fun h_ => c3 (by rw [h_]; rfl)
 replace H := Option.bind_eq_some_iff.mp H
 obtain ⟨⟨t409, t410, t411⟩, A50, H⟩ := H
 replace H : (if t409 = 0 then ((spec_l1Below.f s0_0 t410 t411 (l1.length : Int)).bind fun bt412 => ((spec_l1Int.f s0_0 bt412.2.1 bt412.2.2 (([0, 1, 2, 4, 5, 6, 48, 127, 128, 129, 160, 255] : List Int))).bind fun bt418 => (if 0 ≤ bt412.1 then (if bt412.1 < (l1.length : Int) then (some ((l1.set (bt412.1 : Int).toNat ((bt418.1) % 256)), bt418.2.1, bt418.2.2)) else (none)) else (none)))) else (if t409 = 1 then (if l1.length < 140737488355328 then (some ((l1 ++ [3]), t410, t411)) else (none)) else (if t409 = 2 then ((spec_l1Below.f s0_0 t410 t411 (l1.length : Int)).bind fun bt425 => (if 0 ≤ bt425.1 then (if bt425.1 ≤ (l1.length : Int) then (some ((l1.take (bt425.1 : Int).toNat), bt425.2.1, bt425.2.2)) else (none)) else (none))) else (some (l1, t410, t411))))) = some (r1, r2, r3) := H
 have A5 := am A50
 clear A50
 by_cases c6 : t409 = 0
 · rw [if_pos c6] at H
   have c6b0 : (t409 == 0) = true := beq_iff_eq.mpr c6
   have c6b1 : (t409 != 0) = false := bne_eq_false_iff_eq.mpr c6
   clear c6
   replace H := Option.bind_eq_some_iff.mp H
   obtain ⟨⟨t412, t413, t414⟩, A70, H⟩ := H
   replace H : ((spec_l1Int.f s0_0 t413 t414 (([0, 1, 2, 4, 5, 6, 48, 127, 128, 129, 160, 255] : List Int))).bind fun bt418 => (if 0 ≤ t412 then (if t412 < (l1.length : Int) then (some ((l1.set (t412 : Int).toNat ((bt418.1) % 256)), bt418.2.1, bt418.2.2)) else (none)) else (none))) = some (r1, r2, r3) := H
   have A7 := am A70
   clear A70
   obtain ⟨y415, hy415⟩ : ∃ y_ : List Int, y_ = (([0, 1, 2, 4, 5, 6, 48, 127, 128, 129, 160, 255] : List Int)) := ⟨_, rfl⟩
   replace H : ((spec_l1Int.f s0_0 t413 t414 y415).bind fun bt418 => (if 0 ≤ t412 then (if t412 < (l1.length : Int) then (some ((l1.set (t412 : Int).toNat ((bt418.1) % 256)), bt418.2.1, bt418.2.2)) else (none)) else (none))) = some (r1, r2, r3) := by first | (rw [hy415]; with_reducible exact H) | (have H2_ := (Option.bind_some _ _).symm.trans H; rw [hy415]; with_reducible exact H2_) | (have H2_ := (Option.bind_some _ _).symm.trans H; with_reducible exact H2_) | with_reducible exact H | (rw [hy415]; exact H) | exact H
   have Ny415 := am hy415
   clear hy415
   replace H := Option.bind_eq_some_iff.mp H
   obtain ⟨⟨t418, t419, t420⟩, A80, H⟩ := H
   replace H : (if 0 ≤ t412 then (if t412 < (l1.length : Int) then (some ((l1.set (t412 : Int).toNat ((t418) % 256)), t419, t420)) else (none)) else (none)) = some (r1, r2, r3) := H
   have A8 := am A80
   clear A80
   by_cases c9 : 0 ≤ t412
   · rw [if_pos c9] at H
     have c9b0 : decide (0 ≤ t412) = true := decide_eq_true c9
     clear c9
     by_cases c10 : t412 < (l1.length : Int)
     · rw [if_pos c10] at H
       have c10b0 : decide (t412 < (l1.length : Int)) = true := decide_eq_true c10
       clear c10
       obtain ⟨y421, hy421⟩ : ∃ y_ : List Int, y_ = (l1.set (t412 : Int).toNat ((t418) % 256)) := ⟨_, rfl⟩
       replace H : (some (y421, t419, t420)) = some (r1, r2, r3) := by first | (rw [hy421]; with_reducible exact H) | (have H2_ := (Option.bind_some _ _).symm.trans H; rw [hy421]; with_reducible exact H2_) | (have H2_ := (Option.bind_some _ _).symm.trans H; with_reducible exact H2_) | with_reducible exact H | (rw [hy421]; exact H) | exact H
       have Ny421 := am hy421
       clear hy421
       simp only [Option.some.injEq, Prod.mk.injEq] at H
       obtain ⟨rfl, rfl, rfl⟩ := H
       obtain ⟨Ao12, co12, eo12⟩ := Kd.R_slice HO1.out
       subst eo12
       go_enter Try.func115, Try.ntmps115
       go_wp2_with (first | ((with_reducible refine gate_callee (f := 86) rfl ?_); refine goesL_ (some 10) rfl rfl Try.func86 (by kernel_rfl) rfl #[.pointer (some ⟨g, 0, none⟩), .int .i64 5] rfl ga ?_; (with_reducible refine (spec_l1Below.calls g s0_0 s0_1 s0_2 5 t409 t410 t411 w0 _ ?side1 ?side2 A5.out).mono ?_); (case side1 => exact IsS133.q0 HI0.out); (case side2 => exact bq1 HB.out (IsS133.ge HI0.out)); rintro e w13 ⟨rfl, hi, hb, hk⟩; refine ⟨_, rfl, ?_⟩; have n_ := ak4 (Kd.R_mono (Kd.R_keep (IsS133.apart (show IsS133 w0 _ g s0_0 s0_1 s0_2 from IsS133.q0 HI0.out) (kqR HO1.out) (by decide)) hk (fun _ h => h.2)) (fun _ h => h.1)) (Kept.of_keep (S := (fun k_ => (P1_ k_) ∨ k_ = g)) (by repeat (first | (with_reducible first | exact HK.out | apply Kept.alloc | apply Kept.drewN | apply Kept.drew | refine Kept.setCell ?_ (.inl (.inr rfl)) _) | exact HK.out)) hk (.inl (.inr rfl))) hb hi; clear HO1 HK HB HI0; obtain ⟨HO1, HK, HB, HI0⟩ := n_; (try clear hb hk hi)) | ((with_reducible refine gate_callee (f := 86) rfl ?_); refine goesL_ (some 17) rfl rfl Try.func86 (by kernel_rfl) rfl #[.pointer (some ⟨g, 0, none⟩), .int .i64 (l1.length : Int)] rfl ga ?_; (with_reducible refine (spec_l1Below.calls g s0_0 t410 t411 (l1.length : Int) t412 t413 t414 w0 _ ?side1 ?side2 A7.out).mono ?_); (case side1 => exact IsS133.q0 HI0.out); (case side2 => exact bq1 HB.out (IsS133.ge HI0.out)); rintro e w14 ⟨rfl, hi, hb, hk⟩; refine ⟨_, rfl, ?_⟩; have n_ := ak4 (Kd.R_mono (Kd.R_keep (IsS133.apart (show IsS133 w0 _ g s0_0 t410 t411 from IsS133.q0 HI0.out) (kqR HO1.out) (by decide)) hk (fun _ h => h.2)) (fun _ h => h.1)) (Kept.of_keep (S := (fun k_ => (P1_ k_) ∨ k_ = g)) (by repeat (first | (with_reducible first | exact HK.out | apply Kept.alloc | apply Kept.drewN | apply Kept.drew | refine Kept.setCell ?_ (.inl (.inr rfl)) _) | exact HK.out)) hk (.inl (.inr rfl))) hb hi; clear HO1 HK HB HI0; obtain ⟨HO1, HK, HB, HI0⟩ := n_; (try clear hb hk hi)) | ((with_reducible refine gate_dst (N := 19) rfl ?_); refine Kd.R_lit (Kd.int .i64) _ 3 ?hg (N := 19) ?hd (xs := ([0, 1, 2, 4, 5, 6, 48, 127, 128, 129, 160, 255] : List Int)) (inner := [.int .i64 0, .int .i64 1, .int .i64 2, .int .i64 4, .int .i64 5, .int .i64 6, .int .i64 48, .int .i64 127, .int .i64 128, .int .i64 129, .int .i64 160, .int .i64 255]) (ok := fun _ => True) (okp := fun _ => True) ?hr ?hp (fun _ hk => hk) trivial (Below.refl _ _) (Nat.le_refl _) (by simp) ?_; (case hd => rfl); (case hg => rfl); (case hr => exact gs); (case hp => exact (Reps.one (show Kd.M (Kd.int .i64) _ _ _ 0 [.int .i64 0] from rfl) (Reps.one (show Kd.M (Kd.int .i64) _ _ _ 1 [.int .i64 1] from rfl) (Reps.one (show Kd.M (Kd.int .i64) _ _ _ 2 [.int .i64 2] from rfl) (Reps.one (show Kd.M (Kd.int .i64) _ _ _ 4 [.int .i64 4] from rfl) (Reps.one (show Kd.M (Kd.int .i64) _ _ _ 5 [.int .i64 5] from rfl) (Reps.one (show Kd.M (Kd.int .i64) _ _ _ 6 [.int .i64 6] from rfl) (Reps.one (show Kd.M (Kd.int .i64) _ _ _ 48 [.int .i64 48] from rfl) (Reps.one (show Kd.M (Kd.int .i64) _ _ _ 127 [.int .i64 127] from rfl) (Reps.one (show Kd.M (Kd.int .i64) _ _ _ 128 [.int .i64 128] from rfl) (Reps.one (show Kd.M (Kd.int .i64) _ _ _ 129 [.int .i64 129] from rfl) (Reps.one (show Kd.M (Kd.int .i64) _ _ _ 160 [.int .i64 160] from rfl) (Reps.one (show Kd.M (Kd.int .i64) _ _ _ 255 [.int .i64 255] from rfl) (Reps.none _ _)))))))))))))); intro v416 w15 ho16 hb hg_ hnew_; clear hg_ hnew_; (first | rw [← Ny415.out] at ho16 | (simp only [Int.reduceToNat] at ho16; rw [← Ny415.out] at ho16)); have n_ := ak5 (Kd.R_below (kqR HO1.out) hb) (Kd.R_lower (Kd.R_newM (M := fun k_ => (P1_ k_ ∨ w.heap.size ≤ k_)) ho16 (by first | exact HK.out.1 | exact (show Kept w _ (fun k_ => (P1_ k_) ∨ k_ = g) from by repeat (first | (with_reducible first | exact HK.out | apply Kept.alloc | apply Kept.drewN | apply Kept.drew | refine Kept.setCell ?_ (.inl (.inr rfl)) _) | exact HK.out)).1) (fun k_ h_ => .inr h_)) (below_size (bq1 HB.out (IsS133.ge HI0.out)))) (IsS133.below (IsS133.q0 HI0.out) hb) (Kept.below (S := (fun k_ => (P1_ k_) ∨ k_ = g)) (by repeat (first | (with_reducible first | exact HK.out | apply Kept.alloc | apply Kept.drewN | apply Kept.drew | refine Kept.setCell ?_ (.inl (.inr rfl)) _) | exact HK.out)) hb) (below_step (bq1 HB.out (IsS133.ge HI0.out)) hb); clear HO1 HI0 HK HB; obtain ⟨HO1, HO417, HI0, HK, HB⟩ := n_; clear hb ho16; obtain ⟨Ao17, co17, eo17⟩ := Kd.R_slice HO417.out; subst eo17) | ((with_reducible refine gate_callee (f := 110) rfl ?_); refine goesL_ (some 20) rfl rfl Try.func110 (by kernel_rfl) rfl #[.pointer (some ⟨g, 0, none⟩), .slice Ao17 y415.length co17] rfl ga ?_; (with_reducible refine (spec_l1Int.calls g s0_0 t413 t414 _ _ y415 t418 t419 t420 w0 _ ?side1 ?side2 ?side3 ?side4 ?side5 A8.out).mono ?_); (case side1 => exact IsS133.q0 HI0.out); (case side2 => exact bq1 HB.out (IsS133.ge HI0.out)); (case side3 => repeat (first | exact (Kd.R_reads' HO417.out).2.2 | (with_reducible refine Kd.C_alloc ?_ _) | (with_reducible refine Kd.C_drewN ?_ _) | (with_reducible refine Kd.C_drew ?_))); (case side4 => exact (Kd.R_reads' HO417.out).2.1); (case side5 => exact far_slice (IsS133.own_ne HI0.out HO417.out (by decide))); rintro e w18 ⟨rfl, hi, hb, hk⟩; refine ⟨_, rfl, ?_⟩; have n_ := ak5 (Kd.R_mono (Kd.R_keep (IsS133.apart (show IsS133 w0 _ g s0_0 t413 t414 from IsS133.q0 HI0.out) (kqR HO1.out) (by decide)) hk (fun _ h => h.2)) (fun _ h => h.1)) (Kd.R_mono (Kd.R_keep (IsS133.apart (show IsS133 w0 _ g s0_0 t413 t414 from IsS133.q0 HI0.out) (kqR HO417.out) (by decide)) hk (fun _ h => h.2)) (fun _ h => h.1)) (Kept.of_keep (S := (fun k_ => (P1_ k_) ∨ k_ = g)) (by repeat (first | (with_reducible first | exact HK.out | apply Kept.alloc | apply Kept.drewN | apply Kept.drew | refine Kept.setCell ?_ (.inl (.inr rfl)) _) | exact HK.out)) hk (.inl (.inr rfl))) hb hi; clear HO1 HO417 HK HB HI0; obtain ⟨HO1, HO417, HK, HB, HI0⟩ := n_; (try clear hb hk hi); have p11 : 0 ≤ (t412 : Int) := oda; have q11 : (t412 : Int) < ((l1.length : Int) : Int) := oda; obtain ⟨go11, co11, eo11, gb11, gl11, cl11, HG11⟩ := Kd.R_form HO1.out (by omega); (first | cases eo11 | (injection eo11 with ea_ en_ ec_; (first | subst ea_ | (injection ea_ with ea_; subst ea_)); subst ec_; clear en_)); have GB11 := am gb11; have GG11 := am HG11; clear gb11 gl11 HG11; have HMgo11 := am (show (P1_ go11 ∨ w.heap.size ≤ go11) from (HO1.out.1 _ rfl)); obtain ⟨hx11_0, hf11_0⟩ := Kd.R_celln 0 HO1.out (t412 : Int) p11 q11; replace p11 := eq_true p11; replace q11 := eq_true q11; obtain ⟨hy19_, hz19_⟩ := Kd.R_celln 0 HO1.out (t412 : Int) (oda) (oda); have HP19 := Kd.R_putg HO1.out (t412 : Int) ((t418) % 256)) | ((with_reducible refine gate_store (t := 5) (p := 22) rfl ?_); refine store_event (t := 5) (p := 22) (v := ?vo_w20) (w1 := (w18.setCell ⟨go11, (t412 : Int).toNat, none⟩ (.int .u8 ((t418) % 256)))) ?hg ?ho ?hn ?hr ?_; (case ho => rfl); (case hg => rfl); (case hn => rfl); (case hr => exact gs); intro w20 hw; have hg : w18.grownBy w20 (some go11) := (by rw [hw]; exact HP19.2); have hp_ : Kd.R (Kd.int .u8) 5 w20 w0.heap.size (fun k_ => (P1_ k_ ∨ w.heap.size ≤ k_)) (.slice (some ⟨go11, 0, none⟩) l1.length co12) y421 := (by rw [hw, Ny421.out]; exact HP19.1); clear HP19; have n_ := ak5 (IsS133.grown (IsS133.q0 HI0.out) hg (IsS133.own_ne HI0.out HO1.out (by decide))) hp_ (Kd.R_over' (v := (.slice (some ⟨go11, 0, none⟩) l1.length co12)) (kqR HO417.out) (Kd.R_typed HO1.out) (by decide) hg) ((by rw [hw]; exact below_set (HB.out) GB11.out : Below w0.heap.size w0 w20)) (Kept.of_grown (S := (fun k_ => (P1_ k_) ∨ k_ = g)) hg (by repeat (first | (with_reducible first | exact HK.out | apply Kept.alloc | apply Kept.drewN | apply Kept.drew | refine Kept.setCell ?_ (.inl (.inr rfl)) _) | exact HK.out)) (fun k_ e_ => Or.imp_left Or.inl ((HO1.out.1 k_ e_)))); clear HI0 HO1 HO417 HB HK; obtain ⟨HI0, HO1, HO417, HB, HK⟩ := n_; clear hg hw hp_))
       go_ret
       exact ⟨_, rq, kqR HO1.out, IsS133.q0 HI0.out, bq1 HB.out (IsS133.ge HI0.out), by repeat (first | (with_reducible first | exact HK.out | apply Kept.alloc | apply Kept.drewN | apply Kept.drew | refine Kept.setCell ?_ (.inl (.inr rfl)) _) | exact HK.out)⟩
     rw [if_neg c10] at H
     exact absurd H (by simp)
   rw [if_neg c9] at H
   exact absurd H (by simp)
 rw [if_neg c6] at H
 have c6b0 : (t409 == 0) = false := beq_eq_false_iff_ne.mpr c6
 have c6b1 : (t409 != 0) = true := bne_iff_ne.mpr c6
 by_cases c21 : t409 = 1
 · rw [if_pos c21] at H
   have c21b0 : (t409 == 1) = true := beq_iff_eq.mpr c21
   have c21b1 : (t409 != 1) = false := bne_eq_false_iff_eq.mpr c21
   clear c21
   by_cases c22 : l1.length < 140737488355328
   · rw [if_pos c22] at H
     have LMc22 := am c22
     clear c22
     obtain ⟨y422, hy422⟩ : ∃ y_ : List Int, y_ = (l1 ++ [3]) := ⟨_, rfl⟩
     replace H : (some (y422, t410, t411)) = some (r1, r2, r3) := by first | (rw [hy422]; with_reducible exact H) | (have H2_ := (Option.bind_some _ _).symm.trans H; rw [hy422]; with_reducible exact H2_) | (have H2_ := (Option.bind_some _ _).symm.trans H; with_reducible exact H2_) | with_reducible exact H | (rw [hy422]; exact H) | exact H
     have Ny422 := am hy422
     clear hy422
     simp only [Option.some.injEq, Prod.mk.injEq] at H
     obtain ⟨rfl, rfl, rfl⟩ := H
     obtain ⟨Ao23, co23, eo23⟩ := Kd.R_slice HO1.out
     subst eo23
     go_enter Try.func115, Try.ntmps115
     go_wp2_with (first | ((with_reducible refine gate_callee (f := 86) rfl ?_); refine goesL_ (some 10) rfl rfl Try.func86 (by kernel_rfl) rfl #[.pointer (some ⟨g, 0, none⟩), .int .i64 5] rfl ga ?_; (with_reducible refine (spec_l1Below.calls g s0_0 s0_1 s0_2 5 t409 t410 t411 w0 _ ?side1 ?side2 A5.out).mono ?_); (case side1 => exact IsS133.q0 HI0.out); (case side2 => exact bq1 HB.out (IsS133.ge HI0.out)); rintro e w24 ⟨rfl, hi, hb, hk⟩; refine ⟨_, rfl, ?_⟩; have n_ := ak4 (Kd.R_mono (Kd.R_keep (IsS133.apart (show IsS133 w0 _ g s0_0 s0_1 s0_2 from IsS133.q0 HI0.out) (kqR HO1.out) (by decide)) hk (fun _ h => h.2)) (fun _ h => h.1)) (Kept.of_keep (S := (fun k_ => (P1_ k_) ∨ k_ = g)) (by repeat (first | (with_reducible first | exact HK.out | apply Kept.alloc | apply Kept.drewN | apply Kept.drew | refine Kept.setCell ?_ (.inl (.inr rfl)) _) | exact HK.out)) hk (.inl (.inr rfl))) hb hi; clear HO1 HK HB HI0; obtain ⟨HO1, HK, HB, HI0⟩ := n_; (try clear hb hk hi)) | ((with_reducible refine gate_builtin (b := .append) (xs := #[.tmp 25, .tmp 26]) rfl ?_); at_builtin; refine Kd.R_append (Kd.int .u8) (w0 := w0) w0.heap.size rfl (.tmp 25) (.tmp 26) 37 5 (.int .u8 0) 1 rfl Try.underlying37 info5 rfl (by decide) (by omega) (.slice Ao23 l1.length co23) l1 3 [.int .u8 3] (fun k_ => (P1_ k_ ∨ w.heap.size ≤ k_)) (fun _ => False) rfl rfl ?aP (fun _ hk => hk.elim) ?aF ?aO ?aB ?aS ?aL ?_; (case aP => exact rfl); (case aB => exact (bq1 HB.out (IsS133.ge HI0.out))); (case aF => exact (fun k_ hk => (.inr (Nat.le_trans (by first | exact HK.out.1 | exact (show Kept w _ (fun k_ => (P1_ k_) ∨ k_ = g) from by repeat (first | (with_reducible first | exact HK.out | apply Kept.alloc | apply Kept.drewN | apply Kept.drew | refine Kept.setCell ?_ (.inl (.inr rfl)) _) | exact HK.out)).1) hk)))); (case aO => exact (kqR HO1.out)); (case aS => exact (below_size (bq1 HB.out (IsS133.ge HI0.out)))); (case aL => have := LMc22.out; omega); intro v423 w25 ho hb hg hat; rw [← Ny422.out] at ho; have n_ := ak4 (IsS133.grown (IsS133.q0 HI0.out) hg (IsS133.own_ne HI0.out HO1.out (by decide))) hb (Kept.of_grown (S := (fun k_ => (P1_ k_) ∨ k_ = g)) hg (by repeat (first | (with_reducible first | exact HK.out | apply Kept.alloc | apply Kept.drewN | apply Kept.drew | refine Kept.setCell ?_ (.inl (.inr rfl)) _) | exact HK.out)) (fun k_ e_ => Or.imp_left Or.inl ((HO1.out.1 k_ e_)))) ho; clear HI0 HB HK HO1; obtain ⟨HI0, HB, HK, HO424⟩ := n_; clear ho hb hg hat))
     go_ret
     exact ⟨_, rq, kqR HO424.out, IsS133.q0 HI0.out, bq1 HB.out (IsS133.ge HI0.out), by repeat (first | (with_reducible first | exact HK.out | apply Kept.alloc | apply Kept.drewN | apply Kept.drew | refine Kept.setCell ?_ (.inl (.inr rfl)) _) | exact HK.out)⟩
   rw [if_neg c22] at H
   exact absurd H (by simp)
 rw [if_neg c21] at H
 have c21b0 : (t409 == 1) = false := beq_eq_false_iff_ne.mpr c21
 have c21b1 : (t409 != 1) = true := bne_iff_ne.mpr c21
 by_cases c26 : t409 = 2
 · rw [if_pos c26] at H
   have c26b0 : (t409 == 2) = true := beq_iff_eq.mpr c26
   have c26b1 : (t409 != 2) = false := bne_eq_false_iff_eq.mpr c26
   clear c26
   replace H := Option.bind_eq_some_iff.mp H
   obtain ⟨⟨t425, t426, t427⟩, A270, H⟩ := H
   replace H : (if 0 ≤ t425 then (if t425 ≤ (l1.length : Int) then (some ((l1.take (t425 : Int).toNat), t426, t427)) else (none)) else (none)) = some (r1, r2, r3) := H
   have A27 := am A270
   clear A270
   by_cases c28 : 0 ≤ t425
   · rw [if_pos c28] at H
     have c28b0 := eq_true c28
     have c28b1 : decide (0 ≤ t425) = true := decide_eq_true c28
     clear c28
     by_cases c29 : t425 ≤ (l1.length : Int)
     · rw [if_pos c29] at H
       have c29b0 := eq_true c29
       have c29b1 : decide (t425 ≤ (l1.length : Int)) = true := decide_eq_true c29
       clear c29
       obtain ⟨y428, hy428⟩ : ∃ y_ : List Int, y_ = (l1.take (t425 : Int).toNat) := ⟨_, rfl⟩
       replace H : (some (y428, t426, t427)) = some (r1, r2, r3) := by first | (rw [hy428]; with_reducible exact H) | (have H2_ := (Option.bind_some _ _).symm.trans H; rw [hy428]; with_reducible exact H2_) | (have H2_ := (Option.bind_some _ _).symm.trans H; with_reducible exact H2_) | with_reducible exact H | (rw [hy428]; exact H) | exact H
       have Ny428 := am hy428
       clear hy428
       simp only [Option.some.injEq, Prod.mk.injEq] at H
       obtain ⟨rfl, rfl, rfl⟩ := H
       obtain ⟨Ao30, co30, eo30⟩ := Kd.R_slice HO1.out
       subst eo30
       go_enter Try.func115, Try.ntmps115
       go_wp2_with (first | ((with_reducible refine gate_callee (f := 86) rfl ?_); refine goesL_ (some 10) rfl rfl Try.func86 (by kernel_rfl) rfl #[.pointer (some ⟨g, 0, none⟩), .int .i64 5] rfl ga ?_; (with_reducible refine (spec_l1Below.calls g s0_0 s0_1 s0_2 5 t409 t410 t411 w0 _ ?side1 ?side2 A5.out).mono ?_); (case side1 => exact IsS133.q0 HI0.out); (case side2 => exact bq1 HB.out (IsS133.ge HI0.out)); rintro e w31 ⟨rfl, hi, hb, hk⟩; refine ⟨_, rfl, ?_⟩; have n_ := ak4 (Kd.R_mono (Kd.R_keep (IsS133.apart (show IsS133 w0 _ g s0_0 s0_1 s0_2 from IsS133.q0 HI0.out) (kqR HO1.out) (by decide)) hk (fun _ h => h.2)) (fun _ h => h.1)) (Kept.of_keep (S := (fun k_ => (P1_ k_) ∨ k_ = g)) (by repeat (first | (with_reducible first | exact HK.out | apply Kept.alloc | apply Kept.drewN | apply Kept.drew | refine Kept.setCell ?_ (.inl (.inr rfl)) _) | exact HK.out)) hk (.inl (.inr rfl))) hb hi; clear HO1 HK HB HI0; obtain ⟨HO1, HK, HB, HI0⟩ := n_; (try clear hb hk hi)) | ((with_reducible refine gate_callee (f := 86) rfl ?_); refine goesL_ (some 34) rfl rfl Try.func86 (by kernel_rfl) rfl #[.pointer (some ⟨g, 0, none⟩), .int .i64 (l1.length : Int)] rfl ga ?_; (with_reducible refine (spec_l1Below.calls g s0_0 t410 t411 (l1.length : Int) t425 t426 t427 w0 _ ?side1 ?side2 A27.out).mono ?_); (case side1 => exact IsS133.q0 HI0.out); (case side2 => exact bq1 HB.out (IsS133.ge HI0.out)); rintro e w32 ⟨rfl, hi, hb, hk⟩; refine ⟨_, rfl, ?_⟩; have n_ := ak4 (Kd.R_mono (Kd.R_keep (IsS133.apart (show IsS133 w0 _ g s0_0 t410 t411 from IsS133.q0 HI0.out) (kqR HO1.out) (by decide)) hk (fun _ h => h.2)) (fun _ h => h.1)) (Kept.of_keep (S := (fun k_ => (P1_ k_) ∨ k_ = g)) (by repeat (first | (with_reducible first | exact HK.out | apply Kept.alloc | apply Kept.drewN | apply Kept.drew | refine Kept.setCell ?_ (.inl (.inr rfl)) _) | exact HK.out)) hk (.inl (.inr rfl))) hb hi; clear HO1 HK HB HI0; obtain ⟨HO1, HK, HB, HI0⟩ := n_; (try clear hb hk hi); have q33 : (t425 : Int) ≤ ((l1.length : Int) : Int) := oda; obtain ⟨i033, hi033, _, hsz33, _⟩ := info_parts info5; have hcut33 := cut_to (P := Try.prog) 37 5 .i64 Try.underlying37 hi033 Ao30 l1.length co30 t425 (oda) q33 (Kd.R_reads' HO1.out).2.1; have hr33 := Kd.R_take (m := (t425 : Int).toNat) HO1.out (by omega); have hy33 : y428.length = (t425 : Int).toNat := (by rw [Ny428.out, List.length_take]; omega); rw [← Ny428.out] at hr33; rw [← hy33] at hr33 hcut33; clear hy33 hi033 hsz33 HO1; have HO430 := am hr33; clear hr33; replace q33 := eq_true q33))
       go_ret
       exact ⟨_, rq, kqR HO430.out, IsS133.q0 HI0.out, bq1 HB.out (IsS133.ge HI0.out), by repeat (first | (with_reducible first | exact HK.out | apply Kept.alloc | apply Kept.drewN | apply Kept.drew | refine Kept.setCell ?_ (.inl (.inr rfl)) _) | exact HK.out)⟩
     rw [if_neg c29] at H
     exact absurd H (by simp)
   rw [if_neg c28] at H
   exact absurd H (by simp)
 rw [if_neg c26] at H
 have c26b0 : (t409 == 2) = false := beq_eq_false_iff_ne.mpr c26
 have c26b1 : (t409 != 2) = true := bne_iff_ne.mpr c26
 simp only [Option.some.injEq, Prod.mk.injEq] at H
 obtain ⟨rfl, rfl, rfl⟩ := H
 obtain ⟨Ao34, co34, eo34⟩ := Kd.R_slice HO1.out
 subst eo34
 go_enter Try.func115, Try.ntmps115
 go_wp2_with (first | ((with_reducible refine gate_callee (f := 86) rfl ?_); refine goesL_ (some 10) rfl rfl Try.func86 (by kernel_rfl) rfl #[.pointer (some ⟨g, 0, none⟩), .int .i64 5] rfl ga ?_; (with_reducible refine (spec_l1Below.calls g s0_0 s0_1 s0_2 5 t409 t410 t411 w0 _ ?side1 ?side2 A5.out).mono ?_); (case side1 => exact IsS133.q0 HI0.out); (case side2 => exact bq1 HB.out (IsS133.ge HI0.out)); rintro e w35 ⟨rfl, hi, hb, hk⟩; refine ⟨_, rfl, ?_⟩; have n_ := ak4 (Kd.R_mono (Kd.R_keep (IsS133.apart (show IsS133 w0 _ g s0_0 s0_1 s0_2 from IsS133.q0 HI0.out) (kqR HO1.out) (by decide)) hk (fun _ h => h.2)) (fun _ h => h.1)) (Kept.of_keep (S := (fun k_ => (P1_ k_) ∨ k_ = g)) (by repeat (first | (with_reducible first | exact HK.out | apply Kept.alloc | apply Kept.drewN | apply Kept.drew | refine Kept.setCell ?_ (.inl (.inr rfl)) _) | exact HK.out)) hk (.inl (.inr rfl))) hb hi; clear HO1 HK HB HI0; obtain ⟨HO1, HK, HB, HI0⟩ := n_; (try clear hb hk hi)))
 go_ret
 exact ⟨_, rq, kqR HO1.out, IsS133.q0 HI0.out, bq1 HB.out (IsS133.ge HI0.out), by repeat (first | (with_reducible first | exact HK.out | apply Kept.alloc | apply Kept.drewN | apply Kept.drew | refine Kept.setCell ?_ (.inl (.inr rfl)) _) | exact HK.out)⟩

/-! ### spec_PutTlv: function 131 -/
def spec_PutTlv.j0 : Nat → Int → List Int → List Int → Bool → Option (List Int)
 | 0, _, _, _, _ => none
 | k + 1, x1, x2, x7, x18 => if x18 = true then (some x7) else (if x7.length < 140737488355328 then ((some (x7 ++ [(x1) % 256] : List Int)).bind fun y438 => (if (x2.length : Int) > 127 then (if y438.length < 140737488355328 then ((some (y438 ++ [129] : List Int)).bind fun y441 => (if y441.length < 140737488355328 then ((some (y441 ++ [((x2.length : Int)) % 256] : List Int)).bind fun y444 => (if y444.length + x2.length < 140737488355328 then (some (y444 ++ x2)) else (none))) else (none))) else (none)) else (if y438.length < 140737488355328 then ((some (y438 ++ [((x2.length : Int)) % 256] : List Int)).bind fun y450 => (if y450.length + x2.length < 140737488355328 then (some (y450 ++ x2)) else (none))) else (none)))) else (none))
def spec_PutTlv.f (k : Nat) (l0 : List Int) (a1 : Int) (l2 : List Int) : Option (List Int) := (some (([] : List Int) : List Int)).bind fun y431 => (if y431.length + l0.length < 140737488355328 then ((some (y431 ++ l0 : List Int)).bind fun y434 => ((spec_l1In.f a1 0 255).bind fun t437 => (if t437 = true then (spec_PutTlv.j0 k a1 l2 y434 (decide ((l2.length : Int) > 250))) else (spec_PutTlv.j0 k a1 l2 y434 true)))) else (none))
theorem spec_PutTlv.mono_l : ∀ k, (∀ y0 y1 y2 y3, LeO (spec_PutTlv.j0 k y0 y1 y2 y3) (spec_PutTlv.j0 (k + 1) y0 y1 y2 y3))
 | 0 => fun _ _ _ _ r h => by simp [spec_PutTlv.j0] at h
 | k + 1 => by
  have ih0 := spec_PutTlv.mono_l k
  intro y0 y1 y2 y3
  unfold spec_PutTlv.j0
  repeat' first
  | (with_reducible exact ih0 _ _ _ _)
  | (with_reducible exact LeO.refl _)
  | (with_reducible exact LeO.none _)
  | (with_reducible refine LeO.ite ?_ ?_)
  | (with_reducible refine LeO.bind ?_ (fun _ => ?_))
  | exact ih0 _ _ _ _
  | exact LeO.none _
  | refine LeO.ite ?_ ?_
  | refine LeO.bind ?_ (fun _ => ?_)
theorem spec_PutTlv.mono : ∀ a0 a1 a2 k, LeO (spec_PutTlv.f k a0 a1 a2) (spec_PutTlv.f (k + 1) a0 a1 a2) := by
 intro a0 a1 a2 k
 have ih0 := spec_PutTlv.mono_l k
 unfold spec_PutTlv.f
 repeat' first
  | (with_reducible exact ih0 _ _ _ _)
  | (with_reducible exact LeO.refl _)
  | (with_reducible exact LeO.none _)
  | (with_reducible refine LeO.ite ?_ ?_)
  | (with_reducible refine LeO.bind ?_ (fun _ => ?_))
  | exact ih0 _ _ _ _
  | exact LeO.none _
  | refine LeO.ite ?_ ?_
  | refine LeO.bind ?_ (fun _ => ?_)
set_option maxHeartbeats 8000000 in
set_option maxRecDepth 100000 in
theorem spec_PutTlv.calls (k : Nat) (A0 : Option Addr) (c0 : Nat) (l0 : List Int) (a1 : Int) (A2 : Option Addr) (c2 : Nat) (l2 : List Int) (r : List Int) (w : World) (hr0 : Kd.C (Kd.int .u8) w A0 l0.length l0) (hc0 : l0.length ≤ c0) (hr2 : Kd.C (Kd.int .u8) w A2 l2.length l2) (hc2 : l2.length ≤ c2) (h : spec_PutTlv.f k l0 a1 l2 = some r) :
 Calls Try.prog 131 #[.slice A0 l0.length c0, .int .i64 a1, .slice A2 l2.length c2] w fun e w' => ∃ v0_ : Value, e = .returned (v0_) ∧ Kd.R (Kd.int .u8) 5 w' w.heap.size (fun _ => True) v0_ r ∧ Below w.heap.size w w' := by
 have HR0 := am hr0
 have HC0 := am hc0
 clear hr0 hc0
 have HR2 := am hr2
 have HC2 := am hc2
 clear hr2 hc2
 have HB := am (Below.refl w.heap.size w)
 have H : ((some (([] : List Int) : List Int)).bind fun y431 => (if y431.length + l0.length < 140737488355328 then ((some (y431 ++ l0 : List Int)).bind fun y434 => ((spec_l1In.f a1 0 255).bind fun t437 => (if t437 = true then (spec_PutTlv.j0 k a1 l2 y434 (decide ((l2.length : Int) > 250))) else (spec_PutTlv.j0 k a1 l2 y434 true)))) else (none))) = some r := h
 clear h
 obtain ⟨y431, hy431⟩ : ∃ y_ : List Int, y_ = (([] : List Int)) := ⟨_, rfl⟩
 replace H : (if y431.length + l0.length < 140737488355328 then ((some (y431 ++ l0 : List Int)).bind fun y434 => ((spec_l1In.f a1 0 255).bind fun t437 => (if t437 = true then (spec_PutTlv.j0 k a1 l2 y434 (decide ((l2.length : Int) > 250))) else (spec_PutTlv.j0 k a1 l2 y434 true)))) else (none)) = some r := by first | (rw [hy431]; with_reducible exact H) | (have H2_ := (Option.bind_some _ _).symm.trans H; rw [hy431]; with_reducible exact H2_) | (have H2_ := (Option.bind_some _ _).symm.trans H; with_reducible exact H2_) | with_reducible exact H | (rw [hy431]; exact H) | exact H
 have Ny431 := am hy431
 clear hy431
 by_cases c4 : y431.length + l0.length < 140737488355328
 · rw [if_pos c4] at H
   have LMc4 := am c4
   clear c4
   obtain ⟨y434, hy434⟩ : ∃ y_ : List Int, y_ = (y431 ++ l0) := ⟨_, rfl⟩
   replace H : ((spec_l1In.f a1 0 255).bind fun t437 => (if t437 = true then (spec_PutTlv.j0 k a1 l2 y434 (decide ((l2.length : Int) > 250))) else (spec_PutTlv.j0 k a1 l2 y434 true))) = some r := by first | (rw [hy434]; with_reducible exact H) | (have H2_ := (Option.bind_some _ _).symm.trans H; rw [hy434]; with_reducible exact H2_) | (have H2_ := (Option.bind_some _ _).symm.trans H; with_reducible exact H2_) | with_reducible exact H | (rw [hy434]; exact H) | exact H
   have Ny434 := am hy434
   clear hy434
   have HC5 := am H
   clear H
   go_enter Try.func131, Try.ntmps131
   go_upto_region 2 with (first | ((with_reducible refine gate_dst (N := 8) rfl ?_); (try (refine gate_guard (by rfl) ?_; dsimp only)); refine Kd.R_lit (Kd.int .u8) _ 5 ?hg (N := 8) ?hd (xs := ([] : List Int)) (inner := []) (ok := fun _ => True) (okp := fun _ => True) ?hr ?hp (fun _ hk => hk) trivial (Below.refl _ _) (Nat.le_refl _) (by simp) ?_; (case hd => rfl); (case hg => rfl); (case hr => exact gs); (case hp => exact (Reps.none _ _)); intro v432 w6 ho7 hb hg_ hnew_; clear hg_ hnew_; (first | rw [← Ny431.out] at ho7 | (simp only [Int.reduceToNat] at ho7; rw [← Ny431.out] at ho7)); have n_ := ak2 (Kd.R_lower ho7 (below_size (bq HB.out))) (below_step (bq HB.out) hb); clear HB; obtain ⟨HO433, HB⟩ := n_; clear hb ho7) | ((with_reducible refine gate_builtin (b := .append) (xs := #[.tmp 8, .tmp 9]) rfl ?_); (try (refine gate_guard (by rfl) ?_; dsimp only)); at_builtin; refine Kd.R_append_rows (Kd.int .u8) (w0 := w) w.heap.size rfl (.tmp 8) (.tmp 9) 37 5 (.int .u8 0) 1 rfl Try.underlying37 info5 rfl (by decide) (by omega) v432 y431 l0 _ _ _ (fun _ => True) (fun _ => False) rfl rfl ?aO ?aR (fun _ _ h => h) (fun _ h => h.elim) ?aF ?aB ?aS ?aL ?_; (case aR => exact cq (Kd.C_below HR0.out HB.out)); (case aB => exact (bq HB.out)); (case aF => exact (fun _ _ => trivial)); (case aO => exact (kqR HO433.out)); (case aS => exact (below_size (bq HB.out))); (case aL => have := LMc4.out; omega); intro v435 w8 ho hb hg hat; rw [← Ny434.out] at ho; have n_ := ak2 hb ho; clear HB HO433; obtain ⟨HB, HO436⟩ := n_; clear ho hb hg hat))
   (try simp only [Act.put, List.setIfInBounds_toArray, List.set_cons_zero, List.set_cons_succ])
   go_cut [18] (fun v18 wc => ∃ (kq : Nat) (x18_4 : Bool), v18 = .bool x18_4 ∧ Aside0 (spec_PutTlv.j0 kq a1 l2 y434 x18_4 = some r) ∧ Aside0 (kq ≤ k) ∧ Aside0 (Kd.R (Kd.int .u8) 5 wc w.heap.size (fun _ => True) v435 y434) ∧ Aside0 (Below w.heap.size w wc))
   case first =>
    have H := HC5.out
    clear HC5
    replace H := Option.bind_eq_some_iff.mp H
    obtain ⟨t437, A90, H⟩ := H
    replace H : (if t437 = true then (spec_PutTlv.j0 k a1 l2 y434 (decide ((l2.length : Int) > 250))) else (spec_PutTlv.j0 k a1 l2 y434 true)) = some r := H
    have A9 := am A90
    clear A90
    by_cases c10 : t437 = true
    · subst c10
      have H1 : (spec_PutTlv.j0 k a1 l2 y434 (decide ((l2.length : Int) > 250))) = some r := by rw [if_pos rfl] at H; exact H
      clear H
      have H := H1
      clear H1
      have H' := am H
      clear H
      go_wp2_with (first | ((with_reducible refine gate_callee (f := 104) rfl ?_); refine goesL_ (some 12) rfl rfl Try.func104 (by kernel_rfl) rfl #[.int .i64 a1, .int .i64 0, .int .i64 255] rfl ga ?_; (with_reducible refine (spec_l1In.calls a1 0 255 true _ A9.out).mono ?_); rintro e w' ⟨rfl, ⟨nd, rfl⟩⟩; refine ⟨_, rfl, ?_⟩))
      go_meet
      case rel => exact ⟨_, (decide ((l2.length : Int) > 250)), sq, H', ⟨by first | omega | exact Nat.le_refl _⟩, ⟨kqR HO436.out⟩, ⟨bq HB.out⟩⟩
    replace c10 := Bool.eq_false_iff.mpr c10
    subst c10
    have H1 : (spec_PutTlv.j0 k a1 l2 y434 true) = some r := by rw [if_neg (show ¬ (false = true) by decide)] at H; exact H
    clear H
    have H := H1
    clear H1
    have H' := am H
    clear H
    go_wp2_with (first | ((with_reducible refine gate_callee (f := 104) rfl ?_); refine goesL_ (some 12) rfl rfl Try.func104 (by kernel_rfl) rfl #[.int .i64 a1, .int .i64 0, .int .i64 255] rfl ga ?_; (with_reducible refine (spec_l1In.calls a1 0 255 false _ A9.out).mono ?_); rintro e w' ⟨rfl, ⟨nd, rfl⟩⟩; refine ⟨_, rfl, ?_⟩))
    go_meet
    case rel => exact ⟨_, (true), sq, H', ⟨by first | omega | exact Nat.le_refl _⟩, ⟨kqR HO436.out⟩, ⟨bq HB.out⟩⟩
   case rest =>
    clear HC5
    try clear c1
    try clear c2
    try clear p2
    try clear c4
    try clear c10
    obtain ⟨kq, x18_4, rfl, HA, HJ4, HO_7, HB⟩ := hcut
    cases kq with
    | zero => exact absurd HA.out (by simp [spec_PutTlv.j0])
    | succ kj4 =>
     have H := HA.out
     clear HA
     simp only [spec_PutTlv.j0] at H
     by_cases c11 : x18_4 = true
     · subst c11
       have H1 : (some y434) = some r := by rw [if_pos rfl] at H; exact H
       clear H
       have H := H1
       clear H1
       obtain rfl := Option.some.inj H
       go_wp2
       go_ret
       exact ⟨_, rq, kqR HO_7.out, bq HB.out⟩
     replace c11 := Bool.eq_false_iff.mpr c11
     subst c11
     have H1 : (if y434.length < 140737488355328 then ((some (y434 ++ [(a1) % 256] : List Int)).bind fun y438 => (if (l2.length : Int) > 127 then (if y438.length < 140737488355328 then ((some (y438 ++ [129] : List Int)).bind fun y441 => (if y441.length < 140737488355328 then ((some (y441 ++ [((l2.length : Int)) % 256] : List Int)).bind fun y444 => (if y444.length + l2.length < 140737488355328 then (some (y444 ++ l2)) else (none))) else (none))) else (none)) else (if y438.length < 140737488355328 then ((some (y438 ++ [((l2.length : Int)) % 256] : List Int)).bind fun y450 => (if y450.length + l2.length < 140737488355328 then (some (y450 ++ l2)) else (none))) else (none)))) else (none)) = some r := by rw [if_neg (show ¬ (false = true) by decide)] at H; exact H
     clear H
     have H := H1
     clear H1
     by_cases c12 : y434.length < 140737488355328
     · rw [if_pos c12] at H
       have LMc12 := am c12
       clear c12
       obtain ⟨y438, hy438⟩ : ∃ y_ : List Int, y_ = (y434 ++ [(a1) % 256]) := ⟨_, rfl⟩
       replace H : (if (l2.length : Int) > 127 then (if y438.length < 140737488355328 then ((some (y438 ++ [129] : List Int)).bind fun y441 => (if y441.length < 140737488355328 then ((some (y441 ++ [((l2.length : Int)) % 256] : List Int)).bind fun y444 => (if y444.length + l2.length < 140737488355328 then (some (y444 ++ l2)) else (none))) else (none))) else (none)) else (if y438.length < 140737488355328 then ((some (y438 ++ [((l2.length : Int)) % 256] : List Int)).bind fun y450 => (if y450.length + l2.length < 140737488355328 then (some (y450 ++ l2)) else (none))) else (none))) = some r := by first | (rw [hy438]; with_reducible exact H) | (have H2_ := (Option.bind_some _ _).symm.trans H; rw [hy438]; with_reducible exact H2_) | (have H2_ := (Option.bind_some _ _).symm.trans H; with_reducible exact H2_) | with_reducible exact H | (rw [hy438]; exact H) | exact H
       have Ny438 := am hy438
       clear hy438
       by_cases c13 : (l2.length : Int) > 127
       · rw [if_pos c13] at H
         have c13b0 : decide (127 < (l2.length : Int)) = true := decide_eq_true c13
         have c13b1 : decide (127 < l2.length) = true := decide_eq_true (by omega)
         clear c13
         by_cases c14 : y438.length < 140737488355328
         · rw [if_pos c14] at H
           have LMc14 := am c14
           clear c14
           obtain ⟨y441, hy441⟩ : ∃ y_ : List Int, y_ = (y438 ++ [129]) := ⟨_, rfl⟩
           replace H : (if y441.length < 140737488355328 then ((some (y441 ++ [((l2.length : Int)) % 256] : List Int)).bind fun y444 => (if y444.length + l2.length < 140737488355328 then (some (y444 ++ l2)) else (none))) else (none)) = some r := by first | (rw [hy441]; with_reducible exact H) | (have H2_ := (Option.bind_some _ _).symm.trans H; rw [hy441]; with_reducible exact H2_) | (have H2_ := (Option.bind_some _ _).symm.trans H; with_reducible exact H2_) | with_reducible exact H | (rw [hy441]; exact H) | exact H
           have Ny441 := am hy441
           clear hy441
           by_cases c15 : y441.length < 140737488355328
           · rw [if_pos c15] at H
             have LMc15 := am c15
             clear c15
             obtain ⟨y444, hy444⟩ : ∃ y_ : List Int, y_ = (y441 ++ [((l2.length : Int)) % 256]) := ⟨_, rfl⟩
             replace H : (if y444.length + l2.length < 140737488355328 then (some (y444 ++ l2)) else (none)) = some r := by first | (rw [hy444]; with_reducible exact H) | (have H2_ := (Option.bind_some _ _).symm.trans H; rw [hy444]; with_reducible exact H2_) | (have H2_ := (Option.bind_some _ _).symm.trans H; with_reducible exact H2_) | with_reducible exact H | (rw [hy444]; exact H) | exact H
             have Ny444 := am hy444
             clear hy444
             by_cases c16 : y444.length + l2.length < 140737488355328
             · rw [if_pos c16] at H
               have LMc16 := am c16
               clear c16
               obtain ⟨y447, hy447⟩ : ∃ y_ : List Int, y_ = (y444 ++ l2) := ⟨_, rfl⟩
               replace H : (some y447) = some r := by first | (rw [hy447]; with_reducible exact H) | (have H2_ := (Option.bind_some _ _).symm.trans H; rw [hy447]; with_reducible exact H2_) | (have H2_ := (Option.bind_some _ _).symm.trans H; with_reducible exact H2_) | with_reducible exact H | (rw [hy447]; exact H) | exact H
               have Ny447 := am hy447
               clear hy447
               obtain rfl := Option.some.inj H
               go_wp2_with (first | ((with_reducible refine gate_builtin (b := .append) (xs := #[.tmp 20, .tmp 23]) rfl ?_); (try (refine gate_guard (by rfl) ?_; dsimp only)); at_builtin; refine Kd.R_append (Kd.int .u8) (w0 := w) w.heap.size rfl (.tmp 20) (.tmp 23) 37 5 (.int .u8 0) 1 rfl Try.underlying37 info5 rfl (by decide) (by omega) v435 y434 ((a1) % 256) [.int .u8 ((a1) % 256)] (fun _ => True) (fun _ => False) rfl rfl ?aP (fun _ hk => hk.elim) ?aF ?aO ?aB ?aS ?aL ?_; (case aP => exact rfl); (case aB => exact (bq HB.out)); (case aF => exact (fun _ _ => trivial)); (case aO => exact (kqR HO_7.out)); (case aS => exact (below_size (bq HB.out))); (case aL => have := LMc12.out; omega); intro v439 w17 ho hb hg hat; rw [← Ny438.out] at ho; have n_ := ak2 hb ho; clear HB HO_7; obtain ⟨HB, HO440⟩ := n_; clear ho hb hg hat) | ((with_reducible refine gate_builtin (b := .append) (xs := #[.tmp 28, .tmp 29]) rfl ?_); (try (refine gate_guard (by rfl) ?_; dsimp only)); at_builtin; refine Kd.R_append (Kd.int .u8) (w0 := w) w.heap.size rfl (.tmp 28) (.tmp 29) 37 5 (.int .u8 0) 1 rfl Try.underlying37 info5 rfl (by decide) (by omega) v439 y438 129 [.int .u8 129] (fun _ => True) (fun _ => False) rfl rfl ?aP (fun _ hk => hk.elim) ?aF ?aO ?aB ?aS ?aL ?_; (case aP => exact rfl); (case aB => exact (bq HB.out)); (case aF => exact (fun _ _ => trivial)); (case aO => exact (kqR HO440.out)); (case aS => exact (below_size (bq HB.out))); (case aL => have := LMc14.out; omega); intro v442 w18 ho hb hg hat; rw [← Ny441.out] at ho; have n_ := ak2 hb ho; clear HB HO440; obtain ⟨HB, HO443⟩ := n_; clear ho hb hg hat) | ((with_reducible refine gate_builtin (b := .append) (xs := #[.tmp 31, .tmp 35]) rfl ?_); (try (refine gate_guard (by rfl) ?_; dsimp only)); at_builtin; refine Kd.R_append (Kd.int .u8) (w0 := w) w.heap.size rfl (.tmp 31) (.tmp 35) 37 5 (.int .u8 0) 1 rfl Try.underlying37 info5 rfl (by decide) (by omega) v442 y441 (((l2.length : Int)) % 256) [.int .u8 (((l2.length : Int)) % 256)] (fun _ => True) (fun _ => False) rfl rfl ?aP (fun _ hk => hk.elim) ?aF ?aO ?aB ?aS ?aL ?_; (case aP => exact rfl); (case aB => exact (bq HB.out)); (case aF => exact (fun _ _ => trivial)); (case aO => exact (kqR HO443.out)); (case aS => exact (below_size (bq HB.out))); (case aL => have := LMc15.out; omega); intro v445 w19 ho hb hg hat; rw [← Ny444.out] at ho; have n_ := ak2 hb ho; clear HB HO443; obtain ⟨HB, HO446⟩ := n_; clear ho hb hg hat) | ((with_reducible refine gate_builtin (b := .append) (xs := #[.tmp 36, .tmp 37]) rfl ?_); (try (refine gate_guard (by rfl) ?_; dsimp only)); at_builtin; refine Kd.R_append_rows (Kd.int .u8) (w0 := w) w.heap.size rfl (.tmp 36) (.tmp 37) 37 5 (.int .u8 0) 1 rfl Try.underlying37 info5 rfl (by decide) (by omega) v445 y444 l2 _ _ _ (fun _ => True) (fun _ => False) rfl rfl ?aO ?aR (fun _ _ h => h) (fun _ h => h.elim) ?aF ?aB ?aS ?aL ?_; (case aR => exact cq (Kd.C_below HR2.out HB.out)); (case aB => exact (bq HB.out)); (case aF => exact (fun _ _ => trivial)); (case aO => exact (kqR HO446.out)); (case aS => exact (below_size (bq HB.out))); (case aL => have := LMc16.out; omega); intro v448 w20 ho hb hg hat; rw [← Ny447.out] at ho; have n_ := ak2 hb ho; clear HB HO446; obtain ⟨HB, HO449⟩ := n_; clear ho hb hg hat))
               go_ret
               exact ⟨_, rq, kqR HO449.out, bq HB.out⟩
             rw [if_neg c16] at H
             exact absurd H (by simp)
           rw [if_neg c15] at H
           exact absurd H (by simp)
         rw [if_neg c14] at H
         exact absurd H (by simp)
       rw [if_neg c13] at H
       have c13b0 : decide (127 < (l2.length : Int)) = false := decide_eq_false c13
       have c13b1 : decide (127 < l2.length) = false := decide_eq_false (by omega)
       clear c13
       by_cases c21 : y438.length < 140737488355328
       · rw [if_pos c21] at H
         have LMc21 := am c21
         clear c21
         obtain ⟨y450, hy450⟩ : ∃ y_ : List Int, y_ = (y438 ++ [((l2.length : Int)) % 256]) := ⟨_, rfl⟩
         replace H : (if y450.length + l2.length < 140737488355328 then (some (y450 ++ l2)) else (none)) = some r := by first | (rw [hy450]; with_reducible exact H) | (have H2_ := (Option.bind_some _ _).symm.trans H; rw [hy450]; with_reducible exact H2_) | (have H2_ := (Option.bind_some _ _).symm.trans H; with_reducible exact H2_) | with_reducible exact H | (rw [hy450]; exact H) | exact H
         have Ny450 := am hy450
         clear hy450
         by_cases c22 : y450.length + l2.length < 140737488355328
         · rw [if_pos c22] at H
           have LMc22 := am c22
           clear c22
           obtain ⟨y453, hy453⟩ : ∃ y_ : List Int, y_ = (y450 ++ l2) := ⟨_, rfl⟩
           replace H : (some y453) = some r := by first | (rw [hy453]; with_reducible exact H) | (have H2_ := (Option.bind_some _ _).symm.trans H; rw [hy453]; with_reducible exact H2_) | (have H2_ := (Option.bind_some _ _).symm.trans H; with_reducible exact H2_) | with_reducible exact H | (rw [hy453]; exact H) | exact H
           have Ny453 := am hy453
           clear hy453
           obtain rfl := Option.some.inj H
           go_wp2_with (first | ((with_reducible refine gate_builtin (b := .append) (xs := #[.tmp 20, .tmp 23]) rfl ?_); (try (refine gate_guard (by rfl) ?_; dsimp only)); at_builtin; refine Kd.R_append (Kd.int .u8) (w0 := w) w.heap.size rfl (.tmp 20) (.tmp 23) 37 5 (.int .u8 0) 1 rfl Try.underlying37 info5 rfl (by decide) (by omega) v435 y434 ((a1) % 256) [.int .u8 ((a1) % 256)] (fun _ => True) (fun _ => False) rfl rfl ?aP (fun _ hk => hk.elim) ?aF ?aO ?aB ?aS ?aL ?_; (case aP => exact rfl); (case aB => exact (bq HB.out)); (case aF => exact (fun _ _ => trivial)); (case aO => exact (kqR HO_7.out)); (case aS => exact (below_size (bq HB.out))); (case aL => have := LMc12.out; omega); intro v439 w23 ho hb hg hat; rw [← Ny438.out] at ho; have n_ := ak2 hb ho; clear HB HO_7; obtain ⟨HB, HO440⟩ := n_; clear ho hb hg hat) | ((with_reducible refine gate_builtin (b := .append) (xs := #[.tmp 31, .tmp 35]) rfl ?_); (try (refine gate_guard (by rfl) ?_; dsimp only)); at_builtin; refine Kd.R_append (Kd.int .u8) (w0 := w) w.heap.size rfl (.tmp 31) (.tmp 35) 37 5 (.int .u8 0) 1 rfl Try.underlying37 info5 rfl (by decide) (by omega) v439 y438 (((l2.length : Int)) % 256) [.int .u8 (((l2.length : Int)) % 256)] (fun _ => True) (fun _ => False) rfl rfl ?aP (fun _ hk => hk.elim) ?aF ?aO ?aB ?aS ?aL ?_; (case aP => exact rfl); (case aB => exact (bq HB.out)); (case aF => exact (fun _ _ => trivial)); (case aO => exact (kqR HO440.out)); (case aS => exact (below_size (bq HB.out))); (case aL => have := LMc21.out; omega); intro v451 w24 ho hb hg hat; rw [← Ny450.out] at ho; have n_ := ak2 hb ho; clear HB HO440; obtain ⟨HB, HO452⟩ := n_; clear ho hb hg hat) | ((with_reducible refine gate_builtin (b := .append) (xs := #[.tmp 36, .tmp 37]) rfl ?_); (try (refine gate_guard (by rfl) ?_; dsimp only)); at_builtin; refine Kd.R_append_rows (Kd.int .u8) (w0 := w) w.heap.size rfl (.tmp 36) (.tmp 37) 37 5 (.int .u8 0) 1 rfl Try.underlying37 info5 rfl (by decide) (by omega) v451 y450 l2 _ _ _ (fun _ => True) (fun _ => False) rfl rfl ?aO ?aR (fun _ _ h => h) (fun _ h => h.elim) ?aF ?aB ?aS ?aL ?_; (case aR => exact cq (Kd.C_below HR2.out HB.out)); (case aB => exact (bq HB.out)); (case aF => exact (fun _ _ => trivial)); (case aO => exact (kqR HO452.out)); (case aS => exact (below_size (bq HB.out))); (case aL => have := LMc22.out; omega); intro v454 w25 ho hb hg hat; rw [← Ny453.out] at ho; have n_ := ak2 hb ho; clear HB HO452; obtain ⟨HB, HO455⟩ := n_; clear ho hb hg hat))
           go_ret
           exact ⟨_, rq, kqR HO455.out, bq HB.out⟩
         rw [if_neg c22] at H
         exact absurd H (by simp)
       rw [if_neg c21] at H
       exact absurd H (by simp)
     rw [if_neg c12] at H
     exact absurd H (by simp)
 rw [if_neg c4] at H
 exact absurd H (by simp)

end Go.Proofs.Ytebffdmkfkfoaaa.XFnVecs
