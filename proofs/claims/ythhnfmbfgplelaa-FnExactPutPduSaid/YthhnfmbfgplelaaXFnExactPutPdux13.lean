/- The functions that one law reaches, as Lean functions, with their walks: printed by a program of this seat (wip/tools) out of the translation. -/
import Derived.Test.YthhnfmbfgplelaaXFnExactPutPdux0
import Derived.Test.YthhnfmbfgplelaaXFnExactPutPdux1
import Derived.Test.YthhnfmbfgplelaaXFnExactPutPdux5
import Derived.Test.YthhnfmbfgplelaaXFnExactPutPdux6
import Derived.Test.YthhnfmbfgplelaaXFnExactPutPdux10
import Derived.Test.YthhnfmbfgplelaaXFnExactPutPdux11
import Derived.Test.YthhnfmbfgplelaaXFnExactPutPdux12
namespace Go.Proofs.Ythhnfmbfgplelaa.XFnExactPutPdu
open Go.RowKit Go.Proofs.YthhnfmbfgplelaaW.PrintWords Go.Proofs.YthhnfmbfgplelaaW.PrintLast Go.Proofs.YthhnfmbfgplelaaW.PrintMore
attribute [local go_sem] max2_int min2_int max_two min_two max_three min_three max_four min_four   -- for this text's walks alone
set_option linter.unusedVariables false
set_option linter.unusedSimpArgs false

/-! ### laws_FnExactPutPdu: function 6 -/
def laws_FnExactPutPdu.j0 : Nat → List Int → List Int → Bool → Int → Int → Int → Int → List (S140) → Option (Bool)
 | 0, _, _, _, _, _, _, _, _ => none
 | k + 1, x4, x6, x42, x498000, x498001, x498002, x498003, x498004 => if x42 = true then (some false) else ((laws_markByteS.f k x6 1).bind fun bt531 => ((laws_heldByteS.f k bt531.2 1).bind fun t533 => (if t533 < 0 then (some false) else (if t533 = bt531.1 then ((laws_toPdu.f k x498000 x498001 x498002 x498003 x498004).bind fun bt534 => ((impl_PutPdu.f k bt534.1 bt534.2.1 bt534.2.2.1 bt534.2.2.2.1 bt534.2.2.2.2).bind fun t541 => ((laws_eqByteS.f k t541 x4).bind fun t544 => (if t544 = true then ((laws_heldByteS.f k bt531.2 1).bind fun t545 => (if t545 < 0 then (some false) else (if t545 = bt531.1 then (some true) else (some false)))) else (some false))))) else (some false)))))
def laws_FnExactPutPdu.f (k : Nat) (a0_0 : Int) (a0_1 : Int) (a0_2 : Int) (a0_3 : Int) (l0_4 : List (S140)) : Option (Bool) := (laws_szPdu.f k a0_0 a0_1 a0_2 a0_3 l0_4 1048576).bind fun t498 => (if t498 < 0 then (some true) else ((laws_toPdu.f k a0_0 a0_1 a0_2 a0_3 l0_4).bind fun bt499 => ((spec_PutPdu.f k bt499.1 bt499.2.1 bt499.2.2.1 bt499.2.2.2.1 bt499.2.2.2.2).bind fun t506 => ((laws_toPdu.f k a0_0 a0_1 a0_2 a0_3 l0_4).bind fun bt509 => ((impl_PutPdu.f k bt509.1 bt509.2.1 bt509.2.2.1 bt509.2.2.2.1 bt509.2.2.2.2).bind fun t517 => ((laws_eqByteS.f k t517 t506).bind fun t520 => (if t520 = true then ((laws_toPdu.f k a0_0 a0_1 a0_2 a0_3 l0_4).bind fun bt521 => ((laws_eqPdu.f k bt509.1 bt509.2.1 bt509.2.2.1 bt509.2.2.2.1 bt509.2.2.2.2 bt521.1 bt521.2.1 bt521.2.2.1 bt521.2.2.2.1 bt521.2.2.2.2).bind fun t528 => (if t528 = true then ((laws_markPdu.f bt509.1 bt509.2.1 bt509.2.2.1 bt509.2.2.2.1 bt509.2.2.2.2 1).bind fun t529 => (if t529 < 0 then (laws_FnExactPutPdu.j0 k t506 t517 true a0_0 a0_1 a0_2 a0_3 l0_4) else ((laws_eqByteS.f k t517 t506).bind fun t530 => (laws_FnExactPutPdu.j0 k t506 t517 (!t530) a0_0 a0_1 a0_2 a0_3 l0_4)))) else (some false)))) else (some false))))))))
theorem laws_FnExactPutPdu.mono_l : ∀ k, (∀ y0 y1 y2 y3 y4 y5 y6 y7, LeO (laws_FnExactPutPdu.j0 k y0 y1 y2 y3 y4 y5 y6 y7) (laws_FnExactPutPdu.j0 (k + 1) y0 y1 y2 y3 y4 y5 y6 y7))
 | 0 => fun _ _ _ _ _ _ _ _ r h => by simp [laws_FnExactPutPdu.j0] at h
 | k + 1 => by
  have ih0 := laws_FnExactPutPdu.mono_l k
  intro y0 y1 y2 y3 y4 y5 y6 y7
  unfold laws_FnExactPutPdu.j0
  repeat' first
  | (with_reducible exact ih0 _ _ _ _ _ _ _ _)
  | (with_reducible exact impl_PutPdu.mono _ _ _ _ _ _)
  | (with_reducible exact laws_eqByteS.mono _ _ _)
  | (with_reducible exact laws_eqPdu.mono _ _ _ _ _ _ _ _ _ _ _)
  | (with_reducible exact laws_heldByteS.mono _ _ _)
  | (with_reducible exact laws_markByteS.mono _ _ _)
  | (with_reducible exact laws_szPdu.mono _ _ _ _ _ _ _)
  | (with_reducible exact laws_toPdu.mono _ _ _ _ _ _)
  | (with_reducible exact spec_PutPdu.mono _ _ _ _ _ _)
  | (with_reducible exact LeO.refl _)
  | (with_reducible exact LeO.none _)
  | (with_reducible refine LeO.ite ?_ ?_)
  | (with_reducible refine LeO.bind ?_ (fun _ => ?_))
  | exact ih0 _ _ _ _ _ _ _ _
  | exact impl_PutPdu.mono _ _ _ _ _ _
  | exact laws_eqByteS.mono _ _ _
  | exact laws_eqPdu.mono _ _ _ _ _ _ _ _ _ _ _
  | exact laws_heldByteS.mono _ _ _
  | exact laws_markByteS.mono _ _ _
  | exact laws_szPdu.mono _ _ _ _ _ _ _
  | exact laws_toPdu.mono _ _ _ _ _ _
  | exact spec_PutPdu.mono _ _ _ _ _ _
  | exact LeO.none _
  | refine LeO.ite ?_ ?_
  | refine LeO.bind ?_ (fun _ => ?_)
theorem laws_FnExactPutPdu.mono : ∀ a0 a1 a2 a3 a4 k, LeO (laws_FnExactPutPdu.f k a0 a1 a2 a3 a4) (laws_FnExactPutPdu.f (k + 1) a0 a1 a2 a3 a4) := by
 intro a0 a1 a2 a3 a4 k
 have ih0 := laws_FnExactPutPdu.mono_l k
 unfold laws_FnExactPutPdu.f
 repeat' first
  | (with_reducible exact ih0 _ _ _ _ _ _ _ _)
  | (with_reducible exact impl_PutPdu.mono _ _ _ _ _ _)
  | (with_reducible exact laws_eqByteS.mono _ _ _)
  | (with_reducible exact laws_eqPdu.mono _ _ _ _ _ _ _ _ _ _ _)
  | (with_reducible exact laws_heldByteS.mono _ _ _)
  | (with_reducible exact laws_markByteS.mono _ _ _)
  | (with_reducible exact laws_szPdu.mono _ _ _ _ _ _ _)
  | (with_reducible exact laws_toPdu.mono _ _ _ _ _ _)
  | (with_reducible exact spec_PutPdu.mono _ _ _ _ _ _)
  | (with_reducible exact LeO.refl _)
  | (with_reducible exact LeO.none _)
  | (with_reducible refine LeO.ite ?_ ?_)
  | (with_reducible refine LeO.bind ?_ (fun _ => ?_))
  | exact ih0 _ _ _ _ _ _ _ _
  | exact impl_PutPdu.mono _ _ _ _ _ _
  | exact laws_eqByteS.mono _ _ _
  | exact laws_eqPdu.mono _ _ _ _ _ _ _ _ _ _ _
  | exact laws_heldByteS.mono _ _ _
  | exact laws_markByteS.mono _ _ _
  | exact laws_szPdu.mono _ _ _ _ _ _ _
  | exact laws_toPdu.mono _ _ _ _ _ _
  | exact spec_PutPdu.mono _ _ _ _ _ _
  | exact LeO.none _
  | refine LeO.ite ?_ ?_
  | refine LeO.bind ?_ (fun _ => ?_)
set_option maxHeartbeats 8000000 in
set_option maxRecDepth 100000 in
theorem laws_FnExactPutPdu.calls (k : Nat) (a0_0 : Int) (a0_1 : Int) (a0_2 : Int) (a0_3 : Int) (A0_4 : Option Addr) (c0_4 : Nat) (l0_4 : List (S140)) (r : Bool) (w : World) (hr0_4 : Kd.C k140 w A0_4 l0_4.length l0_4) (hc0_4 : l0_4.length ≤ c0_4) (hr_ : r = true) (h : laws_FnExactPutPdu.f k a0_0 a0_1 a0_2 a0_3 l0_4 = some r) :
 Calls Try.prog 6 #[.agg #[.int .i64 a0_0, .int .i64 a0_1, .int .i64 a0_2, .int .i64 a0_3, .slice A0_4 l0_4.length c0_4]] w fun e w' => e = .returned (.bool r) ∧ Below w.heap.size w w' := by
 have hu53 := Try.underlying53
 have hu58 := Try.underlying58
 have HRT := am hr_
 clear hr_
 have HR0_4 := am hr0_4
 have HC0_4 := am hc0_4
 clear hr0_4 hc0_4
 have HB := am (Below.refl w.heap.size w)
 have H : ((laws_szPdu.f k a0_0 a0_1 a0_2 a0_3 l0_4 1048576).bind fun t498 => (if t498 < 0 then (some true) else ((laws_toPdu.f k a0_0 a0_1 a0_2 a0_3 l0_4).bind fun bt499 => ((spec_PutPdu.f k bt499.1 bt499.2.1 bt499.2.2.1 bt499.2.2.2.1 bt499.2.2.2.2).bind fun t506 => ((laws_toPdu.f k a0_0 a0_1 a0_2 a0_3 l0_4).bind fun bt509 => ((impl_PutPdu.f k bt509.1 bt509.2.1 bt509.2.2.1 bt509.2.2.2.1 bt509.2.2.2.2).bind fun t517 => ((laws_eqByteS.f k t517 t506).bind fun t520 => (if t520 = true then ((laws_toPdu.f k a0_0 a0_1 a0_2 a0_3 l0_4).bind fun bt521 => ((laws_eqPdu.f k bt509.1 bt509.2.1 bt509.2.2.1 bt509.2.2.2.1 bt509.2.2.2.2 bt521.1 bt521.2.1 bt521.2.2.1 bt521.2.2.2.1 bt521.2.2.2.2).bind fun t528 => (if t528 = true then ((laws_markPdu.f bt509.1 bt509.2.1 bt509.2.2.1 bt509.2.2.2.1 bt509.2.2.2.2 1).bind fun t529 => (if t529 < 0 then (laws_FnExactPutPdu.j0 k t506 t517 true a0_0 a0_1 a0_2 a0_3 l0_4) else ((laws_eqByteS.f k t517 t506).bind fun t530 => (laws_FnExactPutPdu.j0 k t506 t517 (!t530) a0_0 a0_1 a0_2 a0_3 l0_4)))) else (some false)))) else (some false))))))))) = some r := h
 clear h
 replace H := Option.bind_eq_some_iff.mp H
 obtain ⟨t498, A20, H⟩ := H
 replace H : (if t498 < 0 then (some true) else ((laws_toPdu.f k a0_0 a0_1 a0_2 a0_3 l0_4).bind fun bt499 => ((spec_PutPdu.f k bt499.1 bt499.2.1 bt499.2.2.1 bt499.2.2.2.1 bt499.2.2.2.2).bind fun t506 => ((laws_toPdu.f k a0_0 a0_1 a0_2 a0_3 l0_4).bind fun bt509 => ((impl_PutPdu.f k bt509.1 bt509.2.1 bt509.2.2.1 bt509.2.2.2.1 bt509.2.2.2.2).bind fun t517 => ((laws_eqByteS.f k t517 t506).bind fun t520 => (if t520 = true then ((laws_toPdu.f k a0_0 a0_1 a0_2 a0_3 l0_4).bind fun bt521 => ((laws_eqPdu.f k bt509.1 bt509.2.1 bt509.2.2.1 bt509.2.2.2.1 bt509.2.2.2.2 bt521.1 bt521.2.1 bt521.2.2.1 bt521.2.2.2.1 bt521.2.2.2.2).bind fun t528 => (if t528 = true then ((laws_markPdu.f bt509.1 bt509.2.1 bt509.2.2.1 bt509.2.2.2.1 bt509.2.2.2.2 1).bind fun t529 => (if t529 < 0 then (laws_FnExactPutPdu.j0 k t506 t517 true a0_0 a0_1 a0_2 a0_3 l0_4) else ((laws_eqByteS.f k t517 t506).bind fun t530 => (laws_FnExactPutPdu.j0 k t506 t517 (!t530) a0_0 a0_1 a0_2 a0_3 l0_4)))) else (some false)))) else (some false)))))))) = some r := H
 have A2 := am A20
 clear A20
 by_cases c3 : t498 < 0
 · rw [if_pos c3] at H
   have c3b0 : decide (t498 < 0) = true := decide_eq_true c3
   clear c3
   obtain rfl := Option.some.inj H
   go_enter Try.func6, Try.ntmps6
   go_wp2_with (first | ((with_reducible refine gate_dst (N := 1) rfl ?_); refine bxe 1 #[.int .i64 a0_0, .int .i64 a0_1, .int .i64 a0_2, .int .i64 a0_3, .slice A0_4 l0_4.length c0_4] 53 ?_; intro gb497 hg w4 hbox hb; have n_ := ak4 (below_step (bq HB.out) hb) hbox ((by rw [hg]; exact (below_size (bq HB.out)) : w.heap.size ≤ gb497)) ((by rw [hg]; exact (below_size (bq HB.out)) : w.heap.size ≤ gb497)); clear HB; obtain ⟨HB, BK497, GW497, GE497⟩ := n_; clear hb hbox hg; obtain ⟨hcz5_0, hcz5_1, hcz5_2, hcz5_3, hcz5_4, hfz5_0, hfz5_1, hfz5_2, hfz5_3, hfz5_4⟩ := cl5 BK497.out) | ((with_reducible refine gate_callee (f := 38) rfl ?_); refine goesL_ (some 13) rfl rfl Try.func38 (by kernel_rfl) rfl #[.agg #[.int .i64 a0_0, .int .i64 a0_1, .int .i64 a0_2, .int .i64 a0_3, .slice A0_4 l0_4.length c0_4], .int .i64 1048576] rfl ga ?_; (with_reducible refine (laws_szPdu.calls k a0_0 a0_1 a0_2 a0_3 _ _ l0_4 1048576 t498 _ ?side1 ?side2 A2.out).mono ?_); (case side1 => exact cq (Kd.C_below HR0_4.out HB.out)); (case side2 => exact HC0_4.out); rintro e w6 ⟨rfl, hb⟩; refine ⟨_, rfl, ?_⟩; have n_ := ak2 (blk_below (zb BK497.out) hb) (below_step (bq1 HB.out GE497.out) hb); clear BK497 HB; obtain ⟨BK497, HB⟩ := n_; (try clear hb)))
   go_ret
   exact ⟨rq, bq1 HB.out GE497.out⟩
 rw [if_neg c3] at H
 have c3b0 : decide (t498 < 0) = false := decide_eq_false c3
 clear c3
 replace H := Option.bind_eq_some_iff.mp H
 obtain ⟨⟨t499, t500, t501, t502, t503⟩, A70, H⟩ := H
 replace H : ((spec_PutPdu.f k t499 t500 t501 t502 t503).bind fun t506 => ((laws_toPdu.f k a0_0 a0_1 a0_2 a0_3 l0_4).bind fun bt509 => ((impl_PutPdu.f k bt509.1 bt509.2.1 bt509.2.2.1 bt509.2.2.2.1 bt509.2.2.2.2).bind fun t517 => ((laws_eqByteS.f k t517 t506).bind fun t520 => (if t520 = true then ((laws_toPdu.f k a0_0 a0_1 a0_2 a0_3 l0_4).bind fun bt521 => ((laws_eqPdu.f k bt509.1 bt509.2.1 bt509.2.2.1 bt509.2.2.2.1 bt509.2.2.2.2 bt521.1 bt521.2.1 bt521.2.2.1 bt521.2.2.2.1 bt521.2.2.2.2).bind fun t528 => (if t528 = true then ((laws_markPdu.f bt509.1 bt509.2.1 bt509.2.2.1 bt509.2.2.2.1 bt509.2.2.2.2 1).bind fun t529 => (if t529 < 0 then (laws_FnExactPutPdu.j0 k t506 t517 true a0_0 a0_1 a0_2 a0_3 l0_4) else ((laws_eqByteS.f k t517 t506).bind fun t530 => (laws_FnExactPutPdu.j0 k t506 t517 (!t530) a0_0 a0_1 a0_2 a0_3 l0_4)))) else (some false)))) else (some false)))))) = some r := H
 have A7 := am A70
 clear A70
 replace H := Option.bind_eq_some_iff.mp H
 obtain ⟨t506, A80, H⟩ := H
 replace H : ((laws_toPdu.f k a0_0 a0_1 a0_2 a0_3 l0_4).bind fun bt509 => ((impl_PutPdu.f k bt509.1 bt509.2.1 bt509.2.2.1 bt509.2.2.2.1 bt509.2.2.2.2).bind fun t517 => ((laws_eqByteS.f k t517 t506).bind fun t520 => (if t520 = true then ((laws_toPdu.f k a0_0 a0_1 a0_2 a0_3 l0_4).bind fun bt521 => ((laws_eqPdu.f k bt509.1 bt509.2.1 bt509.2.2.1 bt509.2.2.2.1 bt509.2.2.2.2 bt521.1 bt521.2.1 bt521.2.2.1 bt521.2.2.2.1 bt521.2.2.2.2).bind fun t528 => (if t528 = true then ((laws_markPdu.f bt509.1 bt509.2.1 bt509.2.2.1 bt509.2.2.2.1 bt509.2.2.2.2 1).bind fun t529 => (if t529 < 0 then (laws_FnExactPutPdu.j0 k t506 t517 true a0_0 a0_1 a0_2 a0_3 l0_4) else ((laws_eqByteS.f k t517 t506).bind fun t530 => (laws_FnExactPutPdu.j0 k t506 t517 (!t530) a0_0 a0_1 a0_2 a0_3 l0_4)))) else (some false)))) else (some false))))) = some r := H
 have A8 := am A80
 clear A80
 replace H := Option.bind_eq_some_iff.mp H
 obtain ⟨⟨t509, t510, t511, t512, t513⟩, A90, H⟩ := H
 replace H : ((impl_PutPdu.f k t509 t510 t511 t512 t513).bind fun t517 => ((laws_eqByteS.f k t517 t506).bind fun t520 => (if t520 = true then ((laws_toPdu.f k a0_0 a0_1 a0_2 a0_3 l0_4).bind fun bt521 => ((laws_eqPdu.f k t509 t510 t511 t512 t513 bt521.1 bt521.2.1 bt521.2.2.1 bt521.2.2.2.1 bt521.2.2.2.2).bind fun t528 => (if t528 = true then ((laws_markPdu.f t509 t510 t511 t512 t513 1).bind fun t529 => (if t529 < 0 then (laws_FnExactPutPdu.j0 k t506 t517 true a0_0 a0_1 a0_2 a0_3 l0_4) else ((laws_eqByteS.f k t517 t506).bind fun t530 => (laws_FnExactPutPdu.j0 k t506 t517 (!t530) a0_0 a0_1 a0_2 a0_3 l0_4)))) else (some false)))) else (some false)))) = some r := H
 have A9 := am A90
 clear A90
 replace H := Option.bind_eq_some_iff.mp H
 obtain ⟨t517, A100, H⟩ := H
 replace H : ((laws_eqByteS.f k t517 t506).bind fun t520 => (if t520 = true then ((laws_toPdu.f k a0_0 a0_1 a0_2 a0_3 l0_4).bind fun bt521 => ((laws_eqPdu.f k t509 t510 t511 t512 t513 bt521.1 bt521.2.1 bt521.2.2.1 bt521.2.2.2.1 bt521.2.2.2.2).bind fun t528 => (if t528 = true then ((laws_markPdu.f t509 t510 t511 t512 t513 1).bind fun t529 => (if t529 < 0 then (laws_FnExactPutPdu.j0 k t506 t517 true a0_0 a0_1 a0_2 a0_3 l0_4) else ((laws_eqByteS.f k t517 t506).bind fun t530 => (laws_FnExactPutPdu.j0 k t506 t517 (!t530) a0_0 a0_1 a0_2 a0_3 l0_4)))) else (some false)))) else (some false))) = some r := H
 have A10 := am A100
 clear A100
 replace H := Option.bind_eq_some_iff.mp H
 obtain ⟨t520, A110, H⟩ := H
 replace H : (if t520 = true then ((laws_toPdu.f k a0_0 a0_1 a0_2 a0_3 l0_4).bind fun bt521 => ((laws_eqPdu.f k t509 t510 t511 t512 t513 bt521.1 bt521.2.1 bt521.2.2.1 bt521.2.2.2.1 bt521.2.2.2.2).bind fun t528 => (if t528 = true then ((laws_markPdu.f t509 t510 t511 t512 t513 1).bind fun t529 => (if t529 < 0 then (laws_FnExactPutPdu.j0 k t506 t517 true a0_0 a0_1 a0_2 a0_3 l0_4) else ((laws_eqByteS.f k t517 t506).bind fun t530 => (laws_FnExactPutPdu.j0 k t506 t517 (!t530) a0_0 a0_1 a0_2 a0_3 l0_4)))) else (some false)))) else (some false)) = some r := H
 have A11 := am A110
 clear A110
 by_cases c12 : t520 = true
 rotate_left
 · replace c12 := Bool.eq_false_iff.mpr c12
   subst c12
   replace H : (some false) = some r := by rw [if_neg (show ¬ (false = true) by decide)] at H; exact H
   exact absurd ((Option.some.inj H).trans HRT.out) (by decide)
 subst c12
 replace H : ((laws_toPdu.f k a0_0 a0_1 a0_2 a0_3 l0_4).bind fun bt521 => ((laws_eqPdu.f k t509 t510 t511 t512 t513 bt521.1 bt521.2.1 bt521.2.2.1 bt521.2.2.2.1 bt521.2.2.2.2).bind fun t528 => (if t528 = true then ((laws_markPdu.f t509 t510 t511 t512 t513 1).bind fun t529 => (if t529 < 0 then (laws_FnExactPutPdu.j0 k t506 t517 true a0_0 a0_1 a0_2 a0_3 l0_4) else ((laws_eqByteS.f k t517 t506).bind fun t530 => (laws_FnExactPutPdu.j0 k t506 t517 (!t530) a0_0 a0_1 a0_2 a0_3 l0_4)))) else (some false)))) = some r := by rw [if_pos rfl] at H; exact H
 replace H := Option.bind_eq_some_iff.mp H
 obtain ⟨⟨t521, t522, t523, t524, t525⟩, A130, H⟩ := H
 replace H : ((laws_eqPdu.f k t509 t510 t511 t512 t513 t521 t522 t523 t524 t525).bind fun t528 => (if t528 = true then ((laws_markPdu.f t509 t510 t511 t512 t513 1).bind fun t529 => (if t529 < 0 then (laws_FnExactPutPdu.j0 k t506 t517 true a0_0 a0_1 a0_2 a0_3 l0_4) else ((laws_eqByteS.f k t517 t506).bind fun t530 => (laws_FnExactPutPdu.j0 k t506 t517 (!t530) a0_0 a0_1 a0_2 a0_3 l0_4)))) else (some false))) = some r := H
 have A13 := am A130
 clear A130
 replace H := Option.bind_eq_some_iff.mp H
 obtain ⟨t528, A140, H⟩ := H
 replace H : (if t528 = true then ((laws_markPdu.f t509 t510 t511 t512 t513 1).bind fun t529 => (if t529 < 0 then (laws_FnExactPutPdu.j0 k t506 t517 true a0_0 a0_1 a0_2 a0_3 l0_4) else ((laws_eqByteS.f k t517 t506).bind fun t530 => (laws_FnExactPutPdu.j0 k t506 t517 (!t530) a0_0 a0_1 a0_2 a0_3 l0_4)))) else (some false)) = some r := H
 have A14 := am A140
 clear A140
 by_cases c15 : t528 = true
 rotate_left
 · replace c15 := Bool.eq_false_iff.mpr c15
   subst c15
   replace H : (some false) = some r := by rw [if_neg (show ¬ (false = true) by decide)] at H; exact H
   exact absurd ((Option.some.inj H).trans HRT.out) (by decide)
 subst c15
 replace H : ((laws_markPdu.f t509 t510 t511 t512 t513 1).bind fun t529 => (if t529 < 0 then (laws_FnExactPutPdu.j0 k t506 t517 true a0_0 a0_1 a0_2 a0_3 l0_4) else ((laws_eqByteS.f k t517 t506).bind fun t530 => (laws_FnExactPutPdu.j0 k t506 t517 (!t530) a0_0 a0_1 a0_2 a0_3 l0_4)))) = some r := by rw [if_pos rfl] at H; exact H
 replace H := Option.bind_eq_some_iff.mp H
 obtain ⟨t529, A160, H⟩ := H
 replace H : (if t529 < 0 then (laws_FnExactPutPdu.j0 k t506 t517 true a0_0 a0_1 a0_2 a0_3 l0_4) else ((laws_eqByteS.f k t517 t506).bind fun t530 => (laws_FnExactPutPdu.j0 k t506 t517 (!t530) a0_0 a0_1 a0_2 a0_3 l0_4))) = some r := H
 have A16 := am A160
 clear A160
 have HC17 := am H
 clear H
 go_enter Try.func6, Try.ntmps6
 try go_wp2_with (first | ((with_reducible refine gate_dst (N := 1) rfl ?_); refine bxe 1 #[.int .i64 a0_0, .int .i64 a0_1, .int .i64 a0_2, .int .i64 a0_3, .slice A0_4 l0_4.length c0_4] 53 ?_; intro gb497 hg w18 hbox hb; have n_ := ak4 (below_step (bq HB.out) hb) hbox ((by rw [hg]; exact (below_size (bq HB.out)) : w.heap.size ≤ gb497)) ((by rw [hg]; exact (below_size (bq HB.out)) : w.heap.size ≤ gb497)); clear HB; obtain ⟨HB, BK497, GW497, GE497⟩ := n_; clear hb hbox hg; obtain ⟨hcz19_0, hcz19_1, hcz19_2, hcz19_3, hcz19_4, hfz19_0, hfz19_1, hfz19_2, hfz19_3, hfz19_4⟩ := cl5 BK497.out) | ((with_reducible refine gate_callee (f := 38) rfl ?_); refine goesL_ (some 13) rfl rfl Try.func38 (by kernel_rfl) rfl #[.agg #[.int .i64 a0_0, .int .i64 a0_1, .int .i64 a0_2, .int .i64 a0_3, .slice A0_4 l0_4.length c0_4], .int .i64 1048576] rfl ga ?_; (with_reducible refine (laws_szPdu.calls k a0_0 a0_1 a0_2 a0_3 _ _ l0_4 1048576 t498 _ ?side1 ?side2 A2.out).mono ?_); (case side1 => exact cq (Kd.C_below HR0_4.out HB.out)); (case side2 => exact HC0_4.out); rintro e w20 ⟨rfl, hb⟩; refine ⟨_, rfl, ?_⟩; have n_ := ak2 (blk_below (zb BK497.out) hb) (below_step (bq1 HB.out GE497.out) hb); clear BK497 HB; obtain ⟨BK497, HB⟩ := n_; (try clear hb); obtain ⟨hcz21_0, hcz21_1, hcz21_2, hcz21_3, hcz21_4, hfz21_0, hfz21_1, hfz21_2, hfz21_3, hfz21_4⟩ := cl5 BK497.out) | ((with_reducible refine gate_callee (f := 40) rfl ?_); refine goesL_ (some 17) rfl rfl Try.func40 (by kernel_rfl) rfl #[.agg #[.int .i64 a0_0, .int .i64 a0_1, .int .i64 a0_2, .int .i64 a0_3, .slice A0_4 l0_4.length c0_4]] rfl ga ?_; (with_reducible refine (laws_toPdu.calls k a0_0 a0_1 a0_2 a0_3 _ _ l0_4 t499 t500 t501 t502 t503 _ ?side1 ?side2 A7.out).mono ?_); (case side1 => exact cq (Kd.C_below HR0_4.out HB.out)); (case side2 => exact HC0_4.out); rintro e w22 ⟨v504, rfl, ho0, hb⟩; refine ⟨_, rfl, ?_⟩; have n_ := ak3 (Kd.S_lower ho0 (below_size (bq1 HB.out GE497.out))) (blk_below (zb BK497.out) hb) (below_step (bq1 HB.out GE497.out) hb); clear BK497 HB; obtain ⟨HO505, BK497, HB⟩ := n_; (try clear hb ho0); obtain ⟨Ao23, co23, eo23⟩ := Kd.S_slice HO505.out; subst eo23) | ((with_reducible refine gate_callee (f := 39) rfl ?_); refine goesL_ (some 18) rfl rfl Try.func39 (by kernel_rfl) rfl #[.agg #[.int .i64 t499, .int .i64 t500, .int .i64 t501, .int .i64 t502, .slice Ao23 t503.length co23]] rfl ga ?_; (with_reducible refine (spec_PutPdu.calls k t499 t500 t501 t502 _ _ t503 t506 _ ?side1 ?side2 A8.out).mono ?_); (case side1 => repeat (first | exact (Kd.S_reads' HO505.out).2.2 | (with_reducible refine Kd.C_alloc ?_ _) | (with_reducible refine Kd.C_drewN ?_ _) | (with_reducible refine Kd.C_drew ?_))); (case side2 => exact (Kd.S_reads' HO505.out).2.1); rintro e w24 ⟨v507, rfl, ho0, hb⟩; refine ⟨_, rfl, ?_⟩; have n_ := ak4 (Kd.S_below (kqS HO505.out) hb) (Kd.R_lower ho0 (below_size (bq1 HB.out GE497.out))) (blk_below (zb BK497.out) hb) (below_step (bq1 HB.out GE497.out) hb); clear HO505 BK497 HB; obtain ⟨HO505, HO508, BK497, HB⟩ := n_; (try clear hb ho0); obtain ⟨hcz25_0, hcz25_1, hcz25_2, hcz25_3, hcz25_4, hfz25_0, hfz25_1, hfz25_2, hfz25_3, hfz25_4⟩ := cl5 BK497.out) | ((with_reducible refine gate_callee (f := 40) rfl ?_); refine goesL_ (some 20) rfl rfl Try.func40 (by kernel_rfl) rfl #[.agg #[.int .i64 a0_0, .int .i64 a0_1, .int .i64 a0_2, .int .i64 a0_3, .slice A0_4 l0_4.length c0_4]] rfl ga ?_; (with_reducible refine (laws_toPdu.calls k a0_0 a0_1 a0_2 a0_3 _ _ l0_4 t509 t510 t511 t512 t513 _ ?side1 ?side2 A9.out).mono ?_); (case side1 => exact cq (Kd.C_below HR0_4.out HB.out)); (case side2 => exact HC0_4.out); rintro e w26 ⟨v514, rfl, ho0, hb⟩; refine ⟨_, rfl, ?_⟩; have n_ := ak5 (Kd.S_elder' (kqS HO505.out) (Kd.S_base ho0) hb) (Kd.R_below (kqR HO508.out) hb) (Kd.S_lower (Kd.S_new' ho0 (Kd.S_lt (kqS HO505.out))) (below_size (bq1 HB.out GE497.out))) (blk_below (zb BK497.out) hb) (below_step (bq1 HB.out GE497.out) hb); clear HO505 HO508 BK497 HB; obtain ⟨HO505, HO508, HO515, BK497, HB⟩ := n_; (try clear hb ho0)) | ((with_reducible refine gate_dst (N := 5) rfl ?_); refine bxe 5 #[.int .i64 0, .int .i64 0, .int .i64 0, .int .i64 0, .slice none 0 0] 58 ?_; intro gb516 hg w27 hbox hb; have n_ := ak10 (Kd.S_below (kqS HO505.out) hb) (Kd.R_below (kqR HO508.out) hb) (Kd.S_below (kqS HO515.out) hb) (blk_below (zb BK497.out) hb) (below_step (bq1 HB.out GE497.out) hb) hbox ((by rw [hg]; exact (below_size (bq1 HB.out GE497.out)) : w.heap.size ≤ gb516)) ((by rw [hg]; exact (below_size (bq1 HB.out GE497.out)) : w.heap.size ≤ gb516)) ((nlt hg (zb BK497.out) : gb497 ≠ gb516)) ((ngt hg (zb BK497.out) : gb516 ≠ gb497)); clear HO505 HO508 HO515 BK497 HB; obtain ⟨HO505, HO508, HO515, BK497, HB, BK516, GW516, GE516, NB497_516, NB516_497⟩ := n_; clear hb hbox hg; have hnb28 := NB516_497.out; have hnc28 := NB497_516.out; obtain ⟨hcz29_0, hcz29_1, hcz29_2, hcz29_3, hcz29_4, hfz29_0, hfz29_1, hfz29_2, hfz29_3, hfz29_4⟩ := cl5 BK516.out; obtain ⟨Ao30, co30, eo30⟩ := Kd.S_slice HO515.out; subst eo30) | ((with_reducible refine gate_store (t := 58) (p := 5) rfl ?_); refine store_event (t := 58) (p := 5) (v := ?vo_w31) (w1 := (((((w27.setCell ⟨gb516, 0, none⟩ (.int .i64 t509)).setCell ⟨gb516, 1, none⟩ (.int .i64 t510)).setCell ⟨gb516, 2, none⟩ (.int .i64 t511)).setCell ⟨gb516, 3, none⟩ (.int .i64 t512)).setCell ⟨gb516, 4, none⟩ (.slice Ao30 t513.length co30))) ?hg ?ho ?hn ?hr ?_; (case ho => rfl); (case hg => rfl); (case hn => rfl); (case hr => exact gs); intro w31 hw; have n_ : Aside0 (Kd.S k116 116 w31 w.heap.size (fun k_ => some k_ ≠ (.slice Ao30 t513.length co30 : Value).ownBlock) (.slice Ao23 t503.length co23) t503) ∧ Aside0 (Kd.R (Kd.int .u8) 5 w31 w.heap.size (fun _ => True) v507 t506) ∧ Aside0 (Kd.S k116 116 w31 w.heap.size (fun k_ => some k_ ≠ (.slice Ao23 t503.length co23 : Value).ownBlock) (.slice Ao30 t513.length co30) t513) ∧ Aside0 (w31.heap[gb497]? = some (.cells #[.int .i64 a0_0, .int .i64 a0_1, .int .i64 a0_2, .int .i64 a0_3, .slice A0_4 l0_4.length c0_4] 53 (0, 0))) ∧ Aside0 (w31.heap[gb516]? = some (.cells #[.int .i64 t509, .int .i64 t510, .int .i64 t511, .int .i64 t512, .slice Ao30 t513.length co30] 58 (0, 0))) ∧ Aside0 (Below w.heap.size w w31) := ⟨⟨(by rw [hw]; exact (by (with_reducible repeat (first | apply Kd.S_alloc | apply Kd.S_drewN | apply Kd.S_drew)); exact Kd.S_mono (Kd.S_far (p := ⟨gb516, 4, none⟩) (Kd.S_far (p := ⟨gb516, 3, none⟩) (Kd.S_far (p := ⟨gb516, 2, none⟩) (Kd.S_far (p := ⟨gb516, 1, none⟩) (Kd.S_far (p := ⟨gb516, 0, none⟩) (Kd.S_types HO505.out BK516.out (by decide)) (fun _ hk => hk.2) (.int .i64 t509)) (fun _ hk => hk.2) (.int .i64 t510)) (fun _ hk => hk.2) (.int .i64 t511)) (fun _ hk => hk.2) (.int .i64 t512)) (fun _ hk => hk.2) (.slice Ao30 t513.length co30)) (fun _ hk => hk.1.2)))⟩, ⟨(by rw [hw]; exact (by refine kr ?_; exact Kd.R_mono (rf5 gb516 (.int .i64 t509) (.int .i64 t510) (.int .i64 t511) (.int .i64 t512) (.slice Ao30 t513.length co30) (Kd.R_types HO508.out BK516.out (by decide)) (fun _ hk => hk.2)) (fun _ hk => trivial)))⟩, ⟨(by rw [hw]; exact (by (with_reducible repeat (first | apply Kd.S_alloc | apply Kd.S_drewN | apply Kd.S_drew)); exact Kd.S_mono (Kd.S_far (p := ⟨gb516, 4, none⟩) (Kd.S_far (p := ⟨gb516, 3, none⟩) (Kd.S_far (p := ⟨gb516, 2, none⟩) (Kd.S_far (p := ⟨gb516, 1, none⟩) (Kd.S_far (p := ⟨gb516, 0, none⟩) (Kd.S_types HO515.out BK516.out (by decide)) (fun _ hk => hk.2) (.int .i64 t509)) (fun _ hk => hk.2) (.int .i64 t510)) (fun _ hk => hk.2) (.int .i64 t511)) (fun _ hk => hk.2) (.int .i64 t512)) (fun _ hk => hk.2) (.slice Ao30 t513.length co30)) (fun _ hk => hk.1.2)))⟩, ⟨(by rw [hw]; exact (by refine zr ?_; refine blk_far ?_ NB497_516.out _; refine zr ?_; refine blk_far ?_ NB497_516.out _; refine zr ?_; refine blk_far ?_ NB497_516.out _; refine zr ?_; refine blk_far ?_ NB497_516.out _; refine zr ?_; refine blk_far ?_ NB497_516.out _; refine zr ?_; exact BK497.out))⟩, ⟨(by rw [hw]; exact (by refine zr ?_; exact bp5 (zb BK516.out)))⟩, ⟨(by rw [hw]; exact (bq2 HB.out GE497.out GE516.out))⟩⟩; clear hw HO505 HO508 HO515 BK497 BK516 HB; obtain ⟨HO505, HO508, HO515, BK497, BK516, HB⟩ := n_; obtain ⟨hcz32_0, hcz32_1, hcz32_2, hcz32_3, hcz32_4, hfz32_0, hfz32_1, hfz32_2, hfz32_3, hfz32_4⟩ := cl5 BK516.out) | ((with_reducible refine gate_callee (f := 41) rfl ?_); refine goesL_ (some 22) rfl rfl Try.func41 (by kernel_rfl) rfl #[.agg #[.int .i64 t509, .int .i64 t510, .int .i64 t511, .int .i64 t512, .slice Ao30 t513.length co30]] rfl ga ?_; (with_reducible refine (impl_PutPdu.calls k t509 t510 t511 t512 _ _ t513 t517 _ ?side1 ?side2 A10.out).mono ?_); (case side1 => repeat (first | exact (Kd.S_reads' HO515.out).2.2 | (with_reducible refine Kd.C_alloc ?_ _) | (with_reducible refine Kd.C_drewN ?_ _) | (with_reducible refine Kd.C_drew ?_))); (case side2 => exact (Kd.S_reads' HO515.out).2.1); rintro e w33 ⟨v518, rfl, ho0, hb⟩; refine ⟨_, rfl, ?_⟩; have n_ := ak7 (Kd.S_below (kqS HO505.out) hb) (Kd.R_elder' (kqR HO508.out) (Kd.R_base ho0) hb) (Kd.S_below (kqS HO515.out) hb) (Kd.R_lower (Kd.R_new' ho0 (Kd.R_lt (kqR HO508.out))) (below_size (bq2 HB.out GE497.out GE516.out))) (blk_below (zb BK497.out) hb) (blk_below (zb BK516.out) hb) (below_step (bq2 HB.out GE497.out GE516.out) hb); clear HO505 HO508 HO515 BK497 BK516 HB; obtain ⟨HO505, HO508, HO515, HO519, BK497, BK516, HB⟩ := n_; (try clear hb ho0); obtain ⟨Ao34, co34, eo34⟩ := Kd.R_slice HO519.out; subst eo34; obtain ⟨Ao35, co35, eo35⟩ := Kd.R_slice HO508.out; subst eo35) | ((with_reducible refine gate_callee (f := 18) rfl ?_); refine goesL_ (some 25) rfl rfl Try.func18 (by kernel_rfl) rfl #[.slice Ao34 t517.length co34, .slice Ao35 t506.length co35] rfl ga ?_; (with_reducible refine (laws_eqByteS.calls k _ _ t517 _ _ t506 true _ ?side1 ?side2 ?side3 ?side4 A11.out).mono ?_); (case side1 => repeat (first | exact (Kd.R_reads' HO519.out).2.2 | (with_reducible refine Kd.C_alloc ?_ _) | (with_reducible refine Kd.C_drewN ?_ _) | (with_reducible refine Kd.C_drew ?_))); (case side2 => exact (Kd.R_reads' HO519.out).2.1); (case side3 => repeat (first | exact (Kd.R_reads' HO508.out).2.2 | (with_reducible refine Kd.C_alloc ?_ _) | (with_reducible refine Kd.C_drewN ?_ _) | (with_reducible refine Kd.C_drew ?_))); (case side4 => exact (Kd.R_reads' HO508.out).2.1); rintro e w' ⟨rfl, ⟨nd, rfl⟩⟩; refine ⟨_, rfl, ?_⟩))
 have n_ := am (Kd.R_mono (ok' := (fun k_ => some k_ ≠ (.slice Ao34 t517.length co34 : Value).ownBlock)) HO508.out (fun k_ hk => hk.2))
 clear HO508
 have HO508 := n_
 clear n_
 have n_ := am (Kd.R_mono (ok' := (fun k_ => some k_ ≠ (.slice Ao35 t506.length co35 : Value).ownBlock)) HO519.out (fun k_ hk => hk.2))
 clear HO519
 have HO519 := n_
 clear n_
 (try (rw [drewN_self w33]; generalize hq_ : World.drewN w33 _ = w33; have n_ : Aside0 (Kd.S k116 116 w33 w.heap.size (fun k_ => some k_ ≠ (.slice Ao30 t513.length co30 : Value).ownBlock) (.slice Ao23 t503.length co23) t503) ∧ Aside0 (Kd.R (Kd.int .u8) 5 w33 w.heap.size (fun k_ => some k_ ≠ (.slice Ao34 t517.length co34 : Value).ownBlock) (.slice Ao35 t506.length co35) t506) ∧ Aside0 (Kd.S k116 116 w33 w.heap.size (fun k_ => some k_ ≠ (.slice Ao23 t503.length co23 : Value).ownBlock) (.slice Ao30 t513.length co30) t513) ∧ Aside0 (Kd.R (Kd.int .u8) 5 w33 w.heap.size (fun k_ => some k_ ≠ (.slice Ao35 t506.length co35 : Value).ownBlock) (.slice Ao34 t517.length co34) t517) ∧ Aside0 (w33.heap[gb497]? = some (.cells #[.int .i64 a0_0, .int .i64 a0_1, .int .i64 a0_2, .int .i64 a0_3, .slice A0_4 l0_4.length c0_4] 53 (0, 0))) ∧ Aside0 (w33.heap[gb516]? = some (.cells #[.int .i64 t509, .int .i64 t510, .int .i64 t511, .int .i64 t512, .slice Ao30 t513.length co30] 58 (0, 0))) ∧ Aside0 (Below w.heap.size w w33) := ⟨⟨by rw [← hq_]; exact (kqS HO505.out)⟩, ⟨by rw [← hq_]; exact (kqR HO508.out)⟩, ⟨by rw [← hq_]; exact (kqS HO515.out)⟩, ⟨by rw [← hq_]; exact (kqR HO519.out)⟩, ⟨by rw [← hq_]; exact (zq BK497.out)⟩, ⟨by rw [← hq_]; exact (zq BK516.out)⟩, ⟨by rw [← hq_]; exact (bq2 HB.out GE497.out GE516.out)⟩⟩; clear HO505 HO508 HO515 HO519 BK497 BK516 HB hq_; obtain ⟨HO505, HO508, HO515, HO519, BK497, BK516, HB⟩ := n_))
 have n_ := ak7 (Kd.S_drew HO505.out) (Kd.R_drew HO508.out) (Kd.S_drew HO515.out) (Kd.R_drew HO519.out) (blk_drew BK497.out) (blk_drew BK516.out) (below_drew1 HB.out)
 clear HO505 HO508 HO515 HO519 BK497 BK516 HB
 obtain ⟨HO505, HO508, HO515, HO519, BK497, BK516, HB⟩ := n_
 refine start_ (n := 5) (S := fun w' => w'.cell? ⟨gb516, 0, none⟩ = some (.int .i64 t509) ∧ w'.cell? ⟨gb516, 1, none⟩ = some (.int .i64 t510) ∧ w'.cell? ⟨gb516, 2, none⟩ = some (.int .i64 t511) ∧ w'.cell? ⟨gb516, 3, none⟩ = some (.int .i64 t512) ∧ w'.cell? ⟨gb516, 4, none⟩ = some (.slice Ao30 t513.length co30) ∧ w'.cell? ⟨gb497, 0, none⟩ = some (.int .i64 a0_0) ∧ w'.cell? ⟨gb497, 1, none⟩ = some (.int .i64 a0_1) ∧ w'.cell? ⟨gb497, 2, none⟩ = some (.int .i64 a0_2) ∧ w'.cell? ⟨gb497, 3, none⟩ = some (.int .i64 a0_3) ∧ w'.cell? ⟨gb497, 4, none⟩ = some (.slice A0_4 l0_4.length c0_4)) (ds := []) #[false, false, false, false, false] (by kernel_rfl) rfl rfl ⟨(blk_cell BK516.out 0).trans rfl, (blk_cell BK516.out 1).trans rfl, (blk_cell BK516.out 2).trans rfl, (blk_cell BK516.out 3).trans rfl, (blk_cell BK516.out 4).trans rfl, (blk_cell BK497.out 0).trans rfl, (blk_cell BK497.out 1).trans rfl, (blk_cell BK497.out 2).trans rfl, (blk_cell BK497.out 3).trans rfl, (blk_cell BK497.out 4).trans rfl⟩ (fun hHeld => ?_)
 generalize w33.drew = w36 at HO505 HO508 HO515 HO519 BK497 BK516 HB hHeld ⊢
 refine tk 0 (some 27) #[true, false, false, false, false] rfl rfl (by kernel_rfl) hHeld (Or.inl ⟨by rfl, by rintro w' ⟨s0, s1, s2, s3, s4, s5, s6, s7, s8, s9⟩; go_simp; with_reducible rfl⟩) ?_
 refine tk 1 (some 28) #[true, true, false, false, false] rfl rfl (by kernel_rfl) hHeld (Or.inl ⟨by rfl, by rintro w' ⟨s0, s1, s2, s3, s4, s5, s6, s7, s8, s9⟩; go_simp; with_reducible rfl⟩) ?_
 refine one_ (i := 2) (N := some 29) #[true, true, true, false, false] rfl rfl (by kernel_rfl) (by decide) (fun K hK => ?_)
 refine goes_ Try.func40 (by kernel_rfl) rfl #[.agg #[.int .i64 a0_0, .int .i64 a0_1, .int .i64 a0_2, .int .i64 a0_3, .slice A0_4 l0_4.length c0_4]] (by rfl) rfl rfl ga ?_
 with_reducible refine (laws_toPdu.calls k a0_0 a0_1 a0_2 a0_3 _ _ l0_4 t521 t522 t523 t524 t525 _ ?side1 ?side2 A13.out).mono ?_
 (case side1 => exact cq (Kd.C_below HR0_4.out HB.out))
 (case side2 => exact HC0_4.out)
 rintro e w37 ⟨v526, rfl, ho0, hb⟩
 refine ⟨_, rfl, ?_⟩
 have n_ := ak8 (Kd.S_elder' (kqS HO505.out) (Kd.S_base ho0) hb) (Kd.R_below (kqR HO508.out) hb) (Kd.S_elder' (kqS HO515.out) (Kd.S_base ho0) hb) (Kd.R_below (kqR HO519.out) hb) (Kd.S_lower (Kd.S_new' (Kd.S_new' ho0 (Kd.S_lt (kqS HO505.out))) (Kd.S_lt (kqS HO515.out))) (below_size (bq2 HB.out GE497.out GE516.out))) (blk_below (zb BK497.out) hb) (blk_below (zb BK516.out) hb) (below_step (bq2 HB.out GE497.out GE516.out) hb)
 clear HO505 HO508 HO515 HO519 BK497 BK516 HB
 obtain ⟨HO505, HO508, HO515, HO519, HO527, BK497, BK516, HB⟩ := n_
 (try clear hb ho0)
 obtain ⟨Ao38, co38, eo38⟩ := Kd.S_slice HO527.out
 (first | subst eo38 | (injection eo38 with f1_ f2_ f3_; have f4_ := f1_.symm; have f5_ := f3_.symm; clear f1_ f2_ f3_; subst f4_; subst f5_))
 refine hK.out _ _ ⟨(blk_cell BK516.out 0).trans rfl, (blk_cell BK516.out 1).trans rfl, (blk_cell BK516.out 2).trans rfl, (blk_cell BK516.out 3).trans rfl, (blk_cell BK516.out 4).trans rfl, (blk_cell BK497.out 0).trans rfl, (blk_cell BK497.out 1).trans rfl, (blk_cell BK497.out 2).trans rfl, (blk_cell BK497.out 3).trans rfl, (blk_cell BK497.out 4).trans rfl⟩ (fun hHeld => ?_)
 clear hK K
 refine norm_ (a' := ?_) ?_ ?_
 rotate_left
 · show Act.put _ (some 29) _ = _
   simp only [Act.put, List.setIfInBounds_toArray, List.set_cons_zero, List.set_cons_succ, i64_w, i32_w]
   rfl
 refine one_ (i := 3) (N := some 30) #[true, true, true, true, false] rfl rfl (by kernel_rfl) (by decide) (fun K hK => ?_)
 refine goes_ Try.func42 (by kernel_rfl) rfl #[.agg #[.int .i64 t509, .int .i64 t510, .int .i64 t511, .int .i64 t512, .slice Ao30 t513.length co30], .agg #[.int .i64 t521, .int .i64 t522, .int .i64 t523, .int .i64 t524, .slice Ao38 t525.length co38]] (by rfl) rfl rfl ga ?_
 with_reducible refine (laws_eqPdu.calls k t509 t510 t511 t512 _ _ t513 t521 t522 t523 t524 _ _ t525 true _ ?side1 ?side2 ?side3 ?side4 A14.out).mono ?_
 (case side1 => repeat (first | exact (Kd.S_reads' HO515.out).2.2 | (with_reducible refine Kd.C_alloc ?_ _) | (with_reducible refine Kd.C_drewN ?_ _) | (with_reducible refine Kd.C_drew ?_)))
 (case side2 => exact (Kd.S_reads' HO515.out).2.1)
 (case side3 => repeat (first | exact (Kd.S_reads' HO527.out).2.2 | (with_reducible refine Kd.C_alloc ?_ _) | (with_reducible refine Kd.C_drewN ?_ _) | (with_reducible refine Kd.C_drew ?_)))
 (case side4 => exact (Kd.S_reads' HO527.out).2.1)
 rintro e w39 ⟨rfl, hb⟩
 refine ⟨_, rfl, ?_⟩
 have n_ := ak8 (Kd.S_below (kqS HO505.out) hb) (Kd.R_below (kqR HO508.out) hb) (Kd.S_below (kqS HO515.out) hb) (Kd.R_below (kqR HO519.out) hb) (Kd.S_below (kqS HO527.out) hb) (blk_below (zb BK497.out) hb) (blk_below (zb BK516.out) hb) (below_step (bq2 HB.out GE497.out GE516.out) hb)
 clear HO505 HO508 HO515 HO519 HO527 BK497 BK516 HB
 obtain ⟨HO505, HO508, HO515, HO519, HO527, BK497, BK516, HB⟩ := n_
 (try clear hb)
 refine hK.out _ _ ⟨(blk_cell BK516.out 0).trans rfl, (blk_cell BK516.out 1).trans rfl, (blk_cell BK516.out 2).trans rfl, (blk_cell BK516.out 3).trans rfl, (blk_cell BK516.out 4).trans rfl, (blk_cell BK497.out 0).trans rfl, (blk_cell BK497.out 1).trans rfl, (blk_cell BK497.out 2).trans rfl, (blk_cell BK497.out 3).trans rfl, (blk_cell BK497.out 4).trans rfl⟩ (fun hHeld => ?_)
 clear hK K
 refine norm_ (a' := ?_) ?_ ?_
 rotate_left
 · show Act.put _ (some 30) _ = _
   simp only [Act.put, List.setIfInBounds_toArray, List.set_cons_zero, List.set_cons_succ, i64_w, i32_w]
   rfl
 refine pu 4 (some 31) #[true, true, true, true, true] rfl rfl (by kernel_rfl) (Or.inl ⟨by rfl, by intro w'; go_simp; with_reducible rfl⟩) ?_
 refine done_ (by kernel_rfl) ?_
 obtain ⟨hcz40_0, hcz40_1, hcz40_2, hcz40_3, hcz40_4, hfz40_0, hfz40_1, hfz40_2, hfz40_3, hfz40_4⟩ := cl5 BK516.out
 go_upto_region 14 with (first | ((with_reducible refine gate_callee (f := 43) rfl ?_); refine goesL_ (some 34) rfl rfl Try.func43 (by kernel_rfl) rfl #[.agg #[.int .i64 t509, .int .i64 t510, .int .i64 t511, .int .i64 t512, .slice Ao30 t513.length co30], .int .i64 1] rfl ga ?_; refine (laws_markPdu.calls _ _ _ _ _ _ _ _ (base := w.heap.size) _ ?s1 (Kd.S_R (kqS HO515.out)) A16.out).mono ?_; (case s1 => exact below_size (bq2 HB.out GE497.out GE516.out)); rintro e w41 ⟨rfl, hk⟩; refine ⟨_, rfl, ?_⟩; have n_ := ak5 (Mk.row (kqR HO508.out) hk) (Mk.row (kqR HO519.out) hk) (Mk.blk (zb BK497.out) hk) (Mk.blk (zb BK516.out) hk) (Mk.base (bq2 HB.out GE497.out GE516.out) hk); clear HO505 HO508 HO515 HO519 HO527 BK497 BK516 HB; obtain ⟨HO508, HO519, BK497, BK516, HB⟩ := n_; (try clear hk)))
 (try simp only [Act.put, List.setIfInBounds_toArray, List.set_cons_zero, List.set_cons_succ])
 go_cut [42] (fun v42 wc => ∃ (kq : Nat) (x42_16 : Bool), v42 = .bool x42_16 ∧ Aside0 (laws_FnExactPutPdu.j0 kq t506 t517 x42_16 a0_0 a0_1 a0_2 a0_3 l0_4 = some r) ∧ Aside0 (kq ≤ k) ∧ Aside0 (Kd.R (Kd.int .u8) 5 wc w.heap.size (fun k_ => some k_ ≠ ((.slice Ao34 t517.length co34) : Value).ownBlock) (.slice Ao35 t506.length co35) t506) ∧ Aside0 (Kd.R (Kd.int .u8) 5 wc w.heap.size (fun k_ => some k_ ≠ ((.slice Ao35 t506.length co35) : Value).ownBlock) (.slice Ao34 t517.length co34) t517) ∧ Aside0 (wc.heap[gb497]? = some (.cells #[.int .i64 a0_0, .int .i64 a0_1, .int .i64 a0_2, .int .i64 a0_3, (.slice A0_4 l0_4.length c0_4)] 53 (0, 0))) ∧ Aside0 (wc.heap[gb516]? = some (.cells #[.int .i64 t509, .int .i64 t510, .int .i64 t511, .int .i64 t512, (.slice Ao30 t513.length co30)] 58 (0, 0))) ∧ Aside0 (Below w.heap.size w wc))
 case first =>
  have H := HC17.out
  clear HC17
  by_cases c42 : t529 < 0
  · rw [if_pos c42] at H
    have c42b0 : decide (t529 < 0) = true := decide_eq_true c42
    clear c42
    (first | rw [c42b0] | (simp only [i64_w, i32_w]; rw [c42b0]) | skip)
    have H' := am H
    clear H
    go_wp2
    go_meet
    case rel => exact ⟨_, (true), sq, H', ⟨by first | omega | exact Nat.le_refl _⟩, ⟨kqR HO508.out⟩, ⟨kqR HO519.out⟩, ⟨zq BK497.out⟩, ⟨zq BK516.out⟩, ⟨bq2 HB.out GE497.out GE516.out⟩⟩
  rw [if_neg c42] at H
  have c42b0 : decide (t529 < 0) = false := decide_eq_false c42
  clear c42
  (first | rw [c42b0] | (simp only [i64_w, i32_w]; rw [c42b0]) | skip)
  replace H := Option.bind_eq_some_iff.mp H
  obtain ⟨t530, A430, H⟩ := H
  replace H : (laws_FnExactPutPdu.j0 k t506 t517 (!t530) a0_0 a0_1 a0_2 a0_3 l0_4) = some r := H
  have A43 := am A430
  clear A430
  have H' := am H
  clear H
  go_wp2_with (first | (go_at_call 18; (with_reducible refine (laws_eqByteS.calls k _ _ t517 _ _ t506 t530 _ ?side1 ?side2 ?side3 ?side4 A43.out).mono ?_); (case side1 => repeat (first | exact (Kd.R_reads' HO519.out).2.2 | (with_reducible refine Kd.C_alloc ?_ _) | (with_reducible refine Kd.C_drewN ?_ _) | (with_reducible refine Kd.C_drew ?_))); (case side2 => exact (Kd.R_reads' HO519.out).2.1); (case side3 => repeat (first | exact (Kd.R_reads' HO508.out).2.2 | (with_reducible refine Kd.C_alloc ?_ _) | (with_reducible refine Kd.C_drewN ?_ _) | (with_reducible refine Kd.C_drew ?_))); (case side4 => exact (Kd.R_reads' HO508.out).2.1); rintro e w' ⟨rfl, ⟨nd, rfl⟩⟩))
  go_meet
  case rel => exact ⟨_, (!t530), sq, H', ⟨by first | omega | exact Nat.le_refl _⟩, ⟨kqR HO508.out⟩, ⟨kqR HO519.out⟩, ⟨zq BK497.out⟩, ⟨zq BK516.out⟩, ⟨bq2 HB.out GE497.out GE516.out⟩⟩
 case rest =>
  clear HC17
  try clear c1
  try clear c2
  try clear p2
  try clear c3
  try clear c3b0
  try clear c4
  try clear c6
  try clear c12
  try clear c15
  try clear c18
  try clear c28
  try clear c38
  try clear c39
  try clear c40
  try clear c41
  try clear c42
  try clear c42b0
  try clear c43
  try clear hcz19_0
  try clear hcz19_1
  try clear hcz19_2
  try clear hcz19_3
  try clear hcz19_4
  try clear hcz21_0
  try clear hcz21_1
  try clear hcz21_2
  try clear hcz21_3
  try clear hcz21_4
  try clear hcz25_0
  try clear hcz25_1
  try clear hcz25_2
  try clear hcz25_3
  try clear hcz25_4
  try clear hcz29_0
  try clear hcz29_1
  try clear hcz29_2
  try clear hcz29_3
  try clear hcz29_4
  try clear hcz32_0
  try clear hcz32_1
  try clear hcz32_2
  try clear hcz32_3
  try clear hcz32_4
  try clear hcz40_0
  try clear hcz40_1
  try clear hcz40_2
  try clear hcz40_3
  try clear hcz40_4
  try clear hcz5_0
  try clear hcz5_1
  try clear hcz5_2
  try clear hcz5_3
  try clear hcz5_4
  try clear hfz19_0
  try clear hfz19_1
  try clear hfz19_2
  try clear hfz19_3
  try clear hfz19_4
  try clear hfz21_0
  try clear hfz21_1
  try clear hfz21_2
  try clear hfz21_3
  try clear hfz21_4
  try clear hfz25_0
  try clear hfz25_1
  try clear hfz25_2
  try clear hfz25_3
  try clear hfz25_4
  try clear hfz29_0
  try clear hfz29_1
  try clear hfz29_2
  try clear hfz29_3
  try clear hfz29_4
  try clear hfz32_0
  try clear hfz32_1
  try clear hfz32_2
  try clear hfz32_3
  try clear hfz32_4
  try clear hfz40_0
  try clear hfz40_1
  try clear hfz40_2
  try clear hfz40_3
  try clear hfz40_4
  try clear hfz5_0
  try clear hfz5_1
  try clear hfz5_2
  try clear hfz5_3
  try clear hfz5_4
  obtain ⟨kq, x42_16, rfl, HA, HJ16, HO_4, HO_6, BK497, BK516, HB⟩ := hcut
  cases kq with
  | zero => exact absurd HA.out (by simp [laws_FnExactPutPdu.j0])
  | succ kj16 =>
   have H := HA.out
   clear HA
   simp only [laws_FnExactPutPdu.j0] at H
   by_cases c44 : x42_16 = true
   · subst c44
     replace H : (some false) = some r := by rw [if_pos rfl] at H; exact H
     exact absurd ((Option.some.inj H).trans HRT.out) (by decide)
   replace c44 := Bool.eq_false_iff.mpr c44
   subst c44
   replace H : ((laws_markByteS.f kj16 t517 1).bind fun bt531 => ((laws_heldByteS.f kj16 bt531.2 1).bind fun t533 => (if t533 < 0 then (some false) else (if t533 = bt531.1 then ((laws_toPdu.f kj16 a0_0 a0_1 a0_2 a0_3 l0_4).bind fun bt534 => ((impl_PutPdu.f kj16 bt534.1 bt534.2.1 bt534.2.2.1 bt534.2.2.2.1 bt534.2.2.2.2).bind fun t541 => ((laws_eqByteS.f kj16 t541 t506).bind fun t544 => (if t544 = true then ((laws_heldByteS.f kj16 bt531.2 1).bind fun t545 => (if t545 < 0 then (some false) else (if t545 = bt531.1 then (some true) else (some false)))) else (some false))))) else (some false))))) = some r := by rw [if_neg (show ¬ (false = true) by decide)] at H; exact H
   replace H := Option.bind_eq_some_iff.mp H
   obtain ⟨⟨t531, t532⟩, A450, H⟩ := H
   replace H : ((laws_heldByteS.f kj16 t532 1).bind fun t533 => (if t533 < 0 then (some false) else (if t533 = t531 then ((laws_toPdu.f kj16 a0_0 a0_1 a0_2 a0_3 l0_4).bind fun bt534 => ((impl_PutPdu.f kj16 bt534.1 bt534.2.1 bt534.2.2.1 bt534.2.2.2.1 bt534.2.2.2.2).bind fun t541 => ((laws_eqByteS.f kj16 t541 t506).bind fun t544 => (if t544 = true then ((laws_heldByteS.f kj16 t532 1).bind fun t545 => (if t545 < 0 then (some false) else (if t545 = t531 then (some true) else (some false)))) else (some false))))) else (some false)))) = some r := H
   have A45 := am A450
   clear A450
   replace H := Option.bind_eq_some_iff.mp H
   obtain ⟨t533, A460, H⟩ := H
   replace H : (if t533 < 0 then (some false) else (if t533 = t531 then ((laws_toPdu.f kj16 a0_0 a0_1 a0_2 a0_3 l0_4).bind fun bt534 => ((impl_PutPdu.f kj16 bt534.1 bt534.2.1 bt534.2.2.1 bt534.2.2.2.1 bt534.2.2.2.2).bind fun t541 => ((laws_eqByteS.f kj16 t541 t506).bind fun t544 => (if t544 = true then ((laws_heldByteS.f kj16 t532 1).bind fun t545 => (if t545 < 0 then (some false) else (if t545 = t531 then (some true) else (some false)))) else (some false))))) else (some false))) = some r := H
   have A46 := am A460
   clear A460
   by_cases c47 : t533 < 0
   · rw [if_pos c47] at H
     have c47b0 : decide (t533 < 0) = true := decide_eq_true c47
     clear c47
     exact absurd ((Option.some.inj H).trans HRT.out) (by decide)
   rw [if_neg c47] at H
   have c47b0 : decide (t533 < 0) = false := decide_eq_false c47
   clear c47
   by_cases c48 : t533 = t531
   rotate_left
   · rw [if_neg c48] at H
     have c48b0 : (t533 == t531) = false := beq_eq_false_iff_ne.mpr c48
     have c48b1 : (t533 != t531) = true := bne_iff_ne.mpr c48
     exact absurd ((Option.some.inj H).trans HRT.out) (by decide)
   rw [if_pos c48] at H
   have c48b0 : (t533 == t531) = true := beq_iff_eq.mpr c48
   have c48b1 : (t533 != t531) = false := bne_eq_false_iff_eq.mpr c48
   clear c48
   replace H := Option.bind_eq_some_iff.mp H
   obtain ⟨⟨t534, t535, t536, t537, t538⟩, A490, H⟩ := H
   replace H : ((impl_PutPdu.f kj16 t534 t535 t536 t537 t538).bind fun t541 => ((laws_eqByteS.f kj16 t541 t506).bind fun t544 => (if t544 = true then ((laws_heldByteS.f kj16 t532 1).bind fun t545 => (if t545 < 0 then (some false) else (if t545 = t531 then (some true) else (some false)))) else (some false)))) = some r := H
   have A49 := am A490
   clear A490
   replace H := Option.bind_eq_some_iff.mp H
   obtain ⟨t541, A500, H⟩ := H
   replace H : ((laws_eqByteS.f kj16 t541 t506).bind fun t544 => (if t544 = true then ((laws_heldByteS.f kj16 t532 1).bind fun t545 => (if t545 < 0 then (some false) else (if t545 = t531 then (some true) else (some false)))) else (some false))) = some r := H
   have A50 := am A500
   clear A500
   replace H := Option.bind_eq_some_iff.mp H
   obtain ⟨t544, A510, H⟩ := H
   replace H : (if t544 = true then ((laws_heldByteS.f kj16 t532 1).bind fun t545 => (if t545 < 0 then (some false) else (if t545 = t531 then (some true) else (some false)))) else (some false)) = some r := H
   have A51 := am A510
   clear A510
   by_cases c52 : t544 = true
   rotate_left
   · replace c52 := Bool.eq_false_iff.mpr c52
     subst c52
     replace H : (some false) = some r := by rw [if_neg (show ¬ (false = true) by decide)] at H; exact H
     exact absurd ((Option.some.inj H).trans HRT.out) (by decide)
   subst c52
   replace H : ((laws_heldByteS.f kj16 t532 1).bind fun t545 => (if t545 < 0 then (some false) else (if t545 = t531 then (some true) else (some false)))) = some r := by rw [if_pos rfl] at H; exact H
   replace H := Option.bind_eq_some_iff.mp H
   obtain ⟨t545, A530, H⟩ := H
   replace H : (if t545 < 0 then (some false) else (if t545 = t531 then (some true) else (some false))) = some r := H
   have A53 := am A530
   clear A530
   by_cases c54 : t545 < 0
   · rw [if_pos c54] at H
     have c54b0 : decide (t545 < 0) = true := decide_eq_true c54
     clear c54
     exact absurd ((Option.some.inj H).trans HRT.out) (by decide)
   rw [if_neg c54] at H
   have c54b0 : decide (t545 < 0) = false := decide_eq_false c54
   clear c54
   by_cases c55 : t545 = t531
   rotate_left
   · rw [if_neg c55] at H
     have c55b0 : (t545 == t531) = false := beq_eq_false_iff_ne.mpr c55
     have c55b1 : (t545 != t531) = true := bne_iff_ne.mpr c55
     exact absurd ((Option.some.inj H).trans HRT.out) (by decide)
   rw [if_pos c55] at H
   have c55b0 : (t545 == t531) = true := beq_iff_eq.mpr c55
   have c55b1 : (t545 != t531) = false := bne_eq_false_iff_eq.mpr c55
   clear c55
   obtain rfl := Option.some.inj H
   go_wp2_with (first | ((with_reducible refine gate_callee (f := 20) rfl ?_); refine goesL_ (some 45) rfl rfl Try.func20 (by kernel_rfl) rfl #[.slice Ao34 t517.length co34, .int .i64 1] rfl ga ?_; (with_reducible refine (laws_markByteS.calls kj16 (fun k_ => some k_ = (.slice Ao34 t517.length co34 : Value).ownBlock) (.slice Ao34 t517.length co34) t517 1 t531 t532 w _ ?side1 ?side2 A45.out).mono ?_); (case side1 => exact bq2 HB.out GE497.out GE516.out); (case side2 => exact Kd.R_tight rfl HO_6.out); rintro e w56 ⟨rfl, hy0, hb, hkp⟩; refine ⟨_, rfl, ?_⟩; have n_ := ak5 (Kd.R_mono (ok' := fun k_ => some k_ ≠ (.slice Ao34 t517.length co34 : Value).ownBlock) (Kd.R_keptB (HO_4.out) hkp (fun k_ hk_ hs_ => (hk_) hs_)) (fun k_ hk_ => hk_.1)) (Kd.R_reok rfl hy0 (fun k_ e_ => HO_6.out.1 k_ e_)) (blk_kept (zq BK497.out) hkp (fun hs_ => (fun e_ => (Kd.R_ne HO_6.out BK497.out (by decide)) e_) hs_)) (blk_kept (zq BK516.out) hkp (fun hs_ => (fun e_ => (Kd.R_ne HO_6.out BK516.out (by decide)) e_) hs_)) hb; clear HO_4 HO_6 BK497 BK516 HB; obtain ⟨HO_4, HO_6, BK497, BK516, HB⟩ := n_; (try clear hb hkp hy0)) | ((with_reducible refine gate_callee (f := 22) rfl ?_); refine goesL_ (some 48) rfl rfl Try.func22 (by kernel_rfl) rfl #[.slice Ao34 t532.length co34, .int .i64 1] rfl (by (try simp only [List.map_toArray, List.map_cons, List.map_nil]); first | done | (rw [show t532.length = t517.length from (Kd.R_reads' HO_6.out).1.symm] <;> rfl) | rfl | (simp only [List.length_drop, List.length_take]; rfl)) ?_; (with_reducible refine (laws_heldByteS.calls kj16 _ _ t532 1 t533 _ ?side1 ?side2 A46.out).mono ?_); (case side1 => repeat (first | exact (Kd.R_reads' HO_6.out).2.2 | (with_reducible refine Kd.C_alloc ?_ _) | (with_reducible refine Kd.C_drewN ?_ _) | (with_reducible refine Kd.C_drew ?_))); (case side2 => rw [show t532.length = t517.length from (Kd.R_reads' HO_6.out).1.symm]; exact (Kd.R_reads' HO_6.out).2.1); rintro e w' ⟨rfl, ⟨nd, rfl⟩⟩; refine ⟨_, rfl, ?_⟩; have hnb57 := NB497_516.out; have hnc57 := NB516_497.out; obtain ⟨hcz58_0, hcz58_1, hcz58_2, hcz58_3, hcz58_4, hfz58_0, hfz58_1, hfz58_2, hfz58_3, hfz58_4⟩ := cl5 BK497.out) | ((with_reducible refine gate_callee (f := 40) rfl ?_); refine goesL_ (some 55) rfl rfl Try.func40 (by kernel_rfl) rfl #[.agg #[.int .i64 a0_0, .int .i64 a0_1, .int .i64 a0_2, .int .i64 a0_3, .slice A0_4 l0_4.length c0_4]] rfl ga ?_; (with_reducible refine (laws_toPdu.calls kj16 a0_0 a0_1 a0_2 a0_3 _ _ l0_4 t534 t535 t536 t537 t538 _ ?side1 ?side2 A49.out).mono ?_); (case side1 => repeat (first | exact (Kd.C_below HR0_4.out (bq2 HB.out GE497.out GE516.out)) | (with_reducible refine Kd.C_alloc ?_ _) | (with_reducible refine Kd.C_drewN ?_ _) | (with_reducible refine Kd.C_drew ?_))); (case side2 => exact HC0_4.out); rintro e w59 ⟨v539, rfl, ho0, hb⟩; refine ⟨_, rfl, ?_⟩; have n_ := ak6 (Kd.R_below (kqR HO_4.out) hb) (Kd.R_below (kqR HO_6.out) hb) (Kd.S_lower ho0 (below_size (bq2 HB.out GE497.out GE516.out))) (blk_below (zb BK497.out) hb) (blk_below (zb BK516.out) hb) (below_step (bq2 HB.out GE497.out GE516.out) hb); clear HO_4 HO_6 BK497 BK516 HB; obtain ⟨HO_4, HO_6, HO540, BK497, BK516, HB⟩ := n_; (try clear hb ho0); obtain ⟨Ao60, co60, eo60⟩ := Kd.S_slice HO540.out; subst eo60) | ((with_reducible refine gate_callee (f := 41) rfl ?_); refine goesL_ (some 56) rfl rfl Try.func41 (by kernel_rfl) rfl #[.agg #[.int .i64 t534, .int .i64 t535, .int .i64 t536, .int .i64 t537, .slice Ao60 t538.length co60]] rfl ga ?_; (with_reducible refine (impl_PutPdu.calls kj16 t534 t535 t536 t537 _ _ t538 t541 _ ?side1 ?side2 A50.out).mono ?_); (case side1 => repeat (first | exact (Kd.S_reads' HO540.out).2.2 | (with_reducible refine Kd.C_alloc ?_ _) | (with_reducible refine Kd.C_drewN ?_ _) | (with_reducible refine Kd.C_drew ?_))); (case side2 => exact (Kd.S_reads' HO540.out).2.1); rintro e w61 ⟨v542, rfl, ho0, hb⟩; refine ⟨_, rfl, ?_⟩; have n_ := ak7 (Kd.R_elder' (kqR HO_4.out) (Kd.R_base ho0) hb) (Kd.R_elder' (kqR HO_6.out) (Kd.R_base ho0) hb) (Kd.S_below (kqS HO540.out) hb) (Kd.R_lower (Kd.R_new' (Kd.R_new' ho0 (Kd.R_lt (kqR HO_4.out))) (Kd.R_lt (kqR HO_6.out))) (below_size (bq2 HB.out GE497.out GE516.out))) (blk_below (zb BK497.out) hb) (blk_below (zb BK516.out) hb) (below_step (bq2 HB.out GE497.out GE516.out) hb); clear HO_4 HO_6 HO540 BK497 BK516 HB; obtain ⟨HO_4, HO_6, HO540, HO543, BK497, BK516, HB⟩ := n_; (try clear hb ho0); obtain ⟨Ao62, co62, eo62⟩ := Kd.R_slice HO543.out; subst eo62) | ((with_reducible refine gate_callee (f := 18) rfl ?_); refine goesL_ (some 59) rfl rfl Try.func18 (by kernel_rfl) rfl #[.slice Ao62 t541.length co62, .slice Ao35 t506.length co35] rfl ga ?_; (with_reducible refine (laws_eqByteS.calls kj16 _ _ t541 _ _ t506 true _ ?side1 ?side2 ?side3 ?side4 A51.out).mono ?_); (case side1 => repeat (first | exact (Kd.R_reads' HO543.out).2.2 | (with_reducible refine Kd.C_alloc ?_ _) | (with_reducible refine Kd.C_drewN ?_ _) | (with_reducible refine Kd.C_drew ?_))); (case side2 => exact (Kd.R_reads' HO543.out).2.1); (case side3 => repeat (first | exact (Kd.R_reads' HO_4.out).2.2 | (with_reducible refine Kd.C_alloc ?_ _) | (with_reducible refine Kd.C_drewN ?_ _) | (with_reducible refine Kd.C_drew ?_))); (case side4 => exact (Kd.R_reads' HO_4.out).2.1); rintro e w' ⟨rfl, ⟨nd, rfl⟩⟩; refine ⟨_, rfl, ?_⟩) | ((with_reducible refine gate_callee (f := 22) rfl ?_); refine goesL_ (some 63) rfl rfl Try.func22 (by kernel_rfl) rfl #[.slice Ao34 t532.length co34, .int .i64 1] rfl (by (try simp only [List.map_toArray, List.map_cons, List.map_nil]); first | done | (rw [show t532.length = t517.length from (Kd.R_reads' HO_6.out).1.symm] <;> rfl) | rfl | (simp only [List.length_drop, List.length_take]; rfl)) ?_; (with_reducible refine (laws_heldByteS.calls kj16 _ _ t532 1 t545 _ ?side1 ?side2 A53.out).mono ?_); (case side1 => repeat (first | exact (Kd.R_reads' HO_6.out).2.2 | (with_reducible refine Kd.C_alloc ?_ _) | (with_reducible refine Kd.C_drewN ?_ _) | (with_reducible refine Kd.C_drew ?_))); (case side2 => rw [show t532.length = t517.length from (Kd.R_reads' HO_6.out).1.symm]; exact (Kd.R_reads' HO_6.out).2.1); rintro e w' ⟨rfl, ⟨nd, rfl⟩⟩; refine ⟨_, rfl, ?_⟩))
   go_ret
   exact ⟨rq, bq2 HB.out GE497.out GE516.out⟩

/-- THE ONE PURE STATEMENT of laws_FnExactPutPdu. -/
def wfS25 (x : S25) : Prop := (Lit.int .i64 x.f0).wf = true ∧ (Lit.int .i64 x.f1).wf = true ∧ x.f2.size ≤ maxLen ∧ x.f3.length ≤ maxLen ∧ (∀ y ∈ x.f3, (Lit.int .i64 y).wf = true)
def wfS140 (x : S140) : Prop := x.f0.length ≤ maxLen ∧ (∀ y ∈ x.f0, (Lit.int .i64 y).wf = true) ∧ wfS25 x.f1
def wfS53 (x : S53) : Prop := (Lit.int .i64 x.f0).wf = true ∧ (Lit.int .i64 x.f1).wf = true ∧ (Lit.int .i64 x.f2).wf = true ∧ (Lit.int .i64 x.f3).wf = true ∧ x.f4.length ≤ maxLen ∧ (∀ y ∈ x.f4, wfS140 y)
def laws_FnExactPutPdu.Pure : Prop := ∀ (a0_0 : Int) (a0_1 : Int) (a0_2 : Int) (a0_3 : Int) (l0_4 : List (S140)), (Lit.int .i64 a0_0).wf = true → (Lit.int .i64 a0_1).wf = true → (Lit.int .i64 a0_2).wf = true → (Lit.int .i64 a0_3).wf = true → l0_4.length ≤ maxLen → (∀ y ∈ l0_4, wfS140 y) → ∃ k, laws_FnExactPutPdu.f k a0_0 a0_1 a0_2 a0_3 l0_4 = some true

end Go.Proofs.Ythhnfmbfgplelaa.XFnExactPutPdu
