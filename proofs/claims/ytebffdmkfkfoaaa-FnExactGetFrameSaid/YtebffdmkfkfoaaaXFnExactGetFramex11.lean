/- The functions that one law reaches, as Lean functions, with their walks: printed by a program of this seat (wip/tools) out of the translation. -/
import Derived.Test.YtebffdmkfkfoaaaXFnExactGetFramex0
import Derived.Test.YtebffdmkfkfoaaaXFnExactGetFramex1
import Derived.Test.YtebffdmkfkfoaaaXFnExactGetFramex5
import Derived.Test.YtebffdmkfkfoaaaXFnExactGetFramex9
import Derived.Test.YtebffdmkfkfoaaaXFnExactGetFramex10
namespace Go.Proofs.Ytebffdmkfkfoaaa.XFnExactGetFrame
open Go.RowKit Go.Proofs.YtebffdmkfkfoaaaW.PrintWords Go.Proofs.YtebffdmkfkfoaaaW.PrintLast Go.Proofs.YtebffdmkfkfoaaaW.PrintMore
attribute [local go_sem] max2_int min2_int max_two min_two max_three min_three max_four min_four   -- for this text's walks alone
set_option linter.unusedVariables false
set_option linter.unusedSimpArgs false

/-! ### laws_FnExactGetFrame: function 10 -/
mutual
def laws_FnExactGetFrame.j0 : Nat → List Int → Bool → List Int → Bool → Bool → Int → Int → Int → List Int → Int → Int → Int → List Int → Option (Bool)
 | 0, _, _, _, _, _, _, _, _, _, _, _, _, _ => none
 | k + 1, x0, x4, x5, x7, x37, x358000, x358001, x358002, x358003, x369000, x369001, x369002, x369003 => if x37 = true then (some false) else ((laws_toByteS.f k x0).bind fun t370 => ((laws_eqByteS.f k x5 t370).bind fun t373 => (if t373 = true then ((laws_markByteS.f k x5 1).bind fun bt374 => (if bt374.1 < 0 then (laws_FnExactGetFrame.j1 k x0 x4 true x358000 x358001 x358002 x358003 x369000 x369001 x369002 x369003) else ((laws_eqFrame.f k x369000 x369001 x369002 x369003 x358000 x358001 x358002 x358003).bind fun t376 => (if t376 = true then (laws_FnExactGetFrame.j1 k x0 x4 (x7 != x4) x358000 x358001 x358002 x358003 x369000 x369001 x369002 x369003) else (laws_FnExactGetFrame.j1 k x0 x4 true x358000 x358001 x358002 x358003 x369000 x369001 x369002 x369003))))) else (some false))))
def laws_FnExactGetFrame.j1 : Nat → List Int → Bool → Bool → Int → Int → Int → List Int → Int → Int → Int → List Int → Option (Bool)
 | 0, _, _, _, _, _, _, _, _, _, _, _ => none
 | k + 1, x0, x4, x58, x358000, x358001, x358002, x358003, x369000, x369001, x369002, x369003 => if x58 = true then (some false) else ((laws_markFrame.f k x369000 x369001 x369002 x369003 1).bind fun bt377 => ((laws_heldFrame.f k x369000 x369001 x369002 bt377.2 1).bind fun t379 => (if t379 < 0 then (some false) else (if t379 = bt377.1 then ((laws_toByteS.f k x0).bind fun t380 => ((impl_GetFrame.f k t380).bind fun bt383 => ((laws_eqFrame.f k bt383.1 bt383.2.1 bt383.2.2.1 bt383.2.2.2.1 x358000 x358001 x358002 x358003).bind fun t391 => (if t391 = true then (laws_FnExactGetFrame.j2 k bt377.1 (bt383.2.2.2.2 != x4) x369000 x369001 x369002 bt377.2) else (laws_FnExactGetFrame.j2 k bt377.1 true x369000 x369001 x369002 bt377.2))))) else (some false)))))
def laws_FnExactGetFrame.j2 : Nat → Int → Bool → Int → Int → Int → List Int → Option (Bool)
 | 0, _, _, _, _, _, _ => none
 | k + 1, x9, x84, x369000, x369001, x369002, x369003 => if x84 = true then (some false) else ((laws_heldFrame.f k x369000 x369001 x369002 x369003 1).bind fun t392 => (if t392 < 0 then (some false) else (if t392 = x9 then (some true) else (some false))))
end
def laws_FnExactGetFrame.f (k : Nat) (l0 : List Int) : Option (Bool) := if (l0.length : Int) > 1048576 then (some true) else ((laws_toByteS.f k l0).bind fun t347 => ((spec_GetFrame.f k t347).bind fun bt350 => ((laws_toByteS.f k l0).bind fun t358 => ((impl_GetFrame.f k t358).bind fun bt361 => ((laws_eqFrame.f k bt361.1 bt361.2.1 bt361.2.2.1 bt361.2.2.2.1 bt350.1 bt350.2.1 bt350.2.2.1 bt350.2.2.2.1).bind fun t369 => (if t369 = true then (laws_FnExactGetFrame.j0 k l0 bt350.2.2.2.2 t358 bt361.2.2.2.2 (bt361.2.2.2.2 != bt350.2.2.2.2) bt350.1 bt350.2.1 bt350.2.2.1 bt350.2.2.2.1 bt361.1 bt361.2.1 bt361.2.2.1 bt361.2.2.2.1) else (laws_FnExactGetFrame.j0 k l0 bt350.2.2.2.2 t358 bt361.2.2.2.2 true bt350.1 bt350.2.1 bt350.2.2.1 bt350.2.2.2.1 bt361.1 bt361.2.1 bt361.2.2.1 bt361.2.2.2.1)))))))
theorem laws_FnExactGetFrame.mono_l : ∀ k, (∀ y0 y1 y2 y3 y4 y5 y6 y7 y8 y9 y10 y11 y12, LeO (laws_FnExactGetFrame.j0 k y0 y1 y2 y3 y4 y5 y6 y7 y8 y9 y10 y11 y12) (laws_FnExactGetFrame.j0 (k + 1) y0 y1 y2 y3 y4 y5 y6 y7 y8 y9 y10 y11 y12)) ∧ (∀ y0 y1 y2 y3 y4 y5 y6 y7 y8 y9 y10, LeO (laws_FnExactGetFrame.j1 k y0 y1 y2 y3 y4 y5 y6 y7 y8 y9 y10) (laws_FnExactGetFrame.j1 (k + 1) y0 y1 y2 y3 y4 y5 y6 y7 y8 y9 y10)) ∧ (∀ y0 y1 y2 y3 y4 y5, LeO (laws_FnExactGetFrame.j2 k y0 y1 y2 y3 y4 y5) (laws_FnExactGetFrame.j2 (k + 1) y0 y1 y2 y3 y4 y5))
 | 0 => ⟨fun _ _ _ _ _ _ _ _ _ _ _ _ _ r h => by simp [laws_FnExactGetFrame.j0] at h, fun _ _ _ _ _ _ _ _ _ _ _ r h => by simp [laws_FnExactGetFrame.j1] at h, fun _ _ _ _ _ _ r h => by simp [laws_FnExactGetFrame.j2] at h⟩
 | k + 1 => by
  obtain ⟨ih0, ih1, ih2⟩ := laws_FnExactGetFrame.mono_l k
  refine ⟨?_, ?_, ?_⟩
  · intro y0 y1 y2 y3 y4 y5 y6 y7 y8 y9 y10 y11 y12
    unfold laws_FnExactGetFrame.j0
    repeat' first
    | (with_reducible exact ih0 _ _ _ _ _ _ _ _ _ _ _ _ _)
    | (with_reducible exact ih1 _ _ _ _ _ _ _ _ _ _ _)
    | (with_reducible exact ih2 _ _ _ _ _ _)
    | (with_reducible exact impl_GetFrame.mono _ _)
    | (with_reducible exact laws_eqByteS.mono _ _ _)
    | (with_reducible exact laws_eqFrame.mono _ _ _ _ _ _ _ _ _)
    | (with_reducible exact laws_heldFrame.mono _ _ _ _ _ _)
    | (with_reducible exact laws_markByteS.mono _ _ _)
    | (with_reducible exact laws_markFrame.mono _ _ _ _ _ _)
    | (with_reducible exact laws_toByteS.mono _ _)
    | (with_reducible exact spec_GetFrame.mono _ _)
    | (with_reducible exact LeO.refl _)
    | (with_reducible exact LeO.none _)
    | (with_reducible refine LeO.ite ?_ ?_)
    | (with_reducible refine LeO.bind ?_ (fun _ => ?_))
    | exact ih0 _ _ _ _ _ _ _ _ _ _ _ _ _
    | exact ih1 _ _ _ _ _ _ _ _ _ _ _
    | exact ih2 _ _ _ _ _ _
    | exact impl_GetFrame.mono _ _
    | exact laws_eqByteS.mono _ _ _
    | exact laws_eqFrame.mono _ _ _ _ _ _ _ _ _
    | exact laws_heldFrame.mono _ _ _ _ _ _
    | exact laws_markByteS.mono _ _ _
    | exact laws_markFrame.mono _ _ _ _ _ _
    | exact laws_toByteS.mono _ _
    | exact spec_GetFrame.mono _ _
    | exact LeO.none _
    | refine LeO.ite ?_ ?_
    | refine LeO.bind ?_ (fun _ => ?_)
  · intro y0 y1 y2 y3 y4 y5 y6 y7 y8 y9 y10
    unfold laws_FnExactGetFrame.j1
    repeat' first
    | (with_reducible exact ih0 _ _ _ _ _ _ _ _ _ _ _ _ _)
    | (with_reducible exact ih1 _ _ _ _ _ _ _ _ _ _ _)
    | (with_reducible exact ih2 _ _ _ _ _ _)
    | (with_reducible exact impl_GetFrame.mono _ _)
    | (with_reducible exact laws_eqByteS.mono _ _ _)
    | (with_reducible exact laws_eqFrame.mono _ _ _ _ _ _ _ _ _)
    | (with_reducible exact laws_heldFrame.mono _ _ _ _ _ _)
    | (with_reducible exact laws_markByteS.mono _ _ _)
    | (with_reducible exact laws_markFrame.mono _ _ _ _ _ _)
    | (with_reducible exact laws_toByteS.mono _ _)
    | (with_reducible exact spec_GetFrame.mono _ _)
    | (with_reducible exact LeO.refl _)
    | (with_reducible exact LeO.none _)
    | (with_reducible refine LeO.ite ?_ ?_)
    | (with_reducible refine LeO.bind ?_ (fun _ => ?_))
    | exact ih0 _ _ _ _ _ _ _ _ _ _ _ _ _
    | exact ih1 _ _ _ _ _ _ _ _ _ _ _
    | exact ih2 _ _ _ _ _ _
    | exact impl_GetFrame.mono _ _
    | exact laws_eqByteS.mono _ _ _
    | exact laws_eqFrame.mono _ _ _ _ _ _ _ _ _
    | exact laws_heldFrame.mono _ _ _ _ _ _
    | exact laws_markByteS.mono _ _ _
    | exact laws_markFrame.mono _ _ _ _ _ _
    | exact laws_toByteS.mono _ _
    | exact spec_GetFrame.mono _ _
    | exact LeO.none _
    | refine LeO.ite ?_ ?_
    | refine LeO.bind ?_ (fun _ => ?_)
  intro y0 y1 y2 y3 y4 y5
  unfold laws_FnExactGetFrame.j2
  repeat' first
  | (with_reducible exact ih0 _ _ _ _ _ _ _ _ _ _ _ _ _)
  | (with_reducible exact ih1 _ _ _ _ _ _ _ _ _ _ _)
  | (with_reducible exact ih2 _ _ _ _ _ _)
  | (with_reducible exact impl_GetFrame.mono _ _)
  | (with_reducible exact laws_eqByteS.mono _ _ _)
  | (with_reducible exact laws_eqFrame.mono _ _ _ _ _ _ _ _ _)
  | (with_reducible exact laws_heldFrame.mono _ _ _ _ _ _)
  | (with_reducible exact laws_markByteS.mono _ _ _)
  | (with_reducible exact laws_markFrame.mono _ _ _ _ _ _)
  | (with_reducible exact laws_toByteS.mono _ _)
  | (with_reducible exact spec_GetFrame.mono _ _)
  | (with_reducible exact LeO.refl _)
  | (with_reducible exact LeO.none _)
  | (with_reducible refine LeO.ite ?_ ?_)
  | (with_reducible refine LeO.bind ?_ (fun _ => ?_))
  | exact ih0 _ _ _ _ _ _ _ _ _ _ _ _ _
  | exact ih1 _ _ _ _ _ _ _ _ _ _ _
  | exact ih2 _ _ _ _ _ _
  | exact impl_GetFrame.mono _ _
  | exact laws_eqByteS.mono _ _ _
  | exact laws_eqFrame.mono _ _ _ _ _ _ _ _ _
  | exact laws_heldFrame.mono _ _ _ _ _ _
  | exact laws_markByteS.mono _ _ _
  | exact laws_markFrame.mono _ _ _ _ _ _
  | exact laws_toByteS.mono _ _
  | exact spec_GetFrame.mono _ _
  | exact LeO.none _
  | refine LeO.ite ?_ ?_
  | refine LeO.bind ?_ (fun _ => ?_)
theorem laws_FnExactGetFrame.mono : ∀ a0 k, LeO (laws_FnExactGetFrame.f k a0) (laws_FnExactGetFrame.f (k + 1) a0) := by
 intro a0 k
 obtain ⟨ih0, ih1, ih2⟩ := laws_FnExactGetFrame.mono_l k
 unfold laws_FnExactGetFrame.f
 repeat' first
  | (with_reducible exact ih0 _ _ _ _ _ _ _ _ _ _ _ _ _)
  | (with_reducible exact ih1 _ _ _ _ _ _ _ _ _ _ _)
  | (with_reducible exact ih2 _ _ _ _ _ _)
  | (with_reducible exact impl_GetFrame.mono _ _)
  | (with_reducible exact laws_eqByteS.mono _ _ _)
  | (with_reducible exact laws_eqFrame.mono _ _ _ _ _ _ _ _ _)
  | (with_reducible exact laws_heldFrame.mono _ _ _ _ _ _)
  | (with_reducible exact laws_markByteS.mono _ _ _)
  | (with_reducible exact laws_markFrame.mono _ _ _ _ _ _)
  | (with_reducible exact laws_toByteS.mono _ _)
  | (with_reducible exact spec_GetFrame.mono _ _)
  | (with_reducible exact LeO.refl _)
  | (with_reducible exact LeO.none _)
  | (with_reducible refine LeO.ite ?_ ?_)
  | (with_reducible refine LeO.bind ?_ (fun _ => ?_))
  | exact ih0 _ _ _ _ _ _ _ _ _ _ _ _ _
  | exact ih1 _ _ _ _ _ _ _ _ _ _ _
  | exact ih2 _ _ _ _ _ _
  | exact impl_GetFrame.mono _ _
  | exact laws_eqByteS.mono _ _ _
  | exact laws_eqFrame.mono _ _ _ _ _ _ _ _ _
  | exact laws_heldFrame.mono _ _ _ _ _ _
  | exact laws_markByteS.mono _ _ _
  | exact laws_markFrame.mono _ _ _ _ _ _
  | exact laws_toByteS.mono _ _
  | exact spec_GetFrame.mono _ _
  | exact LeO.none _
  | refine LeO.ite ?_ ?_
  | refine LeO.bind ?_ (fun _ => ?_)
set_option maxHeartbeats 8000000 in
set_option maxRecDepth 100000 in
theorem laws_FnExactGetFrame.calls (k : Nat) (A0 : Option Addr) (c0 : Nat) (l0 : List Int) (r : Bool) (w : World) (hr0 : Kd.C (Kd.int .u8) w A0 l0.length l0) (hc0 : l0.length ≤ c0) (hr_ : r = true) (h : laws_FnExactGetFrame.f k l0 = some r) :
 Calls Try.prog 10 #[.slice A0 l0.length c0] w fun e w' => e = .returned (.bool r) ∧ Below w.heap.size w w' := by
 have hu57 := Try.underlying57
 have HRT := am hr_
 clear hr_
 have HR0 := am hr0
 have HC0 := am hc0
 clear hr0 hc0
 have HB := am (Below.refl w.heap.size w)
 have H : (if (l0.length : Int) > 1048576 then (some true) else ((laws_toByteS.f k l0).bind fun t347 => ((spec_GetFrame.f k t347).bind fun bt350 => ((laws_toByteS.f k l0).bind fun t358 => ((impl_GetFrame.f k t358).bind fun bt361 => ((laws_eqFrame.f k bt361.1 bt361.2.1 bt361.2.2.1 bt361.2.2.2.1 bt350.1 bt350.2.1 bt350.2.2.1 bt350.2.2.2.1).bind fun t369 => (if t369 = true then (laws_FnExactGetFrame.j0 k l0 bt350.2.2.2.2 t358 bt361.2.2.2.2 (bt361.2.2.2.2 != bt350.2.2.2.2) bt350.1 bt350.2.1 bt350.2.2.1 bt350.2.2.2.1 bt361.1 bt361.2.1 bt361.2.2.1 bt361.2.2.2.1) else (laws_FnExactGetFrame.j0 k l0 bt350.2.2.2.2 t358 bt361.2.2.2.2 true bt350.1 bt350.2.1 bt350.2.2.1 bt350.2.2.2.1 bt361.1 bt361.2.1 bt361.2.2.1 bt361.2.2.2.1)))))))) = some r := h
 clear h
 by_cases c2 : (l0.length : Int) > 1048576
 · rw [if_pos c2] at H
   have c2b0 : decide (1048576 < (l0.length : Int)) = true := decide_eq_true c2
   have c2b1 : decide (1048576 < l0.length) = true := decide_eq_true (by omega)
   clear c2
   obtain rfl := Option.some.inj H
   go_enter Try.func10, Try.ntmps10
   go_wp2
   go_ret
   exact ⟨rq, bq HB.out⟩
 rw [if_neg c2] at H
 have c2b0 : decide (1048576 < (l0.length : Int)) = false := decide_eq_false c2
 have c2b1 : decide (1048576 < l0.length) = false := decide_eq_false (by omega)
 clear c2
 replace H := Option.bind_eq_some_iff.mp H
 obtain ⟨t347, A30, H⟩ := H
 replace H : ((spec_GetFrame.f k t347).bind fun bt350 => ((laws_toByteS.f k l0).bind fun t358 => ((impl_GetFrame.f k t358).bind fun bt361 => ((laws_eqFrame.f k bt361.1 bt361.2.1 bt361.2.2.1 bt361.2.2.2.1 bt350.1 bt350.2.1 bt350.2.2.1 bt350.2.2.2.1).bind fun t369 => (if t369 = true then (laws_FnExactGetFrame.j0 k l0 bt350.2.2.2.2 t358 bt361.2.2.2.2 (bt361.2.2.2.2 != bt350.2.2.2.2) bt350.1 bt350.2.1 bt350.2.2.1 bt350.2.2.2.1 bt361.1 bt361.2.1 bt361.2.2.1 bt361.2.2.2.1) else (laws_FnExactGetFrame.j0 k l0 bt350.2.2.2.2 t358 bt361.2.2.2.2 true bt350.1 bt350.2.1 bt350.2.2.1 bt350.2.2.2.1 bt361.1 bt361.2.1 bt361.2.2.1 bt361.2.2.2.1)))))) = some r := H
 have A3 := am A30
 clear A30
 replace H := Option.bind_eq_some_iff.mp H
 obtain ⟨⟨t350, t351, t352, t353, t356⟩, A40, H⟩ := H
 replace H : ((laws_toByteS.f k l0).bind fun t358 => ((impl_GetFrame.f k t358).bind fun bt361 => ((laws_eqFrame.f k bt361.1 bt361.2.1 bt361.2.2.1 bt361.2.2.2.1 t350 t351 t352 t353).bind fun t369 => (if t369 = true then (laws_FnExactGetFrame.j0 k l0 t356 t358 bt361.2.2.2.2 (bt361.2.2.2.2 != t356) t350 t351 t352 t353 bt361.1 bt361.2.1 bt361.2.2.1 bt361.2.2.2.1) else (laws_FnExactGetFrame.j0 k l0 t356 t358 bt361.2.2.2.2 true t350 t351 t352 t353 bt361.1 bt361.2.1 bt361.2.2.1 bt361.2.2.2.1))))) = some r := H
 have A4 := am A40
 clear A40
 replace H := Option.bind_eq_some_iff.mp H
 obtain ⟨t358, A50, H⟩ := H
 replace H : ((impl_GetFrame.f k t358).bind fun bt361 => ((laws_eqFrame.f k bt361.1 bt361.2.1 bt361.2.2.1 bt361.2.2.2.1 t350 t351 t352 t353).bind fun t369 => (if t369 = true then (laws_FnExactGetFrame.j0 k l0 t356 t358 bt361.2.2.2.2 (bt361.2.2.2.2 != t356) t350 t351 t352 t353 bt361.1 bt361.2.1 bt361.2.2.1 bt361.2.2.2.1) else (laws_FnExactGetFrame.j0 k l0 t356 t358 bt361.2.2.2.2 true t350 t351 t352 t353 bt361.1 bt361.2.1 bt361.2.2.1 bt361.2.2.2.1)))) = some r := H
 have A5 := am A50
 clear A50
 replace H := Option.bind_eq_some_iff.mp H
 obtain ⟨⟨t361, t362, t363, t364, t367⟩, A60, H⟩ := H
 replace H : ((laws_eqFrame.f k t361 t362 t363 t364 t350 t351 t352 t353).bind fun t369 => (if t369 = true then (laws_FnExactGetFrame.j0 k l0 t356 t358 t367 (t367 != t356) t350 t351 t352 t353 t361 t362 t363 t364) else (laws_FnExactGetFrame.j0 k l0 t356 t358 t367 true t350 t351 t352 t353 t361 t362 t363 t364))) = some r := H
 have A6 := am A60
 clear A60
 have HC7 := am H
 clear H
 go_enter Try.func10, Try.ntmps10
 go_upto_region 6 with (first | ((with_reducible refine gate_callee (f := 34) rfl ?_); refine goesL_ (some 18) rfl rfl Try.func34 (by kernel_rfl) rfl #[.slice A0 l0.length c0] rfl ga ?_; (with_reducible refine (laws_toByteS.calls k _ _ l0 t347 _ ?side1 ?side2 A3.out).mono ?_); (case side1 => exact cq HR0.out); (case side2 => exact HC0.out); rintro e w8 ⟨v348, rfl, ho0, hb⟩; refine ⟨_, rfl, ?_⟩; have n_ := ak2 (Kd.R_lower ho0 (below_size (bq HB.out))) (below_step (bq HB.out) hb); clear HB; obtain ⟨HO349, HB⟩ := n_; (try clear hb ho0); obtain ⟨Ao9, co9, eo9⟩ := Kd.R_slice HO349.out; subst eo9) | ((with_reducible refine gate_callee (f := 43) rfl ?_); refine goesL_ (some 19) rfl rfl Try.func43 (by kernel_rfl) rfl #[.slice Ao9 t347.length co9] rfl ga ?_; (with_reducible refine (spec_GetFrame.calls k _ _ t347 t350 t351 t352 t353 t356 _ ?side1 ?side2 A4.out).mono ?_); (case side1 => repeat (first | exact (Kd.R_reads' HO349.out).2.2 | (with_reducible refine Kd.C_alloc ?_ _) | (with_reducible refine Kd.C_drewN ?_ _) | (with_reducible refine Kd.C_drew ?_))); (case side2 => exact (Kd.R_reads' HO349.out).2.1); rintro e w10 ⟨v354, rfl, ho0, hb⟩; refine ⟨_, rfl, ?_⟩; have n_ := ak3 (Kd.R_elder' (kqR HO349.out) (Kd.R_base ho0) hb) (Kd.R_lower (Kd.R_new' ho0 (Kd.R_lt (kqR HO349.out))) (below_size (bq HB.out))) (below_step (bq HB.out) hb); clear HO349 HB; obtain ⟨HO349, HO355, HB⟩ := n_; (try clear hb ho0)) | ((with_reducible refine gate_dst (N := 3) rfl ?_); refine box_event ?hg (N := 3) ?hd (cs := #[.int .i64 0, .int .i64 0, .int .i64 0, .slice none 0 0]) (t := 57) ?hr ?_; (case hd => rfl); (case hg => rfl); (case hr => exact gs); intro gb357 hg w11 hbox hb; have n_ := ak6 (Kd.R_below (kqR HO349.out) hb) (Kd.R_below (kqR HO355.out) hb) (below_step (bq HB.out) hb) hbox ((by rw [hg]; exact (below_size (bq HB.out)) : w.heap.size ≤ gb357)) ((by rw [hg]; exact (below_size (bq HB.out)) : w.heap.size ≤ gb357)); clear HO349 HO355 HB; obtain ⟨HO349, HO355, HB, BK357, GW357, GE357⟩ := n_; clear hb hbox hg; have hcz12_0 : w11.cell? ⟨gb357, 0, none⟩ = some (.int .i64 0) := (blk_cell BK357.out 0).trans rfl; have hcz12_1 : w11.cell? ⟨gb357, 1, none⟩ = some (.int .i64 0) := (blk_cell BK357.out 1).trans rfl; have hcz12_2 : w11.cell? ⟨gb357, 2, none⟩ = some (.int .i64 0) := (blk_cell BK357.out 2).trans rfl; have hcz12_3 : w11.cell? ⟨gb357, 3, none⟩ = some (.slice none 0 0) := (blk_cell BK357.out 3).trans rfl; have hfz12_0 := blk_frozen BK357.out 0; have hfz12_1 := blk_frozen BK357.out 1; have hfz12_2 := blk_frozen BK357.out 2; have hfz12_3 := blk_frozen BK357.out 3; obtain ⟨Ao13, co13, eo13⟩ := Kd.R_slice HO355.out; subst eo13) | ((with_reducible refine gate_store (t := 57) (p := 3) rfl ?_); refine store_event (t := 57) (p := 3) (v := ?vo_w14) (w1 := ((((w11.setCell ⟨gb357, 0, none⟩ (.int .i64 t350)).setCell ⟨gb357, 1, none⟩ (.int .i64 t351)).setCell ⟨gb357, 2, none⟩ (.int .i64 t352)).setCell ⟨gb357, 3, none⟩ (.slice Ao13 t353.length co13))) ?hg ?ho ?hn ?hr ?_; (case ho => rfl); (case hg => rfl); (case hn => rfl); (case hr => exact gs); intro w14 hw; have n0_ : Aside0 (Kd.R (Kd.int .u8) 5 w14 w.heap.size (fun k_ => some k_ ≠ (.slice Ao13 t353.length co13 : Value).ownBlock) (.slice Ao9 t347.length co9) t347) := ⟨(by rw [hw]; exact (by (with_reducible repeat (first | apply Kd.R_alloc | apply Kd.R_drewN | apply Kd.R_drew)); exact Kd.R_mono (Kd.R_far (p := ⟨gb357, 3, none⟩) (Kd.R_far (p := ⟨gb357, 2, none⟩) (Kd.R_far (p := ⟨gb357, 1, none⟩) (Kd.R_far (p := ⟨gb357, 0, none⟩) (Kd.R_types HO349.out BK357.out (by decide)) (fun _ hk => hk.2) (.int .i64 t350)) (fun _ hk => hk.2) (.int .i64 t351)) (fun _ hk => hk.2) (.int .i64 t352)) (fun _ hk => hk.2) (.slice Ao13 t353.length co13)) (fun _ hk => hk.1.2)))⟩; have n1_ : Aside0 (Kd.R (Kd.int .u8) 5 w14 w.heap.size (fun k_ => some k_ ≠ (.slice Ao9 t347.length co9 : Value).ownBlock) (.slice Ao13 t353.length co13) t353) := ⟨(by rw [hw]; exact (by (with_reducible repeat (first | apply Kd.R_alloc | apply Kd.R_drewN | apply Kd.R_drew)); exact Kd.R_mono (Kd.R_far (p := ⟨gb357, 3, none⟩) (Kd.R_far (p := ⟨gb357, 2, none⟩) (Kd.R_far (p := ⟨gb357, 1, none⟩) (Kd.R_far (p := ⟨gb357, 0, none⟩) (Kd.R_types HO355.out BK357.out (by decide)) (fun _ hk => hk.2) (.int .i64 t350)) (fun _ hk => hk.2) (.int .i64 t351)) (fun _ hk => hk.2) (.int .i64 t352)) (fun _ hk => hk.2) (.slice Ao13 t353.length co13)) (fun _ hk => hk.1.2)))⟩; have n2_ : Aside0 (w14.heap[gb357]? = some (.cells #[.int .i64 t350, .int .i64 t351, .int .i64 t352, .slice Ao13 t353.length co13] 57 (0, 0))) := ⟨(by rw [hw]; exact (by (with_reducible repeat (first | refine blk_drewN ?_ _ | refine blk_drew ?_ | refine blk_alloc ?_ _)); refine blk_put (cs := #[.int .i64 t350, .int .i64 t351, .int .i64 t352, .slice none 0 0]) ?_ 3 _ rfl; (with_reducible repeat (first | refine blk_drewN ?_ _ | refine blk_drew ?_ | refine blk_alloc ?_ _)); refine blk_put (cs := #[.int .i64 t350, .int .i64 t351, .int .i64 0, .slice none 0 0]) ?_ 2 _ rfl; (with_reducible repeat (first | refine blk_drewN ?_ _ | refine blk_drew ?_ | refine blk_alloc ?_ _)); refine blk_put (cs := #[.int .i64 t350, .int .i64 0, .int .i64 0, .slice none 0 0]) ?_ 1 _ rfl; (with_reducible repeat (first | refine blk_drewN ?_ _ | refine blk_drew ?_ | refine blk_alloc ?_ _)); refine blk_put (cs := #[.int .i64 0, .int .i64 0, .int .i64 0, .slice none 0 0]) ?_ 0 _ rfl; (with_reducible repeat (first | refine blk_drewN ?_ _ | refine blk_drew ?_ | refine blk_alloc ?_ _)); exact BK357.out))⟩; have n3_ : Aside0 (Below w.heap.size w w14) := ⟨(by rw [hw]; exact (bq1 HB.out GE357.out))⟩; clear hw; clear HO349; clear HO355; clear BK357; clear HB; have HO349 := n0_; have HO355 := n1_; have BK357 := n2_; have HB := n3_; clear n0_ n1_ n2_ n3_) | ((with_reducible refine gate_callee (f := 34) rfl ?_); refine goesL_ (some 23) rfl rfl Try.func34 (by kernel_rfl) rfl #[.slice A0 l0.length c0] rfl ga ?_; (with_reducible refine (laws_toByteS.calls k _ _ l0 t358 _ ?side1 ?side2 A5.out).mono ?_); (case side1 => exact cq (Kd.C_below HR0.out HB.out)); (case side2 => exact HC0.out); rintro e w15 ⟨v359, rfl, ho0, hb⟩; refine ⟨_, rfl, ?_⟩; have n_ := ak5 (Kd.R_elder' (kqR HO349.out) (Kd.R_base ho0) hb) (Kd.R_elder' (kqR HO355.out) (Kd.R_base ho0) hb) (Kd.R_lower (Kd.R_new' (Kd.R_new' ho0 (Kd.R_lt (kqR HO349.out))) (Kd.R_lt (kqR HO355.out))) (below_size (bq1 HB.out GE357.out))) (blk_below (g := gb357) (o := .cells #[.int .i64 t350, .int .i64 t351, .int .i64 t352, .slice Ao13 t353.length co13] 57 (0, 0)) (zq BK357.out) hb) (below_step (bq1 HB.out GE357.out) hb); clear HO349 HO355 BK357 HB; obtain ⟨HO349, HO355, HO360, BK357, HB⟩ := n_; (try clear hb ho0); obtain ⟨Ao16, co16, eo16⟩ := Kd.R_slice HO360.out; subst eo16) | ((with_reducible refine gate_callee (f := 44) rfl ?_); refine goesL_ (some 26) rfl rfl Try.func44 (by kernel_rfl) rfl #[.slice Ao16 t358.length co16] rfl ga ?_; (with_reducible refine (impl_GetFrame.calls k _ _ t358 t361 t362 t363 t364 t367 _ ?side1 ?side2 A6.out).mono ?_); (case side1 => repeat (first | exact (Kd.R_reads' HO360.out).2.2 | (with_reducible refine Kd.C_alloc ?_ _) | (with_reducible refine Kd.C_drewN ?_ _) | (with_reducible refine Kd.C_drew ?_))); (case side2 => exact (Kd.R_reads' HO360.out).2.1); rintro e w17 ⟨v365, rfl, ho0, hb⟩; refine ⟨_, rfl, ?_⟩; have n_ := ak6 (Kd.R_elder' (kqR HO349.out) (Kd.R_base ho0) hb) (Kd.R_elder' (kqR HO355.out) (Kd.R_base ho0) hb) (Kd.R_elder' (kqR HO360.out) (Kd.R_base ho0) hb) (Kd.R_lower (Kd.R_new' (Kd.R_new' (Kd.R_new' ho0 (Kd.R_lt (kqR HO349.out))) (Kd.R_lt (kqR HO355.out))) (Kd.R_lt (kqR HO360.out))) (below_size (bq1 HB.out GE357.out))) (blk_below (g := gb357) (o := .cells #[.int .i64 t350, .int .i64 t351, .int .i64 t352, .slice Ao13 t353.length co13] 57 (0, 0)) (zq BK357.out) hb) (below_step (bq1 HB.out GE357.out) hb); clear HO349 HO355 HO360 BK357 HB; obtain ⟨HO349, HO355, HO360, HO366, BK357, HB⟩ := n_; (try clear hb ho0)) | ((with_reducible refine gate_dst (N := 6) rfl ?_); refine box_event ?hg (N := 6) ?hd (cs := #[.int .i64 0, .int .i64 0, .int .i64 0, .slice none 0 0]) (t := 57) ?hr ?_; (case hd => rfl); (case hg => rfl); (case hr => exact gs); intro gb368 hg w18 hbox hb; have n_ := ak11 (Kd.R_below (kqR HO349.out) hb) (Kd.R_below (kqR HO355.out) hb) (Kd.R_below (kqR HO360.out) hb) (Kd.R_below (kqR HO366.out) hb) (blk_below (g := gb357) (o := .cells #[.int .i64 t350, .int .i64 t351, .int .i64 t352, .slice Ao13 t353.length co13] 57 (0, 0)) (zq BK357.out) hb) (below_step (bq1 HB.out GE357.out) hb) hbox ((by rw [hg]; exact (below_size (bq1 HB.out GE357.out)) : w.heap.size ≤ gb368)) ((by rw [hg]; exact (below_size (bq1 HB.out GE357.out)) : w.heap.size ≤ gb368)) ((by rw [hg]; exact Nat.ne_of_lt (blk_lt (g := gb357) (o := .cells #[.int .i64 t350, .int .i64 t351, .int .i64 t352, .slice Ao13 t353.length co13] 57 (0, 0)) (zq BK357.out)) : gb357 ≠ gb368)) ((by rw [hg]; exact Nat.ne_of_gt (blk_lt (g := gb357) (o := .cells #[.int .i64 t350, .int .i64 t351, .int .i64 t352, .slice Ao13 t353.length co13] 57 (0, 0)) (zq BK357.out)) : gb368 ≠ gb357)); clear HO349 HO355 HO360 HO366 BK357 HB; obtain ⟨HO349, HO355, HO360, HO366, BK357, HB, BK368, GW368, GE368, NB357_368, NB368_357⟩ := n_; clear hb hbox hg; have hnb19 := NB368_357.out; have hnc19 := NB357_368.out; have hcz20_0 : w18.cell? ⟨gb368, 0, none⟩ = some (.int .i64 0) := (blk_cell BK368.out 0).trans rfl; have hcz20_1 : w18.cell? ⟨gb368, 1, none⟩ = some (.int .i64 0) := (blk_cell BK368.out 1).trans rfl; have hcz20_2 : w18.cell? ⟨gb368, 2, none⟩ = some (.int .i64 0) := (blk_cell BK368.out 2).trans rfl; have hcz20_3 : w18.cell? ⟨gb368, 3, none⟩ = some (.slice none 0 0) := (blk_cell BK368.out 3).trans rfl; have hfz20_0 := blk_frozen BK368.out 0; have hfz20_1 := blk_frozen BK368.out 1; have hfz20_2 := blk_frozen BK368.out 2; have hfz20_3 := blk_frozen BK368.out 3; obtain ⟨Ao21, co21, eo21⟩ := Kd.R_slice HO366.out; subst eo21) | ((with_reducible refine gate_store (t := 57) (p := 6) rfl ?_); refine store_event (t := 57) (p := 6) (v := ?vo_w22) (w1 := ((((w18.setCell ⟨gb368, 0, none⟩ (.int .i64 t361)).setCell ⟨gb368, 1, none⟩ (.int .i64 t362)).setCell ⟨gb368, 2, none⟩ (.int .i64 t363)).setCell ⟨gb368, 3, none⟩ (.slice Ao21 t364.length co21))) ?hg ?ho ?hn ?hr ?_; (case ho => rfl); (case hg => rfl); (case hn => rfl); (case hr => exact gs); intro w22 hw; have n0_ : Aside0 (Kd.R (Kd.int .u8) 5 w22 w.heap.size (fun k_ => some k_ ≠ (.slice Ao13 t353.length co13 : Value).ownBlock ∧ some k_ ≠ (.slice Ao16 t358.length co16 : Value).ownBlock ∧ some k_ ≠ (.slice Ao21 t364.length co21 : Value).ownBlock) (.slice Ao9 t347.length co9) t347) := ⟨(by rw [hw]; exact (by (with_reducible repeat (first | apply Kd.R_alloc | apply Kd.R_drewN | apply Kd.R_drew)); exact Kd.R_mono (Kd.R_far (p := ⟨gb368, 3, none⟩) (Kd.R_far (p := ⟨gb368, 2, none⟩) (Kd.R_far (p := ⟨gb368, 1, none⟩) (Kd.R_far (p := ⟨gb368, 0, none⟩) (Kd.R_types HO349.out BK368.out (by decide)) (fun _ hk => hk.2) (.int .i64 t361)) (fun _ hk => hk.2) (.int .i64 t362)) (fun _ hk => hk.2) (.int .i64 t363)) (fun _ hk => hk.2) (.slice Ao21 t364.length co21)) (fun _ hk => ⟨hk.1.1.1, ⟨hk.1.1.2, hk.1.2⟩⟩)))⟩; have n1_ : Aside0 (Kd.R (Kd.int .u8) 5 w22 w.heap.size (fun k_ => some k_ ≠ (.slice Ao9 t347.length co9 : Value).ownBlock ∧ some k_ ≠ (.slice Ao16 t358.length co16 : Value).ownBlock ∧ some k_ ≠ (.slice Ao21 t364.length co21 : Value).ownBlock) (.slice Ao13 t353.length co13) t353) := ⟨(by rw [hw]; exact (by (with_reducible repeat (first | apply Kd.R_alloc | apply Kd.R_drewN | apply Kd.R_drew)); exact Kd.R_mono (Kd.R_far (p := ⟨gb368, 3, none⟩) (Kd.R_far (p := ⟨gb368, 2, none⟩) (Kd.R_far (p := ⟨gb368, 1, none⟩) (Kd.R_far (p := ⟨gb368, 0, none⟩) (Kd.R_types HO355.out BK368.out (by decide)) (fun _ hk => hk.2) (.int .i64 t361)) (fun _ hk => hk.2) (.int .i64 t362)) (fun _ hk => hk.2) (.int .i64 t363)) (fun _ hk => hk.2) (.slice Ao21 t364.length co21)) (fun _ hk => ⟨hk.1.1.1, ⟨hk.1.1.2, hk.1.2⟩⟩)))⟩; have n2_ : Aside0 (Kd.R (Kd.int .u8) 5 w22 w.heap.size (fun k_ => some k_ ≠ (.slice Ao9 t347.length co9 : Value).ownBlock ∧ some k_ ≠ (.slice Ao13 t353.length co13 : Value).ownBlock ∧ some k_ ≠ (.slice Ao21 t364.length co21 : Value).ownBlock) (.slice Ao16 t358.length co16) t358) := ⟨(by rw [hw]; exact (by (with_reducible repeat (first | apply Kd.R_alloc | apply Kd.R_drewN | apply Kd.R_drew)); exact Kd.R_mono (Kd.R_far (p := ⟨gb368, 3, none⟩) (Kd.R_far (p := ⟨gb368, 2, none⟩) (Kd.R_far (p := ⟨gb368, 1, none⟩) (Kd.R_far (p := ⟨gb368, 0, none⟩) (Kd.R_types HO360.out BK368.out (by decide)) (fun _ hk => hk.2) (.int .i64 t361)) (fun _ hk => hk.2) (.int .i64 t362)) (fun _ hk => hk.2) (.int .i64 t363)) (fun _ hk => hk.2) (.slice Ao21 t364.length co21)) (fun _ hk => ⟨hk.1.1.1.2, ⟨hk.1.1.2, hk.1.2⟩⟩)))⟩; have n3_ : Aside0 (Kd.R (Kd.int .u8) 5 w22 w.heap.size (fun k_ => some k_ ≠ (.slice Ao9 t347.length co9 : Value).ownBlock ∧ some k_ ≠ (.slice Ao13 t353.length co13 : Value).ownBlock ∧ some k_ ≠ (.slice Ao16 t358.length co16 : Value).ownBlock) (.slice Ao21 t364.length co21) t364) := ⟨(by rw [hw]; exact (by (with_reducible repeat (first | apply Kd.R_alloc | apply Kd.R_drewN | apply Kd.R_drew)); exact Kd.R_mono (Kd.R_far (p := ⟨gb368, 3, none⟩) (Kd.R_far (p := ⟨gb368, 2, none⟩) (Kd.R_far (p := ⟨gb368, 1, none⟩) (Kd.R_far (p := ⟨gb368, 0, none⟩) (Kd.R_types HO366.out BK368.out (by decide)) (fun _ hk => hk.2) (.int .i64 t361)) (fun _ hk => hk.2) (.int .i64 t362)) (fun _ hk => hk.2) (.int .i64 t363)) (fun _ hk => hk.2) (.slice Ao21 t364.length co21)) (fun _ hk => ⟨hk.1.1.1.2, ⟨hk.1.1.2, hk.1.2⟩⟩)))⟩; have n4_ : Aside0 (w22.heap[gb357]? = some (.cells #[.int .i64 t350, .int .i64 t351, .int .i64 t352, .slice Ao13 t353.length co13] 57 (0, 0))) := ⟨(by rw [hw]; exact (by (with_reducible repeat (first | refine blk_drewN ?_ _ | refine blk_drew ?_ | refine blk_alloc ?_ _)); refine blk_far ?_ NB357_368.out _; (with_reducible repeat (first | refine blk_drewN ?_ _ | refine blk_drew ?_ | refine blk_alloc ?_ _)); refine blk_far ?_ NB357_368.out _; (with_reducible repeat (first | refine blk_drewN ?_ _ | refine blk_drew ?_ | refine blk_alloc ?_ _)); refine blk_far ?_ NB357_368.out _; (with_reducible repeat (first | refine blk_drewN ?_ _ | refine blk_drew ?_ | refine blk_alloc ?_ _)); refine blk_far ?_ NB357_368.out _; (with_reducible repeat (first | refine blk_drewN ?_ _ | refine blk_drew ?_ | refine blk_alloc ?_ _)); exact BK357.out))⟩; have n5_ : Aside0 (w22.heap[gb368]? = some (.cells #[.int .i64 t361, .int .i64 t362, .int .i64 t363, .slice Ao21 t364.length co21] 57 (0, 0))) := ⟨(by rw [hw]; exact (by (with_reducible repeat (first | refine blk_drewN ?_ _ | refine blk_drew ?_ | refine blk_alloc ?_ _)); refine blk_put (cs := #[.int .i64 t361, .int .i64 t362, .int .i64 t363, .slice none 0 0]) ?_ 3 _ rfl; (with_reducible repeat (first | refine blk_drewN ?_ _ | refine blk_drew ?_ | refine blk_alloc ?_ _)); refine blk_put (cs := #[.int .i64 t361, .int .i64 t362, .int .i64 0, .slice none 0 0]) ?_ 2 _ rfl; (with_reducible repeat (first | refine blk_drewN ?_ _ | refine blk_drew ?_ | refine blk_alloc ?_ _)); refine blk_put (cs := #[.int .i64 t361, .int .i64 0, .int .i64 0, .slice none 0 0]) ?_ 1 _ rfl; (with_reducible repeat (first | refine blk_drewN ?_ _ | refine blk_drew ?_ | refine blk_alloc ?_ _)); refine blk_put (cs := #[.int .i64 0, .int .i64 0, .int .i64 0, .slice none 0 0]) ?_ 0 _ rfl; (with_reducible repeat (first | refine blk_drewN ?_ _ | refine blk_drew ?_ | refine blk_alloc ?_ _)); exact BK368.out))⟩; have n6_ : Aside0 (Below w.heap.size w w22) := ⟨(by rw [hw]; exact (bq2 HB.out GE357.out GE368.out))⟩; clear hw; clear HO349; clear HO355; clear HO360; clear HO366; clear BK357; clear BK368; clear HB; have HO349 := n0_; have HO355 := n1_; have HO360 := n2_; have HO366 := n3_; have BK357 := n4_; have BK368 := n5_; have HB := n6_; clear n0_ n1_ n2_ n3_ n4_ n5_ n6_))
 (try simp only [Act.put, List.setIfInBounds_toArray, List.set_cons_zero, List.set_cons_succ])
 go_cut [37] (fun v37 wc => ∃ (kq : Nat) (x37_6 : Bool), v37 = .bool x37_6 ∧ Aside0 (laws_FnExactGetFrame.j0 kq l0 t356 t358 t367 x37_6 t350 t351 t352 t353 t361 t362 t363 t364 = some r) ∧ Aside0 (kq ≤ k) ∧ Aside0 (Kd.R (Kd.int .u8) 5 wc w.heap.size (fun k_ => some k_ ≠ ((.slice Ao13 t353.length co13) : Value).ownBlock ∧ some k_ ≠ ((.slice Ao21 t364.length co21) : Value).ownBlock) (.slice Ao16 t358.length co16) t358) ∧ Aside0 (Kd.R (Kd.int .u8) 5 wc w.heap.size (fun k_ => some k_ ≠ ((.slice Ao16 t358.length co16) : Value).ownBlock ∧ some k_ ≠ ((.slice Ao21 t364.length co21) : Value).ownBlock) (.slice Ao13 t353.length co13) t353) ∧ Aside0 (Kd.R (Kd.int .u8) 5 wc w.heap.size (fun k_ => some k_ ≠ ((.slice Ao16 t358.length co16) : Value).ownBlock ∧ some k_ ≠ ((.slice Ao13 t353.length co13) : Value).ownBlock) (.slice Ao21 t364.length co21) t364) ∧ Aside0 (wc.heap[gb357]? = some (.cells #[.int .i64 t350, .int .i64 t351, .int .i64 t352, (.slice Ao13 t353.length co13)] 57 (0, 0))) ∧ Aside0 (wc.heap[gb368]? = some (.cells #[.int .i64 t361, .int .i64 t362, .int .i64 t363, (.slice Ao21 t364.length co21)] 57 (0, 0))) ∧ Aside0 (Below w.heap.size w wc))
 case first =>
  have H := HC7.out
  clear HC7
  replace H := Option.bind_eq_some_iff.mp H
  obtain ⟨t369, A230, H⟩ := H
  replace H : (if t369 = true then (laws_FnExactGetFrame.j0 k l0 t356 t358 t367 (t367 != t356) t350 t351 t352 t353 t361 t362 t363 t364) else (laws_FnExactGetFrame.j0 k l0 t356 t358 t367 true t350 t351 t352 t353 t361 t362 t363 t364)) = some r := H
  have A23 := am A230
  clear A230
  by_cases c24 : t369 = true
  · subst c24
    have H1 : (laws_FnExactGetFrame.j0 k l0 t356 t358 t367 (t367 != t356) t350 t351 t352 t353 t361 t362 t363 t364) = some r := by rw [if_pos rfl] at H; exact H
    clear H
    have H := H1
    clear H1
    have H' := am H
    clear H
    have hnb25 := NB368_357.out
    have hnc25 := NB357_368.out
    have hcz26_0 : w22.cell? ⟨gb368, 0, none⟩ = some (.int .i64 t361) := (blk_cell BK368.out 0).trans rfl
    have hcz26_1 : w22.cell? ⟨gb368, 1, none⟩ = some (.int .i64 t362) := (blk_cell BK368.out 1).trans rfl
    have hcz26_2 : w22.cell? ⟨gb368, 2, none⟩ = some (.int .i64 t363) := (blk_cell BK368.out 2).trans rfl
    have hcz26_3 : w22.cell? ⟨gb368, 3, none⟩ = some (.slice Ao21 t364.length co21) := (blk_cell BK368.out 3).trans rfl
    have hfz26_0 := blk_frozen BK368.out 0
    have hfz26_1 := blk_frozen BK368.out 1
    have hfz26_2 := blk_frozen BK368.out 2
    have hfz26_3 := blk_frozen BK368.out 3
    have hcz27_0 : w22.cell? ⟨gb357, 0, none⟩ = some (.int .i64 t350) := (blk_cell BK357.out 0).trans rfl
    have hcz27_1 : w22.cell? ⟨gb357, 1, none⟩ = some (.int .i64 t351) := (blk_cell BK357.out 1).trans rfl
    have hcz27_2 : w22.cell? ⟨gb357, 2, none⟩ = some (.int .i64 t352) := (blk_cell BK357.out 2).trans rfl
    have hcz27_3 : w22.cell? ⟨gb357, 3, none⟩ = some (.slice Ao13 t353.length co13) := (blk_cell BK357.out 3).trans rfl
    have hfz27_0 := blk_frozen BK357.out 0
    have hfz27_1 := blk_frozen BK357.out 1
    have hfz27_2 := blk_frozen BK357.out 2
    have hfz27_3 := blk_frozen BK357.out 3
    go_wp2_with (first | ((with_reducible refine gate_callee (f := 45) rfl ?_); refine goesL_ (some 31) rfl rfl Try.func45 (by kernel_rfl) rfl #[.agg #[.int .i64 t361, .int .i64 t362, .int .i64 t363, .slice Ao21 t364.length co21], .agg #[.int .i64 t350, .int .i64 t351, .int .i64 t352, .slice Ao13 t353.length co13]] rfl ga ?_; (with_reducible refine (laws_eqFrame.calls k t361 t362 t363 _ _ t364 t350 t351 t352 _ _ t353 true _ ?side1 ?side2 ?side3 ?side4 A23.out).mono ?_); (case side1 => repeat (first | exact (Kd.R_reads' HO366.out).2.2 | (with_reducible refine Kd.C_alloc ?_ _) | (with_reducible refine Kd.C_drewN ?_ _) | (with_reducible refine Kd.C_drew ?_))); (case side2 => exact (Kd.R_reads' HO366.out).2.1); (case side3 => repeat (first | exact (Kd.R_reads' HO355.out).2.2 | (with_reducible refine Kd.C_alloc ?_ _) | (with_reducible refine Kd.C_drewN ?_ _) | (with_reducible refine Kd.C_drew ?_))); (case side4 => exact (Kd.R_reads' HO355.out).2.1); rintro e w28 ⟨rfl, hb⟩; refine ⟨_, rfl, ?_⟩; have n_ := ak7 (Kd.R_below (kqR HO349.out) hb) (Kd.R_below (kqR HO355.out) hb) (Kd.R_below (kqR HO360.out) hb) (Kd.R_below (kqR HO366.out) hb) (blk_below (g := gb357) (o := .cells #[.int .i64 t350, .int .i64 t351, .int .i64 t352, .slice Ao13 t353.length co13] 57 (0, 0)) (zq BK357.out) hb) (blk_below (g := gb368) (o := .cells #[.int .i64 t361, .int .i64 t362, .int .i64 t363, .slice Ao21 t364.length co21] 57 (0, 0)) (zq BK368.out) hb) (below_step (bq2 HB.out GE357.out GE368.out) hb); clear HO349 HO355 HO360 HO366 BK357 BK368 HB; obtain ⟨HO349, HO355, HO360, HO366, BK357, BK368, HB⟩ := n_; (try clear hb)))
    go_meet
    case rel => exact ⟨_, ((t367 != t356)), sq, H', ⟨by first | omega | exact Nat.le_refl _⟩, ⟨by (with_reducible repeat (first | apply Kd.R_alloc | apply Kd.R_drewN | apply Kd.R_drew)); exact Kd.R_mono HO360.out (fun _ hk => ⟨hk.2.1, hk.2.2⟩)⟩, ⟨by (with_reducible repeat (first | apply Kd.R_alloc | apply Kd.R_drewN | apply Kd.R_drew)); exact Kd.R_mono HO355.out (fun _ hk => ⟨hk.2.1, hk.2.2⟩)⟩, ⟨by (with_reducible repeat (first | apply Kd.R_alloc | apply Kd.R_drewN | apply Kd.R_drew)); exact Kd.R_mono HO366.out (fun _ hk => ⟨hk.2.2, hk.2.1⟩)⟩, ⟨zq BK357.out⟩, ⟨zq BK368.out⟩, ⟨bq2 HB.out GE357.out GE368.out⟩⟩
  replace c24 := Bool.eq_false_iff.mpr c24
  subst c24
  have H1 : (laws_FnExactGetFrame.j0 k l0 t356 t358 t367 true t350 t351 t352 t353 t361 t362 t363 t364) = some r := by rw [if_neg (show ¬ (false = true) by decide)] at H; exact H
  clear H
  have H := H1
  clear H1
  have H' := am H
  clear H
  have hnb29 := NB368_357.out
  have hnc29 := NB357_368.out
  have hcz30_0 : w22.cell? ⟨gb368, 0, none⟩ = some (.int .i64 t361) := (blk_cell BK368.out 0).trans rfl
  have hcz30_1 : w22.cell? ⟨gb368, 1, none⟩ = some (.int .i64 t362) := (blk_cell BK368.out 1).trans rfl
  have hcz30_2 : w22.cell? ⟨gb368, 2, none⟩ = some (.int .i64 t363) := (blk_cell BK368.out 2).trans rfl
  have hcz30_3 : w22.cell? ⟨gb368, 3, none⟩ = some (.slice Ao21 t364.length co21) := (blk_cell BK368.out 3).trans rfl
  have hfz30_0 := blk_frozen BK368.out 0
  have hfz30_1 := blk_frozen BK368.out 1
  have hfz30_2 := blk_frozen BK368.out 2
  have hfz30_3 := blk_frozen BK368.out 3
  have hcz31_0 : w22.cell? ⟨gb357, 0, none⟩ = some (.int .i64 t350) := (blk_cell BK357.out 0).trans rfl
  have hcz31_1 : w22.cell? ⟨gb357, 1, none⟩ = some (.int .i64 t351) := (blk_cell BK357.out 1).trans rfl
  have hcz31_2 : w22.cell? ⟨gb357, 2, none⟩ = some (.int .i64 t352) := (blk_cell BK357.out 2).trans rfl
  have hcz31_3 : w22.cell? ⟨gb357, 3, none⟩ = some (.slice Ao13 t353.length co13) := (blk_cell BK357.out 3).trans rfl
  have hfz31_0 := blk_frozen BK357.out 0
  have hfz31_1 := blk_frozen BK357.out 1
  have hfz31_2 := blk_frozen BK357.out 2
  have hfz31_3 := blk_frozen BK357.out 3
  go_wp2_with (first | ((with_reducible refine gate_callee (f := 45) rfl ?_); refine goesL_ (some 31) rfl rfl Try.func45 (by kernel_rfl) rfl #[.agg #[.int .i64 t361, .int .i64 t362, .int .i64 t363, .slice Ao21 t364.length co21], .agg #[.int .i64 t350, .int .i64 t351, .int .i64 t352, .slice Ao13 t353.length co13]] rfl ga ?_; (with_reducible refine (laws_eqFrame.calls k t361 t362 t363 _ _ t364 t350 t351 t352 _ _ t353 false _ ?side1 ?side2 ?side3 ?side4 A23.out).mono ?_); (case side1 => repeat (first | exact (Kd.R_reads' HO366.out).2.2 | (with_reducible refine Kd.C_alloc ?_ _) | (with_reducible refine Kd.C_drewN ?_ _) | (with_reducible refine Kd.C_drew ?_))); (case side2 => exact (Kd.R_reads' HO366.out).2.1); (case side3 => repeat (first | exact (Kd.R_reads' HO355.out).2.2 | (with_reducible refine Kd.C_alloc ?_ _) | (with_reducible refine Kd.C_drewN ?_ _) | (with_reducible refine Kd.C_drew ?_))); (case side4 => exact (Kd.R_reads' HO355.out).2.1); rintro e w32 ⟨rfl, hb⟩; refine ⟨_, rfl, ?_⟩; have n_ := ak7 (Kd.R_below (kqR HO349.out) hb) (Kd.R_below (kqR HO355.out) hb) (Kd.R_below (kqR HO360.out) hb) (Kd.R_below (kqR HO366.out) hb) (blk_below (g := gb357) (o := .cells #[.int .i64 t350, .int .i64 t351, .int .i64 t352, .slice Ao13 t353.length co13] 57 (0, 0)) (zq BK357.out) hb) (blk_below (g := gb368) (o := .cells #[.int .i64 t361, .int .i64 t362, .int .i64 t363, .slice Ao21 t364.length co21] 57 (0, 0)) (zq BK368.out) hb) (below_step (bq2 HB.out GE357.out GE368.out) hb); clear HO349 HO355 HO360 HO366 BK357 BK368 HB; obtain ⟨HO349, HO355, HO360, HO366, BK357, BK368, HB⟩ := n_; (try clear hb)))
  go_meet
  case rel => exact ⟨_, (true), sq, H', ⟨by first | omega | exact Nat.le_refl _⟩, ⟨by (with_reducible repeat (first | apply Kd.R_alloc | apply Kd.R_drewN | apply Kd.R_drew)); exact Kd.R_mono HO360.out (fun _ hk => ⟨hk.2.1, hk.2.2⟩)⟩, ⟨by (with_reducible repeat (first | apply Kd.R_alloc | apply Kd.R_drewN | apply Kd.R_drew)); exact Kd.R_mono HO355.out (fun _ hk => ⟨hk.2.1, hk.2.2⟩)⟩, ⟨by (with_reducible repeat (first | apply Kd.R_alloc | apply Kd.R_drewN | apply Kd.R_drew)); exact Kd.R_mono HO366.out (fun _ hk => ⟨hk.2.2, hk.2.1⟩)⟩, ⟨zq BK357.out⟩, ⟨zq BK368.out⟩, ⟨bq2 HB.out GE357.out GE368.out⟩⟩
 case rest =>
  clear HC7
  try clear c1
  try clear c2
  try clear c2b0
  try clear c2b1
  try clear p2
  try clear c3
  try clear c4
  try clear c10
  try clear c19
  try clear c24
  try clear c25
  try clear c29
  try clear hcz12_0
  try clear hcz12_1
  try clear hcz12_2
  try clear hcz12_3
  try clear hcz20_0
  try clear hcz20_1
  try clear hcz20_2
  try clear hcz20_3
  try clear hcz26_0
  try clear hcz26_1
  try clear hcz26_2
  try clear hcz26_3
  try clear hcz27_0
  try clear hcz27_1
  try clear hcz27_2
  try clear hcz27_3
  try clear hcz30_0
  try clear hcz30_1
  try clear hcz30_2
  try clear hcz30_3
  try clear hcz31_0
  try clear hcz31_1
  try clear hcz31_2
  try clear hcz31_3
  try clear hfz12_0
  try clear hfz12_1
  try clear hfz12_2
  try clear hfz12_3
  try clear hfz20_0
  try clear hfz20_1
  try clear hfz20_2
  try clear hfz20_3
  try clear hfz26_0
  try clear hfz26_1
  try clear hfz26_2
  try clear hfz26_3
  try clear hfz27_0
  try clear hfz27_1
  try clear hfz27_2
  try clear hfz27_3
  try clear hfz30_0
  try clear hfz30_1
  try clear hfz30_2
  try clear hfz30_3
  try clear hfz31_0
  try clear hfz31_1
  try clear hfz31_2
  try clear hfz31_3
  obtain ⟨kq, x37_6, rfl, HA, HJ6, HO_5, HO_358003, HO_369003, BK357, BK368, HB⟩ := hcut
  cases kq with
  | zero => exact absurd HA.out (by simp [laws_FnExactGetFrame.j0])
  | succ kj6 =>
   have H := HA.out
   clear HA
   simp only [laws_FnExactGetFrame.j0] at H
   by_cases c33 : x37_6 = true
   · subst c33
     have H1 : (some false) = some r := by rw [if_pos rfl] at H; exact H
     clear H
     have H := H1
     clear H1
     exact absurd ((Option.some.inj H).trans HRT.out) (by decide)
   replace c33 := Bool.eq_false_iff.mpr c33
   subst c33
   have H1 : ((laws_toByteS.f kj6 l0).bind fun t370 => ((laws_eqByteS.f kj6 t358 t370).bind fun t373 => (if t373 = true then ((laws_markByteS.f kj6 t358 1).bind fun bt374 => (if bt374.1 < 0 then (laws_FnExactGetFrame.j1 kj6 l0 t356 true t350 t351 t352 t353 t361 t362 t363 t364) else ((laws_eqFrame.f kj6 t361 t362 t363 t364 t350 t351 t352 t353).bind fun t376 => (if t376 = true then (laws_FnExactGetFrame.j1 kj6 l0 t356 (t367 != t356) t350 t351 t352 t353 t361 t362 t363 t364) else (laws_FnExactGetFrame.j1 kj6 l0 t356 true t350 t351 t352 t353 t361 t362 t363 t364))))) else (some false)))) = some r := by rw [if_neg (show ¬ (false = true) by decide)] at H; exact H
   clear H
   have H := H1
   clear H1
   replace H := Option.bind_eq_some_iff.mp H
   obtain ⟨t370, A340, H⟩ := H
   replace H : ((laws_eqByteS.f kj6 t358 t370).bind fun t373 => (if t373 = true then ((laws_markByteS.f kj6 t358 1).bind fun bt374 => (if bt374.1 < 0 then (laws_FnExactGetFrame.j1 kj6 l0 t356 true t350 t351 t352 t353 t361 t362 t363 t364) else ((laws_eqFrame.f kj6 t361 t362 t363 t364 t350 t351 t352 t353).bind fun t376 => (if t376 = true then (laws_FnExactGetFrame.j1 kj6 l0 t356 (t367 != t356) t350 t351 t352 t353 t361 t362 t363 t364) else (laws_FnExactGetFrame.j1 kj6 l0 t356 true t350 t351 t352 t353 t361 t362 t363 t364))))) else (some false))) = some r := H
   have A34 := am A340
   clear A340
   replace H := Option.bind_eq_some_iff.mp H
   obtain ⟨t373, A350, H⟩ := H
   replace H : (if t373 = true then ((laws_markByteS.f kj6 t358 1).bind fun bt374 => (if bt374.1 < 0 then (laws_FnExactGetFrame.j1 kj6 l0 t356 true t350 t351 t352 t353 t361 t362 t363 t364) else ((laws_eqFrame.f kj6 t361 t362 t363 t364 t350 t351 t352 t353).bind fun t376 => (if t376 = true then (laws_FnExactGetFrame.j1 kj6 l0 t356 (t367 != t356) t350 t351 t352 t353 t361 t362 t363 t364) else (laws_FnExactGetFrame.j1 kj6 l0 t356 true t350 t351 t352 t353 t361 t362 t363 t364))))) else (some false)) = some r := H
   have A35 := am A350
   clear A350
   by_cases c36 : t373 = true
   · subst c36
     have H1 : ((laws_markByteS.f kj6 t358 1).bind fun bt374 => (if bt374.1 < 0 then (laws_FnExactGetFrame.j1 kj6 l0 t356 true t350 t351 t352 t353 t361 t362 t363 t364) else ((laws_eqFrame.f kj6 t361 t362 t363 t364 t350 t351 t352 t353).bind fun t376 => (if t376 = true then (laws_FnExactGetFrame.j1 kj6 l0 t356 (t367 != t356) t350 t351 t352 t353 t361 t362 t363 t364) else (laws_FnExactGetFrame.j1 kj6 l0 t356 true t350 t351 t352 t353 t361 t362 t363 t364))))) = some r := by rw [if_pos rfl] at H; exact H
     clear H
     have H := H1
     clear H1
     replace H := Option.bind_eq_some_iff.mp H
     obtain ⟨⟨t374, t375⟩, A370, H⟩ := H
     replace H : (if t374 < 0 then (laws_FnExactGetFrame.j1 kj6 l0 t356 true t350 t351 t352 t353 t361 t362 t363 t364) else ((laws_eqFrame.f kj6 t361 t362 t363 t364 t350 t351 t352 t353).bind fun t376 => (if t376 = true then (laws_FnExactGetFrame.j1 kj6 l0 t356 (t367 != t356) t350 t351 t352 t353 t361 t362 t363 t364) else (laws_FnExactGetFrame.j1 kj6 l0 t356 true t350 t351 t352 t353 t361 t362 t363 t364)))) = some r := H
     have A37 := am A370
     clear A370
     have HC38 := am H
     clear H
     go_upto_region 12 with (first | ((with_reducible refine gate_callee (f := 34) rfl ?_); refine goesL_ (some 40) rfl rfl Try.func34 (by kernel_rfl) rfl #[.slice A0 l0.length c0] rfl ga ?_; (with_reducible refine (laws_toByteS.calls kj6 _ _ l0 t370 _ ?side1 ?side2 A34.out).mono ?_); (case side1 => exact cq (Kd.C_below HR0.out HB.out)); (case side2 => exact HC0.out); rintro e w39 ⟨v371, rfl, ho0, hb⟩; refine ⟨_, rfl, ?_⟩; have n_ := ak7 (Kd.R_elder' (kqR HO_5.out) (Kd.R_base ho0) hb) (Kd.R_elder' (kqR HO_358003.out) (Kd.R_base ho0) hb) (Kd.R_elder' (kqR HO_369003.out) (Kd.R_base ho0) hb) (Kd.R_lower (Kd.R_new' (Kd.R_new' (Kd.R_new' ho0 (Kd.R_lt (kqR HO_5.out))) (Kd.R_lt (kqR HO_358003.out))) (Kd.R_lt (kqR HO_369003.out))) (below_size (bq2 HB.out GE357.out GE368.out))) (blk_below (g := gb357) (o := .cells #[.int .i64 t350, .int .i64 t351, .int .i64 t352, .slice Ao13 t353.length co13] 57 (0, 0)) (zq BK357.out) hb) (blk_below (g := gb368) (o := .cells #[.int .i64 t361, .int .i64 t362, .int .i64 t363, .slice Ao21 t364.length co21] 57 (0, 0)) (zq BK368.out) hb) (below_step (bq2 HB.out GE357.out GE368.out) hb); clear HO_5 HO_358003 HO_369003 BK357 BK368 HB; obtain ⟨HO_5, HO_358003, HO_369003, HO372, BK357, BK368, HB⟩ := n_; (try clear hb ho0); obtain ⟨Ao40, co40, eo40⟩ := Kd.R_slice HO372.out; subst eo40) | ((with_reducible refine gate_callee (f := 37) rfl ?_); refine goesL_ (some 41) rfl rfl Try.func37 (by kernel_rfl) rfl #[.slice Ao16 t358.length co16, .slice Ao40 t370.length co40] rfl ga ?_; (with_reducible refine (laws_eqByteS.calls kj6 _ _ t358 _ _ t370 true _ ?side1 ?side2 ?side3 ?side4 A35.out).mono ?_); (case side1 => repeat (first | exact (Kd.R_reads' HO_5.out).2.2 | (with_reducible refine Kd.C_alloc ?_ _) | (with_reducible refine Kd.C_drewN ?_ _) | (with_reducible refine Kd.C_drew ?_))); (case side2 => exact (Kd.R_reads' HO_5.out).2.1); (case side3 => repeat (first | exact (Kd.R_reads' HO372.out).2.2 | (with_reducible refine Kd.C_alloc ?_ _) | (with_reducible refine Kd.C_drewN ?_ _) | (with_reducible refine Kd.C_drew ?_))); (case side4 => exact (Kd.R_reads' HO372.out).2.1); rintro e w' ⟨rfl, ⟨nd, rfl⟩⟩; refine ⟨_, rfl, ?_⟩) | ((with_reducible refine gate_callee (f := 46) rfl ?_); refine goesL_ (some 45) rfl rfl Try.func46 (by kernel_rfl) rfl #[.slice Ao16 t358.length co16, .int .i64 1] rfl ga ?_; (with_reducible refine (laws_markByteS.calls kj6 (fun k_ => some k_ = (.slice Ao16 t358.length co16 : Value).ownBlock) (.slice Ao16 t358.length co16) t358 1 t374 t375 w _ ?side1 ?side2 A37.out).mono ?_); (case side1 => exact bq2 HB.out GE357.out GE368.out); (case side2 => exact Kd.R_tight rfl HO_5.out); rintro e w41 ⟨rfl, hy0, hb, hkp⟩; refine ⟨_, rfl, ?_⟩; have n_ := ak7 (Kd.R_reok rfl hy0 (fun k_ e_ => HO_5.out.1 k_ e_)) (Kd.R_mono (ok' := fun k_ => some k_ ≠ (.slice Ao16 t358.length co16 : Value).ownBlock ∧ some k_ ≠ (.slice Ao21 t364.length co21 : Value).ownBlock ∧ some k_ ≠ (.slice Ao40 t370.length co40 : Value).ownBlock) (Kd.R_keptB (HO_358003.out) hkp (fun k_ hk_ hs_ => (hk_.1.1) hs_)) (fun k_ hk_ => ⟨hk_.1.1.1, hk_.1.1.2, hk_.1.2⟩)) (Kd.R_mono (ok' := fun k_ => some k_ ≠ (.slice Ao16 t358.length co16 : Value).ownBlock ∧ some k_ ≠ (.slice Ao13 t353.length co13 : Value).ownBlock ∧ some k_ ≠ (.slice Ao40 t370.length co40 : Value).ownBlock) (Kd.R_keptB (HO_369003.out) hkp (fun k_ hk_ hs_ => (hk_.1.1) hs_)) (fun k_ hk_ => ⟨hk_.1.1.1, hk_.1.1.2, hk_.1.2⟩)) (blk_kept (zq BK357.out) hkp (fun hs_ => (fun e_ => (Kd.R_ne HO_5.out BK357.out (by decide)) e_) hs_)) (blk_kept (zq BK368.out) hkp (fun hs_ => (fun e_ => (Kd.R_ne HO_5.out BK368.out (by decide)) e_) hs_)) (Kd.R_mono (ok' := fun k_ => some k_ ≠ (.slice Ao16 t358.length co16 : Value).ownBlock ∧ some k_ ≠ (.slice Ao13 t353.length co13 : Value).ownBlock ∧ some k_ ≠ (.slice Ao21 t364.length co21 : Value).ownBlock) (Kd.R_keptB (HO372.out) hkp (fun k_ hk_ hs_ => (hk_.1.1.2) hs_)) (fun k_ hk_ => ⟨hk_.1.1.1.2, hk_.1.1.2, hk_.1.2⟩)) hb; clear HO_5 HO_358003 HO_369003 BK357 BK368 HO372 HB; obtain ⟨HO_5, HO_358003, HO_369003, BK357, BK368, HO372, HB⟩ := n_; (try clear hb hkp hy0)))
     (try simp only [Act.put, List.setIfInBounds_toArray, List.set_cons_zero, List.set_cons_succ])
     go_cut [58] (fun v58 wc => ∃ (kq : Nat) (x58_37 : Bool), v58 = .bool x58_37 ∧ Aside0 (laws_FnExactGetFrame.j1 kq l0 t356 x58_37 t350 t351 t352 t353 t361 t362 t363 t364 = some r) ∧ Aside0 (kq ≤ kj6) ∧ Aside0 (Kd.R (Kd.int .u8) 5 wc w.heap.size (fun k_ => some k_ ≠ ((.slice Ao21 t364.length co21) : Value).ownBlock) (.slice Ao13 t353.length co13) t353) ∧ Aside0 (Kd.R (Kd.int .u8) 5 wc w.heap.size (fun k_ => some k_ ≠ ((.slice Ao13 t353.length co13) : Value).ownBlock) (.slice Ao21 t364.length co21) t364) ∧ Aside0 (wc.heap[gb357]? = some (.cells #[.int .i64 t350, .int .i64 t351, .int .i64 t352, (.slice Ao13 t353.length co13)] 57 (0, 0))) ∧ Aside0 (wc.heap[gb368]? = some (.cells #[.int .i64 t361, .int .i64 t362, .int .i64 t363, (.slice Ao21 t364.length co21)] 57 (0, 0))) ∧ Aside0 (Below w.heap.size w wc))
     case first =>
      have H := HC38.out
      clear HC38
      by_cases c42 : t374 < 0
      · rw [if_pos c42] at H
        have c42b0 : decide (t374 < 0) = true := decide_eq_true c42
        clear c42
        (first | rw [c42b0] | (simp only [i64_w, i32_w]; rw [c42b0]) | skip)
        have H' := am H
        clear H
        go_wp2
        go_meet
        case rel => exact ⟨_, (true), sq, H', ⟨by have := HJ6.out; first | omega | exact Nat.le_refl _⟩, ⟨by (with_reducible repeat (first | apply Kd.R_alloc | apply Kd.R_drewN | apply Kd.R_drew)); exact Kd.R_mono HO_358003.out (fun _ hk => hk.2.1)⟩, ⟨by (with_reducible repeat (first | apply Kd.R_alloc | apply Kd.R_drewN | apply Kd.R_drew)); exact Kd.R_mono HO_369003.out (fun _ hk => hk.2.1)⟩, ⟨zq BK357.out⟩, ⟨zq BK368.out⟩, ⟨bq2 HB.out GE357.out GE368.out⟩⟩
      rw [if_neg c42] at H
      have c42b0 : decide (t374 < 0) = false := decide_eq_false c42
      clear c42
      (first | rw [c42b0] | (simp only [i64_w, i32_w]; rw [c42b0]) | skip)
      replace H := Option.bind_eq_some_iff.mp H
      obtain ⟨t376, A430, H⟩ := H
      replace H : (if t376 = true then (laws_FnExactGetFrame.j1 kj6 l0 t356 (t367 != t356) t350 t351 t352 t353 t361 t362 t363 t364) else (laws_FnExactGetFrame.j1 kj6 l0 t356 true t350 t351 t352 t353 t361 t362 t363 t364)) = some r := H
      have A43 := am A430
      clear A430
      by_cases c44 : t376 = true
      · subst c44
        have H1 : (laws_FnExactGetFrame.j1 kj6 l0 t356 (t367 != t356) t350 t351 t352 t353 t361 t362 t363 t364) = some r := by rw [if_pos rfl] at H; exact H
        clear H
        have H := H1
        clear H1
        have H' := am H
        clear H
        have hnb45 := NB368_357.out
        have hnc45 := NB357_368.out
        have hcz46_0 : w41.cell? ⟨gb368, 0, none⟩ = some (.int .i64 t361) := (blk_cell BK368.out 0).trans rfl
        have hcz46_1 : w41.cell? ⟨gb368, 1, none⟩ = some (.int .i64 t362) := (blk_cell BK368.out 1).trans rfl
        have hcz46_2 : w41.cell? ⟨gb368, 2, none⟩ = some (.int .i64 t363) := (blk_cell BK368.out 2).trans rfl
        have hcz46_3 : w41.cell? ⟨gb368, 3, none⟩ = some (.slice Ao21 t364.length co21) := (blk_cell BK368.out 3).trans rfl
        have hfz46_0 := blk_frozen BK368.out 0
        have hfz46_1 := blk_frozen BK368.out 1
        have hfz46_2 := blk_frozen BK368.out 2
        have hfz46_3 := blk_frozen BK368.out 3
        have hcz47_0 : w41.cell? ⟨gb357, 0, none⟩ = some (.int .i64 t350) := (blk_cell BK357.out 0).trans rfl
        have hcz47_1 : w41.cell? ⟨gb357, 1, none⟩ = some (.int .i64 t351) := (blk_cell BK357.out 1).trans rfl
        have hcz47_2 : w41.cell? ⟨gb357, 2, none⟩ = some (.int .i64 t352) := (blk_cell BK357.out 2).trans rfl
        have hcz47_3 : w41.cell? ⟨gb357, 3, none⟩ = some (.slice Ao13 t353.length co13) := (blk_cell BK357.out 3).trans rfl
        have hfz47_0 := blk_frozen BK357.out 0
        have hfz47_1 := blk_frozen BK357.out 1
        have hfz47_2 := blk_frozen BK357.out 2
        have hfz47_3 := blk_frozen BK357.out 3
        go_wp2_with (first | (go_at_call 45; (with_reducible refine (laws_eqFrame.calls kj6 t361 t362 t363 _ _ t364 t350 t351 t352 _ _ t353 true _ ?side1 ?side2 ?side3 ?side4 A43.out).mono ?_); (case side1 => repeat (first | exact (Kd.R_reads' HO_369003.out).2.2 | (with_reducible refine Kd.C_alloc ?_ _) | (with_reducible refine Kd.C_drewN ?_ _) | (with_reducible refine Kd.C_drew ?_))); (case side2 => exact (Kd.R_reads' HO_369003.out).2.1); (case side3 => repeat (first | exact (Kd.R_reads' HO_358003.out).2.2 | (with_reducible refine Kd.C_alloc ?_ _) | (with_reducible refine Kd.C_drewN ?_ _) | (with_reducible refine Kd.C_drew ?_))); (case side4 => exact (Kd.R_reads' HO_358003.out).2.1); rintro e w48 ⟨rfl, hb⟩; have n_ := ak7 (Kd.R_below (kqR HO_5.out) hb) (Kd.R_below (kqR HO_358003.out) hb) (Kd.R_below (kqR HO_369003.out) hb) (Kd.R_below (kqR HO372.out) hb) (blk_below (g := gb357) (o := .cells #[.int .i64 t350, .int .i64 t351, .int .i64 t352, .slice Ao13 t353.length co13] 57 (0, 0)) (zq BK357.out) hb) (blk_below (g := gb368) (o := .cells #[.int .i64 t361, .int .i64 t362, .int .i64 t363, .slice Ao21 t364.length co21] 57 (0, 0)) (zq BK368.out) hb) (below_step (bq2 HB.out GE357.out GE368.out) hb); clear HO_5 HO_358003 HO_369003 HO372 BK357 BK368 HB; obtain ⟨HO_5, HO_358003, HO_369003, HO372, BK357, BK368, HB⟩ := n_; (try clear hb)))
        go_meet
        case rel => exact ⟨_, ((t367 != t356)), sq, H', ⟨by have := HJ6.out; first | omega | exact Nat.le_refl _⟩, ⟨by (with_reducible repeat (first | apply Kd.R_alloc | apply Kd.R_drewN | apply Kd.R_drew)); exact Kd.R_mono HO_358003.out (fun _ hk => hk.2.1)⟩, ⟨by (with_reducible repeat (first | apply Kd.R_alloc | apply Kd.R_drewN | apply Kd.R_drew)); exact Kd.R_mono HO_369003.out (fun _ hk => hk.2.1)⟩, ⟨zq BK357.out⟩, ⟨zq BK368.out⟩, ⟨bq2 HB.out GE357.out GE368.out⟩⟩
      replace c44 := Bool.eq_false_iff.mpr c44
      subst c44
      have H1 : (laws_FnExactGetFrame.j1 kj6 l0 t356 true t350 t351 t352 t353 t361 t362 t363 t364) = some r := by rw [if_neg (show ¬ (false = true) by decide)] at H; exact H
      clear H
      have H := H1
      clear H1
      have H' := am H
      clear H
      have hnb49 := NB368_357.out
      have hnc49 := NB357_368.out
      have hcz50_0 : w41.cell? ⟨gb368, 0, none⟩ = some (.int .i64 t361) := (blk_cell BK368.out 0).trans rfl
      have hcz50_1 : w41.cell? ⟨gb368, 1, none⟩ = some (.int .i64 t362) := (blk_cell BK368.out 1).trans rfl
      have hcz50_2 : w41.cell? ⟨gb368, 2, none⟩ = some (.int .i64 t363) := (blk_cell BK368.out 2).trans rfl
      have hcz50_3 : w41.cell? ⟨gb368, 3, none⟩ = some (.slice Ao21 t364.length co21) := (blk_cell BK368.out 3).trans rfl
      have hfz50_0 := blk_frozen BK368.out 0
      have hfz50_1 := blk_frozen BK368.out 1
      have hfz50_2 := blk_frozen BK368.out 2
      have hfz50_3 := blk_frozen BK368.out 3
      have hcz51_0 : w41.cell? ⟨gb357, 0, none⟩ = some (.int .i64 t350) := (blk_cell BK357.out 0).trans rfl
      have hcz51_1 : w41.cell? ⟨gb357, 1, none⟩ = some (.int .i64 t351) := (blk_cell BK357.out 1).trans rfl
      have hcz51_2 : w41.cell? ⟨gb357, 2, none⟩ = some (.int .i64 t352) := (blk_cell BK357.out 2).trans rfl
      have hcz51_3 : w41.cell? ⟨gb357, 3, none⟩ = some (.slice Ao13 t353.length co13) := (blk_cell BK357.out 3).trans rfl
      have hfz51_0 := blk_frozen BK357.out 0
      have hfz51_1 := blk_frozen BK357.out 1
      have hfz51_2 := blk_frozen BK357.out 2
      have hfz51_3 := blk_frozen BK357.out 3
      go_wp2_with (first | (go_at_call 45; (with_reducible refine (laws_eqFrame.calls kj6 t361 t362 t363 _ _ t364 t350 t351 t352 _ _ t353 false _ ?side1 ?side2 ?side3 ?side4 A43.out).mono ?_); (case side1 => repeat (first | exact (Kd.R_reads' HO_369003.out).2.2 | (with_reducible refine Kd.C_alloc ?_ _) | (with_reducible refine Kd.C_drewN ?_ _) | (with_reducible refine Kd.C_drew ?_))); (case side2 => exact (Kd.R_reads' HO_369003.out).2.1); (case side3 => repeat (first | exact (Kd.R_reads' HO_358003.out).2.2 | (with_reducible refine Kd.C_alloc ?_ _) | (with_reducible refine Kd.C_drewN ?_ _) | (with_reducible refine Kd.C_drew ?_))); (case side4 => exact (Kd.R_reads' HO_358003.out).2.1); rintro e w52 ⟨rfl, hb⟩; have n_ := ak7 (Kd.R_below (kqR HO_5.out) hb) (Kd.R_below (kqR HO_358003.out) hb) (Kd.R_below (kqR HO_369003.out) hb) (Kd.R_below (kqR HO372.out) hb) (blk_below (g := gb357) (o := .cells #[.int .i64 t350, .int .i64 t351, .int .i64 t352, .slice Ao13 t353.length co13] 57 (0, 0)) (zq BK357.out) hb) (blk_below (g := gb368) (o := .cells #[.int .i64 t361, .int .i64 t362, .int .i64 t363, .slice Ao21 t364.length co21] 57 (0, 0)) (zq BK368.out) hb) (below_step (bq2 HB.out GE357.out GE368.out) hb); clear HO_5 HO_358003 HO_369003 HO372 BK357 BK368 HB; obtain ⟨HO_5, HO_358003, HO_369003, HO372, BK357, BK368, HB⟩ := n_; (try clear hb)))
      go_meet
      case rel => exact ⟨_, (true), sq, H', ⟨by have := HJ6.out; first | omega | exact Nat.le_refl _⟩, ⟨by (with_reducible repeat (first | apply Kd.R_alloc | apply Kd.R_drewN | apply Kd.R_drew)); exact Kd.R_mono HO_358003.out (fun _ hk => hk.2.1)⟩, ⟨by (with_reducible repeat (first | apply Kd.R_alloc | apply Kd.R_drewN | apply Kd.R_drew)); exact Kd.R_mono HO_369003.out (fun _ hk => hk.2.1)⟩, ⟨zq BK357.out⟩, ⟨zq BK368.out⟩, ⟨bq2 HB.out GE357.out GE368.out⟩⟩
     case rest =>
      clear HC38
      try clear c1
      try clear c2
      try clear c2b0
      try clear c2b1
      try clear p2
      try clear c3
      try clear c4
      try clear c10
      try clear c19
      try clear c24
      try clear c25
      try clear c29
      try clear c33
      try clear c34
      try clear c36
      try clear c37
      try clear c42
      try clear c42b0
      try clear c43
      try clear c44
      try clear c45
      try clear c46
      try clear c49
      try clear hcz12_0
      try clear hcz12_1
      try clear hcz12_2
      try clear hcz12_3
      try clear hcz20_0
      try clear hcz20_1
      try clear hcz20_2
      try clear hcz20_3
      try clear hcz26_0
      try clear hcz26_1
      try clear hcz26_2
      try clear hcz26_3
      try clear hcz27_0
      try clear hcz27_1
      try clear hcz27_2
      try clear hcz27_3
      try clear hcz30_0
      try clear hcz30_1
      try clear hcz30_2
      try clear hcz30_3
      try clear hcz31_0
      try clear hcz31_1
      try clear hcz31_2
      try clear hcz31_3
      try clear hcz46_0
      try clear hcz46_1
      try clear hcz46_2
      try clear hcz46_3
      try clear hcz47_0
      try clear hcz47_1
      try clear hcz47_2
      try clear hcz47_3
      try clear hcz50_0
      try clear hcz50_1
      try clear hcz50_2
      try clear hcz50_3
      try clear hcz51_0
      try clear hcz51_1
      try clear hcz51_2
      try clear hcz51_3
      try clear hfz12_0
      try clear hfz12_1
      try clear hfz12_2
      try clear hfz12_3
      try clear hfz20_0
      try clear hfz20_1
      try clear hfz20_2
      try clear hfz20_3
      try clear hfz26_0
      try clear hfz26_1
      try clear hfz26_2
      try clear hfz26_3
      try clear hfz27_0
      try clear hfz27_1
      try clear hfz27_2
      try clear hfz27_3
      try clear hfz30_0
      try clear hfz30_1
      try clear hfz30_2
      try clear hfz30_3
      try clear hfz31_0
      try clear hfz31_1
      try clear hfz31_2
      try clear hfz31_3
      try clear hfz46_0
      try clear hfz46_1
      try clear hfz46_2
      try clear hfz46_3
      try clear hfz47_0
      try clear hfz47_1
      try clear hfz47_2
      try clear hfz47_3
      try clear hfz50_0
      try clear hfz50_1
      try clear hfz50_2
      try clear hfz50_3
      try clear hfz51_0
      try clear hfz51_1
      try clear hfz51_2
      try clear hfz51_3
      try clear p2
      obtain ⟨kq, x58_37, rfl, HA, HJ37, HO_358003, HO_369003, BK357, BK368, HB⟩ := hcut
      cases kq with
      | zero => exact absurd HA.out (by simp [laws_FnExactGetFrame.j1])
      | succ kj37 =>
       have H := HA.out
       clear HA
       simp only [laws_FnExactGetFrame.j1] at H
       by_cases c53 : x58_37 = true
       · subst c53
         have H1 : (some false) = some r := by rw [if_pos rfl] at H; exact H
         clear H
         have H := H1
         clear H1
         exact absurd ((Option.some.inj H).trans HRT.out) (by decide)
       replace c53 := Bool.eq_false_iff.mpr c53
       subst c53
       have H1 : ((laws_markFrame.f kj37 t361 t362 t363 t364 1).bind fun bt377 => ((laws_heldFrame.f kj37 t361 t362 t363 bt377.2 1).bind fun t379 => (if t379 < 0 then (some false) else (if t379 = bt377.1 then ((laws_toByteS.f kj37 l0).bind fun t380 => ((impl_GetFrame.f kj37 t380).bind fun bt383 => ((laws_eqFrame.f kj37 bt383.1 bt383.2.1 bt383.2.2.1 bt383.2.2.2.1 t350 t351 t352 t353).bind fun t391 => (if t391 = true then (laws_FnExactGetFrame.j2 kj37 bt377.1 (bt383.2.2.2.2 != t356) t361 t362 t363 bt377.2) else (laws_FnExactGetFrame.j2 kj37 bt377.1 true t361 t362 t363 bt377.2))))) else (some false))))) = some r := by rw [if_neg (show ¬ (false = true) by decide)] at H; exact H
       clear H
       have H := H1
       clear H1
       replace H := Option.bind_eq_some_iff.mp H
       obtain ⟨⟨t377, t378⟩, A540, H⟩ := H
       replace H : ((laws_heldFrame.f kj37 t361 t362 t363 t378 1).bind fun t379 => (if t379 < 0 then (some false) else (if t379 = t377 then ((laws_toByteS.f kj37 l0).bind fun t380 => ((impl_GetFrame.f kj37 t380).bind fun bt383 => ((laws_eqFrame.f kj37 bt383.1 bt383.2.1 bt383.2.2.1 bt383.2.2.2.1 t350 t351 t352 t353).bind fun t391 => (if t391 = true then (laws_FnExactGetFrame.j2 kj37 t377 (bt383.2.2.2.2 != t356) t361 t362 t363 t378) else (laws_FnExactGetFrame.j2 kj37 t377 true t361 t362 t363 t378))))) else (some false)))) = some r := H
       have A54 := am A540
       clear A540
       replace H := Option.bind_eq_some_iff.mp H
       obtain ⟨t379, A550, H⟩ := H
       replace H : (if t379 < 0 then (some false) else (if t379 = t377 then ((laws_toByteS.f kj37 l0).bind fun t380 => ((impl_GetFrame.f kj37 t380).bind fun bt383 => ((laws_eqFrame.f kj37 bt383.1 bt383.2.1 bt383.2.2.1 bt383.2.2.2.1 t350 t351 t352 t353).bind fun t391 => (if t391 = true then (laws_FnExactGetFrame.j2 kj37 t377 (bt383.2.2.2.2 != t356) t361 t362 t363 t378) else (laws_FnExactGetFrame.j2 kj37 t377 true t361 t362 t363 t378))))) else (some false))) = some r := H
       have A55 := am A550
       clear A550
       by_cases c56 : t379 < 0
       · rw [if_pos c56] at H
         have c56b0 : decide (t379 < 0) = true := decide_eq_true c56
         clear c56
         exact absurd ((Option.some.inj H).trans HRT.out) (by decide)
       rw [if_neg c56] at H
       have c56b0 : decide (t379 < 0) = false := decide_eq_false c56
       clear c56
       by_cases c57 : t379 = t377
       · rw [if_pos c57] at H
         have c57b0 : (t379 == t377) = true := beq_iff_eq.mpr c57
         have c57b1 : (t379 != t377) = false := bne_eq_false_iff_eq.mpr c57
         clear c57
         replace H := Option.bind_eq_some_iff.mp H
         obtain ⟨t380, A580, H⟩ := H
         replace H : ((impl_GetFrame.f kj37 t380).bind fun bt383 => ((laws_eqFrame.f kj37 bt383.1 bt383.2.1 bt383.2.2.1 bt383.2.2.2.1 t350 t351 t352 t353).bind fun t391 => (if t391 = true then (laws_FnExactGetFrame.j2 kj37 t377 (bt383.2.2.2.2 != t356) t361 t362 t363 t378) else (laws_FnExactGetFrame.j2 kj37 t377 true t361 t362 t363 t378)))) = some r := H
         have A58 := am A580
         clear A580
         replace H := Option.bind_eq_some_iff.mp H
         obtain ⟨⟨t383, t384, t385, t386, t389⟩, A590, H⟩ := H
         replace H : ((laws_eqFrame.f kj37 t383 t384 t385 t386 t350 t351 t352 t353).bind fun t391 => (if t391 = true then (laws_FnExactGetFrame.j2 kj37 t377 (t389 != t356) t361 t362 t363 t378) else (laws_FnExactGetFrame.j2 kj37 t377 true t361 t362 t363 t378))) = some r := H
         have A59 := am A590
         clear A590
         have HC60 := am H
         clear H
         have hnb61 := NB368_357.out
         have hnc61 := NB357_368.out
         have hcz62_0 : wc.cell? ⟨gb368, 0, none⟩ = some (.int .i64 t361) := (blk_cell BK368.out 0).trans rfl
         have hcz62_1 : wc.cell? ⟨gb368, 1, none⟩ = some (.int .i64 t362) := (blk_cell BK368.out 1).trans rfl
         have hcz62_2 : wc.cell? ⟨gb368, 2, none⟩ = some (.int .i64 t363) := (blk_cell BK368.out 2).trans rfl
         have hcz62_3 : wc.cell? ⟨gb368, 3, none⟩ = some (.slice Ao21 t364.length co21) := (blk_cell BK368.out 3).trans rfl
         have hfz62_0 := blk_frozen BK368.out 0
         have hfz62_1 := blk_frozen BK368.out 1
         have hfz62_2 := blk_frozen BK368.out 2
         have hfz62_3 := blk_frozen BK368.out 3
         go_upto_region 23 with (first | ((with_reducible refine gate_callee (f := 47) rfl ?_); refine goesL_ (some 61) rfl rfl Try.func47 (by kernel_rfl) rfl #[.agg #[.int .i64 t361, .int .i64 t362, .int .i64 t363, .slice Ao21 t364.length co21], .int .i64 1] rfl ga ?_; (with_reducible refine (laws_markFrame.calls kj37 t361 t362 t363 (fun k_ => some k_ = (.slice Ao21 t364.length co21 : Value).ownBlock) (.slice Ao21 t364.length co21) t364 1 t377 t378 w _ ?side1 ?side2 A54.out).mono ?_); (case side1 => exact bq2 HB.out GE357.out GE368.out); (case side2 => exact Kd.R_tight rfl HO_369003.out); rintro e w63 ⟨rfl, hy0, hb, hkp⟩; refine ⟨_, rfl, ?_⟩; have n_ := ak5 (Kd.R_mono (ok' := fun k_ => some k_ ≠ (.slice Ao21 t364.length co21 : Value).ownBlock) (Kd.R_keptB (HO_358003.out) hkp (fun k_ hk_ hs_ => (hk_) hs_)) (fun k_ hk_ => hk_.1)) (Kd.R_reok rfl hy0 (fun k_ e_ => HO_369003.out.1 k_ e_)) (blk_kept (zq BK357.out) hkp (fun hs_ => (fun e_ => (Kd.R_ne HO_369003.out BK357.out (by decide)) e_) hs_)) (blk_kept (zq BK368.out) hkp (fun hs_ => (fun e_ => (Kd.R_ne HO_369003.out BK368.out (by decide)) e_) hs_)) hb; clear HO_358003 HO_369003 BK357 BK368 HB; obtain ⟨HO_358003, HO_369003, BK357, BK368, HB⟩ := n_; (try clear hb hkp hy0); have hcz64_0 : w63.cell? ⟨gb368, 0, none⟩ = some (.int .i64 t361) := (blk_cell BK368.out 0).trans rfl; have hcz64_1 : w63.cell? ⟨gb368, 1, none⟩ = some (.int .i64 t362) := (blk_cell BK368.out 1).trans rfl; have hcz64_2 : w63.cell? ⟨gb368, 2, none⟩ = some (.int .i64 t363) := (blk_cell BK368.out 2).trans rfl; have hcz64_3 : w63.cell? ⟨gb368, 3, none⟩ = some (.slice Ao21 t364.length co21) := (blk_cell BK368.out 3).trans rfl; have hfz64_0 := blk_frozen BK368.out 0; have hfz64_1 := blk_frozen BK368.out 1; have hfz64_2 := blk_frozen BK368.out 2; have hfz64_3 := blk_frozen BK368.out 3) | ((with_reducible refine gate_callee (f := 48) rfl ?_); refine goesL_ (some 64) rfl rfl Try.func48 (by kernel_rfl) rfl #[.agg #[.int .i64 t361, .int .i64 t362, .int .i64 t363, .slice Ao21 t378.length co21], .int .i64 1] rfl (by (try simp only [List.map_toArray, List.map_cons, List.map_nil]); first | done | (rw [show t378.length = t364.length from (Kd.R_reads' HO_369003.out).1.symm] <;> rfl) | rfl | (simp only [List.length_drop, List.length_take]; rfl)) ?_; (with_reducible refine (laws_heldFrame.calls kj37 t361 t362 t363 _ _ t378 1 t379 _ ?side1 ?side2 A55.out).mono ?_); (case side1 => repeat (first | exact (Kd.R_reads' HO_369003.out).2.2 | (with_reducible refine Kd.C_alloc ?_ _) | (with_reducible refine Kd.C_drewN ?_ _) | (with_reducible refine Kd.C_drew ?_))); (case side2 => rw [show t378.length = t364.length from (Kd.R_reads' HO_369003.out).1.symm]; exact (Kd.R_reads' HO_369003.out).2.1); rintro e w65 ⟨rfl, hb⟩; refine ⟨_, rfl, ?_⟩; have n_ := ak5 (Kd.R_below (kqR HO_358003.out) hb) (Kd.R_below (kqR HO_369003.out) hb) (blk_below (g := gb357) (o := .cells #[.int .i64 t350, .int .i64 t351, .int .i64 t352, .slice Ao13 t353.length co13] 57 (0, 0)) (zq BK357.out) hb) (blk_below (g := gb368) (o := .cells #[.int .i64 t361, .int .i64 t362, .int .i64 t363, .slice Ao21 t364.length co21] 57 (0, 0)) (zq BK368.out) hb) (below_step (bq2 HB.out GE357.out GE368.out) hb); clear HO_358003 HO_369003 BK357 BK368 HB; obtain ⟨HO_358003, HO_369003, BK357, BK368, HB⟩ := n_; (try clear hb)) | ((with_reducible refine gate_callee (f := 34) rfl ?_); refine goesL_ (some 72) rfl rfl Try.func34 (by kernel_rfl) rfl #[.slice A0 l0.length c0] rfl ga ?_; (with_reducible refine (laws_toByteS.calls kj37 _ _ l0 t380 _ ?side1 ?side2 A58.out).mono ?_); (case side1 => exact cq (Kd.C_below HR0.out HB.out)); (case side2 => exact HC0.out); rintro e w66 ⟨v381, rfl, ho0, hb⟩; refine ⟨_, rfl, ?_⟩; have n_ := ak6 (Kd.R_elder' (kqR HO_358003.out) (Kd.R_base ho0) hb) (Kd.R_elder' (kqR HO_369003.out) (Kd.R_base ho0) hb) (Kd.R_lower (Kd.R_new' (Kd.R_new' ho0 (Kd.R_lt (kqR HO_358003.out))) (Kd.R_lt (kqR HO_369003.out))) (below_size (bq2 HB.out GE357.out GE368.out))) (blk_below (g := gb357) (o := .cells #[.int .i64 t350, .int .i64 t351, .int .i64 t352, .slice Ao13 t353.length co13] 57 (0, 0)) (zq BK357.out) hb) (blk_below (g := gb368) (o := .cells #[.int .i64 t361, .int .i64 t362, .int .i64 t363, .slice Ao21 t364.length co21] 57 (0, 0)) (zq BK368.out) hb) (below_step (bq2 HB.out GE357.out GE368.out) hb); clear HO_358003 HO_369003 BK357 BK368 HB; obtain ⟨HO_358003, HO_369003, HO382, BK357, BK368, HB⟩ := n_; (try clear hb ho0); obtain ⟨Ao67, co67, eo67⟩ := Kd.R_slice HO382.out; subst eo67) | ((with_reducible refine gate_callee (f := 44) rfl ?_); refine goesL_ (some 73) rfl rfl Try.func44 (by kernel_rfl) rfl #[.slice Ao67 t380.length co67] rfl ga ?_; (with_reducible refine (impl_GetFrame.calls kj37 _ _ t380 t383 t384 t385 t386 t389 _ ?side1 ?side2 A59.out).mono ?_); (case side1 => repeat (first | exact (Kd.R_reads' HO382.out).2.2 | (with_reducible refine Kd.C_alloc ?_ _) | (with_reducible refine Kd.C_drewN ?_ _) | (with_reducible refine Kd.C_drew ?_))); (case side2 => exact (Kd.R_reads' HO382.out).2.1); rintro e w68 ⟨v387, rfl, ho0, hb⟩; refine ⟨_, rfl, ?_⟩; have n_ := ak7 (Kd.R_elder' (kqR HO_358003.out) (Kd.R_base ho0) hb) (Kd.R_elder' (kqR HO_369003.out) (Kd.R_base ho0) hb) (Kd.R_elder' (kqR HO382.out) (Kd.R_base ho0) hb) (Kd.R_lower (Kd.R_new' (Kd.R_new' (Kd.R_new' ho0 (Kd.R_lt (kqR HO_358003.out))) (Kd.R_lt (kqR HO_369003.out))) (Kd.R_lt (kqR HO382.out))) (below_size (bq2 HB.out GE357.out GE368.out))) (blk_below (g := gb357) (o := .cells #[.int .i64 t350, .int .i64 t351, .int .i64 t352, .slice Ao13 t353.length co13] 57 (0, 0)) (zq BK357.out) hb) (blk_below (g := gb368) (o := .cells #[.int .i64 t361, .int .i64 t362, .int .i64 t363, .slice Ao21 t364.length co21] 57 (0, 0)) (zq BK368.out) hb) (below_step (bq2 HB.out GE357.out GE368.out) hb); clear HO_358003 HO_369003 HO382 BK357 BK368 HB; obtain ⟨HO_358003, HO_369003, HO382, HO388, BK357, BK368, HB⟩ := n_; (try clear hb ho0)) | ((with_reducible refine gate_dst (N := 11) rfl ?_); refine box_event ?hg (N := 11) ?hd (cs := #[.int .i64 0, .int .i64 0, .int .i64 0, .slice none 0 0]) (t := 57) ?hr ?_; (case hd => rfl); (case hg => rfl); (case hr => exact gs); intro gb390 hg w69 hbox hb; have n_ := ak14 (Kd.R_below (kqR HO_358003.out) hb) (Kd.R_below (kqR HO_369003.out) hb) (Kd.R_below (kqR HO382.out) hb) (Kd.R_below (kqR HO388.out) hb) (blk_below (g := gb357) (o := .cells #[.int .i64 t350, .int .i64 t351, .int .i64 t352, .slice Ao13 t353.length co13] 57 (0, 0)) (zq BK357.out) hb) (blk_below (g := gb368) (o := .cells #[.int .i64 t361, .int .i64 t362, .int .i64 t363, .slice Ao21 t364.length co21] 57 (0, 0)) (zq BK368.out) hb) (below_step (bq2 HB.out GE357.out GE368.out) hb) hbox ((by rw [hg]; exact (below_size (bq2 HB.out GE357.out GE368.out)) : w.heap.size ≤ gb390)) ((by rw [hg]; exact (below_size (bq2 HB.out GE357.out GE368.out)) : w.heap.size ≤ gb390)) ((by rw [hg]; exact Nat.ne_of_lt (blk_lt (g := gb357) (o := .cells #[.int .i64 t350, .int .i64 t351, .int .i64 t352, .slice Ao13 t353.length co13] 57 (0, 0)) (zq BK357.out)) : gb357 ≠ gb390)) ((by rw [hg]; exact Nat.ne_of_gt (blk_lt (g := gb357) (o := .cells #[.int .i64 t350, .int .i64 t351, .int .i64 t352, .slice Ao13 t353.length co13] 57 (0, 0)) (zq BK357.out)) : gb390 ≠ gb357)) ((by rw [hg]; exact Nat.ne_of_lt (blk_lt (g := gb368) (o := .cells #[.int .i64 t361, .int .i64 t362, .int .i64 t363, .slice Ao21 t364.length co21] 57 (0, 0)) (zq BK368.out)) : gb368 ≠ gb390)) ((by rw [hg]; exact Nat.ne_of_gt (blk_lt (g := gb368) (o := .cells #[.int .i64 t361, .int .i64 t362, .int .i64 t363, .slice Ao21 t364.length co21] 57 (0, 0)) (zq BK368.out)) : gb390 ≠ gb368)); clear HO_358003 HO_369003 HO382 HO388 BK357 BK368 HB; obtain ⟨HO_358003, HO_369003, HO382, HO388, BK357, BK368, HB, BK390, GW390, GE390, NB357_390, NB390_357, NB368_390, NB390_368⟩ := n_; clear hb hbox hg; have hnb70 := NB390_357.out; have hnc70 := NB357_390.out; have hnb71 := NB390_368.out; have hnc71 := NB368_390.out; have hcz72_0 : w69.cell? ⟨gb390, 0, none⟩ = some (.int .i64 0) := (blk_cell BK390.out 0).trans rfl; have hcz72_1 : w69.cell? ⟨gb390, 1, none⟩ = some (.int .i64 0) := (blk_cell BK390.out 1).trans rfl; have hcz72_2 : w69.cell? ⟨gb390, 2, none⟩ = some (.int .i64 0) := (blk_cell BK390.out 2).trans rfl; have hcz72_3 : w69.cell? ⟨gb390, 3, none⟩ = some (.slice none 0 0) := (blk_cell BK390.out 3).trans rfl; have hfz72_0 := blk_frozen BK390.out 0; have hfz72_1 := blk_frozen BK390.out 1; have hfz72_2 := blk_frozen BK390.out 2; have hfz72_3 := blk_frozen BK390.out 3; obtain ⟨Ao73, co73, eo73⟩ := Kd.R_slice HO388.out; subst eo73) | ((with_reducible refine gate_store (t := 57) (p := 11) rfl ?_); refine store_event (t := 57) (p := 11) (v := ?vo_w74) (w1 := ((((w69.setCell ⟨gb390, 0, none⟩ (.int .i64 t383)).setCell ⟨gb390, 1, none⟩ (.int .i64 t384)).setCell ⟨gb390, 2, none⟩ (.int .i64 t385)).setCell ⟨gb390, 3, none⟩ (.slice Ao73 t386.length co73))) ?hg ?ho ?hn ?hr ?_; (case ho => rfl); (case hg => rfl); (case hn => rfl); (case hr => exact gs); intro w74 hw; have n0_ : Aside0 (Kd.R (Kd.int .u8) 5 w74 w.heap.size (fun k_ => some k_ ≠ (.slice Ao21 t364.length co21 : Value).ownBlock ∧ some k_ ≠ (.slice Ao67 t380.length co67 : Value).ownBlock ∧ some k_ ≠ (.slice Ao73 t386.length co73 : Value).ownBlock) (.slice Ao13 t353.length co13) t353) := ⟨(by rw [hw]; exact (by (with_reducible repeat (first | apply Kd.R_alloc | apply Kd.R_drewN | apply Kd.R_drew)); exact Kd.R_mono (Kd.R_far (p := ⟨gb390, 3, none⟩) (Kd.R_far (p := ⟨gb390, 2, none⟩) (Kd.R_far (p := ⟨gb390, 1, none⟩) (Kd.R_far (p := ⟨gb390, 0, none⟩) (Kd.R_types HO_358003.out BK390.out (by decide)) (fun _ hk => hk.2) (.int .i64 t383)) (fun _ hk => hk.2) (.int .i64 t384)) (fun _ hk => hk.2) (.int .i64 t385)) (fun _ hk => hk.2) (.slice Ao73 t386.length co73)) (fun _ hk => ⟨hk.1.1.1, ⟨hk.1.1.2, hk.1.2⟩⟩)))⟩; have n1_ : Aside0 (Kd.R (Kd.int .u8) 5 w74 w.heap.size (fun k_ => some k_ ≠ (.slice Ao13 t353.length co13 : Value).ownBlock ∧ some k_ ≠ (.slice Ao67 t380.length co67 : Value).ownBlock ∧ some k_ ≠ (.slice Ao73 t386.length co73 : Value).ownBlock) (.slice Ao21 t364.length co21) t378) := ⟨(by rw [hw]; exact (by (with_reducible repeat (first | apply Kd.R_alloc | apply Kd.R_drewN | apply Kd.R_drew)); exact Kd.R_mono (Kd.R_far (p := ⟨gb390, 3, none⟩) (Kd.R_far (p := ⟨gb390, 2, none⟩) (Kd.R_far (p := ⟨gb390, 1, none⟩) (Kd.R_far (p := ⟨gb390, 0, none⟩) (Kd.R_types HO_369003.out BK390.out (by decide)) (fun _ hk => hk.2) (.int .i64 t383)) (fun _ hk => hk.2) (.int .i64 t384)) (fun _ hk => hk.2) (.int .i64 t385)) (fun _ hk => hk.2) (.slice Ao73 t386.length co73)) (fun _ hk => ⟨hk.1.1.1, ⟨hk.1.1.2, hk.1.2⟩⟩)))⟩; have n2_ : Aside0 (Kd.R (Kd.int .u8) 5 w74 w.heap.size (fun k_ => some k_ ≠ (.slice Ao13 t353.length co13 : Value).ownBlock ∧ some k_ ≠ (.slice Ao21 t364.length co21 : Value).ownBlock ∧ some k_ ≠ (.slice Ao73 t386.length co73 : Value).ownBlock) (.slice Ao67 t380.length co67) t380) := ⟨(by rw [hw]; exact (by (with_reducible repeat (first | apply Kd.R_alloc | apply Kd.R_drewN | apply Kd.R_drew)); exact Kd.R_mono (Kd.R_far (p := ⟨gb390, 3, none⟩) (Kd.R_far (p := ⟨gb390, 2, none⟩) (Kd.R_far (p := ⟨gb390, 1, none⟩) (Kd.R_far (p := ⟨gb390, 0, none⟩) (Kd.R_types HO382.out BK390.out (by decide)) (fun _ hk => hk.2) (.int .i64 t383)) (fun _ hk => hk.2) (.int .i64 t384)) (fun _ hk => hk.2) (.int .i64 t385)) (fun _ hk => hk.2) (.slice Ao73 t386.length co73)) (fun _ hk => ⟨hk.1.1.1.2, ⟨hk.1.1.2, hk.1.2⟩⟩)))⟩; have n3_ : Aside0 (Kd.R (Kd.int .u8) 5 w74 w.heap.size (fun k_ => some k_ ≠ (.slice Ao13 t353.length co13 : Value).ownBlock ∧ some k_ ≠ (.slice Ao21 t364.length co21 : Value).ownBlock ∧ some k_ ≠ (.slice Ao67 t380.length co67 : Value).ownBlock) (.slice Ao73 t386.length co73) t386) := ⟨(by rw [hw]; exact (by (with_reducible repeat (first | apply Kd.R_alloc | apply Kd.R_drewN | apply Kd.R_drew)); exact Kd.R_mono (Kd.R_far (p := ⟨gb390, 3, none⟩) (Kd.R_far (p := ⟨gb390, 2, none⟩) (Kd.R_far (p := ⟨gb390, 1, none⟩) (Kd.R_far (p := ⟨gb390, 0, none⟩) (Kd.R_types HO388.out BK390.out (by decide)) (fun _ hk => hk.2) (.int .i64 t383)) (fun _ hk => hk.2) (.int .i64 t384)) (fun _ hk => hk.2) (.int .i64 t385)) (fun _ hk => hk.2) (.slice Ao73 t386.length co73)) (fun _ hk => ⟨hk.1.1.1.2, ⟨hk.1.1.2, hk.1.2⟩⟩)))⟩; have n4_ : Aside0 (w74.heap[gb357]? = some (.cells #[.int .i64 t350, .int .i64 t351, .int .i64 t352, .slice Ao13 t353.length co13] 57 (0, 0))) := ⟨(by rw [hw]; exact (by (with_reducible repeat (first | refine blk_drewN ?_ _ | refine blk_drew ?_ | refine blk_alloc ?_ _)); refine blk_far ?_ NB357_390.out _; (with_reducible repeat (first | refine blk_drewN ?_ _ | refine blk_drew ?_ | refine blk_alloc ?_ _)); refine blk_far ?_ NB357_390.out _; (with_reducible repeat (first | refine blk_drewN ?_ _ | refine blk_drew ?_ | refine blk_alloc ?_ _)); refine blk_far ?_ NB357_390.out _; (with_reducible repeat (first | refine blk_drewN ?_ _ | refine blk_drew ?_ | refine blk_alloc ?_ _)); refine blk_far ?_ NB357_390.out _; (with_reducible repeat (first | refine blk_drewN ?_ _ | refine blk_drew ?_ | refine blk_alloc ?_ _)); exact BK357.out))⟩; have n5_ : Aside0 (w74.heap[gb368]? = some (.cells #[.int .i64 t361, .int .i64 t362, .int .i64 t363, .slice Ao21 t364.length co21] 57 (0, 0))) := ⟨(by rw [hw]; exact (by (with_reducible repeat (first | refine blk_drewN ?_ _ | refine blk_drew ?_ | refine blk_alloc ?_ _)); refine blk_far ?_ NB368_390.out _; (with_reducible repeat (first | refine blk_drewN ?_ _ | refine blk_drew ?_ | refine blk_alloc ?_ _)); refine blk_far ?_ NB368_390.out _; (with_reducible repeat (first | refine blk_drewN ?_ _ | refine blk_drew ?_ | refine blk_alloc ?_ _)); refine blk_far ?_ NB368_390.out _; (with_reducible repeat (first | refine blk_drewN ?_ _ | refine blk_drew ?_ | refine blk_alloc ?_ _)); refine blk_far ?_ NB368_390.out _; (with_reducible repeat (first | refine blk_drewN ?_ _ | refine blk_drew ?_ | refine blk_alloc ?_ _)); exact BK368.out))⟩; have n6_ : Aside0 (w74.heap[gb390]? = some (.cells #[.int .i64 t383, .int .i64 t384, .int .i64 t385, .slice Ao73 t386.length co73] 57 (0, 0))) := ⟨(by rw [hw]; exact (by (with_reducible repeat (first | refine blk_drewN ?_ _ | refine blk_drew ?_ | refine blk_alloc ?_ _)); refine blk_put (cs := #[.int .i64 t383, .int .i64 t384, .int .i64 t385, .slice none 0 0]) ?_ 3 _ rfl; (with_reducible repeat (first | refine blk_drewN ?_ _ | refine blk_drew ?_ | refine blk_alloc ?_ _)); refine blk_put (cs := #[.int .i64 t383, .int .i64 t384, .int .i64 0, .slice none 0 0]) ?_ 2 _ rfl; (with_reducible repeat (first | refine blk_drewN ?_ _ | refine blk_drew ?_ | refine blk_alloc ?_ _)); refine blk_put (cs := #[.int .i64 t383, .int .i64 0, .int .i64 0, .slice none 0 0]) ?_ 1 _ rfl; (with_reducible repeat (first | refine blk_drewN ?_ _ | refine blk_drew ?_ | refine blk_alloc ?_ _)); refine blk_put (cs := #[.int .i64 0, .int .i64 0, .int .i64 0, .slice none 0 0]) ?_ 0 _ rfl; (with_reducible repeat (first | refine blk_drewN ?_ _ | refine blk_drew ?_ | refine blk_alloc ?_ _)); exact BK390.out))⟩; have n7_ : Aside0 (Below w.heap.size w w74) := ⟨(by rw [hw]; exact (bq3 HB.out GE357.out GE368.out GE390.out))⟩; clear hw; clear HO_358003; clear HO_369003; clear HO382; clear HO388; clear BK357; clear BK368; clear BK390; clear HB; have HO_358003 := n0_; have HO_369003 := n1_; have HO382 := n2_; have HO388 := n3_; have BK357 := n4_; have BK368 := n5_; have BK390 := n6_; have HB := n7_; clear n0_ n1_ n2_ n3_ n4_ n5_ n6_ n7_))
         (try simp only [Act.put, List.setIfInBounds_toArray, List.set_cons_zero, List.set_cons_succ])
         go_cut [84] (fun v84 wc => ∃ (kq : Nat) (x84_59 : Bool), v84 = .bool x84_59 ∧ Aside0 (laws_FnExactGetFrame.j2 kq t377 x84_59 t361 t362 t363 t378 = some r) ∧ Aside0 (kq ≤ kj37) ∧ Aside0 (Kd.R (Kd.int .u8) 5 wc w.heap.size (fun k_ => some k_ ≠ ((.slice Ao21 t364.length co21) : Value).ownBlock ∧ some k_ ≠ ((.slice Ao73 t386.length co73) : Value).ownBlock) (.slice Ao13 t353.length co13) t353) ∧ Aside0 (Kd.R (Kd.int .u8) 5 wc w.heap.size (fun k_ => some k_ ≠ ((.slice Ao13 t353.length co13) : Value).ownBlock ∧ some k_ ≠ ((.slice Ao73 t386.length co73) : Value).ownBlock) (.slice Ao21 t364.length co21) t378) ∧ Aside0 (Kd.R (Kd.int .u8) 5 wc w.heap.size (fun k_ => some k_ ≠ ((.slice Ao13 t353.length co13) : Value).ownBlock ∧ some k_ ≠ ((.slice Ao21 t364.length co21) : Value).ownBlock) (.slice Ao73 t386.length co73) t386) ∧ Aside0 (wc.heap[gb357]? = some (.cells #[.int .i64 t350, .int .i64 t351, .int .i64 t352, (.slice Ao13 t353.length co13)] 57 (0, 0))) ∧ Aside0 (wc.heap[gb368]? = some (.cells #[.int .i64 t361, .int .i64 t362, .int .i64 t363, (.slice Ao21 t364.length co21)] 57 (0, 0))) ∧ Aside0 (wc.heap[gb390]? = some (.cells #[.int .i64 t383, .int .i64 t384, .int .i64 t385, (.slice Ao73 t386.length co73)] 57 (0, 0))) ∧ Aside0 (Below w.heap.size w wc))
         case first =>
          have H := HC60.out
          clear HC60
          replace H := Option.bind_eq_some_iff.mp H
          obtain ⟨t391, A750, H⟩ := H
          replace H : (if t391 = true then (laws_FnExactGetFrame.j2 kj37 t377 (t389 != t356) t361 t362 t363 t378) else (laws_FnExactGetFrame.j2 kj37 t377 true t361 t362 t363 t378)) = some r := H
          have A75 := am A750
          clear A750
          by_cases c76 : t391 = true
          · subst c76
            have H1 : (laws_FnExactGetFrame.j2 kj37 t377 (t389 != t356) t361 t362 t363 t378) = some r := by rw [if_pos rfl] at H; exact H
            clear H
            have H := H1
            clear H1
            have H' := am H
            clear H
            have hnb77 := NB390_357.out
            have hnc77 := NB357_390.out
            have hnb78 := NB390_368.out
            have hnc78 := NB368_390.out
            have hcz79_0 : w74.cell? ⟨gb390, 0, none⟩ = some (.int .i64 t383) := (blk_cell BK390.out 0).trans rfl
            have hcz79_1 : w74.cell? ⟨gb390, 1, none⟩ = some (.int .i64 t384) := (blk_cell BK390.out 1).trans rfl
            have hcz79_2 : w74.cell? ⟨gb390, 2, none⟩ = some (.int .i64 t385) := (blk_cell BK390.out 2).trans rfl
            have hcz79_3 : w74.cell? ⟨gb390, 3, none⟩ = some (.slice Ao73 t386.length co73) := (blk_cell BK390.out 3).trans rfl
            have hfz79_0 := blk_frozen BK390.out 0
            have hfz79_1 := blk_frozen BK390.out 1
            have hfz79_2 := blk_frozen BK390.out 2
            have hfz79_3 := blk_frozen BK390.out 3
            have hnb80 := NB357_368.out
            have hnc80 := NB368_357.out
            have hcz81_0 : w74.cell? ⟨gb357, 0, none⟩ = some (.int .i64 t350) := (blk_cell BK357.out 0).trans rfl
            have hcz81_1 : w74.cell? ⟨gb357, 1, none⟩ = some (.int .i64 t351) := (blk_cell BK357.out 1).trans rfl
            have hcz81_2 : w74.cell? ⟨gb357, 2, none⟩ = some (.int .i64 t352) := (blk_cell BK357.out 2).trans rfl
            have hcz81_3 : w74.cell? ⟨gb357, 3, none⟩ = some (.slice Ao13 t353.length co13) := (blk_cell BK357.out 3).trans rfl
            have hfz81_0 := blk_frozen BK357.out 0
            have hfz81_1 := blk_frozen BK357.out 1
            have hfz81_2 := blk_frozen BK357.out 2
            have hfz81_3 := blk_frozen BK357.out 3
            go_wp2_with (first | ((with_reducible refine gate_callee (f := 45) rfl ?_); refine goesL_ (some 78) rfl rfl Try.func45 (by kernel_rfl) rfl #[.agg #[.int .i64 t383, .int .i64 t384, .int .i64 t385, .slice Ao73 t386.length co73], .agg #[.int .i64 t350, .int .i64 t351, .int .i64 t352, .slice Ao13 t353.length co13]] rfl ga ?_; (with_reducible refine (laws_eqFrame.calls kj37 t383 t384 t385 _ _ t386 t350 t351 t352 _ _ t353 true _ ?side1 ?side2 ?side3 ?side4 A75.out).mono ?_); (case side1 => repeat (first | exact (Kd.R_reads' HO388.out).2.2 | (with_reducible refine Kd.C_alloc ?_ _) | (with_reducible refine Kd.C_drewN ?_ _) | (with_reducible refine Kd.C_drew ?_))); (case side2 => exact (Kd.R_reads' HO388.out).2.1); (case side3 => repeat (first | exact (Kd.R_reads' HO_358003.out).2.2 | (with_reducible refine Kd.C_alloc ?_ _) | (with_reducible refine Kd.C_drewN ?_ _) | (with_reducible refine Kd.C_drew ?_))); (case side4 => exact (Kd.R_reads' HO_358003.out).2.1); rintro e w82 ⟨rfl, hb⟩; refine ⟨_, rfl, ?_⟩; have n_ := ak8 (Kd.R_below (kqR HO_358003.out) hb) (Kd.R_below (kqR HO_369003.out) hb) (Kd.R_below (kqR HO382.out) hb) (Kd.R_below (kqR HO388.out) hb) (blk_below (g := gb357) (o := .cells #[.int .i64 t350, .int .i64 t351, .int .i64 t352, .slice Ao13 t353.length co13] 57 (0, 0)) (zq BK357.out) hb) (blk_below (g := gb368) (o := .cells #[.int .i64 t361, .int .i64 t362, .int .i64 t363, .slice Ao21 t364.length co21] 57 (0, 0)) (zq BK368.out) hb) (blk_below (g := gb390) (o := .cells #[.int .i64 t383, .int .i64 t384, .int .i64 t385, .slice Ao73 t386.length co73] 57 (0, 0)) (zq BK390.out) hb) (below_step (bq3 HB.out GE357.out GE368.out GE390.out) hb); clear HO_358003 HO_369003 HO382 HO388 BK357 BK368 BK390 HB; obtain ⟨HO_358003, HO_369003, HO382, HO388, BK357, BK368, BK390, HB⟩ := n_; (try clear hb)))
            go_meet
            case rel => exact ⟨_, ((t389 != t356)), sq, H', ⟨by have := HJ6.out; have := HJ37.out; first | omega | exact Nat.le_refl _⟩, ⟨by (with_reducible repeat (first | apply Kd.R_alloc | apply Kd.R_drewN | apply Kd.R_drew)); exact Kd.R_mono HO_358003.out (fun _ hk => ⟨hk.1, hk.2.2⟩)⟩, ⟨by (with_reducible repeat (first | apply Kd.R_alloc | apply Kd.R_drewN | apply Kd.R_drew)); exact Kd.R_mono HO_369003.out (fun _ hk => ⟨hk.1, hk.2.2⟩)⟩, ⟨by (with_reducible repeat (first | apply Kd.R_alloc | apply Kd.R_drewN | apply Kd.R_drew)); exact Kd.R_mono HO388.out (fun _ hk => ⟨hk.1, hk.2.1⟩)⟩, ⟨zq BK357.out⟩, ⟨zq BK368.out⟩, ⟨zq BK390.out⟩, ⟨bq3 HB.out GE357.out GE368.out GE390.out⟩⟩
          replace c76 := Bool.eq_false_iff.mpr c76
          subst c76
          have H1 : (laws_FnExactGetFrame.j2 kj37 t377 true t361 t362 t363 t378) = some r := by rw [if_neg (show ¬ (false = true) by decide)] at H; exact H
          clear H
          have H := H1
          clear H1
          have H' := am H
          clear H
          have hnb83 := NB390_357.out
          have hnc83 := NB357_390.out
          have hnb84 := NB390_368.out
          have hnc84 := NB368_390.out
          have hcz85_0 : w74.cell? ⟨gb390, 0, none⟩ = some (.int .i64 t383) := (blk_cell BK390.out 0).trans rfl
          have hcz85_1 : w74.cell? ⟨gb390, 1, none⟩ = some (.int .i64 t384) := (blk_cell BK390.out 1).trans rfl
          have hcz85_2 : w74.cell? ⟨gb390, 2, none⟩ = some (.int .i64 t385) := (blk_cell BK390.out 2).trans rfl
          have hcz85_3 : w74.cell? ⟨gb390, 3, none⟩ = some (.slice Ao73 t386.length co73) := (blk_cell BK390.out 3).trans rfl
          have hfz85_0 := blk_frozen BK390.out 0
          have hfz85_1 := blk_frozen BK390.out 1
          have hfz85_2 := blk_frozen BK390.out 2
          have hfz85_3 := blk_frozen BK390.out 3
          have hnb86 := NB357_368.out
          have hnc86 := NB368_357.out
          have hcz87_0 : w74.cell? ⟨gb357, 0, none⟩ = some (.int .i64 t350) := (blk_cell BK357.out 0).trans rfl
          have hcz87_1 : w74.cell? ⟨gb357, 1, none⟩ = some (.int .i64 t351) := (blk_cell BK357.out 1).trans rfl
          have hcz87_2 : w74.cell? ⟨gb357, 2, none⟩ = some (.int .i64 t352) := (blk_cell BK357.out 2).trans rfl
          have hcz87_3 : w74.cell? ⟨gb357, 3, none⟩ = some (.slice Ao13 t353.length co13) := (blk_cell BK357.out 3).trans rfl
          have hfz87_0 := blk_frozen BK357.out 0
          have hfz87_1 := blk_frozen BK357.out 1
          have hfz87_2 := blk_frozen BK357.out 2
          have hfz87_3 := blk_frozen BK357.out 3
          go_wp2_with (first | ((with_reducible refine gate_callee (f := 45) rfl ?_); refine goesL_ (some 78) rfl rfl Try.func45 (by kernel_rfl) rfl #[.agg #[.int .i64 t383, .int .i64 t384, .int .i64 t385, .slice Ao73 t386.length co73], .agg #[.int .i64 t350, .int .i64 t351, .int .i64 t352, .slice Ao13 t353.length co13]] rfl ga ?_; (with_reducible refine (laws_eqFrame.calls kj37 t383 t384 t385 _ _ t386 t350 t351 t352 _ _ t353 false _ ?side1 ?side2 ?side3 ?side4 A75.out).mono ?_); (case side1 => repeat (first | exact (Kd.R_reads' HO388.out).2.2 | (with_reducible refine Kd.C_alloc ?_ _) | (with_reducible refine Kd.C_drewN ?_ _) | (with_reducible refine Kd.C_drew ?_))); (case side2 => exact (Kd.R_reads' HO388.out).2.1); (case side3 => repeat (first | exact (Kd.R_reads' HO_358003.out).2.2 | (with_reducible refine Kd.C_alloc ?_ _) | (with_reducible refine Kd.C_drewN ?_ _) | (with_reducible refine Kd.C_drew ?_))); (case side4 => exact (Kd.R_reads' HO_358003.out).2.1); rintro e w88 ⟨rfl, hb⟩; refine ⟨_, rfl, ?_⟩; have n_ := ak8 (Kd.R_below (kqR HO_358003.out) hb) (Kd.R_below (kqR HO_369003.out) hb) (Kd.R_below (kqR HO382.out) hb) (Kd.R_below (kqR HO388.out) hb) (blk_below (g := gb357) (o := .cells #[.int .i64 t350, .int .i64 t351, .int .i64 t352, .slice Ao13 t353.length co13] 57 (0, 0)) (zq BK357.out) hb) (blk_below (g := gb368) (o := .cells #[.int .i64 t361, .int .i64 t362, .int .i64 t363, .slice Ao21 t364.length co21] 57 (0, 0)) (zq BK368.out) hb) (blk_below (g := gb390) (o := .cells #[.int .i64 t383, .int .i64 t384, .int .i64 t385, .slice Ao73 t386.length co73] 57 (0, 0)) (zq BK390.out) hb) (below_step (bq3 HB.out GE357.out GE368.out GE390.out) hb); clear HO_358003 HO_369003 HO382 HO388 BK357 BK368 BK390 HB; obtain ⟨HO_358003, HO_369003, HO382, HO388, BK357, BK368, BK390, HB⟩ := n_; (try clear hb)))
          go_meet
          case rel => exact ⟨_, (true), sq, H', ⟨by have := HJ6.out; have := HJ37.out; first | omega | exact Nat.le_refl _⟩, ⟨by (with_reducible repeat (first | apply Kd.R_alloc | apply Kd.R_drewN | apply Kd.R_drew)); exact Kd.R_mono HO_358003.out (fun _ hk => ⟨hk.1, hk.2.2⟩)⟩, ⟨by (with_reducible repeat (first | apply Kd.R_alloc | apply Kd.R_drewN | apply Kd.R_drew)); exact Kd.R_mono HO_369003.out (fun _ hk => ⟨hk.1, hk.2.2⟩)⟩, ⟨by (with_reducible repeat (first | apply Kd.R_alloc | apply Kd.R_drewN | apply Kd.R_drew)); exact Kd.R_mono HO388.out (fun _ hk => ⟨hk.1, hk.2.1⟩)⟩, ⟨zq BK357.out⟩, ⟨zq BK368.out⟩, ⟨zq BK390.out⟩, ⟨bq3 HB.out GE357.out GE368.out GE390.out⟩⟩
         case rest =>
          clear HC60
          try clear c1
          try clear c2
          try clear c2b0
          try clear c2b1
          try clear p2
          try clear c3
          try clear c4
          try clear c5
          try clear c6
          try clear c7
          try clear c8
          try clear c10
          try clear c19
          try clear c24
          try clear c25
          try clear c29
          try clear c33
          try clear c34
          try clear c36
          try clear c37
          try clear c42
          try clear c42b0
          try clear c43
          try clear c44
          try clear c45
          try clear c46
          try clear c47
          try clear c48
          try clear c49
          try clear c53
          try clear c56
          try clear c56b0
          try clear c57
          try clear c57b0
          try clear c57b1
          try clear c61
          try clear c70
          try clear c71
          try clear c76
          try clear c77
          try clear c78
          try clear c80
          try clear c83
          try clear c84
          try clear c86
          try clear hcz12_0
          try clear hcz12_1
          try clear hcz12_2
          try clear hcz12_3
          try clear hcz20_0
          try clear hcz20_1
          try clear hcz20_2
          try clear hcz20_3
          try clear hcz26_0
          try clear hcz26_1
          try clear hcz26_2
          try clear hcz26_3
          try clear hcz27_0
          try clear hcz27_1
          try clear hcz27_2
          try clear hcz27_3
          try clear hcz30_0
          try clear hcz30_1
          try clear hcz30_2
          try clear hcz30_3
          try clear hcz31_0
          try clear hcz31_1
          try clear hcz31_2
          try clear hcz31_3
          try clear hcz46_0
          try clear hcz46_1
          try clear hcz46_2
          try clear hcz46_3
          try clear hcz47_0
          try clear hcz47_1
          try clear hcz47_2
          try clear hcz47_3
          try clear hcz50_0
          try clear hcz50_1
          try clear hcz50_2
          try clear hcz50_3
          try clear hcz51_0
          try clear hcz51_1
          try clear hcz51_2
          try clear hcz51_3
          try clear hcz62_0
          try clear hcz62_1
          try clear hcz62_2
          try clear hcz62_3
          try clear hcz64_0
          try clear hcz64_1
          try clear hcz64_2
          try clear hcz64_3
          try clear hcz72_0
          try clear hcz72_1
          try clear hcz72_2
          try clear hcz72_3
          try clear hcz79_0
          try clear hcz79_1
          try clear hcz79_2
          try clear hcz79_3
          try clear hcz81_0
          try clear hcz81_1
          try clear hcz81_2
          try clear hcz81_3
          try clear hcz85_0
          try clear hcz85_1
          try clear hcz85_2
          try clear hcz85_3
          try clear hcz87_0
          try clear hcz87_1
          try clear hcz87_2
          try clear hcz87_3
          try clear hfz12_0
          try clear hfz12_1
          try clear hfz12_2
          try clear hfz12_3
          try clear hfz20_0
          try clear hfz20_1
          try clear hfz20_2
          try clear hfz20_3
          try clear hfz26_0
          try clear hfz26_1
          try clear hfz26_2
          try clear hfz26_3
          try clear hfz27_0
          try clear hfz27_1
          try clear hfz27_2
          try clear hfz27_3
          try clear hfz30_0
          try clear hfz30_1
          try clear hfz30_2
          try clear hfz30_3
          try clear hfz31_0
          try clear hfz31_1
          try clear hfz31_2
          try clear hfz31_3
          try clear hfz46_0
          try clear hfz46_1
          try clear hfz46_2
          try clear hfz46_3
          try clear hfz47_0
          try clear hfz47_1
          try clear hfz47_2
          try clear hfz47_3
          try clear hfz50_0
          try clear hfz50_1
          try clear hfz50_2
          try clear hfz50_3
          try clear hfz51_0
          try clear hfz51_1
          try clear hfz51_2
          try clear hfz51_3
          try clear hfz62_0
          try clear hfz62_1
          try clear hfz62_2
          try clear hfz62_3
          try clear hfz64_0
          try clear hfz64_1
          try clear hfz64_2
          try clear hfz64_3
          try clear hfz72_0
          try clear hfz72_1
          try clear hfz72_2
          try clear hfz72_3
          try clear hfz79_0
          try clear hfz79_1
          try clear hfz79_2
          try clear hfz79_3
          try clear hfz81_0
          try clear hfz81_1
          try clear hfz81_2
          try clear hfz81_3
          try clear hfz85_0
          try clear hfz85_1
          try clear hfz85_2
          try clear hfz85_3
          try clear hfz87_0
          try clear hfz87_1
          try clear hfz87_2
          try clear hfz87_3
          try clear p2
          obtain ⟨kq, x84_59, rfl, HA, HJ59, HO_358003, HO_369003, HO_391003, BK357, BK368, BK390, HB⟩ := hcut
          have hl369003_59 := (Kd.R_reads' HO_369003.out).1
          rw [hl369003_59] at HO_369003
          (try simp only [hl369003_59])
          (try simp only [hl369003_59] at BK357)
          (try simp only [hl369003_59] at BK368)
          (try simp only [hl369003_59] at BK390)
          (try simp only [hl369003_59] at HO_358003)
          (try simp only [hl369003_59] at HO_391003)
          cases kq with
          | zero => exact absurd HA.out (by simp [laws_FnExactGetFrame.j2])
          | succ kj59 =>
           have H := HA.out
           clear HA
           simp only [laws_FnExactGetFrame.j2] at H
           by_cases c89 : x84_59 = true
           · subst c89
             have H1 : (some false) = some r := by rw [if_pos rfl] at H; exact H
             clear H
             have H := H1
             clear H1
             exact absurd ((Option.some.inj H).trans HRT.out) (by decide)
           replace c89 := Bool.eq_false_iff.mpr c89
           subst c89
           have H1 : ((laws_heldFrame.f kj59 t361 t362 t363 t378 1).bind fun t392 => (if t392 < 0 then (some false) else (if t392 = t377 then (some true) else (some false)))) = some r := by rw [if_neg (show ¬ (false = true) by decide)] at H; exact H
           clear H
           have H := H1
           clear H1
           replace H := Option.bind_eq_some_iff.mp H
           obtain ⟨t392, A900, H⟩ := H
           replace H : (if t392 < 0 then (some false) else (if t392 = t377 then (some true) else (some false))) = some r := H
           have A90 := am A900
           clear A900
           by_cases c91 : t392 < 0
           · rw [if_pos c91] at H
             have c91b0 : decide (t392 < 0) = true := decide_eq_true c91
             clear c91
             exact absurd ((Option.some.inj H).trans HRT.out) (by decide)
           rw [if_neg c91] at H
           have c91b0 : decide (t392 < 0) = false := decide_eq_false c91
           clear c91
           by_cases c92 : t392 = t377
           · rw [if_pos c92] at H
             have c92b0 : (t392 == t377) = true := beq_iff_eq.mpr c92
             have c92b1 : (t392 != t377) = false := bne_eq_false_iff_eq.mpr c92
             clear c92
             obtain rfl := Option.some.inj H
             have hnb93 := NB368_357.out
             have hnc93 := NB357_368.out
             have hnb94 := NB368_390.out
             have hnc94 := NB390_368.out
             have hcz95_0 : wc.cell? ⟨gb368, 0, none⟩ = some (.int .i64 t361) := (blk_cell BK368.out 0).trans rfl
             have hcz95_1 : wc.cell? ⟨gb368, 1, none⟩ = some (.int .i64 t362) := (blk_cell BK368.out 1).trans rfl
             have hcz95_2 : wc.cell? ⟨gb368, 2, none⟩ = some (.int .i64 t363) := (blk_cell BK368.out 2).trans rfl
             have hcz95_3 : wc.cell? ⟨gb368, 3, none⟩ = some (.slice Ao21 t378.length co21) := (blk_cell BK368.out 3).trans rfl
             have hfz95_0 := blk_frozen BK368.out 0
             have hfz95_1 := blk_frozen BK368.out 1
             have hfz95_2 := blk_frozen BK368.out 2
             have hfz95_3 := blk_frozen BK368.out 3
             go_wp2_with (first | ((with_reducible refine gate_callee (f := 48) rfl ?_); refine goesL_ (some 87) rfl rfl Try.func48 (by kernel_rfl) rfl #[.agg #[.int .i64 t361, .int .i64 t362, .int .i64 t363, .slice Ao21 t378.length co21], .int .i64 1] rfl ga ?_; (with_reducible refine (laws_heldFrame.calls kj59 t361 t362 t363 _ _ t378 1 t392 _ ?side1 ?side2 A90.out).mono ?_); (case side1 => repeat (first | exact (Kd.R_reads' HO_369003.out).2.2 | (with_reducible refine Kd.C_alloc ?_ _) | (with_reducible refine Kd.C_drewN ?_ _) | (with_reducible refine Kd.C_drew ?_))); (case side2 => exact (Kd.R_reads' HO_369003.out).2.1); rintro e w96 ⟨rfl, hb⟩; refine ⟨_, rfl, ?_⟩; have n_ := ak7 (Kd.R_below (kqR HO_358003.out) hb) (Kd.R_below (kqR HO_369003.out) hb) (Kd.R_below (kqR HO_391003.out) hb) (blk_below (g := gb357) (o := .cells #[.int .i64 t350, .int .i64 t351, .int .i64 t352, .slice Ao13 t353.length co13] 57 (0, 0)) (zq BK357.out) hb) (blk_below (g := gb368) (o := .cells #[.int .i64 t361, .int .i64 t362, .int .i64 t363, .slice Ao21 t378.length co21] 57 (0, 0)) (zq BK368.out) hb) (blk_below (g := gb390) (o := .cells #[.int .i64 t383, .int .i64 t384, .int .i64 t385, .slice Ao73 t386.length co73] 57 (0, 0)) (zq BK390.out) hb) (below_step (bq3 HB.out GE357.out GE368.out GE390.out) hb); clear HO_358003 HO_369003 HO_391003 BK357 BK368 BK390 HB; obtain ⟨HO_358003, HO_369003, HO_391003, BK357, BK368, BK390, HB⟩ := n_; (try clear hb)))
             go_ret
             exact ⟨rq, bq3 HB.out GE357.out GE368.out GE390.out⟩
           rw [if_neg c92] at H
           have c92b0 : (t392 == t377) = false := beq_eq_false_iff_ne.mpr c92
           have c92b1 : (t392 != t377) = true := bne_iff_ne.mpr c92
           exact absurd ((Option.some.inj H).trans HRT.out) (by decide)
       rw [if_neg c57] at H
       have c57b0 : (t379 == t377) = false := beq_eq_false_iff_ne.mpr c57
       have c57b1 : (t379 != t377) = true := bne_iff_ne.mpr c57
       exact absurd ((Option.some.inj H).trans HRT.out) (by decide)
   replace c36 := Bool.eq_false_iff.mpr c36
   subst c36
   have H1 : (some false) = some r := by rw [if_neg (show ¬ (false = true) by decide)] at H; exact H
   clear H
   have H := H1
   clear H1
   exact absurd ((Option.some.inj H).trans HRT.out) (by decide)

/-- THE ONE PURE STATEMENT of laws_FnExactGetFrame. -/
def laws_FnExactGetFrame.Pure : Prop := ∀ (l0 : List Int), l0.length ≤ maxLen → (∀ y ∈ l0, (Lit.int .u8 y).wf = true) → ∃ k, laws_FnExactGetFrame.f k l0 = some true

end Go.Proofs.Ytebffdmkfkfoaaa.XFnExactGetFrame
