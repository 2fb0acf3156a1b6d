/- The functions that one law reaches, as Lean functions, with their walks: printed by a program of this seat (wip/tools) out of the translation. -/
import Derived.Test.YthhnfmbfgplelaaXFnExactGetValx0
import Derived.Test.YthhnfmbfgplelaaXFnExactGetValx1
import Derived.Test.YthhnfmbfgplelaaXFnExactGetValx5
import Derived.Test.YthhnfmbfgplelaaXFnExactGetValx9
namespace Go.Proofs.Ythhnfmbfgplelaa.XFnExactGetVal
open Go.RowKit Go.Proofs.YthhnfmbfgplelaaW.PrintWords Go.Proofs.YthhnfmbfgplelaaW.PrintLast Go.Proofs.YthhnfmbfgplelaaW.PrintMore
attribute [local go_sem] max2_int min2_int max_two min_two max_three min_three max_four min_four   -- for this text's walks alone
set_option linter.unusedVariables false
set_option linter.unusedSimpArgs false

/-! ### laws_FnExactGetVal: function 5 -/
mutual
def laws_FnExactGetVal.j0 : Nat → List Int → Int → Int → Bool → List Int → Int → Bool → Bool → Int → Int → ByteArray → List Int → Int → Int → ByteArray → List Int → Option (Bool)
  | 0, _, _, _, _, _, _, _, _, _, _, _, _, _, _, _, _ => none
  | k + 1, x0, x1, x6, x7, x8, x10, x11, x51, x331000, x331001, x331002, x331003, x343000, x343001, x343002, x343003 => if x51 = true then (some false) else ((laws_toByteS.f k x0).bind fun t344 => ((laws_eqByteS.f k x8 t344).bind fun t347 => (if t347 = true then ((laws_markByteS.f k x8 1).bind fun bt348 => (if bt348.1 < 0 then (laws_FnExactGetVal.j1 k x0 x1 x6 x7 true x331000 x331001 x331002 x331003 x343000 x343001 x343002 x343003) else ((laws_eqVal.f k x343000 x343001 x343002 x343003 x331000 x331001 x331002 x331003).bind fun t350 => (if t350 = true then (if x10 = x6 then (laws_FnExactGetVal.j1 k x0 x1 x6 x7 (x11 != x7) x331000 x331001 x331002 x331003 x343000 x343001 x343002 x343003) else (laws_FnExactGetVal.j1 k x0 x1 x6 x7 true x331000 x331001 x331002 x331003 x343000 x343001 x343002 x343003)) else (laws_FnExactGetVal.j1 k x0 x1 x6 x7 true x331000 x331001 x331002 x331003 x343000 x343001 x343002 x343003))))) else (some false))))
def laws_FnExactGetVal.j1 : Nat → List Int → Int → Int → Bool → Bool → Int → Int → ByteArray → List Int → Int → Int → ByteArray → List Int → Option (Bool)
  | 0, _, _, _, _, _, _, _, _, _, _, _, _, _ => none
  | k + 1, x0, x1, x6, x7, x77, x331000, x331001, x331002, x331003, x343000, x343001, x343002, x343003 => if x77 = true then (some false) else ((laws_markVal.f k x343000 x343001 x343002 x343003 1).bind fun bt351 => ((laws_heldVal.f k x343000 x343001 x343002 bt351.2 1).bind fun t353 => (if t353 < 0 then (some false) else (if t353 = bt351.1 then ((laws_toByteS.f k x0).bind fun t354 => ((impl_GetVal.f k t354 x1).bind fun bt357 => ((laws_eqVal.f k bt357.1 bt357.2.1 bt357.2.2.1 bt357.2.2.2.1 x331000 x331001 x331002 x331003).bind fun t366 => (if t366 = true then (if bt357.2.2.2.2.1 = x6 then (laws_FnExactGetVal.j2 k bt351.1 (bt357.2.2.2.2.2 != x7) x343000 x343001 x343002 bt351.2) else (laws_FnExactGetVal.j2 k bt351.1 true x343000 x343001 x343002 bt351.2)) else (laws_FnExactGetVal.j2 k bt351.1 true x343000 x343001 x343002 bt351.2))))) else (some false)))))
def laws_FnExactGetVal.j2 : Nat → Int → Bool → Int → Int → ByteArray → List Int → Option (Bool)
  | 0, _, _, _, _, _, _ => none
  | k + 1, x13, x110, x343000, x343001, x343002, x343003 => if x110 = true then (some false) else ((laws_heldVal.f k x343000 x343001 x343002 x343003 1).bind fun t367 => (if t367 < 0 then (some false) else (if t367 = x13 then (some true) else (some false))))
end
def laws_FnExactGetVal.f (k : Nat) (l0 : List Int) (a1 : Int) : Option (Bool) := if (l0.length : Int) > 1048576 then (some true) else ((laws_toByteS.f k l0).bind fun t319 => ((spec_GetVal.f k t319 a1).bind fun bt322 => ((laws_toByteS.f k l0).bind fun t331 => ((impl_GetVal.f k t331 a1).bind fun bt334 => ((laws_eqVal.f k bt334.1 bt334.2.1 bt334.2.2.1 bt334.2.2.2.1 bt322.1 bt322.2.1 bt322.2.2.1 bt322.2.2.2.1).bind fun t343 => (if t343 = true then (if bt334.2.2.2.2.1 = bt322.2.2.2.2.1 then (laws_FnExactGetVal.j0 k l0 a1 bt322.2.2.2.2.1 bt322.2.2.2.2.2 t331 bt334.2.2.2.2.1 bt334.2.2.2.2.2 (bt334.2.2.2.2.2 != bt322.2.2.2.2.2) bt322.1 bt322.2.1 bt322.2.2.1 bt322.2.2.2.1 bt334.1 bt334.2.1 bt334.2.2.1 bt334.2.2.2.1) else (laws_FnExactGetVal.j0 k l0 a1 bt322.2.2.2.2.1 bt322.2.2.2.2.2 t331 bt334.2.2.2.2.1 bt334.2.2.2.2.2 true bt322.1 bt322.2.1 bt322.2.2.1 bt322.2.2.2.1 bt334.1 bt334.2.1 bt334.2.2.1 bt334.2.2.2.1)) else (laws_FnExactGetVal.j0 k l0 a1 bt322.2.2.2.2.1 bt322.2.2.2.2.2 t331 bt334.2.2.2.2.1 bt334.2.2.2.2.2 true bt322.1 bt322.2.1 bt322.2.2.1 bt322.2.2.2.1 bt334.1 bt334.2.1 bt334.2.2.1 bt334.2.2.2.1)))))))
theorem laws_FnExactGetVal.mono_l : ∀ k, (∀ y0 y1 y2 y3 y4 y5 y6 y7 y8 y9 y10 y11 y12 y13 y14 y15, LeO (laws_FnExactGetVal.j0 k y0 y1 y2 y3 y4 y5 y6 y7 y8 y9 y10 y11 y12 y13 y14 y15) (laws_FnExactGetVal.j0 (k + 1) y0 y1 y2 y3 y4 y5 y6 y7 y8 y9 y10 y11 y12 y13 y14 y15)) ∧ (∀ y0 y1 y2 y3 y4 y5 y6 y7 y8 y9 y10 y11 y12, LeO (laws_FnExactGetVal.j1 k y0 y1 y2 y3 y4 y5 y6 y7 y8 y9 y10 y11 y12) (laws_FnExactGetVal.j1 (k + 1) y0 y1 y2 y3 y4 y5 y6 y7 y8 y9 y10 y11 y12)) ∧ (∀ y0 y1 y2 y3 y4 y5, LeO (laws_FnExactGetVal.j2 k y0 y1 y2 y3 y4 y5) (laws_FnExactGetVal.j2 (k + 1) y0 y1 y2 y3 y4 y5))
  | 0 => ⟨fun _ _ _ _ _ _ _ _ _ _ _ _ _ _ _ _ r h => by simp [laws_FnExactGetVal.j0] at h, fun _ _ _ _ _ _ _ _ _ _ _ _ _ r h => by simp [laws_FnExactGetVal.j1] at h, fun _ _ _ _ _ _ r h => by simp [laws_FnExactGetVal.j2] at h⟩
  | k + 1 => by
    obtain ⟨ih0, ih1, ih2⟩ := laws_FnExactGetVal.mono_l k
    refine ⟨?_, ?_, ?_⟩
    · intro y0 y1 y2 y3 y4 y5 y6 y7 y8 y9 y10 y11 y12 y13 y14 y15
      unfold laws_FnExactGetVal.j0
      repeat' first
      | (with_reducible exact ih0 _ _ _ _ _ _ _ _ _ _ _ _ _ _ _ _)
      | (with_reducible exact ih1 _ _ _ _ _ _ _ _ _ _ _ _ _)
      | (with_reducible exact ih2 _ _ _ _ _ _)
      | (with_reducible exact impl_GetVal.mono _ _ _)
      | (with_reducible exact laws_eqByteS.mono _ _ _)
      | (with_reducible exact laws_eqVal.mono _ _ _ _ _ _ _ _ _)
      | (with_reducible exact laws_heldVal.mono _ _ _ _ _ _)
      | (with_reducible exact laws_markByteS.mono _ _ _)
      | (with_reducible exact laws_markVal.mono _ _ _ _ _ _)
      | (with_reducible exact laws_toByteS.mono _ _)
      | (with_reducible exact spec_GetVal.mono _ _ _)
      | (with_reducible exact LeO.refl _)
      | (with_reducible exact LeO.none _)
      | (with_reducible refine LeO.ite ?_ ?_)
      | (with_reducible refine LeO.bind ?_ (fun _ => ?_))
      | exact ih0 _ _ _ _ _ _ _ _ _ _ _ _ _ _ _ _
      | exact ih1 _ _ _ _ _ _ _ _ _ _ _ _ _
      | exact ih2 _ _ _ _ _ _
      | exact impl_GetVal.mono _ _ _
      | exact laws_eqByteS.mono _ _ _
      | exact laws_eqVal.mono _ _ _ _ _ _ _ _ _
      | exact laws_heldVal.mono _ _ _ _ _ _
      | exact laws_markByteS.mono _ _ _
      | exact laws_markVal.mono _ _ _ _ _ _
      | exact laws_toByteS.mono _ _
      | exact spec_GetVal.mono _ _ _
      | exact LeO.none _
      | refine LeO.ite ?_ ?_
      | refine LeO.bind ?_ (fun _ => ?_)
    · intro y0 y1 y2 y3 y4 y5 y6 y7 y8 y9 y10 y11 y12
      unfold laws_FnExactGetVal.j1
      repeat' first
      | (with_reducible exact ih0 _ _ _ _ _ _ _ _ _ _ _ _ _ _ _ _)
      | (with_reducible exact ih1 _ _ _ _ _ _ _ _ _ _ _ _ _)
      | (with_reducible exact ih2 _ _ _ _ _ _)
      | (with_reducible exact impl_GetVal.mono _ _ _)
      | (with_reducible exact laws_eqByteS.mono _ _ _)
      | (with_reducible exact laws_eqVal.mono _ _ _ _ _ _ _ _ _)
      | (with_reducible exact laws_heldVal.mono _ _ _ _ _ _)
      | (with_reducible exact laws_markByteS.mono _ _ _)
      | (with_reducible exact laws_markVal.mono _ _ _ _ _ _)
      | (with_reducible exact laws_toByteS.mono _ _)
      | (with_reducible exact spec_GetVal.mono _ _ _)
      | (with_reducible exact LeO.refl _)
      | (with_reducible exact LeO.none _)
      | (with_reducible refine LeO.ite ?_ ?_)
      | (with_reducible refine LeO.bind ?_ (fun _ => ?_))
      | exact ih0 _ _ _ _ _ _ _ _ _ _ _ _ _ _ _ _
      | exact ih1 _ _ _ _ _ _ _ _ _ _ _ _ _
      | exact ih2 _ _ _ _ _ _
      | exact impl_GetVal.mono _ _ _
      | exact laws_eqByteS.mono _ _ _
      | exact laws_eqVal.mono _ _ _ _ _ _ _ _ _
      | exact laws_heldVal.mono _ _ _ _ _ _
      | exact laws_markByteS.mono _ _ _
      | exact laws_markVal.mono _ _ _ _ _ _
      | exact laws_toByteS.mono _ _
      | exact spec_GetVal.mono _ _ _
      | exact LeO.none _
      | refine LeO.ite ?_ ?_
      | refine LeO.bind ?_ (fun _ => ?_)
    · intro y0 y1 y2 y3 y4 y5
      unfold laws_FnExactGetVal.j2
      repeat' first
      | (with_reducible exact ih0 _ _ _ _ _ _ _ _ _ _ _ _ _ _ _ _)
      | (with_reducible exact ih1 _ _ _ _ _ _ _ _ _ _ _ _ _)
      | (with_reducible exact ih2 _ _ _ _ _ _)
      | (with_reducible exact impl_GetVal.mono _ _ _)
      | (with_reducible exact laws_eqByteS.mono _ _ _)
      | (with_reducible exact laws_eqVal.mono _ _ _ _ _ _ _ _ _)
      | (with_reducible exact laws_heldVal.mono _ _ _ _ _ _)
      | (with_reducible exact laws_markByteS.mono _ _ _)
      | (with_reducible exact laws_markVal.mono _ _ _ _ _ _)
      | (with_reducible exact laws_toByteS.mono _ _)
      | (with_reducible exact spec_GetVal.mono _ _ _)
      | (with_reducible exact LeO.refl _)
      | (with_reducible exact LeO.none _)
      | (with_reducible refine LeO.ite ?_ ?_)
      | (with_reducible refine LeO.bind ?_ (fun _ => ?_))
      | exact ih0 _ _ _ _ _ _ _ _ _ _ _ _ _ _ _ _
      | exact ih1 _ _ _ _ _ _ _ _ _ _ _ _ _
      | exact ih2 _ _ _ _ _ _
      | exact impl_GetVal.mono _ _ _
      | exact laws_eqByteS.mono _ _ _
      | exact laws_eqVal.mono _ _ _ _ _ _ _ _ _
      | exact laws_heldVal.mono _ _ _ _ _ _
      | exact laws_markByteS.mono _ _ _
      | exact laws_markVal.mono _ _ _ _ _ _
      | exact laws_toByteS.mono _ _
      | exact spec_GetVal.mono _ _ _
      | exact LeO.none _
      | refine LeO.ite ?_ ?_
      | refine LeO.bind ?_ (fun _ => ?_)
theorem laws_FnExactGetVal.mono : ∀ a0 a1 k, LeO (laws_FnExactGetVal.f k a0 a1) (laws_FnExactGetVal.f (k + 1) a0 a1) := by
  intro a0 a1 k
  obtain ⟨ih0, ih1, ih2⟩ := laws_FnExactGetVal.mono_l k
  unfold laws_FnExactGetVal.f
  repeat' first
      | (with_reducible exact ih0 _ _ _ _ _ _ _ _ _ _ _ _ _ _ _ _)
      | (with_reducible exact ih1 _ _ _ _ _ _ _ _ _ _ _ _ _)
      | (with_reducible exact ih2 _ _ _ _ _ _)
      | (with_reducible exact impl_GetVal.mono _ _ _)
      | (with_reducible exact laws_eqByteS.mono _ _ _)
      | (with_reducible exact laws_eqVal.mono _ _ _ _ _ _ _ _ _)
      | (with_reducible exact laws_heldVal.mono _ _ _ _ _ _)
      | (with_reducible exact laws_markByteS.mono _ _ _)
      | (with_reducible exact laws_markVal.mono _ _ _ _ _ _)
      | (with_reducible exact laws_toByteS.mono _ _)
      | (with_reducible exact spec_GetVal.mono _ _ _)
      | (with_reducible exact LeO.refl _)
      | (with_reducible exact LeO.none _)
      | (with_reducible refine LeO.ite ?_ ?_)
      | (with_reducible refine LeO.bind ?_ (fun _ => ?_))
      | exact ih0 _ _ _ _ _ _ _ _ _ _ _ _ _ _ _ _
      | exact ih1 _ _ _ _ _ _ _ _ _ _ _ _ _
      | exact ih2 _ _ _ _ _ _
      | exact impl_GetVal.mono _ _ _
      | exact laws_eqByteS.mono _ _ _
      | exact laws_eqVal.mono _ _ _ _ _ _ _ _ _
      | exact laws_heldVal.mono _ _ _ _ _ _
      | exact laws_markByteS.mono _ _ _
      | exact laws_markVal.mono _ _ _ _ _ _
      | exact laws_toByteS.mono _ _
      | exact spec_GetVal.mono _ _ _
      | exact LeO.none _
      | refine LeO.ite ?_ ?_
      | refine LeO.bind ?_ (fun _ => ?_)
set_option maxHeartbeats 8000000 in
set_option maxRecDepth 100000 in
theorem laws_FnExactGetVal.calls (k : Nat) (A0 : Option Addr) (c0 : Nat) (l0 : List Int) (a1 : Int) (r : Bool) (w : World) (hr0 : Kd.C (Kd.int .u8) w A0 l0.length l0) (hc0 : l0.length ≤ c0) (hr_ : r = true) (h : laws_FnExactGetVal.f k l0 a1 = some r) :
    Calls Try.prog 5 #[.slice A0 l0.length c0, .int .i64 a1] w fun e w' => e = .returned (.bool r) ∧ Below w.heap.size w w' := by
  have hu29 := Try.underlying29
  have HRT := am hr_
  clear hr_
  have HR0 := am hr0
  have HC0 := am hc0
  clear hr0 hc0
  have HB := am (Below.refl w.heap.size w)
  have H : (if (l0.length : Int) > 1048576 then (some true) else ((laws_toByteS.f k l0).bind fun t319 => ((spec_GetVal.f k t319 a1).bind fun bt322 => ((laws_toByteS.f k l0).bind fun t331 => ((impl_GetVal.f k t331 a1).bind fun bt334 => ((laws_eqVal.f k bt334.1 bt334.2.1 bt334.2.2.1 bt334.2.2.2.1 bt322.1 bt322.2.1 bt322.2.2.1 bt322.2.2.2.1).bind fun t343 => (if t343 = true then (if bt334.2.2.2.2.1 = bt322.2.2.2.2.1 then (laws_FnExactGetVal.j0 k l0 a1 bt322.2.2.2.2.1 bt322.2.2.2.2.2 t331 bt334.2.2.2.2.1 bt334.2.2.2.2.2 (bt334.2.2.2.2.2 != bt322.2.2.2.2.2) bt322.1 bt322.2.1 bt322.2.2.1 bt322.2.2.2.1 bt334.1 bt334.2.1 bt334.2.2.1 bt334.2.2.2.1) else (laws_FnExactGetVal.j0 k l0 a1 bt322.2.2.2.2.1 bt322.2.2.2.2.2 t331 bt334.2.2.2.2.1 bt334.2.2.2.2.2 true bt322.1 bt322.2.1 bt322.2.2.1 bt322.2.2.2.1 bt334.1 bt334.2.1 bt334.2.2.1 bt334.2.2.2.1)) else (laws_FnExactGetVal.j0 k l0 a1 bt322.2.2.2.2.1 bt322.2.2.2.2.2 t331 bt334.2.2.2.2.1 bt334.2.2.2.2.2 true bt322.1 bt322.2.1 bt322.2.2.1 bt322.2.2.2.1 bt334.1 bt334.2.1 bt334.2.2.1 bt334.2.2.2.1)))))))) = some r := h
  clear h
  by_cases c3 : (l0.length : Int) > 1048576
  · rw [if_pos c3] at H
    have c3b0 : decide (1048576 < (l0.length : Int)) = true := decide_eq_true c3
    have c3b1 : decide (1048576 < l0.length) = true := decide_eq_true (by omega)
    clear c3
    obtain rfl := Option.some.inj H
    go_enter Try.func5, Try.ntmps5
    go_wp2
    go_ret
    exact ⟨by first | rfl | (simp [errW_none, errW_some] <;> rfl) | (simp [*, errW_none, errW_some] <;> rfl), bq HB.out⟩
  · rw [if_neg c3] at H
    have c3b0 : decide (1048576 < (l0.length : Int)) = false := decide_eq_false c3
    have c3b1 : decide (1048576 < l0.length) = false := decide_eq_false (by omega)
    clear c3
    replace H := Option.bind_eq_some_iff.mp H
    obtain ⟨t319, A40, H⟩ := H
    replace H : ((spec_GetVal.f k t319 a1).bind fun bt322 => ((laws_toByteS.f k l0).bind fun t331 => ((impl_GetVal.f k t331 a1).bind fun bt334 => ((laws_eqVal.f k bt334.1 bt334.2.1 bt334.2.2.1 bt334.2.2.2.1 bt322.1 bt322.2.1 bt322.2.2.1 bt322.2.2.2.1).bind fun t343 => (if t343 = true then (if bt334.2.2.2.2.1 = bt322.2.2.2.2.1 then (laws_FnExactGetVal.j0 k l0 a1 bt322.2.2.2.2.1 bt322.2.2.2.2.2 t331 bt334.2.2.2.2.1 bt334.2.2.2.2.2 (bt334.2.2.2.2.2 != bt322.2.2.2.2.2) bt322.1 bt322.2.1 bt322.2.2.1 bt322.2.2.2.1 bt334.1 bt334.2.1 bt334.2.2.1 bt334.2.2.2.1) else (laws_FnExactGetVal.j0 k l0 a1 bt322.2.2.2.2.1 bt322.2.2.2.2.2 t331 bt334.2.2.2.2.1 bt334.2.2.2.2.2 true bt322.1 bt322.2.1 bt322.2.2.1 bt322.2.2.2.1 bt334.1 bt334.2.1 bt334.2.2.1 bt334.2.2.2.1)) else (laws_FnExactGetVal.j0 k l0 a1 bt322.2.2.2.2.1 bt322.2.2.2.2.2 t331 bt334.2.2.2.2.1 bt334.2.2.2.2.2 true bt322.1 bt322.2.1 bt322.2.2.1 bt322.2.2.2.1 bt334.1 bt334.2.1 bt334.2.2.1 bt334.2.2.2.1)))))) = some r := H
    have A4 := am A40
    clear A40
    replace H := Option.bind_eq_some_iff.mp H
    obtain ⟨⟨t322, t323, t324, t325, t328, t329⟩, A50, H⟩ := H
    replace H : ((laws_toByteS.f k l0).bind fun t331 => ((impl_GetVal.f k t331 a1).bind fun bt334 => ((laws_eqVal.f k bt334.1 bt334.2.1 bt334.2.2.1 bt334.2.2.2.1 t322 t323 t324 t325).bind fun t343 => (if t343 = true then (if bt334.2.2.2.2.1 = t328 then (laws_FnExactGetVal.j0 k l0 a1 t328 t329 t331 bt334.2.2.2.2.1 bt334.2.2.2.2.2 (bt334.2.2.2.2.2 != t329) t322 t323 t324 t325 bt334.1 bt334.2.1 bt334.2.2.1 bt334.2.2.2.1) else (laws_FnExactGetVal.j0 k l0 a1 t328 t329 t331 bt334.2.2.2.2.1 bt334.2.2.2.2.2 true t322 t323 t324 t325 bt334.1 bt334.2.1 bt334.2.2.1 bt334.2.2.2.1)) else (laws_FnExactGetVal.j0 k l0 a1 t328 t329 t331 bt334.2.2.2.2.1 bt334.2.2.2.2.2 true t322 t323 t324 t325 bt334.1 bt334.2.1 bt334.2.2.1 bt334.2.2.2.1))))) = some r := H
    have A5 := am A50
    clear A50
    replace H := Option.bind_eq_some_iff.mp H
    obtain ⟨t331, A60, H⟩ := H
    replace H : ((impl_GetVal.f k t331 a1).bind fun bt334 => ((laws_eqVal.f k bt334.1 bt334.2.1 bt334.2.2.1 bt334.2.2.2.1 t322 t323 t324 t325).bind fun t343 => (if t343 = true then (if bt334.2.2.2.2.1 = t328 then (laws_FnExactGetVal.j0 k l0 a1 t328 t329 t331 bt334.2.2.2.2.1 bt334.2.2.2.2.2 (bt334.2.2.2.2.2 != t329) t322 t323 t324 t325 bt334.1 bt334.2.1 bt334.2.2.1 bt334.2.2.2.1) else (laws_FnExactGetVal.j0 k l0 a1 t328 t329 t331 bt334.2.2.2.2.1 bt334.2.2.2.2.2 true t322 t323 t324 t325 bt334.1 bt334.2.1 bt334.2.2.1 bt334.2.2.2.1)) else (laws_FnExactGetVal.j0 k l0 a1 t328 t329 t331 bt334.2.2.2.2.1 bt334.2.2.2.2.2 true t322 t323 t324 t325 bt334.1 bt334.2.1 bt334.2.2.1 bt334.2.2.2.1)))) = some r := H
    have A6 := am A60
    clear A60
    replace H := Option.bind_eq_some_iff.mp H
    obtain ⟨⟨t334, t335, t336, t337, t340, t341⟩, A70, H⟩ := H
    replace H : ((laws_eqVal.f k t334 t335 t336 t337 t322 t323 t324 t325).bind fun t343 => (if t343 = true then (if t340 = t328 then (laws_FnExactGetVal.j0 k l0 a1 t328 t329 t331 t340 t341 (t341 != t329) t322 t323 t324 t325 t334 t335 t336 t337) else (laws_FnExactGetVal.j0 k l0 a1 t328 t329 t331 t340 t341 true t322 t323 t324 t325 t334 t335 t336 t337)) else (laws_FnExactGetVal.j0 k l0 a1 t328 t329 t331 t340 t341 true t322 t323 t324 t325 t334 t335 t336 t337))) = some r := H
    have A7 := am A70
    clear A70
    have HC8 := am H
    clear H
    go_enter Try.func5, Try.ntmps5
    go_upto_region 6 with (first | ((with_reducible refine gate_callee (f := 15) rfl ?_); refine goesL_ (some 23) rfl rfl Try.func15 (by kernel_rfl) rfl #[.slice A0 l0.length c0] rfl (by (try simp only [List.map_toArray, List.map_cons, List.map_nil]); first | done | rfl | (simp only [List.length_drop, List.length_take]; rfl)) ?_; (with_reducible refine (laws_toByteS.calls k _ _ l0 t319 _ ?side1 ?side2 A4.out).mono ?_); (case side1 => exact cq HR0.out); (case side2 => exact HC0.out); rintro e w9 ⟨v320, rfl, ho0, hb⟩; refine ⟨_, rfl, ?_⟩; have n0_ := am (Kd.R_lower ho0 (below_size (bq HB.out))); have n1_ := am (below_step (bq HB.out) hb); clear HB; have HO321 := n0_; have HB := n1_; clear n0_ n1_; (try clear hb); (try clear hb2); (try clear hk); (try clear hi); (try clear ho0); obtain ⟨Ao10, co10, eo10⟩ := Kd.R_slice HO321.out; subst eo10) | ((with_reducible refine gate_callee (f := 35) rfl ?_); refine goesL_ (some 25) rfl rfl Try.func35 (by kernel_rfl) rfl #[.slice Ao10 t319.length co10, .int .i64 a1] rfl (by (try simp only [List.map_toArray, List.map_cons, List.map_nil]); first | done | rfl | (simp only [List.length_drop, List.length_take]; rfl)) ?_; (with_reducible refine (spec_GetVal.calls k _ _ t319 a1 t322 t323 t324 t325 t328 t329 _ ?side1 ?side2 A5.out).mono ?_); (case side1 => repeat (first | exact (Kd.R_reads' HO321.out).2.2 | (with_reducible refine Kd.C_alloc ?_ _) | (with_reducible refine Kd.C_drewN ?_ _) | (with_reducible refine Kd.C_drew ?_))); (case side2 => exact (Kd.R_reads' HO321.out).2.1); rintro e w11 ⟨v326, rfl, ho0, hb⟩; refine ⟨_, rfl, ?_⟩; have n0_ := am (Kd.R_below (kqR HO321.out) hb); have n1_ := am (Kd.R_lower ho0 (below_size (bq HB.out))); have n2_ := am (below_step (bq HB.out) hb); clear HO321; clear HB; have HO321 := n0_; have HO327 := n1_; have HB := n2_; clear n0_ n1_ n2_; (try clear hb); (try clear hb2); (try clear hk); (try clear hi); (try clear ho0)) | ((with_reducible refine gate_dst (N := 5) rfl ?_); refine box_event ?hg (N := 5) ?hd (cs := #[.int .i64 0, .int .i64 0, .string (⟨#[]⟩ : ByteArray), .slice none 0 0]) (t := 29) ?hr ?_; (case hd => rfl); (case hg => rfl); (case hr => first | (go_simp; done) | (go_simp; rfl)); intro gb330 hg w12 hbox hb; have n0_ := am (Kd.R_below (kqR HO321.out) hb); have n1_ := am (Kd.R_below (kqR HO327.out) hb); have n2_ := am (below_step (bq HB.out) hb); have n3_ := am (hbox); have n4_ := am ((by rw [hg]; exact (below_size (bq HB.out)) : w.heap.size ≤ gb330)); have n5_ := am ((by rw [hg]; exact (below_size (bq HB.out)) : w.heap.size ≤ gb330)); clear HO321; clear HO327; clear HB; have HO321 := n0_; have HO327 := n1_; have HB := n2_; have BK330 := n3_; have GW330 := n4_; have GE330 := n5_; clear n0_ n1_ n2_ n3_ n4_ n5_; clear hb hbox hg; have hcz13_0 : w12.cell? ⟨gb330, 0, none⟩ = some (.int .i64 0) := (blk_cell BK330.out 0).trans rfl; have hcz13_1 : w12.cell? ⟨gb330, 1, none⟩ = some (.int .i64 0) := (blk_cell BK330.out 1).trans rfl; have hcz13_2 : w12.cell? ⟨gb330, 2, none⟩ = some (.string (⟨#[]⟩ : ByteArray)) := (blk_cell BK330.out 2).trans rfl; have hcz13_3 : w12.cell? ⟨gb330, 3, none⟩ = some (.slice none 0 0) := (blk_cell BK330.out 3).trans rfl; have hfz13_0 := blk_frozen BK330.out 0; have hfz13_1 := blk_frozen BK330.out 1; have hfz13_2 := blk_frozen BK330.out 2; have hfz13_3 := blk_frozen BK330.out 3; obtain ⟨Ao14, co14, eo14⟩ := Kd.R_slice HO327.out; subst eo14) | ((with_reducible refine gate_store (t := 29) (p := 5) rfl ?_); refine store_event (t := 29) (p := 5) (v := ?vo_w15) (w1 := ((((w12.setCell ⟨gb330, 0, none⟩ (.int .i64 t322)).setCell ⟨gb330, 1, none⟩ (.int .i64 t323)).setCell ⟨gb330, 2, none⟩ (.string t324)).setCell ⟨gb330, 3, none⟩ (.slice Ao14 t325.length co14))) ?hg ?ho ?hn ?hr ?_; (case ho => rfl); (case hg => rfl); (case hn => rfl); (case hr => first | (go_simp; done) | (go_simp; rfl)); intro w15 hw; have n0_ : Aside0 (Kd.R (Kd.int .u8) 5 w15 w.heap.size (fun _ => True) (.slice Ao10 t319.length co10) t319) := ⟨(by rw [hw]; exact (by (with_reducible repeat (first | apply Kd.R_alloc | apply Kd.R_drewN | apply Kd.R_drew)); exact Kd.R_mono (Kd.R_far (p := ⟨gb330, 3, none⟩) (Kd.R_far (p := ⟨gb330, 2, none⟩) (Kd.R_far (p := ⟨gb330, 1, none⟩) (Kd.R_far (p := ⟨gb330, 0, none⟩) (Kd.R_types HO321.out BK330.out (by decide)) (fun _ hk => hk.2) (.int .i64 t322)) (fun _ hk => hk.2) (.int .i64 t323)) (fun _ hk => hk.2) (.string t324)) (fun _ hk => hk.2) (.slice Ao14 t325.length co14)) (fun _ hk => trivial)))⟩; have n1_ : Aside0 (Kd.R (Kd.int .i64) 3 w15 w.heap.size (fun _ => True) (.slice Ao14 t325.length co14) t325) := ⟨(by rw [hw]; exact (by (with_reducible repeat (first | apply Kd.R_alloc | apply Kd.R_drewN | apply Kd.R_drew)); exact Kd.R_mono (Kd.R_far (p := ⟨gb330, 3, none⟩) (Kd.R_far (p := ⟨gb330, 2, none⟩) (Kd.R_far (p := ⟨gb330, 1, none⟩) (Kd.R_far (p := ⟨gb330, 0, none⟩) (Kd.R_types HO327.out BK330.out (by decide)) (fun _ hk => hk.2) (.int .i64 t322)) (fun _ hk => hk.2) (.int .i64 t323)) (fun _ hk => hk.2) (.string t324)) (fun _ hk => hk.2) (.slice Ao14 t325.length co14)) (fun _ hk => trivial)))⟩; have n2_ : Aside0 (w15.heap[gb330]? = some (.cells #[.int .i64 t322, .int .i64 t323, .string t324, .slice Ao14 t325.length co14] 29 (0, 0))) := ⟨(by rw [hw]; exact (by (with_reducible repeat (first | refine blk_drewN ?_ _ | refine blk_drew ?_ | refine blk_alloc ?_ _)); refine blk_put (cs := #[.int .i64 t322, .int .i64 t323, .string t324, .slice none 0 0]) ?_ 3 _ rfl; (with_reducible repeat (first | refine blk_drewN ?_ _ | refine blk_drew ?_ | refine blk_alloc ?_ _)); refine blk_put (cs := #[.int .i64 t322, .int .i64 t323, .string (⟨#[]⟩ : ByteArray), .slice none 0 0]) ?_ 2 _ rfl; (with_reducible repeat (first | refine blk_drewN ?_ _ | refine blk_drew ?_ | refine blk_alloc ?_ _)); refine blk_put (cs := #[.int .i64 t322, .int .i64 0, .string (⟨#[]⟩ : ByteArray), .slice none 0 0]) ?_ 1 _ rfl; (with_reducible repeat (first | refine blk_drewN ?_ _ | refine blk_drew ?_ | refine blk_alloc ?_ _)); refine blk_put (cs := #[.int .i64 0, .int .i64 0, .string (⟨#[]⟩ : ByteArray), .slice none 0 0]) ?_ 0 _ rfl; (with_reducible repeat (first | refine blk_drewN ?_ _ | refine blk_drew ?_ | refine blk_alloc ?_ _)); exact BK330.out))⟩; have n3_ : Aside0 (Below w.heap.size w w15) := ⟨(by rw [hw]; exact (by repeat (first | (with_reducible first | exact HB.out | apply below_alloc | apply pw_below_drewN | apply below_drew1 | refine below_set ?_ GE330.out) | exact HB.out)))⟩; clear hw; clear HO321; clear HO327; clear BK330; clear HB; have HO321 := n0_; have HO327 := n1_; have BK330 := n2_; have HB := n3_; clear n0_ n1_ n2_ n3_) | ((with_reducible refine gate_callee (f := 15) rfl ?_); refine goesL_ (some 30) rfl rfl Try.func15 (by kernel_rfl) rfl #[.slice A0 l0.length c0] rfl (by (try simp only [List.map_toArray, List.map_cons, List.map_nil]); first | done | rfl | (simp only [List.length_drop, List.length_take]; rfl)) ?_; (with_reducible refine (laws_toByteS.calls k _ _ l0 t331 _ ?side1 ?side2 A6.out).mono ?_); (case side1 => exact cq (Kd.C_below HR0.out HB.out)); (case side2 => exact HC0.out); rintro e w16 ⟨v332, rfl, ho0, hb⟩; refine ⟨_, rfl, ?_⟩; have n0_ := am (Kd.R_elder' (kqR HO321.out) (Kd.R_base ho0) hb); have n1_ := am (Kd.R_below (kqR HO327.out) hb); have n2_ := am (Kd.R_lower (Kd.R_new' ho0 (Kd.R_lt (kqR HO321.out))) (below_size (by repeat (first | (with_reducible first | exact HB.out | apply below_alloc | apply pw_below_drewN | apply below_drew1 | refine below_set ?_ GE330.out) | exact HB.out)))); have n3_ := am (blk_below (g := gb330) (o := .cells #[.int .i64 t322, .int .i64 t323, .string t324, .slice Ao14 t325.length co14] 29 (0, 0)) (zq BK330.out) hb); have n4_ := am (below_step (by repeat (first | (with_reducible first | exact HB.out | apply below_alloc | apply pw_below_drewN | apply below_drew1 | refine below_set ?_ GE330.out) | exact HB.out)) hb); clear HO321; clear HO327; clear BK330; clear HB; have HO321 := n0_; have HO327 := n1_; have HO333 := n2_; have BK330 := n3_; have HB := n4_; clear n0_ n1_ n2_ n3_ n4_; (try clear hb); (try clear hb2); (try clear hk); (try clear hi); (try clear ho0); obtain ⟨Ao17, co17, eo17⟩ := Kd.R_slice HO333.out; subst eo17) | ((with_reducible refine gate_callee (f := 36) rfl ?_); refine goesL_ (some 34) rfl rfl Try.func36 (by kernel_rfl) rfl #[.slice Ao17 t331.length co17, .int .i64 a1] rfl (by (try simp only [List.map_toArray, List.map_cons, List.map_nil]); first | done | rfl | (simp only [List.length_drop, List.length_take]; rfl)) ?_; (with_reducible refine (impl_GetVal.calls k _ _ t331 a1 t334 t335 t336 t337 t340 t341 _ ?side1 ?side2 A7.out).mono ?_); (case side1 => repeat (first | exact (Kd.R_reads' HO333.out).2.2 | (with_reducible refine Kd.C_alloc ?_ _) | (with_reducible refine Kd.C_drewN ?_ _) | (with_reducible refine Kd.C_drew ?_))); (case side2 => exact (Kd.R_reads' HO333.out).2.1); rintro e w18 ⟨v338, rfl, ho0, hb⟩; refine ⟨_, rfl, ?_⟩; have n0_ := am (Kd.R_below (kqR HO321.out) hb); have n1_ := am (Kd.R_elder' (kqR HO327.out) (Kd.R_base ho0) hb); have n2_ := am (Kd.R_below (kqR HO333.out) hb); have n3_ := am (Kd.R_lower (Kd.R_new' ho0 (Kd.R_lt (kqR HO327.out))) (below_size (by repeat (first | (with_reducible first | exact HB.out | apply below_alloc | apply pw_below_drewN | apply below_drew1 | refine below_set ?_ GE330.out) | exact HB.out)))); have n4_ := am (blk_below (g := gb330) (o := .cells #[.int .i64 t322, .int .i64 t323, .string t324, .slice Ao14 t325.length co14] 29 (0, 0)) (zq BK330.out) hb); have n5_ := am (below_step (by repeat (first | (with_reducible first | exact HB.out | apply below_alloc | apply pw_below_drewN | apply below_drew1 | refine below_set ?_ GE330.out) | exact HB.out)) hb); clear HO321; clear HO327; clear HO333; clear BK330; clear HB; have HO321 := n0_; have HO327 := n1_; have HO333 := n2_; have HO339 := n3_; have BK330 := n4_; have HB := n5_; clear n0_ n1_ n2_ n3_ n4_ n5_; (try clear hb); (try clear hb2); (try clear hk); (try clear hi); (try clear ho0)) | ((with_reducible refine gate_dst (N := 9) rfl ?_); refine box_event ?hg (N := 9) ?hd (cs := #[.int .i64 0, .int .i64 0, .string (⟨#[]⟩ : ByteArray), .slice none 0 0]) (t := 29) ?hr ?_; (case hd => rfl); (case hg => rfl); (case hr => first | (go_simp; done) | (go_simp; rfl)); intro gb342 hg w19 hbox hb; have n0_ := am (Kd.R_below (kqR HO321.out) hb); have n1_ := am (Kd.R_below (kqR HO327.out) hb); have n2_ := am (Kd.R_below (kqR HO333.out) hb); have n3_ := am (Kd.R_below (kqR HO339.out) hb); have n4_ := am (blk_below (g := gb330) (o := .cells #[.int .i64 t322, .int .i64 t323, .string t324, .slice Ao14 t325.length co14] 29 (0, 0)) (zq BK330.out) hb); have n5_ := am (below_step (by repeat (first | (with_reducible first | exact HB.out | apply below_alloc | apply pw_below_drewN | apply below_drew1 | refine below_set ?_ GE330.out) | exact HB.out)) hb); have n6_ := am (hbox); have n7_ := am ((by rw [hg]; exact (below_size (by repeat (first | (with_reducible first | exact HB.out | apply below_alloc | apply pw_below_drewN | apply below_drew1 | refine below_set ?_ GE330.out) | exact HB.out))) : w.heap.size ≤ gb342)); have n8_ := am ((by rw [hg]; exact (below_size (by repeat (first | (with_reducible first | exact HB.out | apply below_alloc | apply pw_below_drewN | apply below_drew1 | refine below_set ?_ GE330.out) | exact HB.out))) : w.heap.size ≤ gb342)); have n9_ := am ((by rw [hg]; exact Nat.ne_of_lt (blk_lt (g := gb330) (o := .cells #[.int .i64 t322, .int .i64 t323, .string t324, .slice Ao14 t325.length co14] 29 (0, 0)) (zq BK330.out)) : gb330 ≠ gb342)); have n10_ := am ((by rw [hg]; exact Nat.ne_of_gt (blk_lt (g := gb330) (o := .cells #[.int .i64 t322, .int .i64 t323, .string t324, .slice Ao14 t325.length co14] 29 (0, 0)) (zq BK330.out)) : gb342 ≠ gb330)); clear HO321; clear HO327; clear HO333; clear HO339; clear BK330; clear HB; have HO321 := n0_; have HO327 := n1_; have HO333 := n2_; have HO339 := n3_; have BK330 := n4_; have HB := n5_; have BK342 := n6_; have GW342 := n7_; have GE342 := n8_; have NB330_342 := n9_; have NB342_330 := n10_; clear n0_ n1_ n2_ n3_ n4_ n5_ n6_ n7_ n8_ n9_ n10_; clear hb hbox hg; have hnb20 := NB342_330.out; have hnc20 := NB330_342.out; have hcz21_0 : w19.cell? ⟨gb342, 0, none⟩ = some (.int .i64 0) := (blk_cell BK342.out 0).trans rfl; have hcz21_1 : w19.cell? ⟨gb342, 1, none⟩ = some (.int .i64 0) := (blk_cell BK342.out 1).trans rfl; have hcz21_2 : w19.cell? ⟨gb342, 2, none⟩ = some (.string (⟨#[]⟩ : ByteArray)) := (blk_cell BK342.out 2).trans rfl; have hcz21_3 : w19.cell? ⟨gb342, 3, none⟩ = some (.slice none 0 0) := (blk_cell BK342.out 3).trans rfl; have hfz21_0 := blk_frozen BK342.out 0; have hfz21_1 := blk_frozen BK342.out 1; have hfz21_2 := blk_frozen BK342.out 2; have hfz21_3 := blk_frozen BK342.out 3; obtain ⟨Ao22, co22, eo22⟩ := Kd.R_slice HO339.out; subst eo22) | ((with_reducible refine gate_store (t := 29) (p := 9) rfl ?_); refine store_event (t := 29) (p := 9) (v := ?vo_w23) (w1 := ((((w19.setCell ⟨gb342, 0, none⟩ (.int .i64 t334)).setCell ⟨gb342, 1, none⟩ (.int .i64 t335)).setCell ⟨gb342, 2, none⟩ (.string t336)).setCell ⟨gb342, 3, none⟩ (.slice Ao22 t337.length co22))) ?hg ?ho ?hn ?hr ?_; (case ho => rfl); (case hg => rfl); (case hn => rfl); (case hr => first | (go_simp; done) | (go_simp; rfl)); intro w23 hw; have n0_ : Aside0 (Kd.R (Kd.int .u8) 5 w23 w.heap.size (fun k_ => some k_ ≠ (.slice Ao17 t331.length co17 : Value).ownBlock) (.slice Ao10 t319.length co10) t319) := ⟨(by rw [hw]; exact (by (with_reducible repeat (first | apply Kd.R_alloc | apply Kd.R_drewN | apply Kd.R_drew)); exact Kd.R_mono (Kd.R_far (p := ⟨gb342, 3, none⟩) (Kd.R_far (p := ⟨gb342, 2, none⟩) (Kd.R_far (p := ⟨gb342, 1, none⟩) (Kd.R_far (p := ⟨gb342, 0, none⟩) (Kd.R_types HO321.out BK342.out (by decide)) (fun _ hk => hk.2) (.int .i64 t334)) (fun _ hk => hk.2) (.int .i64 t335)) (fun _ hk => hk.2) (.string t336)) (fun _ hk => hk.2) (.slice Ao22 t337.length co22)) (fun _ hk => hk.1.2)))⟩; have n1_ : Aside0 (Kd.R (Kd.int .i64) 3 w23 w.heap.size (fun k_ => some k_ ≠ (.slice Ao22 t337.length co22 : Value).ownBlock) (.slice Ao14 t325.length co14) t325) := ⟨(by rw [hw]; exact (by (with_reducible repeat (first | apply Kd.R_alloc | apply Kd.R_drewN | apply Kd.R_drew)); exact Kd.R_mono (Kd.R_far (p := ⟨gb342, 3, none⟩) (Kd.R_far (p := ⟨gb342, 2, none⟩) (Kd.R_far (p := ⟨gb342, 1, none⟩) (Kd.R_far (p := ⟨gb342, 0, none⟩) (Kd.R_types HO327.out BK342.out (by decide)) (fun _ hk => hk.2) (.int .i64 t334)) (fun _ hk => hk.2) (.int .i64 t335)) (fun _ hk => hk.2) (.string t336)) (fun _ hk => hk.2) (.slice Ao22 t337.length co22)) (fun _ hk => hk.1.2)))⟩; have n2_ : Aside0 (Kd.R (Kd.int .u8) 5 w23 w.heap.size (fun k_ => some k_ ≠ (.slice Ao10 t319.length co10 : Value).ownBlock) (.slice Ao17 t331.length co17) t331) := ⟨(by rw [hw]; exact (by (with_reducible repeat (first | apply Kd.R_alloc | apply Kd.R_drewN | apply Kd.R_drew)); exact Kd.R_mono (Kd.R_far (p := ⟨gb342, 3, none⟩) (Kd.R_far (p := ⟨gb342, 2, none⟩) (Kd.R_far (p := ⟨gb342, 1, none⟩) (Kd.R_far (p := ⟨gb342, 0, none⟩) (Kd.R_types HO333.out BK342.out (by decide)) (fun _ hk => hk.2) (.int .i64 t334)) (fun _ hk => hk.2) (.int .i64 t335)) (fun _ hk => hk.2) (.string t336)) (fun _ hk => hk.2) (.slice Ao22 t337.length co22)) (fun _ hk => hk.1.2)))⟩; have n3_ : Aside0 (Kd.R (Kd.int .i64) 3 w23 w.heap.size (fun k_ => some k_ ≠ (.slice Ao14 t325.length co14 : Value).ownBlock) (.slice Ao22 t337.length co22) t337) := ⟨(by rw [hw]; exact (by (with_reducible repeat (first | apply Kd.R_alloc | apply Kd.R_drewN | apply Kd.R_drew)); exact Kd.R_mono (Kd.R_far (p := ⟨gb342, 3, none⟩) (Kd.R_far (p := ⟨gb342, 2, none⟩) (Kd.R_far (p := ⟨gb342, 1, none⟩) (Kd.R_far (p := ⟨gb342, 0, none⟩) (Kd.R_types HO339.out BK342.out (by decide)) (fun _ hk => hk.2) (.int .i64 t334)) (fun _ hk => hk.2) (.int .i64 t335)) (fun _ hk => hk.2) (.string t336)) (fun _ hk => hk.2) (.slice Ao22 t337.length co22)) (fun _ hk => hk.1.2)))⟩; have n4_ : Aside0 (w23.heap[gb330]? = some (.cells #[.int .i64 t322, .int .i64 t323, .string t324, .slice Ao14 t325.length co14] 29 (0, 0))) := ⟨(by rw [hw]; exact (by (with_reducible repeat (first | refine blk_drewN ?_ _ | refine blk_drew ?_ | refine blk_alloc ?_ _)); refine blk_far ?_ NB330_342.out _; (with_reducible repeat (first | refine blk_drewN ?_ _ | refine blk_drew ?_ | refine blk_alloc ?_ _)); refine blk_far ?_ NB330_342.out _; (with_reducible repeat (first | refine blk_drewN ?_ _ | refine blk_drew ?_ | refine blk_alloc ?_ _)); refine blk_far ?_ NB330_342.out _; (with_reducible repeat (first | refine blk_drewN ?_ _ | refine blk_drew ?_ | refine blk_alloc ?_ _)); refine blk_far ?_ NB330_342.out _; (with_reducible repeat (first | refine blk_drewN ?_ _ | refine blk_drew ?_ | refine blk_alloc ?_ _)); exact BK330.out))⟩; have n5_ : Aside0 (w23.heap[gb342]? = some (.cells #[.int .i64 t334, .int .i64 t335, .string t336, .slice Ao22 t337.length co22] 29 (0, 0))) := ⟨(by rw [hw]; exact (by (with_reducible repeat (first | refine blk_drewN ?_ _ | refine blk_drew ?_ | refine blk_alloc ?_ _)); refine blk_put (cs := #[.int .i64 t334, .int .i64 t335, .string t336, .slice none 0 0]) ?_ 3 _ rfl; (with_reducible repeat (first | refine blk_drewN ?_ _ | refine blk_drew ?_ | refine blk_alloc ?_ _)); refine blk_put (cs := #[.int .i64 t334, .int .i64 t335, .string (⟨#[]⟩ : ByteArray), .slice none 0 0]) ?_ 2 _ rfl; (with_reducible repeat (first | refine blk_drewN ?_ _ | refine blk_drew ?_ | refine blk_alloc ?_ _)); refine blk_put (cs := #[.int .i64 t334, .int .i64 0, .string (⟨#[]⟩ : ByteArray), .slice none 0 0]) ?_ 1 _ rfl; (with_reducible repeat (first | refine blk_drewN ?_ _ | refine blk_drew ?_ | refine blk_alloc ?_ _)); refine blk_put (cs := #[.int .i64 0, .int .i64 0, .string (⟨#[]⟩ : ByteArray), .slice none 0 0]) ?_ 0 _ rfl; (with_reducible repeat (first | refine blk_drewN ?_ _ | refine blk_drew ?_ | refine blk_alloc ?_ _)); exact BK342.out))⟩; have n6_ : Aside0 (Below w.heap.size w w23) := ⟨(by rw [hw]; exact (by repeat (first | (with_reducible first | exact HB.out | apply below_alloc | apply pw_below_drewN | apply below_drew1 | refine below_set ?_ GE330.out | refine below_set ?_ GE342.out) | exact HB.out)))⟩; clear hw; clear HO321; clear HO327; clear HO333; clear HO339; clear BK330; clear BK342; clear HB; have HO321 := n0_; have HO327 := n1_; have HO333 := n2_; have HO339 := n3_; have BK330 := n4_; have BK342 := n5_; have HB := n6_; clear n0_ n1_ n2_ n3_ n4_ n5_ n6_))
    (try simp only [Act.put, List.setIfInBounds_toArray, List.set_cons_zero, List.set_cons_succ])
    go_cut [51] (fun v51 wc => ∃ (kq : Nat) (x51_7 : Bool), v51 = .bool x51_7 ∧ Aside0 (laws_FnExactGetVal.j0 kq l0 a1 t328 t329 t331 t340 t341 x51_7 t322 t323 t324 t325 t334 t335 t336 t337 = some r) ∧ Aside0 (kq ≤ k) ∧ Aside0 (Kd.R (Kd.int .u8) 5 wc w.heap.size (fun _ => True) (.slice Ao17 t331.length co17) t331) ∧ Aside0 (Kd.R (Kd.int .i64) 3 wc w.heap.size (fun k_ => some k_ ≠ ((.slice Ao22 t337.length co22) : Value).ownBlock) (.slice Ao14 t325.length co14) t325) ∧ Aside0 (Kd.R (Kd.int .i64) 3 wc w.heap.size (fun k_ => some k_ ≠ ((.slice Ao14 t325.length co14) : Value).ownBlock) (.slice Ao22 t337.length co22) t337) ∧ Aside0 (wc.heap[gb330]? = some (.cells #[.int .i64 t322, .int .i64 t323, .string t324, (.slice Ao14 t325.length co14)] 29 (0, 0))) ∧ Aside0 (wc.heap[gb342]? = some (.cells #[.int .i64 t334, .int .i64 t335, .string t336, (.slice Ao22 t337.length co22)] 29 (0, 0))) ∧ Aside0 (Below w.heap.size w wc))
    case first =>
      have H := HC8.out
      clear HC8
      replace H := Option.bind_eq_some_iff.mp H
      obtain ⟨t343, A240, H⟩ := H
      replace H : (if t343 = true then (if t340 = t328 then (laws_FnExactGetVal.j0 k l0 a1 t328 t329 t331 t340 t341 (t341 != t329) t322 t323 t324 t325 t334 t335 t336 t337) else (laws_FnExactGetVal.j0 k l0 a1 t328 t329 t331 t340 t341 true t322 t323 t324 t325 t334 t335 t336 t337)) else (laws_FnExactGetVal.j0 k l0 a1 t328 t329 t331 t340 t341 true t322 t323 t324 t325 t334 t335 t336 t337)) = some r := H
      have A24 := am A240
      clear A240
      by_cases c25 : t343 = true
      · subst c25
        have H1 : (if t340 = t328 then (laws_FnExactGetVal.j0 k l0 a1 t328 t329 t331 t340 t341 (t341 != t329) t322 t323 t324 t325 t334 t335 t336 t337) else (laws_FnExactGetVal.j0 k l0 a1 t328 t329 t331 t340 t341 true t322 t323 t324 t325 t334 t335 t336 t337)) = some r := by rw [if_pos rfl] at H; exact H
        clear H
        have H := H1
        clear H1
        by_cases c26 : t340 = t328
        · rw [if_pos c26] at H
          have c26b0 : (t340 == t328) = true := beq_iff_eq.mpr c26
          have c26b1 : (t340 != t328) = false := bne_eq_false_iff_eq.mpr c26
          clear c26
          (first | rw [c26b0] | (simp only [i64_w, i32_w]; rw [c26b0]) | skip)
          have H' := am H
          clear H
          have hnb27 := NB342_330.out
          have hnc27 := NB330_342.out
          have hcz28_0 : w23.cell? ⟨gb342, 0, none⟩ = some (.int .i64 t334) := (blk_cell BK342.out 0).trans rfl
          have hcz28_1 : w23.cell? ⟨gb342, 1, none⟩ = some (.int .i64 t335) := (blk_cell BK342.out 1).trans rfl
          have hcz28_2 : w23.cell? ⟨gb342, 2, none⟩ = some (.string t336) := (blk_cell BK342.out 2).trans rfl
          have hcz28_3 : w23.cell? ⟨gb342, 3, none⟩ = some (.slice Ao22 t337.length co22) := (blk_cell BK342.out 3).trans rfl
          have hfz28_0 := blk_frozen BK342.out 0
          have hfz28_1 := blk_frozen BK342.out 1
          have hfz28_2 := blk_frozen BK342.out 2
          have hfz28_3 := blk_frozen BK342.out 3
          have hcz29_0 : w23.cell? ⟨gb330, 0, none⟩ = some (.int .i64 t322) := (blk_cell BK330.out 0).trans rfl
          have hcz29_1 : w23.cell? ⟨gb330, 1, none⟩ = some (.int .i64 t323) := (blk_cell BK330.out 1).trans rfl
          have hcz29_2 : w23.cell? ⟨gb330, 2, none⟩ = some (.string t324) := (blk_cell BK330.out 2).trans rfl
          have hcz29_3 : w23.cell? ⟨gb330, 3, none⟩ = some (.slice Ao14 t325.length co14) := (blk_cell BK330.out 3).trans rfl
          have hfz29_0 := blk_frozen BK330.out 0
          have hfz29_1 := blk_frozen BK330.out 1
          have hfz29_2 := blk_frozen BK330.out 2
          have hfz29_3 := blk_frozen BK330.out 3
          go_wp2_with (first | ((with_reducible refine gate_callee (f := 19) rfl ?_); refine goesL_ (some 40) rfl rfl Try.func19 (by kernel_rfl) rfl #[.agg #[.int .i64 t334, .int .i64 t335, .string t336, .slice Ao22 t337.length co22], .agg #[.int .i64 t322, .int .i64 t323, .string t324, .slice Ao14 t325.length co14]] rfl (by (try simp only [List.map_toArray, List.map_cons, List.map_nil]); first | done | rfl | (simp only [List.length_drop, List.length_take]; rfl)) ?_; (with_reducible refine (laws_eqVal.calls k t334 t335 t336 _ _ t337 t322 t323 t324 _ _ t325 true _ ?side1 ?side2 ?side3 ?side4 A24.out).mono ?_); (case side1 => repeat (first | exact (Kd.R_reads' HO339.out).2.2 | (with_reducible refine Kd.C_alloc ?_ _) | (with_reducible refine Kd.C_drewN ?_ _) | (with_reducible refine Kd.C_drew ?_))); (case side2 => exact (Kd.R_reads' HO339.out).2.1); (case side3 => repeat (first | exact (Kd.R_reads' HO327.out).2.2 | (with_reducible refine Kd.C_alloc ?_ _) | (with_reducible refine Kd.C_drewN ?_ _) | (with_reducible refine Kd.C_drew ?_))); (case side4 => exact (Kd.R_reads' HO327.out).2.1); rintro e w30 ⟨rfl, hb⟩; refine ⟨_, rfl, ?_⟩; have n0_ := am (Kd.R_below (kqR HO321.out) hb); have n1_ := am (Kd.R_below (kqR HO327.out) hb); have n2_ := am (Kd.R_below (kqR HO333.out) hb); have n3_ := am (Kd.R_below (kqR HO339.out) hb); have n4_ := am (blk_below (g := gb330) (o := .cells #[.int .i64 t322, .int .i64 t323, .string t324, .slice Ao14 t325.length co14] 29 (0, 0)) (zq BK330.out) hb); have n5_ := am (blk_below (g := gb342) (o := .cells #[.int .i64 t334, .int .i64 t335, .string t336, .slice Ao22 t337.length co22] 29 (0, 0)) (zq BK342.out) hb); have n6_ := am (below_step (by repeat (first | (with_reducible first | exact HB.out | apply below_alloc | apply pw_below_drewN | apply below_drew1 | refine below_set ?_ GE330.out | refine below_set ?_ GE342.out) | exact HB.out)) hb); clear HO321; clear HO327; clear HO333; clear HO339; clear BK330; clear BK342; clear HB; have HO321 := n0_; have HO327 := n1_; have HO333 := n2_; have HO339 := n3_; have BK330 := n4_; have BK342 := n5_; have HB := n6_; clear n0_ n1_ n2_ n3_ n4_ n5_ n6_; (try clear hb); (try clear hb2); (try clear hk); (try clear hi)))
          go_meet
          case rel => exact ⟨_, ((t341 != t329)), (by first | rfl | (simp; done) | (simp [*]; done)), H', ⟨by first | omega | exact Nat.le_refl _⟩, ⟨by (with_reducible repeat (first | apply Kd.R_alloc | apply Kd.R_drewN | apply Kd.R_drew)); exact Kd.R_mono HO333.out (fun _ hk => trivial)⟩, ⟨kqR HO327.out⟩, ⟨kqR HO339.out⟩, ⟨zq BK330.out⟩, ⟨zq BK342.out⟩, ⟨by repeat (first | (with_reducible first | exact HB.out | apply below_alloc | apply pw_below_drewN | apply below_drew1 | refine below_set ?_ GE330.out | refine below_set ?_ GE342.out) | exact HB.out)⟩⟩
        · rw [if_neg c26] at H
          have c26b0 : (t340 == t328) = false := beq_eq_false_iff_ne.mpr c26
          have c26b1 : (t340 != t328) = true := bne_iff_ne.mpr c26
          (first | rw [c26b0] | (simp only [i64_w, i32_w]; rw [c26b0]) | skip)
          have H' := am H
          clear H
          have hnb31 := NB342_330.out
          have hnc31 := NB330_342.out
          have hcz32_0 : w23.cell? ⟨gb342, 0, none⟩ = some (.int .i64 t334) := (blk_cell BK342.out 0).trans rfl
          have hcz32_1 : w23.cell? ⟨gb342, 1, none⟩ = some (.int .i64 t335) := (blk_cell BK342.out 1).trans rfl
          have hcz32_2 : w23.cell? ⟨gb342, 2, none⟩ = some (.string t336) := (blk_cell BK342.out 2).trans rfl
          have hcz32_3 : w23.cell? ⟨gb342, 3, none⟩ = some (.slice Ao22 t337.length co22) := (blk_cell BK342.out 3).trans rfl
          have hfz32_0 := blk_frozen BK342.out 0
          have hfz32_1 := blk_frozen BK342.out 1
          have hfz32_2 := blk_frozen BK342.out 2
          have hfz32_3 := blk_frozen BK342.out 3
          have hcz33_0 : w23.cell? ⟨gb330, 0, none⟩ = some (.int .i64 t322) := (blk_cell BK330.out 0).trans rfl
          have hcz33_1 : w23.cell? ⟨gb330, 1, none⟩ = some (.int .i64 t323) := (blk_cell BK330.out 1).trans rfl
          have hcz33_2 : w23.cell? ⟨gb330, 2, none⟩ = some (.string t324) := (blk_cell BK330.out 2).trans rfl
          have hcz33_3 : w23.cell? ⟨gb330, 3, none⟩ = some (.slice Ao14 t325.length co14) := (blk_cell BK330.out 3).trans rfl
          have hfz33_0 := blk_frozen BK330.out 0
          have hfz33_1 := blk_frozen BK330.out 1
          have hfz33_2 := blk_frozen BK330.out 2
          have hfz33_3 := blk_frozen BK330.out 3
          go_wp2_with (first | ((with_reducible refine gate_callee (f := 19) rfl ?_); refine goesL_ (some 40) rfl rfl Try.func19 (by kernel_rfl) rfl #[.agg #[.int .i64 t334, .int .i64 t335, .string t336, .slice Ao22 t337.length co22], .agg #[.int .i64 t322, .int .i64 t323, .string t324, .slice Ao14 t325.length co14]] rfl (by (try simp only [List.map_toArray, List.map_cons, List.map_nil]); first | done | rfl | (simp only [List.length_drop, List.length_take]; rfl)) ?_; (with_reducible refine (laws_eqVal.calls k t334 t335 t336 _ _ t337 t322 t323 t324 _ _ t325 true _ ?side1 ?side2 ?side3 ?side4 A24.out).mono ?_); (case side1 => repeat (first | exact (Kd.R_reads' HO339.out).2.2 | (with_reducible refine Kd.C_alloc ?_ _) | (with_reducible refine Kd.C_drewN ?_ _) | (with_reducible refine Kd.C_drew ?_))); (case side2 => exact (Kd.R_reads' HO339.out).2.1); (case side3 => repeat (first | exact (Kd.R_reads' HO327.out).2.2 | (with_reducible refine Kd.C_alloc ?_ _) | (with_reducible refine Kd.C_drewN ?_ _) | (with_reducible refine Kd.C_drew ?_))); (case side4 => exact (Kd.R_reads' HO327.out).2.1); rintro e w34 ⟨rfl, hb⟩; refine ⟨_, rfl, ?_⟩; have n0_ := am (Kd.R_below (kqR HO321.out) hb); have n1_ := am (Kd.R_below (kqR HO327.out) hb); have n2_ := am (Kd.R_below (kqR HO333.out) hb); have n3_ := am (Kd.R_below (kqR HO339.out) hb); have n4_ := am (blk_below (g := gb330) (o := .cells #[.int .i64 t322, .int .i64 t323, .string t324, .slice Ao14 t325.length co14] 29 (0, 0)) (zq BK330.out) hb); have n5_ := am (blk_below (g := gb342) (o := .cells #[.int .i64 t334, .int .i64 t335, .string t336, .slice Ao22 t337.length co22] 29 (0, 0)) (zq BK342.out) hb); have n6_ := am (below_step (by repeat (first | (with_reducible first | exact HB.out | apply below_alloc | apply pw_below_drewN | apply below_drew1 | refine below_set ?_ GE330.out | refine below_set ?_ GE342.out) | exact HB.out)) hb); clear HO321; clear HO327; clear HO333; clear HO339; clear BK330; clear BK342; clear HB; have HO321 := n0_; have HO327 := n1_; have HO333 := n2_; have HO339 := n3_; have BK330 := n4_; have BK342 := n5_; have HB := n6_; clear n0_ n1_ n2_ n3_ n4_ n5_ n6_; (try clear hb); (try clear hb2); (try clear hk); (try clear hi)))
          go_meet
          case rel => exact ⟨_, (true), (by first | rfl | (simp; done) | (simp [*]; done)), H', ⟨by first | omega | exact Nat.le_refl _⟩, ⟨by (with_reducible repeat (first | apply Kd.R_alloc | apply Kd.R_drewN | apply Kd.R_drew)); exact Kd.R_mono HO333.out (fun _ hk => trivial)⟩, ⟨kqR HO327.out⟩, ⟨kqR HO339.out⟩, ⟨zq BK330.out⟩, ⟨zq BK342.out⟩, ⟨by repeat (first | (with_reducible first | exact HB.out | apply below_alloc | apply pw_below_drewN | apply below_drew1 | refine below_set ?_ GE330.out | refine below_set ?_ GE342.out) | exact HB.out)⟩⟩
      · replace c25 := Bool.eq_false_iff.mpr c25
        subst c25
        have H1 : (laws_FnExactGetVal.j0 k l0 a1 t328 t329 t331 t340 t341 true t322 t323 t324 t325 t334 t335 t336 t337) = some r := by rw [if_neg (show ¬ (false = true) by decide)] at H; exact H
        clear H
        have H := H1
        clear H1
        have H' := am H
        clear H
        have hnb35 := NB342_330.out
        have hnc35 := NB330_342.out
        have hcz36_0 : w23.cell? ⟨gb342, 0, none⟩ = some (.int .i64 t334) := (blk_cell BK342.out 0).trans rfl
        have hcz36_1 : w23.cell? ⟨gb342, 1, none⟩ = some (.int .i64 t335) := (blk_cell BK342.out 1).trans rfl
        have hcz36_2 : w23.cell? ⟨gb342, 2, none⟩ = some (.string t336) := (blk_cell BK342.out 2).trans rfl
        have hcz36_3 : w23.cell? ⟨gb342, 3, none⟩ = some (.slice Ao22 t337.length co22) := (blk_cell BK342.out 3).trans rfl
        have hfz36_0 := blk_frozen BK342.out 0
        have hfz36_1 := blk_frozen BK342.out 1
        have hfz36_2 := blk_frozen BK342.out 2
        have hfz36_3 := blk_frozen BK342.out 3
        have hcz37_0 : w23.cell? ⟨gb330, 0, none⟩ = some (.int .i64 t322) := (blk_cell BK330.out 0).trans rfl
        have hcz37_1 : w23.cell? ⟨gb330, 1, none⟩ = some (.int .i64 t323) := (blk_cell BK330.out 1).trans rfl
        have hcz37_2 : w23.cell? ⟨gb330, 2, none⟩ = some (.string t324) := (blk_cell BK330.out 2).trans rfl
        have hcz37_3 : w23.cell? ⟨gb330, 3, none⟩ = some (.slice Ao14 t325.length co14) := (blk_cell BK330.out 3).trans rfl
        have hfz37_0 := blk_frozen BK330.out 0
        have hfz37_1 := blk_frozen BK330.out 1
        have hfz37_2 := blk_frozen BK330.out 2
        have hfz37_3 := blk_frozen BK330.out 3
        go_wp2_with (first | ((with_reducible refine gate_callee (f := 19) rfl ?_); refine goesL_ (some 40) rfl rfl Try.func19 (by kernel_rfl) rfl #[.agg #[.int .i64 t334, .int .i64 t335, .string t336, .slice Ao22 t337.length co22], .agg #[.int .i64 t322, .int .i64 t323, .string t324, .slice Ao14 t325.length co14]] rfl (by (try simp only [List.map_toArray, List.map_cons, List.map_nil]); first | done | rfl | (simp only [List.length_drop, List.length_take]; rfl)) ?_; (with_reducible refine (laws_eqVal.calls k t334 t335 t336 _ _ t337 t322 t323 t324 _ _ t325 false _ ?side1 ?side2 ?side3 ?side4 A24.out).mono ?_); (case side1 => repeat (first | exact (Kd.R_reads' HO339.out).2.2 | (with_reducible refine Kd.C_alloc ?_ _) | (with_reducible refine Kd.C_drewN ?_ _) | (with_reducible refine Kd.C_drew ?_))); (case side2 => exact (Kd.R_reads' HO339.out).2.1); (case side3 => repeat (first | exact (Kd.R_reads' HO327.out).2.2 | (with_reducible refine Kd.C_alloc ?_ _) | (with_reducible refine Kd.C_drewN ?_ _) | (with_reducible refine Kd.C_drew ?_))); (case side4 => exact (Kd.R_reads' HO327.out).2.1); rintro e w38 ⟨rfl, hb⟩; refine ⟨_, rfl, ?_⟩; have n0_ := am (Kd.R_below (kqR HO321.out) hb); have n1_ := am (Kd.R_below (kqR HO327.out) hb); have n2_ := am (Kd.R_below (kqR HO333.out) hb); have n3_ := am (Kd.R_below (kqR HO339.out) hb); have n4_ := am (blk_below (g := gb330) (o := .cells #[.int .i64 t322, .int .i64 t323, .string t324, .slice Ao14 t325.length co14] 29 (0, 0)) (zq BK330.out) hb); have n5_ := am (blk_below (g := gb342) (o := .cells #[.int .i64 t334, .int .i64 t335, .string t336, .slice Ao22 t337.length co22] 29 (0, 0)) (zq BK342.out) hb); have n6_ := am (below_step (by repeat (first | (with_reducible first | exact HB.out | apply below_alloc | apply pw_below_drewN | apply below_drew1 | refine below_set ?_ GE330.out | refine below_set ?_ GE342.out) | exact HB.out)) hb); clear HO321; clear HO327; clear HO333; clear HO339; clear BK330; clear BK342; clear HB; have HO321 := n0_; have HO327 := n1_; have HO333 := n2_; have HO339 := n3_; have BK330 := n4_; have BK342 := n5_; have HB := n6_; clear n0_ n1_ n2_ n3_ n4_ n5_ n6_; (try clear hb); (try clear hb2); (try clear hk); (try clear hi)))
        go_meet
        case rel => exact ⟨_, (true), (by first | rfl | (simp; done) | (simp [*]; done)), H', ⟨by first | omega | exact Nat.le_refl _⟩, ⟨by (with_reducible repeat (first | apply Kd.R_alloc | apply Kd.R_drewN | apply Kd.R_drew)); exact Kd.R_mono HO333.out (fun _ hk => trivial)⟩, ⟨kqR HO327.out⟩, ⟨kqR HO339.out⟩, ⟨zq BK330.out⟩, ⟨zq BK342.out⟩, ⟨by repeat (first | (with_reducible first | exact HB.out | apply below_alloc | apply pw_below_drewN | apply below_drew1 | refine below_set ?_ GE330.out | refine below_set ?_ GE342.out) | exact HB.out)⟩⟩
    case rest =>
      clear HC8
      try clear c1
      try clear c2
      try clear p2
      try clear c3
      try clear c3b0
      try clear c3b1
      try clear c5
      try clear c15
      try clear c19
      try clear c20
      try clear c25
      try clear c26
      try clear c26b0
      try clear c26b1
      try clear c27
      try clear c31
      try clear c35
      try clear c36
      try clear hcz13_0
      try clear hcz13_1
      try clear hcz13_2
      try clear hcz13_3
      try clear hcz21_0
      try clear hcz21_1
      try clear hcz21_2
      try clear hcz21_3
      try clear hcz28_0
      try clear hcz28_1
      try clear hcz28_2
      try clear hcz28_3
      try clear hcz29_0
      try clear hcz29_1
      try clear hcz29_2
      try clear hcz29_3
      try clear hcz32_0
      try clear hcz32_1
      try clear hcz32_2
      try clear hcz32_3
      try clear hcz33_0
      try clear hcz33_1
      try clear hcz33_2
      try clear hcz33_3
      try clear hcz36_0
      try clear hcz36_1
      try clear hcz36_2
      try clear hcz36_3
      try clear hcz37_0
      try clear hcz37_1
      try clear hcz37_2
      try clear hcz37_3
      try clear hfz13_0
      try clear hfz13_1
      try clear hfz13_2
      try clear hfz13_3
      try clear hfz21_0
      try clear hfz21_1
      try clear hfz21_2
      try clear hfz21_3
      try clear hfz28_0
      try clear hfz28_1
      try clear hfz28_2
      try clear hfz28_3
      try clear hfz29_0
      try clear hfz29_1
      try clear hfz29_2
      try clear hfz29_3
      try clear hfz32_0
      try clear hfz32_1
      try clear hfz32_2
      try clear hfz32_3
      try clear hfz33_0
      try clear hfz33_1
      try clear hfz33_2
      try clear hfz33_3
      try clear hfz36_0
      try clear hfz36_1
      try clear hfz36_2
      try clear hfz36_3
      try clear hfz37_0
      try clear hfz37_1
      try clear hfz37_2
      try clear hfz37_3
      obtain ⟨kq, x51_7, rfl, HA, HJ7, HO_8, HO_331003, HO_343003, BK330, BK342, HB⟩ := hcut
      cases kq with
      | zero => exact absurd HA.out (by simp [laws_FnExactGetVal.j0])
      | succ kj7 =>
        have H := HA.out
        clear HA
        simp only [laws_FnExactGetVal.j0] at H
        by_cases c39 : x51_7 = true
        · subst c39
          have H1 : (some false) = some r := by rw [if_pos rfl] at H; exact H
          clear H
          have H := H1
          clear H1
          exact absurd ((Option.some.inj H).trans HRT.out) (by decide)
        · replace c39 := Bool.eq_false_iff.mpr c39
          subst c39
          have H1 : ((laws_toByteS.f kj7 l0).bind fun t344 => ((laws_eqByteS.f kj7 t331 t344).bind fun t347 => (if t347 = true then ((laws_markByteS.f kj7 t331 1).bind fun bt348 => (if bt348.1 < 0 then (laws_FnExactGetVal.j1 kj7 l0 a1 t328 t329 true t322 t323 t324 t325 t334 t335 t336 t337) else ((laws_eqVal.f kj7 t334 t335 t336 t337 t322 t323 t324 t325).bind fun t350 => (if t350 = true then (if t340 = t328 then (laws_FnExactGetVal.j1 kj7 l0 a1 t328 t329 (t341 != t329) t322 t323 t324 t325 t334 t335 t336 t337) else (laws_FnExactGetVal.j1 kj7 l0 a1 t328 t329 true t322 t323 t324 t325 t334 t335 t336 t337)) else (laws_FnExactGetVal.j1 kj7 l0 a1 t328 t329 true t322 t323 t324 t325 t334 t335 t336 t337))))) else (some false)))) = some r := by rw [if_neg (show ¬ (false = true) by decide)] at H; exact H
          clear H
          have H := H1
          clear H1
          replace H := Option.bind_eq_some_iff.mp H
          obtain ⟨t344, A400, H⟩ := H
          replace H : ((laws_eqByteS.f kj7 t331 t344).bind fun t347 => (if t347 = true then ((laws_markByteS.f kj7 t331 1).bind fun bt348 => (if bt348.1 < 0 then (laws_FnExactGetVal.j1 kj7 l0 a1 t328 t329 true t322 t323 t324 t325 t334 t335 t336 t337) else ((laws_eqVal.f kj7 t334 t335 t336 t337 t322 t323 t324 t325).bind fun t350 => (if t350 = true then (if t340 = t328 then (laws_FnExactGetVal.j1 kj7 l0 a1 t328 t329 (t341 != t329) t322 t323 t324 t325 t334 t335 t336 t337) else (laws_FnExactGetVal.j1 kj7 l0 a1 t328 t329 true t322 t323 t324 t325 t334 t335 t336 t337)) else (laws_FnExactGetVal.j1 kj7 l0 a1 t328 t329 true t322 t323 t324 t325 t334 t335 t336 t337))))) else (some false))) = some r := H
          have A40 := am A400
          clear A400
          replace H := Option.bind_eq_some_iff.mp H
          obtain ⟨t347, A410, H⟩ := H
          replace H : (if t347 = true then ((laws_markByteS.f kj7 t331 1).bind fun bt348 => (if bt348.1 < 0 then (laws_FnExactGetVal.j1 kj7 l0 a1 t328 t329 true t322 t323 t324 t325 t334 t335 t336 t337) else ((laws_eqVal.f kj7 t334 t335 t336 t337 t322 t323 t324 t325).bind fun t350 => (if t350 = true then (if t340 = t328 then (laws_FnExactGetVal.j1 kj7 l0 a1 t328 t329 (t341 != t329) t322 t323 t324 t325 t334 t335 t336 t337) else (laws_FnExactGetVal.j1 kj7 l0 a1 t328 t329 true t322 t323 t324 t325 t334 t335 t336 t337)) else (laws_FnExactGetVal.j1 kj7 l0 a1 t328 t329 true t322 t323 t324 t325 t334 t335 t336 t337))))) else (some false)) = some r := H
          have A41 := am A410
          clear A410
          by_cases c42 : t347 = true
          · subst c42
            have H1 : ((laws_markByteS.f kj7 t331 1).bind fun bt348 => (if bt348.1 < 0 then (laws_FnExactGetVal.j1 kj7 l0 a1 t328 t329 true t322 t323 t324 t325 t334 t335 t336 t337) else ((laws_eqVal.f kj7 t334 t335 t336 t337 t322 t323 t324 t325).bind fun t350 => (if t350 = true then (if t340 = t328 then (laws_FnExactGetVal.j1 kj7 l0 a1 t328 t329 (t341 != t329) t322 t323 t324 t325 t334 t335 t336 t337) else (laws_FnExactGetVal.j1 kj7 l0 a1 t328 t329 true t322 t323 t324 t325 t334 t335 t336 t337)) else (laws_FnExactGetVal.j1 kj7 l0 a1 t328 t329 true t322 t323 t324 t325 t334 t335 t336 t337))))) = some r := by rw [if_pos rfl] at H; exact H
            clear H
            have H := H1
            clear H1
            replace H := Option.bind_eq_some_iff.mp H
            obtain ⟨⟨t348, t349⟩, A430, H⟩ := H
            replace H : (if t348 < 0 then (laws_FnExactGetVal.j1 kj7 l0 a1 t328 t329 true t322 t323 t324 t325 t334 t335 t336 t337) else ((laws_eqVal.f kj7 t334 t335 t336 t337 t322 t323 t324 t325).bind fun t350 => (if t350 = true then (if t340 = t328 then (laws_FnExactGetVal.j1 kj7 l0 a1 t328 t329 (t341 != t329) t322 t323 t324 t325 t334 t335 t336 t337) else (laws_FnExactGetVal.j1 kj7 l0 a1 t328 t329 true t322 t323 t324 t325 t334 t335 t336 t337)) else (laws_FnExactGetVal.j1 kj7 l0 a1 t328 t329 true t322 t323 t324 t325 t334 t335 t336 t337)))) = some r := H
            have A43 := am A430
            clear A430
            have HC44 := am H
            clear H
            go_upto_region 12 with (first | ((with_reducible refine gate_callee (f := 15) rfl ?_); refine goesL_ (some 54) rfl rfl Try.func15 (by kernel_rfl) rfl #[.slice A0 l0.length c0] rfl (by (try simp only [List.map_toArray, List.map_cons, List.map_nil]); first | done | rfl | (simp only [List.length_drop, List.length_take]; rfl)) ?_; (with_reducible refine (laws_toByteS.calls kj7 _ _ l0 t344 _ ?side1 ?side2 A40.out).mono ?_); (case side1 => exact cq (Kd.C_below HR0.out HB.out)); (case side2 => exact HC0.out); rintro e w45 ⟨v345, rfl, ho0, hb⟩; refine ⟨_, rfl, ?_⟩; have n0_ := am (Kd.R_elder' (kqR HO_8.out) (Kd.R_base ho0) hb); have n1_ := am (Kd.R_below (kqR HO_331003.out) hb); have n2_ := am (Kd.R_below (kqR HO_343003.out) hb); have n3_ := am (Kd.R_lower (Kd.R_new' ho0 (Kd.R_lt (kqR HO_8.out))) (below_size (by repeat (first | (with_reducible first | exact HB.out | apply below_alloc | apply pw_below_drewN | apply below_drew1 | refine below_set ?_ GE330.out | refine below_set ?_ GE342.out) | exact HB.out)))); have n4_ := am (blk_below (g := gb330) (o := .cells #[.int .i64 t322, .int .i64 t323, .string t324, .slice Ao14 t325.length co14] 29 (0, 0)) (zq BK330.out) hb); have n5_ := am (blk_below (g := gb342) (o := .cells #[.int .i64 t334, .int .i64 t335, .string t336, .slice Ao22 t337.length co22] 29 (0, 0)) (zq BK342.out) hb); have n6_ := am (below_step (by repeat (first | (with_reducible first | exact HB.out | apply below_alloc | apply pw_below_drewN | apply below_drew1 | refine below_set ?_ GE330.out | refine below_set ?_ GE342.out) | exact HB.out)) hb); clear HO_8; clear HO_331003; clear HO_343003; clear BK330; clear BK342; clear HB; have HO_8 := n0_; have HO_331003 := n1_; have HO_343003 := n2_; have HO346 := n3_; have BK330 := n4_; have BK342 := n5_; have HB := n6_; clear n0_ n1_ n2_ n3_ n4_ n5_ n6_; (try clear hb); (try clear hb2); (try clear hk); (try clear hi); (try clear ho0); obtain ⟨Ao46, co46, eo46⟩ := Kd.R_slice HO346.out; subst eo46) | ((with_reducible refine gate_callee (f := 18) rfl ?_); refine goesL_ (some 55) rfl rfl Try.func18 (by kernel_rfl) rfl #[.slice Ao17 t331.length co17, .slice Ao46 t344.length co46] rfl (by (try simp only [List.map_toArray, List.map_cons, List.map_nil]); first | done | rfl | (simp only [List.length_drop, List.length_take]; rfl)) ?_; (with_reducible refine (laws_eqByteS.calls kj7 _ _ t331 _ _ t344 true _ ?side1 ?side2 ?side3 ?side4 A41.out).mono ?_); (case side1 => repeat (first | exact (Kd.R_reads' HO_8.out).2.2 | (with_reducible refine Kd.C_alloc ?_ _) | (with_reducible refine Kd.C_drewN ?_ _) | (with_reducible refine Kd.C_drew ?_))); (case side2 => exact (Kd.R_reads' HO_8.out).2.1); (case side3 => repeat (first | exact (Kd.R_reads' HO346.out).2.2 | (with_reducible refine Kd.C_alloc ?_ _) | (with_reducible refine Kd.C_drewN ?_ _) | (with_reducible refine Kd.C_drew ?_))); (case side4 => exact (Kd.R_reads' HO346.out).2.1); rintro e w' ⟨rfl, ⟨nd, rfl⟩⟩; refine ⟨_, rfl, ?_⟩) | ((with_reducible refine gate_callee (f := 20) rfl ?_); refine goesL_ (some 59) rfl rfl Try.func20 (by kernel_rfl) rfl #[.slice Ao17 t331.length co17, .int .i64 1] rfl (by (try simp only [List.map_toArray, List.map_cons, List.map_nil]); first | done | rfl | (simp only [List.length_drop, List.length_take]; rfl)) ?_; (with_reducible refine (laws_markByteS.calls kj7 (fun k_ => some k_ = (.slice Ao17 t331.length co17 : Value).ownBlock) (.slice Ao17 t331.length co17) t331 1 t348 t349 w _ ?side1 ?side2 A43.out).mono ?_); (case side1 => repeat (first | (with_reducible first | exact HB.out | apply below_alloc | apply pw_below_drewN | apply below_drew1 | refine below_set ?_ GE330.out | refine below_set ?_ GE342.out) | exact HB.out)); (case side2 => exact Kd.R_tight rfl HO_8.out); rintro e w47 ⟨rfl, hy0, hb, hkp⟩; refine ⟨_, rfl, ?_⟩; have n0_ := am (Kd.R_reok rfl hy0 (fun k_ e_ => HO_8.out.1 k_ e_)); have n1_ := am (Kd.R_mono (ok' := fun k_ => some k_ ≠ (.slice Ao22 t337.length co22 : Value).ownBlock) (Kd.R_keptB ((Kd.R_apart' HO_331003.out (Kd.R_typed HO_8.out) (by decide))) hkp (fun k_ hk_ hs_ => (hk_.2) hs_)) (fun k_ hk_ => hk_.1.1)); have n2_ := am (Kd.R_mono (ok' := fun k_ => some k_ ≠ (.slice Ao14 t325.length co14 : Value).ownBlock) (Kd.R_keptB ((Kd.R_apart' HO_343003.out (Kd.R_typed HO_8.out) (by decide))) hkp (fun k_ hk_ hs_ => (hk_.2) hs_)) (fun k_ hk_ => hk_.1.1)); have n3_ := am (blk_kept (zq BK330.out) hkp (fun hs_ => (fun e_ => (Kd.R_ne HO_8.out BK330.out (by decide)) e_) hs_)); have n4_ := am (blk_kept (zq BK342.out) hkp (fun hs_ => (fun e_ => (Kd.R_ne HO_8.out BK342.out (by decide)) e_) hs_)); have n5_ := am (Kd.R_mono (ok' := fun k_ => some k_ ≠ (.slice Ao17 t331.length co17 : Value).ownBlock) (Kd.R_keptB (HO346.out) hkp (fun k_ hk_ hs_ => (hk_.2) hs_)) (fun k_ hk_ => hk_.1.2)); have n6_ := am (hb); clear HO_8; clear HO_331003; clear HO_343003; clear BK330; clear BK342; clear HO346; clear HB; have HO_8 := n0_; have HO_331003 := n1_; have HO_343003 := n2_; have BK330 := n3_; have BK342 := n4_; have HO346 := n5_; have HB := n6_; clear n0_ n1_ n2_ n3_ n4_ n5_ n6_; (try clear hb); (try clear hkp); (try clear hy0)))
            (try simp only [Act.put, List.setIfInBounds_toArray, List.set_cons_zero, List.set_cons_succ])
            go_cut [77] (fun v77 wc => ∃ (kq : Nat) (x77_43 : Bool), v77 = .bool x77_43 ∧ Aside0 (laws_FnExactGetVal.j1 kq l0 a1 t328 t329 x77_43 t322 t323 t324 t325 t334 t335 t336 t337 = some r) ∧ Aside0 (kq ≤ kj7) ∧ Aside0 (Kd.R (Kd.int .i64) 3 wc w.heap.size (fun k_ => some k_ ≠ ((.slice Ao22 t337.length co22) : Value).ownBlock) (.slice Ao14 t325.length co14) t325) ∧ Aside0 (Kd.R (Kd.int .i64) 3 wc w.heap.size (fun k_ => some k_ ≠ ((.slice Ao14 t325.length co14) : Value).ownBlock) (.slice Ao22 t337.length co22) t337) ∧ Aside0 (wc.heap[gb330]? = some (.cells #[.int .i64 t322, .int .i64 t323, .string t324, (.slice Ao14 t325.length co14)] 29 (0, 0))) ∧ Aside0 (wc.heap[gb342]? = some (.cells #[.int .i64 t334, .int .i64 t335, .string t336, (.slice Ao22 t337.length co22)] 29 (0, 0))) ∧ Aside0 (Below w.heap.size w wc))
            case first =>
              have H := HC44.out
              clear HC44
              by_cases c48 : t348 < 0
              · rw [if_pos c48] at H
                have c48b0 : decide (t348 < 0) = true := decide_eq_true c48
                clear c48
                (first | rw [c48b0] | (simp only [i64_w, i32_w]; rw [c48b0]) | skip)
                have H' := am H
                clear H
                go_wp2
                go_meet
                case rel => exact ⟨_, (true), (by first | rfl | (simp; done) | (simp [*]; done)), H', ⟨by have := HJ7.out; first | omega | exact Nat.le_refl _⟩, ⟨kqR HO_331003.out⟩, ⟨kqR HO_343003.out⟩, ⟨zq BK330.out⟩, ⟨zq BK342.out⟩, ⟨by repeat (first | (with_reducible first | exact HB.out | apply below_alloc | apply pw_below_drewN | apply below_drew1 | refine below_set ?_ GE330.out | refine below_set ?_ GE342.out) | exact HB.out)⟩⟩
              · rw [if_neg c48] at H
                have c48b0 : decide (t348 < 0) = false := decide_eq_false c48
                clear c48
                (first | rw [c48b0] | (simp only [i64_w, i32_w]; rw [c48b0]) | skip)
                replace H := Option.bind_eq_some_iff.mp H
                obtain ⟨t350, A490, H⟩ := H
                replace H : (if t350 = true then (if t340 = t328 then (laws_FnExactGetVal.j1 kj7 l0 a1 t328 t329 (t341 != t329) t322 t323 t324 t325 t334 t335 t336 t337) else (laws_FnExactGetVal.j1 kj7 l0 a1 t328 t329 true t322 t323 t324 t325 t334 t335 t336 t337)) else (laws_FnExactGetVal.j1 kj7 l0 a1 t328 t329 true t322 t323 t324 t325 t334 t335 t336 t337)) = some r := H
                have A49 := am A490
                clear A490
                by_cases c50 : t350 = true
                · subst c50
                  have H1 : (if t340 = t328 then (laws_FnExactGetVal.j1 kj7 l0 a1 t328 t329 (t341 != t329) t322 t323 t324 t325 t334 t335 t336 t337) else (laws_FnExactGetVal.j1 kj7 l0 a1 t328 t329 true t322 t323 t324 t325 t334 t335 t336 t337)) = some r := by rw [if_pos rfl] at H; exact H
                  clear H
                  have H := H1
                  clear H1
                  by_cases c51 : t340 = t328
                  · rw [if_pos c51] at H
                    have c51b0 : (t340 == t328) = true := beq_iff_eq.mpr c51
                    have c51b1 : (t340 != t328) = false := bne_eq_false_iff_eq.mpr c51
                    clear c51
                    have H' := am H
                    clear H
                    have hnb52 := NB342_330.out
                    have hnc52 := NB330_342.out
                    have hcz53_0 : w47.cell? ⟨gb342, 0, none⟩ = some (.int .i64 t334) := (blk_cell BK342.out 0).trans rfl
                    have hcz53_1 : w47.cell? ⟨gb342, 1, none⟩ = some (.int .i64 t335) := (blk_cell BK342.out 1).trans rfl
                    have hcz53_2 : w47.cell? ⟨gb342, 2, none⟩ = some (.string t336) := (blk_cell BK342.out 2).trans rfl
                    have hcz53_3 : w47.cell? ⟨gb342, 3, none⟩ = some (.slice Ao22 t337.length co22) := (blk_cell BK342.out 3).trans rfl
                    have hfz53_0 := blk_frozen BK342.out 0
                    have hfz53_1 := blk_frozen BK342.out 1
                    have hfz53_2 := blk_frozen BK342.out 2
                    have hfz53_3 := blk_frozen BK342.out 3
                    have hcz54_0 : w47.cell? ⟨gb330, 0, none⟩ = some (.int .i64 t322) := (blk_cell BK330.out 0).trans rfl
                    have hcz54_1 : w47.cell? ⟨gb330, 1, none⟩ = some (.int .i64 t323) := (blk_cell BK330.out 1).trans rfl
                    have hcz54_2 : w47.cell? ⟨gb330, 2, none⟩ = some (.string t324) := (blk_cell BK330.out 2).trans rfl
                    have hcz54_3 : w47.cell? ⟨gb330, 3, none⟩ = some (.slice Ao14 t325.length co14) := (blk_cell BK330.out 3).trans rfl
                    have hfz54_0 := blk_frozen BK330.out 0
                    have hfz54_1 := blk_frozen BK330.out 1
                    have hfz54_2 := blk_frozen BK330.out 2
                    have hfz54_3 := blk_frozen BK330.out 3
                    go_wp2_with (first | (go_at_call 19; (with_reducible refine (laws_eqVal.calls kj7 t334 t335 t336 _ _ t337 t322 t323 t324 _ _ t325 true _ ?side1 ?side2 ?side3 ?side4 A49.out).mono ?_); (case side1 => repeat (first | exact (Kd.R_reads' HO_343003.out).2.2 | (with_reducible refine Kd.C_alloc ?_ _) | (with_reducible refine Kd.C_drewN ?_ _) | (with_reducible refine Kd.C_drew ?_))); (case side2 => exact (Kd.R_reads' HO_343003.out).2.1); (case side3 => repeat (first | exact (Kd.R_reads' HO_331003.out).2.2 | (with_reducible refine Kd.C_alloc ?_ _) | (with_reducible refine Kd.C_drewN ?_ _) | (with_reducible refine Kd.C_drew ?_))); (case side4 => exact (Kd.R_reads' HO_331003.out).2.1); rintro e w55 ⟨rfl, hb⟩; have n0_ := am (Kd.R_below (kqR HO_8.out) hb); have n1_ := am (Kd.R_below (kqR HO_331003.out) hb); have n2_ := am (Kd.R_below (kqR HO_343003.out) hb); have n3_ := am (Kd.R_below (kqR HO346.out) hb); have n4_ := am (blk_below (g := gb330) (o := .cells #[.int .i64 t322, .int .i64 t323, .string t324, .slice Ao14 t325.length co14] 29 (0, 0)) (zq BK330.out) hb); have n5_ := am (blk_below (g := gb342) (o := .cells #[.int .i64 t334, .int .i64 t335, .string t336, .slice Ao22 t337.length co22] 29 (0, 0)) (zq BK342.out) hb); have n6_ := am (below_step (by repeat (first | (with_reducible first | exact HB.out | apply below_alloc | apply pw_below_drewN | apply below_drew1 | refine below_set ?_ GE330.out | refine below_set ?_ GE342.out) | exact HB.out)) hb); clear HO_8; clear HO_331003; clear HO_343003; clear HO346; clear BK330; clear BK342; clear HB; have HO_8 := n0_; have HO_331003 := n1_; have HO_343003 := n2_; have HO346 := n3_; have BK330 := n4_; have BK342 := n5_; have HB := n6_; clear n0_ n1_ n2_ n3_ n4_ n5_ n6_; (try clear hb); (try clear hb2); (try clear hk); (try clear hi)))
                    go_meet
                    case rel => exact ⟨_, ((t341 != t329)), (by first | rfl | (simp; done) | (simp [*]; done)), H', ⟨by have := HJ7.out; first | omega | exact Nat.le_refl _⟩, ⟨kqR HO_331003.out⟩, ⟨kqR HO_343003.out⟩, ⟨zq BK330.out⟩, ⟨zq BK342.out⟩, ⟨by repeat (first | (with_reducible first | exact HB.out | apply below_alloc | apply pw_below_drewN | apply below_drew1 | refine below_set ?_ GE330.out | refine below_set ?_ GE342.out) | exact HB.out)⟩⟩
                  · rw [if_neg c51] at H
                    have c51b0 : (t340 == t328) = false := beq_eq_false_iff_ne.mpr c51
                    have c51b1 : (t340 != t328) = true := bne_iff_ne.mpr c51
                    have H' := am H
                    clear H
                    have hnb56 := NB342_330.out
                    have hnc56 := NB330_342.out
                    have hcz57_0 : w47.cell? ⟨gb342, 0, none⟩ = some (.int .i64 t334) := (blk_cell BK342.out 0).trans rfl
                    have hcz57_1 : w47.cell? ⟨gb342, 1, none⟩ = some (.int .i64 t335) := (blk_cell BK342.out 1).trans rfl
                    have hcz57_2 : w47.cell? ⟨gb342, 2, none⟩ = some (.string t336) := (blk_cell BK342.out 2).trans rfl
                    have hcz57_3 : w47.cell? ⟨gb342, 3, none⟩ = some (.slice Ao22 t337.length co22) := (blk_cell BK342.out 3).trans rfl
                    have hfz57_0 := blk_frozen BK342.out 0
                    have hfz57_1 := blk_frozen BK342.out 1
                    have hfz57_2 := blk_frozen BK342.out 2
                    have hfz57_3 := blk_frozen BK342.out 3
                    have hcz58_0 : w47.cell? ⟨gb330, 0, none⟩ = some (.int .i64 t322) := (blk_cell BK330.out 0).trans rfl
                    have hcz58_1 : w47.cell? ⟨gb330, 1, none⟩ = some (.int .i64 t323) := (blk_cell BK330.out 1).trans rfl
                    have hcz58_2 : w47.cell? ⟨gb330, 2, none⟩ = some (.string t324) := (blk_cell BK330.out 2).trans rfl
                    have hcz58_3 : w47.cell? ⟨gb330, 3, none⟩ = some (.slice Ao14 t325.length co14) := (blk_cell BK330.out 3).trans rfl
                    have hfz58_0 := blk_frozen BK330.out 0
                    have hfz58_1 := blk_frozen BK330.out 1
                    have hfz58_2 := blk_frozen BK330.out 2
                    have hfz58_3 := blk_frozen BK330.out 3
                    go_wp2_with (first | (go_at_call 19; (with_reducible refine (laws_eqVal.calls kj7 t334 t335 t336 _ _ t337 t322 t323 t324 _ _ t325 true _ ?side1 ?side2 ?side3 ?side4 A49.out).mono ?_); (case side1 => repeat (first | exact (Kd.R_reads' HO_343003.out).2.2 | (with_reducible refine Kd.C_alloc ?_ _) | (with_reducible refine Kd.C_drewN ?_ _) | (with_reducible refine Kd.C_drew ?_))); (case side2 => exact (Kd.R_reads' HO_343003.out).2.1); (case side3 => repeat (first | exact (Kd.R_reads' HO_331003.out).2.2 | (with_reducible refine Kd.C_alloc ?_ _) | (with_reducible refine Kd.C_drewN ?_ _) | (with_reducible refine Kd.C_drew ?_))); (case side4 => exact (Kd.R_reads' HO_331003.out).2.1); rintro e w59 ⟨rfl, hb⟩; have n0_ := am (Kd.R_below (kqR HO_8.out) hb); have n1_ := am (Kd.R_below (kqR HO_331003.out) hb); have n2_ := am (Kd.R_below (kqR HO_343003.out) hb); have n3_ := am (Kd.R_below (kqR HO346.out) hb); have n4_ := am (blk_below (g := gb330) (o := .cells #[.int .i64 t322, .int .i64 t323, .string t324, .slice Ao14 t325.length co14] 29 (0, 0)) (zq BK330.out) hb); have n5_ := am (blk_below (g := gb342) (o := .cells #[.int .i64 t334, .int .i64 t335, .string t336, .slice Ao22 t337.length co22] 29 (0, 0)) (zq BK342.out) hb); have n6_ := am (below_step (by repeat (first | (with_reducible first | exact HB.out | apply below_alloc | apply pw_below_drewN | apply below_drew1 | refine below_set ?_ GE330.out | refine below_set ?_ GE342.out) | exact HB.out)) hb); clear HO_8; clear HO_331003; clear HO_343003; clear HO346; clear BK330; clear BK342; clear HB; have HO_8 := n0_; have HO_331003 := n1_; have HO_343003 := n2_; have HO346 := n3_; have BK330 := n4_; have BK342 := n5_; have HB := n6_; clear n0_ n1_ n2_ n3_ n4_ n5_ n6_; (try clear hb); (try clear hb2); (try clear hk); (try clear hi)))
                    go_meet
                    case rel => exact ⟨_, (true), (by first | rfl | (simp; done) | (simp [*]; done)), H', ⟨by have := HJ7.out; first | omega | exact Nat.le_refl _⟩, ⟨kqR HO_331003.out⟩, ⟨kqR HO_343003.out⟩, ⟨zq BK330.out⟩, ⟨zq BK342.out⟩, ⟨by repeat (first | (with_reducible first | exact HB.out | apply below_alloc | apply pw_below_drewN | apply below_drew1 | refine below_set ?_ GE330.out | refine below_set ?_ GE342.out) | exact HB.out)⟩⟩
                · replace c50 := Bool.eq_false_iff.mpr c50
                  subst c50
                  have H1 : (laws_FnExactGetVal.j1 kj7 l0 a1 t328 t329 true t322 t323 t324 t325 t334 t335 t336 t337) = some r := by rw [if_neg (show ¬ (false = true) by decide)] at H; exact H
                  clear H
                  have H := H1
                  clear H1
                  have H' := am H
                  clear H
                  have hnb60 := NB342_330.out
                  have hnc60 := NB330_342.out
                  have hcz61_0 : w47.cell? ⟨gb342, 0, none⟩ = some (.int .i64 t334) := (blk_cell BK342.out 0).trans rfl
                  have hcz61_1 : w47.cell? ⟨gb342, 1, none⟩ = some (.int .i64 t335) := (blk_cell BK342.out 1).trans rfl
                  have hcz61_2 : w47.cell? ⟨gb342, 2, none⟩ = some (.string t336) := (blk_cell BK342.out 2).trans rfl
                  have hcz61_3 : w47.cell? ⟨gb342, 3, none⟩ = some (.slice Ao22 t337.length co22) := (blk_cell BK342.out 3).trans rfl
                  have hfz61_0 := blk_frozen BK342.out 0
                  have hfz61_1 := blk_frozen BK342.out 1
                  have hfz61_2 := blk_frozen BK342.out 2
                  have hfz61_3 := blk_frozen BK342.out 3
                  have hcz62_0 : w47.cell? ⟨gb330, 0, none⟩ = some (.int .i64 t322) := (blk_cell BK330.out 0).trans rfl
                  have hcz62_1 : w47.cell? ⟨gb330, 1, none⟩ = some (.int .i64 t323) := (blk_cell BK330.out 1).trans rfl
                  have hcz62_2 : w47.cell? ⟨gb330, 2, none⟩ = some (.string t324) := (blk_cell BK330.out 2).trans rfl
                  have hcz62_3 : w47.cell? ⟨gb330, 3, none⟩ = some (.slice Ao14 t325.length co14) := (blk_cell BK330.out 3).trans rfl
                  have hfz62_0 := blk_frozen BK330.out 0
                  have hfz62_1 := blk_frozen BK330.out 1
                  have hfz62_2 := blk_frozen BK330.out 2
                  have hfz62_3 := blk_frozen BK330.out 3
                  go_wp2_with (first | (go_at_call 19; (with_reducible refine (laws_eqVal.calls kj7 t334 t335 t336 _ _ t337 t322 t323 t324 _ _ t325 false _ ?side1 ?side2 ?side3 ?side4 A49.out).mono ?_); (case side1 => repeat (first | exact (Kd.R_reads' HO_343003.out).2.2 | (with_reducible refine Kd.C_alloc ?_ _) | (with_reducible refine Kd.C_drewN ?_ _) | (with_reducible refine Kd.C_drew ?_))); (case side2 => exact (Kd.R_reads' HO_343003.out).2.1); (case side3 => repeat (first | exact (Kd.R_reads' HO_331003.out).2.2 | (with_reducible refine Kd.C_alloc ?_ _) | (with_reducible refine Kd.C_drewN ?_ _) | (with_reducible refine Kd.C_drew ?_))); (case side4 => exact (Kd.R_reads' HO_331003.out).2.1); rintro e w63 ⟨rfl, hb⟩; have n0_ := am (Kd.R_below (kqR HO_8.out) hb); have n1_ := am (Kd.R_below (kqR HO_331003.out) hb); have n2_ := am (Kd.R_below (kqR HO_343003.out) hb); have n3_ := am (Kd.R_below (kqR HO346.out) hb); have n4_ := am (blk_below (g := gb330) (o := .cells #[.int .i64 t322, .int .i64 t323, .string t324, .slice Ao14 t325.length co14] 29 (0, 0)) (zq BK330.out) hb); have n5_ := am (blk_below (g := gb342) (o := .cells #[.int .i64 t334, .int .i64 t335, .string t336, .slice Ao22 t337.length co22] 29 (0, 0)) (zq BK342.out) hb); have n6_ := am (below_step (by repeat (first | (with_reducible first | exact HB.out | apply below_alloc | apply pw_below_drewN | apply below_drew1 | refine below_set ?_ GE330.out | refine below_set ?_ GE342.out) | exact HB.out)) hb); clear HO_8; clear HO_331003; clear HO_343003; clear HO346; clear BK330; clear BK342; clear HB; have HO_8 := n0_; have HO_331003 := n1_; have HO_343003 := n2_; have HO346 := n3_; have BK330 := n4_; have BK342 := n5_; have HB := n6_; clear n0_ n1_ n2_ n3_ n4_ n5_ n6_; (try clear hb); (try clear hb2); (try clear hk); (try clear hi)))
                  go_meet
                  case rel => exact ⟨_, (true), (by first | rfl | (simp; done) | (simp [*]; done)), H', ⟨by have := HJ7.out; first | omega | exact Nat.le_refl _⟩, ⟨kqR HO_331003.out⟩, ⟨kqR HO_343003.out⟩, ⟨zq BK330.out⟩, ⟨zq BK342.out⟩, ⟨by repeat (first | (with_reducible first | exact HB.out | apply below_alloc | apply pw_below_drewN | apply below_drew1 | refine below_set ?_ GE330.out | refine below_set ?_ GE342.out) | exact HB.out)⟩⟩
            case rest =>
              clear HC44
              try clear c1
              try clear c2
              try clear p2
              try clear c3
              try clear c3b0
              try clear c3b1
              try clear c4
              try clear c5
              try clear c6
              try clear c15
              try clear c18
              try clear c19
              try clear c20
              try clear c25
              try clear c26
              try clear c26b0
              try clear c26b1
              try clear c27
              try clear c31
              try clear c35
              try clear c36
              try clear c39
              try clear c42
              try clear c48
              try clear c48b0
              try clear c50
              try clear c51
              try clear c51b0
              try clear c51b1
              try clear c52
              try clear c56
              try clear c60
              try clear hcz13_0
              try clear hcz13_1
              try clear hcz13_2
              try clear hcz13_3
              try clear hcz21_0
              try clear hcz21_1
              try clear hcz21_2
              try clear hcz21_3
              try clear hcz28_0
              try clear hcz28_1
              try clear hcz28_2
              try clear hcz28_3
              try clear hcz29_0
              try clear hcz29_1
              try clear hcz29_2
              try clear hcz29_3
              try clear hcz32_0
              try clear hcz32_1
              try clear hcz32_2
              try clear hcz32_3
              try clear hcz33_0
              try clear hcz33_1
              try clear hcz33_2
              try clear hcz33_3
              try clear hcz36_0
              try clear hcz36_1
              try clear hcz36_2
              try clear hcz36_3
              try clear hcz37_0
              try clear hcz37_1
              try clear hcz37_2
              try clear hcz37_3
              try clear hcz53_0
              try clear hcz53_1
              try clear hcz53_2
              try clear hcz53_3
              try clear hcz54_0
              try clear hcz54_1
              try clear hcz54_2
              try clear hcz54_3
              try clear hcz57_0
              try clear hcz57_1
              try clear hcz57_2
              try clear hcz57_3
              try clear hcz58_0
              try clear hcz58_1
              try clear hcz58_2
              try clear hcz58_3
              try clear hcz61_0
              try clear hcz61_1
              try clear hcz61_2
              try clear hcz61_3
              try clear hcz62_0
              try clear hcz62_1
              try clear hcz62_2
              try clear hcz62_3
              try clear hfz13_0
              try clear hfz13_1
              try clear hfz13_2
              try clear hfz13_3
              try clear hfz21_0
              try clear hfz21_1
              try clear hfz21_2
              try clear hfz21_3
              try clear hfz28_0
              try clear hfz28_1
              try clear hfz28_2
              try clear hfz28_3
              try clear hfz29_0
              try clear hfz29_1
              try clear hfz29_2
              try clear hfz29_3
              try clear hfz32_0
              try clear hfz32_1
              try clear hfz32_2
              try clear hfz32_3
              try clear hfz33_0
              try clear hfz33_1
              try clear hfz33_2
              try clear hfz33_3
              try clear hfz36_0
              try clear hfz36_1
              try clear hfz36_2
              try clear hfz36_3
              try clear hfz37_0
              try clear hfz37_1
              try clear hfz37_2
              try clear hfz37_3
              try clear hfz53_0
              try clear hfz53_1
              try clear hfz53_2
              try clear hfz53_3
              try clear hfz54_0
              try clear hfz54_1
              try clear hfz54_2
              try clear hfz54_3
              try clear hfz57_0
              try clear hfz57_1
              try clear hfz57_2
              try clear hfz57_3
              try clear hfz58_0
              try clear hfz58_1
              try clear hfz58_2
              try clear hfz58_3
              try clear hfz61_0
              try clear hfz61_1
              try clear hfz61_2
              try clear hfz61_3
              try clear hfz62_0
              try clear hfz62_1
              try clear hfz62_2
              try clear hfz62_3
              try clear p2
              obtain ⟨kq, x77_43, rfl, HA, HJ43, HO_331003, HO_343003, BK330, BK342, HB⟩ := hcut
              cases kq with
              | zero => exact absurd HA.out (by simp [laws_FnExactGetVal.j1])
              | succ kj43 =>
                have H := HA.out
                clear HA
                simp only [laws_FnExactGetVal.j1] at H
                by_cases c64 : x77_43 = true
                · subst c64
                  have H1 : (some false) = some r := by rw [if_pos rfl] at H; exact H
                  clear H
                  have H := H1
                  clear H1
                  exact absurd ((Option.some.inj H).trans HRT.out) (by decide)
                · replace c64 := Bool.eq_false_iff.mpr c64
                  subst c64
                  have H1 : ((laws_markVal.f kj43 t334 t335 t336 t337 1).bind fun bt351 => ((laws_heldVal.f kj43 t334 t335 t336 bt351.2 1).bind fun t353 => (if t353 < 0 then (some false) else (if t353 = bt351.1 then ((laws_toByteS.f kj43 l0).bind fun t354 => ((impl_GetVal.f kj43 t354 a1).bind fun bt357 => ((laws_eqVal.f kj43 bt357.1 bt357.2.1 bt357.2.2.1 bt357.2.2.2.1 t322 t323 t324 t325).bind fun t366 => (if t366 = true then (if bt357.2.2.2.2.1 = t328 then (laws_FnExactGetVal.j2 kj43 bt351.1 (bt357.2.2.2.2.2 != t329) t334 t335 t336 bt351.2) else (laws_FnExactGetVal.j2 kj43 bt351.1 true t334 t335 t336 bt351.2)) else (laws_FnExactGetVal.j2 kj43 bt351.1 true t334 t335 t336 bt351.2))))) else (some false))))) = some r := by rw [if_neg (show ¬ (false = true) by decide)] at H; exact H
                  clear H
                  have H := H1
                  clear H1
                  replace H := Option.bind_eq_some_iff.mp H
                  obtain ⟨⟨t351, t352⟩, A650, H⟩ := H
                  replace H : ((laws_heldVal.f kj43 t334 t335 t336 t352 1).bind fun t353 => (if t353 < 0 then (some false) else (if t353 = t351 then ((laws_toByteS.f kj43 l0).bind fun t354 => ((impl_GetVal.f kj43 t354 a1).bind fun bt357 => ((laws_eqVal.f kj43 bt357.1 bt357.2.1 bt357.2.2.1 bt357.2.2.2.1 t322 t323 t324 t325).bind fun t366 => (if t366 = true then (if bt357.2.2.2.2.1 = t328 then (laws_FnExactGetVal.j2 kj43 t351 (bt357.2.2.2.2.2 != t329) t334 t335 t336 t352) else (laws_FnExactGetVal.j2 kj43 t351 true t334 t335 t336 t352)) else (laws_FnExactGetVal.j2 kj43 t351 true t334 t335 t336 t352))))) else (some false)))) = some r := H
                  have A65 := am A650
                  clear A650
                  replace H := Option.bind_eq_some_iff.mp H
                  obtain ⟨t353, A660, H⟩ := H
                  replace H : (if t353 < 0 then (some false) else (if t353 = t351 then ((laws_toByteS.f kj43 l0).bind fun t354 => ((impl_GetVal.f kj43 t354 a1).bind fun bt357 => ((laws_eqVal.f kj43 bt357.1 bt357.2.1 bt357.2.2.1 bt357.2.2.2.1 t322 t323 t324 t325).bind fun t366 => (if t366 = true then (if bt357.2.2.2.2.1 = t328 then (laws_FnExactGetVal.j2 kj43 t351 (bt357.2.2.2.2.2 != t329) t334 t335 t336 t352) else (laws_FnExactGetVal.j2 kj43 t351 true t334 t335 t336 t352)) else (laws_FnExactGetVal.j2 kj43 t351 true t334 t335 t336 t352))))) else (some false))) = some r := H
                  have A66 := am A660
                  clear A660
                  by_cases c67 : t353 < 0
                  · rw [if_pos c67] at H
                    have c67b0 : decide (t353 < 0) = true := decide_eq_true c67
                    clear c67
                    exact absurd ((Option.some.inj H).trans HRT.out) (by decide)
                  · rw [if_neg c67] at H
                    have c67b0 : decide (t353 < 0) = false := decide_eq_false c67
                    clear c67
                    by_cases c68 : t353 = t351
                    · rw [if_pos c68] at H
                      have c68b0 : (t353 == t351) = true := beq_iff_eq.mpr c68
                      have c68b1 : (t353 != t351) = false := bne_eq_false_iff_eq.mpr c68
                      clear c68
                      replace H := Option.bind_eq_some_iff.mp H
                      obtain ⟨t354, A690, H⟩ := H
                      replace H : ((impl_GetVal.f kj43 t354 a1).bind fun bt357 => ((laws_eqVal.f kj43 bt357.1 bt357.2.1 bt357.2.2.1 bt357.2.2.2.1 t322 t323 t324 t325).bind fun t366 => (if t366 = true then (if bt357.2.2.2.2.1 = t328 then (laws_FnExactGetVal.j2 kj43 t351 (bt357.2.2.2.2.2 != t329) t334 t335 t336 t352) else (laws_FnExactGetVal.j2 kj43 t351 true t334 t335 t336 t352)) else (laws_FnExactGetVal.j2 kj43 t351 true t334 t335 t336 t352)))) = some r := H
                      have A69 := am A690
                      clear A690
                      replace H := Option.bind_eq_some_iff.mp H
                      obtain ⟨⟨t357, t358, t359, t360, t363, t364⟩, A700, H⟩ := H
                      replace H : ((laws_eqVal.f kj43 t357 t358 t359 t360 t322 t323 t324 t325).bind fun t366 => (if t366 = true then (if t363 = t328 then (laws_FnExactGetVal.j2 kj43 t351 (t364 != t329) t334 t335 t336 t352) else (laws_FnExactGetVal.j2 kj43 t351 true t334 t335 t336 t352)) else (laws_FnExactGetVal.j2 kj43 t351 true t334 t335 t336 t352))) = some r := H
                      have A70 := am A700
                      clear A700
                      have HC71 := am H
                      clear H
                      have hnb72 := NB342_330.out
                      have hnc72 := NB330_342.out
                      have hcz73_0 : wc.cell? ⟨gb342, 0, none⟩ = some (.int .i64 t334) := (blk_cell BK342.out 0).trans rfl
                      have hcz73_1 : wc.cell? ⟨gb342, 1, none⟩ = some (.int .i64 t335) := (blk_cell BK342.out 1).trans rfl
                      have hcz73_2 : wc.cell? ⟨gb342, 2, none⟩ = some (.string t336) := (blk_cell BK342.out 2).trans rfl
                      have hcz73_3 : wc.cell? ⟨gb342, 3, none⟩ = some (.slice Ao22 t337.length co22) := (blk_cell BK342.out 3).trans rfl
                      have hfz73_0 := blk_frozen BK342.out 0
                      have hfz73_1 := blk_frozen BK342.out 1
                      have hfz73_2 := blk_frozen BK342.out 2
                      have hfz73_3 := blk_frozen BK342.out 3
                      go_upto_region 23 with (first | ((with_reducible refine gate_callee (f := 21) rfl ?_); refine goesL_ (some 80) rfl rfl Try.func21 (by kernel_rfl) rfl #[.agg #[.int .i64 t334, .int .i64 t335, .string t336, .slice Ao22 t337.length co22], .int .i64 1] rfl (by (try simp only [List.map_toArray, List.map_cons, List.map_nil]); first | done | rfl | (simp only [List.length_drop, List.length_take]; rfl)) ?_; (with_reducible refine (laws_markVal.calls kj43 t334 t335 t336 (fun k_ => some k_ = (.slice Ao22 t337.length co22 : Value).ownBlock) (.slice Ao22 t337.length co22) t337 1 t351 t352 w _ ?side1 ?side2 A65.out).mono ?_); (case side1 => repeat (first | (with_reducible first | exact HB.out | apply below_alloc | apply pw_below_drewN | apply below_drew1 | refine below_set ?_ GE330.out | refine below_set ?_ GE342.out) | exact HB.out)); (case side2 => exact Kd.R_tight rfl HO_343003.out); rintro e w74 ⟨rfl, hy0, hb, hkp⟩; refine ⟨_, rfl, ?_⟩; have n0_ := am (Kd.R_mono (ok' := fun k_ => some k_ ≠ (.slice Ao22 t337.length co22 : Value).ownBlock) (Kd.R_keptB (HO_331003.out) hkp (fun k_ hk_ hs_ => (hk_) hs_)) (fun k_ hk_ => hk_.1)); have n1_ := am (Kd.R_reok rfl hy0 (fun k_ e_ => HO_343003.out.1 k_ e_)); have n2_ := am (blk_kept (zq BK330.out) hkp (fun hs_ => (fun e_ => (Kd.R_ne HO_343003.out BK330.out (by decide)) e_) hs_)); have n3_ := am (blk_kept (zq BK342.out) hkp (fun hs_ => (fun e_ => (Kd.R_ne HO_343003.out BK342.out (by decide)) e_) hs_)); have n4_ := am (hb); clear HO_331003; clear HO_343003; clear BK330; clear BK342; clear HB; have HO_331003 := n0_; have HO_343003 := n1_; have BK330 := n2_; have BK342 := n3_; have HB := n4_; clear n0_ n1_ n2_ n3_ n4_; (try clear hb); (try clear hkp); (try clear hy0); have hcz75_0 : w74.cell? ⟨gb342, 0, none⟩ = some (.int .i64 t334) := (blk_cell BK342.out 0).trans rfl; have hcz75_1 : w74.cell? ⟨gb342, 1, none⟩ = some (.int .i64 t335) := (blk_cell BK342.out 1).trans rfl; have hcz75_2 : w74.cell? ⟨gb342, 2, none⟩ = some (.string t336) := (blk_cell BK342.out 2).trans rfl; have hcz75_3 : w74.cell? ⟨gb342, 3, none⟩ = some (.slice Ao22 t337.length co22) := (blk_cell BK342.out 3).trans rfl; have hfz75_0 := blk_frozen BK342.out 0; have hfz75_1 := blk_frozen BK342.out 1; have hfz75_2 := blk_frozen BK342.out 2; have hfz75_3 := blk_frozen BK342.out 3) | ((with_reducible refine gate_callee (f := 37) rfl ?_); refine goesL_ (some 83) rfl rfl Try.func37 (by kernel_rfl) rfl #[.agg #[.int .i64 t334, .int .i64 t335, .string t336, .slice Ao22 t352.length co22], .int .i64 1] rfl (by (try simp only [List.map_toArray, List.map_cons, List.map_nil]); first | done | (rw [show t352.length = t337.length from (Kd.R_reads' HO_343003.out).1.symm] <;> rfl) | rfl | (simp only [List.length_drop, List.length_take]; rfl)) ?_; (with_reducible refine (laws_heldVal.calls kj43 t334 t335 t336 _ _ t352 1 t353 _ ?side1 ?side2 A66.out).mono ?_); (case side1 => repeat (first | exact (Kd.R_reads' HO_343003.out).2.2 | (with_reducible refine Kd.C_alloc ?_ _) | (with_reducible refine Kd.C_drewN ?_ _) | (with_reducible refine Kd.C_drew ?_))); (case side2 => rw [show t352.length = t337.length from (Kd.R_reads' HO_343003.out).1.symm]; exact (Kd.R_reads' HO_343003.out).2.1); rintro e w76 ⟨rfl, hb⟩; refine ⟨_, rfl, ?_⟩; have n0_ := am (Kd.R_below (kqR HO_331003.out) hb); have n1_ := am (Kd.R_below (kqR HO_343003.out) hb); have n2_ := am (blk_below (g := gb330) (o := .cells #[.int .i64 t322, .int .i64 t323, .string t324, .slice Ao14 t325.length co14] 29 (0, 0)) (zq BK330.out) hb); have n3_ := am (blk_below (g := gb342) (o := .cells #[.int .i64 t334, .int .i64 t335, .string t336, .slice Ao22 t337.length co22] 29 (0, 0)) (zq BK342.out) hb); have n4_ := am (below_step (by repeat (first | (with_reducible first | exact HB.out | apply below_alloc | apply pw_below_drewN | apply below_drew1 | refine below_set ?_ GE330.out | refine below_set ?_ GE342.out) | exact HB.out)) hb); clear HO_331003; clear HO_343003; clear BK330; clear BK342; clear HB; have HO_331003 := n0_; have HO_343003 := n1_; have BK330 := n2_; have BK342 := n3_; have HB := n4_; clear n0_ n1_ n2_ n3_ n4_; (try clear hb); (try clear hb2); (try clear hk); (try clear hi)) | ((with_reducible refine gate_callee (f := 15) rfl ?_); refine goesL_ (some 91) rfl rfl Try.func15 (by kernel_rfl) rfl #[.slice A0 l0.length c0] rfl (by (try simp only [List.map_toArray, List.map_cons, List.map_nil]); first | done | rfl | (simp only [List.length_drop, List.length_take]; rfl)) ?_; (with_reducible refine (laws_toByteS.calls kj43 _ _ l0 t354 _ ?side1 ?side2 A69.out).mono ?_); (case side1 => exact cq (Kd.C_below HR0.out HB.out)); (case side2 => exact HC0.out); rintro e w77 ⟨v355, rfl, ho0, hb⟩; refine ⟨_, rfl, ?_⟩; have n0_ := am (Kd.R_below (kqR HO_331003.out) hb); have n1_ := am (Kd.R_below (kqR HO_343003.out) hb); have n2_ := am (Kd.R_lower ho0 (below_size (by repeat (first | (with_reducible first | exact HB.out | apply below_alloc | apply pw_below_drewN | apply below_drew1 | refine below_set ?_ GE330.out | refine below_set ?_ GE342.out) | exact HB.out)))); have n3_ := am (blk_below (g := gb330) (o := .cells #[.int .i64 t322, .int .i64 t323, .string t324, .slice Ao14 t325.length co14] 29 (0, 0)) (zq BK330.out) hb); have n4_ := am (blk_below (g := gb342) (o := .cells #[.int .i64 t334, .int .i64 t335, .string t336, .slice Ao22 t337.length co22] 29 (0, 0)) (zq BK342.out) hb); have n5_ := am (below_step (by repeat (first | (with_reducible first | exact HB.out | apply below_alloc | apply pw_below_drewN | apply below_drew1 | refine below_set ?_ GE330.out | refine below_set ?_ GE342.out) | exact HB.out)) hb); clear HO_331003; clear HO_343003; clear BK330; clear BK342; clear HB; have HO_331003 := n0_; have HO_343003 := n1_; have HO356 := n2_; have BK330 := n3_; have BK342 := n4_; have HB := n5_; clear n0_ n1_ n2_ n3_ n4_ n5_; (try clear hb); (try clear hb2); (try clear hk); (try clear hi); (try clear ho0); obtain ⟨Ao78, co78, eo78⟩ := Kd.R_slice HO356.out; subst eo78) | ((with_reducible refine gate_callee (f := 36) rfl ?_); refine goesL_ (some 93) rfl rfl Try.func36 (by kernel_rfl) rfl #[.slice Ao78 t354.length co78, .int .i64 a1] rfl (by (try simp only [List.map_toArray, List.map_cons, List.map_nil]); first | done | rfl | (simp only [List.length_drop, List.length_take]; rfl)) ?_; (with_reducible refine (impl_GetVal.calls kj43 _ _ t354 a1 t357 t358 t359 t360 t363 t364 _ ?side1 ?side2 A70.out).mono ?_); (case side1 => repeat (first | exact (Kd.R_reads' HO356.out).2.2 | (with_reducible refine Kd.C_alloc ?_ _) | (with_reducible refine Kd.C_drewN ?_ _) | (with_reducible refine Kd.C_drew ?_))); (case side2 => exact (Kd.R_reads' HO356.out).2.1); rintro e w79 ⟨v361, rfl, ho0, hb⟩; refine ⟨_, rfl, ?_⟩; have n0_ := am (Kd.R_elder' (kqR HO_331003.out) (Kd.R_base ho0) hb); have n1_ := am (Kd.R_elder' (kqR HO_343003.out) (Kd.R_base ho0) hb); have n2_ := am (Kd.R_below (kqR HO356.out) hb); have n3_ := am (Kd.R_lower (Kd.R_new' (Kd.R_new' ho0 (Kd.R_lt (kqR HO_331003.out))) (Kd.R_lt (kqR HO_343003.out))) (below_size (by repeat (first | (with_reducible first | exact HB.out | apply below_alloc | apply pw_below_drewN | apply below_drew1 | refine below_set ?_ GE330.out | refine below_set ?_ GE342.out) | exact HB.out)))); have n4_ := am (blk_below (g := gb330) (o := .cells #[.int .i64 t322, .int .i64 t323, .string t324, .slice Ao14 t325.length co14] 29 (0, 0)) (zq BK330.out) hb); have n5_ := am (blk_below (g := gb342) (o := .cells #[.int .i64 t334, .int .i64 t335, .string t336, .slice Ao22 t337.length co22] 29 (0, 0)) (zq BK342.out) hb); have n6_ := am (below_step (by repeat (first | (with_reducible first | exact HB.out | apply below_alloc | apply pw_below_drewN | apply below_drew1 | refine below_set ?_ GE330.out | refine below_set ?_ GE342.out) | exact HB.out)) hb); clear HO_331003; clear HO_343003; clear HO356; clear BK330; clear BK342; clear HB; have HO_331003 := n0_; have HO_343003 := n1_; have HO356 := n2_; have HO362 := n3_; have BK330 := n4_; have BK342 := n5_; have HB := n6_; clear n0_ n1_ n2_ n3_ n4_ n5_ n6_; (try clear hb); (try clear hb2); (try clear hk); (try clear hi); (try clear ho0)) | ((with_reducible refine gate_dst (N := 15) rfl ?_); refine box_event ?hg (N := 15) ?hd (cs := #[.int .i64 0, .int .i64 0, .string (⟨#[]⟩ : ByteArray), .slice none 0 0]) (t := 29) ?hr ?_; (case hd => rfl); (case hg => rfl); (case hr => first | (go_simp; done) | (go_simp; rfl)); intro gb365 hg w80 hbox hb; have n0_ := am (Kd.R_below (kqR HO_331003.out) hb); have n1_ := am (Kd.R_below (kqR HO_343003.out) hb); have n2_ := am (Kd.R_below (kqR HO356.out) hb); have n3_ := am (Kd.R_below (kqR HO362.out) hb); have n4_ := am (blk_below (g := gb330) (o := .cells #[.int .i64 t322, .int .i64 t323, .string t324, .slice Ao14 t325.length co14] 29 (0, 0)) (zq BK330.out) hb); have n5_ := am (blk_below (g := gb342) (o := .cells #[.int .i64 t334, .int .i64 t335, .string t336, .slice Ao22 t337.length co22] 29 (0, 0)) (zq BK342.out) hb); have n6_ := am (below_step (by repeat (first | (with_reducible first | exact HB.out | apply below_alloc | apply pw_below_drewN | apply below_drew1 | refine below_set ?_ GE330.out | refine below_set ?_ GE342.out) | exact HB.out)) hb); have n7_ := am (hbox); have n8_ := am ((by rw [hg]; exact (below_size (by repeat (first | (with_reducible first | exact HB.out | apply below_alloc | apply pw_below_drewN | apply below_drew1 | refine below_set ?_ GE330.out | refine below_set ?_ GE342.out) | exact HB.out))) : w.heap.size ≤ gb365)); have n9_ := am ((by rw [hg]; exact (below_size (by repeat (first | (with_reducible first | exact HB.out | apply below_alloc | apply pw_below_drewN | apply below_drew1 | refine below_set ?_ GE330.out | refine below_set ?_ GE342.out) | exact HB.out))) : w.heap.size ≤ gb365)); have n10_ := am ((by rw [hg]; exact Nat.ne_of_lt (blk_lt (g := gb330) (o := .cells #[.int .i64 t322, .int .i64 t323, .string t324, .slice Ao14 t325.length co14] 29 (0, 0)) (zq BK330.out)) : gb330 ≠ gb365)); have n11_ := am ((by rw [hg]; exact Nat.ne_of_gt (blk_lt (g := gb330) (o := .cells #[.int .i64 t322, .int .i64 t323, .string t324, .slice Ao14 t325.length co14] 29 (0, 0)) (zq BK330.out)) : gb365 ≠ gb330)); have n12_ := am ((by rw [hg]; exact Nat.ne_of_lt (blk_lt (g := gb342) (o := .cells #[.int .i64 t334, .int .i64 t335, .string t336, .slice Ao22 t337.length co22] 29 (0, 0)) (zq BK342.out)) : gb342 ≠ gb365)); have n13_ := am ((by rw [hg]; exact Nat.ne_of_gt (blk_lt (g := gb342) (o := .cells #[.int .i64 t334, .int .i64 t335, .string t336, .slice Ao22 t337.length co22] 29 (0, 0)) (zq BK342.out)) : gb365 ≠ gb342)); clear HO_331003; clear HO_343003; clear HO356; clear HO362; clear BK330; clear BK342; clear HB; have HO_331003 := n0_; have HO_343003 := n1_; have HO356 := n2_; have HO362 := n3_; have BK330 := n4_; have BK342 := n5_; have HB := n6_; have BK365 := n7_; have GW365 := n8_; have GE365 := n9_; have NB330_365 := n10_; have NB365_330 := n11_; have NB342_365 := n12_; have NB365_342 := n13_; clear n0_ n1_ n2_ n3_ n4_ n5_ n6_ n7_ n8_ n9_ n10_ n11_ n12_ n13_; clear hb hbox hg; have hnb81 := NB365_330.out; have hnc81 := NB330_365.out; have hnb82 := NB365_342.out; have hnc82 := NB342_365.out; have hcz83_0 : w80.cell? ⟨gb365, 0, none⟩ = some (.int .i64 0) := (blk_cell BK365.out 0).trans rfl; have hcz83_1 : w80.cell? ⟨gb365, 1, none⟩ = some (.int .i64 0) := (blk_cell BK365.out 1).trans rfl; have hcz83_2 : w80.cell? ⟨gb365, 2, none⟩ = some (.string (⟨#[]⟩ : ByteArray)) := (blk_cell BK365.out 2).trans rfl; have hcz83_3 : w80.cell? ⟨gb365, 3, none⟩ = some (.slice none 0 0) := (blk_cell BK365.out 3).trans rfl; have hfz83_0 := blk_frozen BK365.out 0; have hfz83_1 := blk_frozen BK365.out 1; have hfz83_2 := blk_frozen BK365.out 2; have hfz83_3 := blk_frozen BK365.out 3; obtain ⟨Ao84, co84, eo84⟩ := Kd.R_slice HO362.out; subst eo84) | ((with_reducible refine gate_store (t := 29) (p := 15) rfl ?_); refine store_event (t := 29) (p := 15) (v := ?vo_w85) (w1 := ((((w80.setCell ⟨gb365, 0, none⟩ (.int .i64 t357)).setCell ⟨gb365, 1, none⟩ (.int .i64 t358)).setCell ⟨gb365, 2, none⟩ (.string t359)).setCell ⟨gb365, 3, none⟩ (.slice Ao84 t360.length co84))) ?hg ?ho ?hn ?hr ?_; (case ho => rfl); (case hg => rfl); (case hn => rfl); (case hr => first | (go_simp; done) | (go_simp; rfl)); intro w85 hw; have n0_ : Aside0 (Kd.R (Kd.int .i64) 3 w85 w.heap.size (fun k_ => some k_ ≠ (.slice Ao22 t337.length co22 : Value).ownBlock ∧ some k_ ≠ (.slice Ao84 t360.length co84 : Value).ownBlock) (.slice Ao14 t325.length co14) t325) := ⟨(by rw [hw]; exact (by (with_reducible repeat (first | apply Kd.R_alloc | apply Kd.R_drewN | apply Kd.R_drew)); exact Kd.R_mono (Kd.R_far (p := ⟨gb365, 3, none⟩) (Kd.R_far (p := ⟨gb365, 2, none⟩) (Kd.R_far (p := ⟨gb365, 1, none⟩) (Kd.R_far (p := ⟨gb365, 0, none⟩) (Kd.R_types HO_331003.out BK365.out (by decide)) (fun _ hk => hk.2) (.int .i64 t357)) (fun _ hk => hk.2) (.int .i64 t358)) (fun _ hk => hk.2) (.string t359)) (fun _ hk => hk.2) (.slice Ao84 t360.length co84)) (fun _ hk => ⟨hk.1.1, hk.1.2⟩)))⟩; have n1_ : Aside0 (Kd.R (Kd.int .i64) 3 w85 w.heap.size (fun k_ => some k_ ≠ (.slice Ao14 t325.length co14 : Value).ownBlock ∧ some k_ ≠ (.slice Ao84 t360.length co84 : Value).ownBlock) (.slice Ao22 t337.length co22) t352) := ⟨(by rw [hw]; exact (by (with_reducible repeat (first | apply Kd.R_alloc | apply Kd.R_drewN | apply Kd.R_drew)); exact Kd.R_mono (Kd.R_far (p := ⟨gb365, 3, none⟩) (Kd.R_far (p := ⟨gb365, 2, none⟩) (Kd.R_far (p := ⟨gb365, 1, none⟩) (Kd.R_far (p := ⟨gb365, 0, none⟩) (Kd.R_types HO_343003.out BK365.out (by decide)) (fun _ hk => hk.2) (.int .i64 t357)) (fun _ hk => hk.2) (.int .i64 t358)) (fun _ hk => hk.2) (.string t359)) (fun _ hk => hk.2) (.slice Ao84 t360.length co84)) (fun _ hk => ⟨hk.1.1, hk.1.2⟩)))⟩; have n2_ : Aside0 (Kd.R (Kd.int .u8) 5 w85 w.heap.size (fun _ => True) (.slice Ao78 t354.length co78) t354) := ⟨(by rw [hw]; exact (by (with_reducible repeat (first | apply Kd.R_alloc | apply Kd.R_drewN | apply Kd.R_drew)); exact Kd.R_mono (Kd.R_far (p := ⟨gb365, 3, none⟩) (Kd.R_far (p := ⟨gb365, 2, none⟩) (Kd.R_far (p := ⟨gb365, 1, none⟩) (Kd.R_far (p := ⟨gb365, 0, none⟩) (Kd.R_types HO356.out BK365.out (by decide)) (fun _ hk => hk.2) (.int .i64 t357)) (fun _ hk => hk.2) (.int .i64 t358)) (fun _ hk => hk.2) (.string t359)) (fun _ hk => hk.2) (.slice Ao84 t360.length co84)) (fun _ hk => trivial)))⟩; have n3_ : Aside0 (Kd.R (Kd.int .i64) 3 w85 w.heap.size (fun k_ => some k_ ≠ (.slice Ao14 t325.length co14 : Value).ownBlock ∧ some k_ ≠ (.slice Ao22 t337.length co22 : Value).ownBlock) (.slice Ao84 t360.length co84) t360) := ⟨(by rw [hw]; exact (by (with_reducible repeat (first | apply Kd.R_alloc | apply Kd.R_drewN | apply Kd.R_drew)); exact Kd.R_mono (Kd.R_far (p := ⟨gb365, 3, none⟩) (Kd.R_far (p := ⟨gb365, 2, none⟩) (Kd.R_far (p := ⟨gb365, 1, none⟩) (Kd.R_far (p := ⟨gb365, 0, none⟩) (Kd.R_types HO362.out BK365.out (by decide)) (fun _ hk => hk.2) (.int .i64 t357)) (fun _ hk => hk.2) (.int .i64 t358)) (fun _ hk => hk.2) (.string t359)) (fun _ hk => hk.2) (.slice Ao84 t360.length co84)) (fun _ hk => ⟨hk.1.1.2, hk.1.2⟩)))⟩; have n4_ : Aside0 (w85.heap[gb330]? = some (.cells #[.int .i64 t322, .int .i64 t323, .string t324, .slice Ao14 t325.length co14] 29 (0, 0))) := ⟨(by rw [hw]; exact (by (with_reducible repeat (first | refine blk_drewN ?_ _ | refine blk_drew ?_ | refine blk_alloc ?_ _)); refine blk_far ?_ NB330_365.out _; (with_reducible repeat (first | refine blk_drewN ?_ _ | refine blk_drew ?_ | refine blk_alloc ?_ _)); refine blk_far ?_ NB330_365.out _; (with_reducible repeat (first | refine blk_drewN ?_ _ | refine blk_drew ?_ | refine blk_alloc ?_ _)); refine blk_far ?_ NB330_365.out _; (with_reducible repeat (first | refine blk_drewN ?_ _ | refine blk_drew ?_ | refine blk_alloc ?_ _)); refine blk_far ?_ NB330_365.out _; (with_reducible repeat (first | refine blk_drewN ?_ _ | refine blk_drew ?_ | refine blk_alloc ?_ _)); exact BK330.out))⟩; have n5_ : Aside0 (w85.heap[gb342]? = some (.cells #[.int .i64 t334, .int .i64 t335, .string t336, .slice Ao22 t337.length co22] 29 (0, 0))) := ⟨(by rw [hw]; exact (by (with_reducible repeat (first | refine blk_drewN ?_ _ | refine blk_drew ?_ | refine blk_alloc ?_ _)); refine blk_far ?_ NB342_365.out _; (with_reducible repeat (first | refine blk_drewN ?_ _ | refine blk_drew ?_ | refine blk_alloc ?_ _)); refine blk_far ?_ NB342_365.out _; (with_reducible repeat (first | refine blk_drewN ?_ _ | refine blk_drew ?_ | refine blk_alloc ?_ _)); refine blk_far ?_ NB342_365.out _; (with_reducible repeat (first | refine blk_drewN ?_ _ | refine blk_drew ?_ | refine blk_alloc ?_ _)); refine blk_far ?_ NB342_365.out _; (with_reducible repeat (first | refine blk_drewN ?_ _ | refine blk_drew ?_ | refine blk_alloc ?_ _)); exact BK342.out))⟩; have n6_ : Aside0 (w85.heap[gb365]? = some (.cells #[.int .i64 t357, .int .i64 t358, .string t359, .slice Ao84 t360.length co84] 29 (0, 0))) := ⟨(by rw [hw]; exact (by (with_reducible repeat (first | refine blk_drewN ?_ _ | refine blk_drew ?_ | refine blk_alloc ?_ _)); refine blk_put (cs := #[.int .i64 t357, .int .i64 t358, .string t359, .slice none 0 0]) ?_ 3 _ rfl; (with_reducible repeat (first | refine blk_drewN ?_ _ | refine blk_drew ?_ | refine blk_alloc ?_ _)); refine blk_put (cs := #[.int .i64 t357, .int .i64 t358, .string (⟨#[]⟩ : ByteArray), .slice none 0 0]) ?_ 2 _ rfl; (with_reducible repeat (first | refine blk_drewN ?_ _ | refine blk_drew ?_ | refine blk_alloc ?_ _)); refine blk_put (cs := #[.int .i64 t357, .int .i64 0, .string (⟨#[]⟩ : ByteArray), .slice none 0 0]) ?_ 1 _ rfl; (with_reducible repeat (first | refine blk_drewN ?_ _ | refine blk_drew ?_ | refine blk_alloc ?_ _)); refine blk_put (cs := #[.int .i64 0, .int .i64 0, .string (⟨#[]⟩ : ByteArray), .slice none 0 0]) ?_ 0 _ rfl; (with_reducible repeat (first | refine blk_drewN ?_ _ | refine blk_drew ?_ | refine blk_alloc ?_ _)); exact BK365.out))⟩; have n7_ : Aside0 (Below w.heap.size w w85) := ⟨(by rw [hw]; exact (by repeat (first | (with_reducible first | exact HB.out | apply below_alloc | apply pw_below_drewN | apply below_drew1 | refine below_set ?_ GE330.out | refine below_set ?_ GE342.out | refine below_set ?_ GE365.out) | exact HB.out)))⟩; clear hw; clear HO_331003; clear HO_343003; clear HO356; clear HO362; clear BK330; clear BK342; clear BK365; clear HB; have HO_331003 := n0_; have HO_343003 := n1_; have HO356 := n2_; have HO362 := n3_; have BK330 := n4_; have BK342 := n5_; have BK365 := n6_; have HB := n7_; clear n0_ n1_ n2_ n3_ n4_ n5_ n6_ n7_))
                      (try simp only [Act.put, List.setIfInBounds_toArray, List.set_cons_zero, List.set_cons_succ])
                      go_cut [110] (fun v110 wc => ∃ (kq : Nat) (x110_70 : Bool), v110 = .bool x110_70 ∧ Aside0 (laws_FnExactGetVal.j2 kq t351 x110_70 t334 t335 t336 t352 = some r) ∧ Aside0 (kq ≤ kj43) ∧ Aside0 (Kd.R (Kd.int .i64) 3 wc w.heap.size (fun k_ => some k_ ≠ ((.slice Ao22 t337.length co22) : Value).ownBlock ∧ some k_ ≠ ((.slice Ao84 t360.length co84) : Value).ownBlock) (.slice Ao14 t325.length co14) t325) ∧ Aside0 (Kd.R (Kd.int .i64) 3 wc w.heap.size (fun k_ => some k_ ≠ ((.slice Ao14 t325.length co14) : Value).ownBlock ∧ some k_ ≠ ((.slice Ao84 t360.length co84) : Value).ownBlock) (.slice Ao22 t337.length co22) t352) ∧ Aside0 (Kd.R (Kd.int .i64) 3 wc w.heap.size (fun k_ => some k_ ≠ ((.slice Ao14 t325.length co14) : Value).ownBlock ∧ some k_ ≠ ((.slice Ao22 t337.length co22) : Value).ownBlock) (.slice Ao84 t360.length co84) t360) ∧ Aside0 (wc.heap[gb330]? = some (.cells #[.int .i64 t322, .int .i64 t323, .string t324, (.slice Ao14 t325.length co14)] 29 (0, 0))) ∧ Aside0 (wc.heap[gb342]? = some (.cells #[.int .i64 t334, .int .i64 t335, .string t336, (.slice Ao22 t337.length co22)] 29 (0, 0))) ∧ Aside0 (wc.heap[gb365]? = some (.cells #[.int .i64 t357, .int .i64 t358, .string t359, (.slice Ao84 t360.length co84)] 29 (0, 0))) ∧ Aside0 (Below w.heap.size w wc))
                      case first =>
                        have H := HC71.out
                        clear HC71
                        replace H := Option.bind_eq_some_iff.mp H
                        obtain ⟨t366, A860, H⟩ := H
                        replace H : (if t366 = true then (if t363 = t328 then (laws_FnExactGetVal.j2 kj43 t351 (t364 != t329) t334 t335 t336 t352) else (laws_FnExactGetVal.j2 kj43 t351 true t334 t335 t336 t352)) else (laws_FnExactGetVal.j2 kj43 t351 true t334 t335 t336 t352)) = some r := H
                        have A86 := am A860
                        clear A860
                        by_cases c87 : t366 = true
                        · subst c87
                          have H1 : (if t363 = t328 then (laws_FnExactGetVal.j2 kj43 t351 (t364 != t329) t334 t335 t336 t352) else (laws_FnExactGetVal.j2 kj43 t351 true t334 t335 t336 t352)) = some r := by rw [if_pos rfl] at H; exact H
                          clear H
                          have H := H1
                          clear H1
                          by_cases c88 : t363 = t328
                          · rw [if_pos c88] at H
                            have c88b0 : (t363 == t328) = true := beq_iff_eq.mpr c88
                            have c88b1 : (t363 != t328) = false := bne_eq_false_iff_eq.mpr c88
                            clear c88
                            (first | rw [c88b0] | (simp only [i64_w, i32_w]; rw [c88b0]) | skip)
                            have H' := am H
                            clear H
                            have hnb89 := NB365_330.out
                            have hnc89 := NB330_365.out
                            have hnb90 := NB365_342.out
                            have hnc90 := NB342_365.out
                            have hcz91_0 : w85.cell? ⟨gb365, 0, none⟩ = some (.int .i64 t357) := (blk_cell BK365.out 0).trans rfl
                            have hcz91_1 : w85.cell? ⟨gb365, 1, none⟩ = some (.int .i64 t358) := (blk_cell BK365.out 1).trans rfl
                            have hcz91_2 : w85.cell? ⟨gb365, 2, none⟩ = some (.string t359) := (blk_cell BK365.out 2).trans rfl
                            have hcz91_3 : w85.cell? ⟨gb365, 3, none⟩ = some (.slice Ao84 t360.length co84) := (blk_cell BK365.out 3).trans rfl
                            have hfz91_0 := blk_frozen BK365.out 0
                            have hfz91_1 := blk_frozen BK365.out 1
                            have hfz91_2 := blk_frozen BK365.out 2
                            have hfz91_3 := blk_frozen BK365.out 3
                            have hnb92 := NB330_342.out
                            have hnc92 := NB342_330.out
                            have hcz93_0 : w85.cell? ⟨gb330, 0, none⟩ = some (.int .i64 t322) := (blk_cell BK330.out 0).trans rfl
                            have hcz93_1 : w85.cell? ⟨gb330, 1, none⟩ = some (.int .i64 t323) := (blk_cell BK330.out 1).trans rfl
                            have hcz93_2 : w85.cell? ⟨gb330, 2, none⟩ = some (.string t324) := (blk_cell BK330.out 2).trans rfl
                            have hcz93_3 : w85.cell? ⟨gb330, 3, none⟩ = some (.slice Ao14 t325.length co14) := (blk_cell BK330.out 3).trans rfl
                            have hfz93_0 := blk_frozen BK330.out 0
                            have hfz93_1 := blk_frozen BK330.out 1
                            have hfz93_2 := blk_frozen BK330.out 2
                            have hfz93_3 := blk_frozen BK330.out 3
                            go_wp2_with (first | ((with_reducible refine gate_callee (f := 19) rfl ?_); refine goesL_ (some 99) rfl rfl Try.func19 (by kernel_rfl) rfl #[.agg #[.int .i64 t357, .int .i64 t358, .string t359, .slice Ao84 t360.length co84], .agg #[.int .i64 t322, .int .i64 t323, .string t324, .slice Ao14 t325.length co14]] rfl (by (try simp only [List.map_toArray, List.map_cons, List.map_nil]); first | done | rfl | (simp only [List.length_drop, List.length_take]; rfl)) ?_; (with_reducible refine (laws_eqVal.calls kj43 t357 t358 t359 _ _ t360 t322 t323 t324 _ _ t325 true _ ?side1 ?side2 ?side3 ?side4 A86.out).mono ?_); (case side1 => repeat (first | exact (Kd.R_reads' HO362.out).2.2 | (with_reducible refine Kd.C_alloc ?_ _) | (with_reducible refine Kd.C_drewN ?_ _) | (with_reducible refine Kd.C_drew ?_))); (case side2 => exact (Kd.R_reads' HO362.out).2.1); (case side3 => repeat (first | exact (Kd.R_reads' HO_331003.out).2.2 | (with_reducible refine Kd.C_alloc ?_ _) | (with_reducible refine Kd.C_drewN ?_ _) | (with_reducible refine Kd.C_drew ?_))); (case side4 => exact (Kd.R_reads' HO_331003.out).2.1); rintro e w94 ⟨rfl, hb⟩; refine ⟨_, rfl, ?_⟩; have n0_ := am (Kd.R_below (kqR HO_331003.out) hb); have n1_ := am (Kd.R_below (kqR HO_343003.out) hb); have n2_ := am (Kd.R_below (kqR HO356.out) hb); have n3_ := am (Kd.R_below (kqR HO362.out) hb); have n4_ := am (blk_below (g := gb330) (o := .cells #[.int .i64 t322, .int .i64 t323, .string t324, .slice Ao14 t325.length co14] 29 (0, 0)) (zq BK330.out) hb); have n5_ := am (blk_below (g := gb342) (o := .cells #[.int .i64 t334, .int .i64 t335, .string t336, .slice Ao22 t337.length co22] 29 (0, 0)) (zq BK342.out) hb); have n6_ := am (blk_below (g := gb365) (o := .cells #[.int .i64 t357, .int .i64 t358, .string t359, .slice Ao84 t360.length co84] 29 (0, 0)) (zq BK365.out) hb); have n7_ := am (below_step (by repeat (first | (with_reducible first | exact HB.out | apply below_alloc | apply pw_below_drewN | apply below_drew1 | refine below_set ?_ GE330.out | refine below_set ?_ GE342.out | refine below_set ?_ GE365.out) | exact HB.out)) hb); clear HO_331003; clear HO_343003; clear HO356; clear HO362; clear BK330; clear BK342; clear BK365; clear HB; have HO_331003 := n0_; have HO_343003 := n1_; have HO356 := n2_; have HO362 := n3_; have BK330 := n4_; have BK342 := n5_; have BK365 := n6_; have HB := n7_; clear n0_ n1_ n2_ n3_ n4_ n5_ n6_ n7_; (try clear hb); (try clear hb2); (try clear hk); (try clear hi)))
                            go_meet
                            case rel => exact ⟨_, ((t364 != t329)), (by first | rfl | (simp; done) | (simp [*]; done)), H', ⟨by have := HJ7.out; have := HJ43.out; first | omega | exact Nat.le_refl _⟩, ⟨kqR HO_331003.out⟩, ⟨kqR HO_343003.out⟩, ⟨kqR HO362.out⟩, ⟨zq BK330.out⟩, ⟨zq BK342.out⟩, ⟨zq BK365.out⟩, ⟨by repeat (first | (with_reducible first | exact HB.out | apply below_alloc | apply pw_below_drewN | apply below_drew1 | refine below_set ?_ GE330.out | refine below_set ?_ GE342.out | refine below_set ?_ GE365.out) | exact HB.out)⟩⟩
                          · rw [if_neg c88] at H
                            have c88b0 : (t363 == t328) = false := beq_eq_false_iff_ne.mpr c88
                            have c88b1 : (t363 != t328) = true := bne_iff_ne.mpr c88
                            (first | rw [c88b0] | (simp only [i64_w, i32_w]; rw [c88b0]) | skip)
                            have H' := am H
                            clear H
                            have hnb95 := NB365_330.out
                            have hnc95 := NB330_365.out
                            have hnb96 := NB365_342.out
                            have hnc96 := NB342_365.out
                            have hcz97_0 : w85.cell? ⟨gb365, 0, none⟩ = some (.int .i64 t357) := (blk_cell BK365.out 0).trans rfl
                            have hcz97_1 : w85.cell? ⟨gb365, 1, none⟩ = some (.int .i64 t358) := (blk_cell BK365.out 1).trans rfl
                            have hcz97_2 : w85.cell? ⟨gb365, 2, none⟩ = some (.string t359) := (blk_cell BK365.out 2).trans rfl
                            have hcz97_3 : w85.cell? ⟨gb365, 3, none⟩ = some (.slice Ao84 t360.length co84) := (blk_cell BK365.out 3).trans rfl
                            have hfz97_0 := blk_frozen BK365.out 0
                            have hfz97_1 := blk_frozen BK365.out 1
                            have hfz97_2 := blk_frozen BK365.out 2
                            have hfz97_3 := blk_frozen BK365.out 3
                            have hnb98 := NB330_342.out
                            have hnc98 := NB342_330.out
                            have hcz99_0 : w85.cell? ⟨gb330, 0, none⟩ = some (.int .i64 t322) := (blk_cell BK330.out 0).trans rfl
                            have hcz99_1 : w85.cell? ⟨gb330, 1, none⟩ = some (.int .i64 t323) := (blk_cell BK330.out 1).trans rfl
                            have hcz99_2 : w85.cell? ⟨gb330, 2, none⟩ = some (.string t324) := (blk_cell BK330.out 2).trans rfl
                            have hcz99_3 : w85.cell? ⟨gb330, 3, none⟩ = some (.slice Ao14 t325.length co14) := (blk_cell BK330.out 3).trans rfl
                            have hfz99_0 := blk_frozen BK330.out 0
                            have hfz99_1 := blk_frozen BK330.out 1
                            have hfz99_2 := blk_frozen BK330.out 2
                            have hfz99_3 := blk_frozen BK330.out 3
                            go_wp2_with (first | ((with_reducible refine gate_callee (f := 19) rfl ?_); refine goesL_ (some 99) rfl rfl Try.func19 (by kernel_rfl) rfl #[.agg #[.int .i64 t357, .int .i64 t358, .string t359, .slice Ao84 t360.length co84], .agg #[.int .i64 t322, .int .i64 t323, .string t324, .slice Ao14 t325.length co14]] rfl (by (try simp only [List.map_toArray, List.map_cons, List.map_nil]); first | done | rfl | (simp only [List.length_drop, List.length_take]; rfl)) ?_; (with_reducible refine (laws_eqVal.calls kj43 t357 t358 t359 _ _ t360 t322 t323 t324 _ _ t325 true _ ?side1 ?side2 ?side3 ?side4 A86.out).mono ?_); (case side1 => repeat (first | exact (Kd.R_reads' HO362.out).2.2 | (with_reducible refine Kd.C_alloc ?_ _) | (with_reducible refine Kd.C_drewN ?_ _) | (with_reducible refine Kd.C_drew ?_))); (case side2 => exact (Kd.R_reads' HO362.out).2.1); (case side3 => repeat (first | exact (Kd.R_reads' HO_331003.out).2.2 | (with_reducible refine Kd.C_alloc ?_ _) | (with_reducible refine Kd.C_drewN ?_ _) | (with_reducible refine Kd.C_drew ?_))); (case side4 => exact (Kd.R_reads' HO_331003.out).2.1); rintro e w100 ⟨rfl, hb⟩; refine ⟨_, rfl, ?_⟩; have n0_ := am (Kd.R_below (kqR HO_331003.out) hb); have n1_ := am (Kd.R_below (kqR HO_343003.out) hb); have n2_ := am (Kd.R_below (kqR HO356.out) hb); have n3_ := am (Kd.R_below (kqR HO362.out) hb); have n4_ := am (blk_below (g := gb330) (o := .cells #[.int .i64 t322, .int .i64 t323, .string t324, .slice Ao14 t325.length co14] 29 (0, 0)) (zq BK330.out) hb); have n5_ := am (blk_below (g := gb342) (o := .cells #[.int .i64 t334, .int .i64 t335, .string t336, .slice Ao22 t337.length co22] 29 (0, 0)) (zq BK342.out) hb); have n6_ := am (blk_below (g := gb365) (o := .cells #[.int .i64 t357, .int .i64 t358, .string t359, .slice Ao84 t360.length co84] 29 (0, 0)) (zq BK365.out) hb); have n7_ := am (below_step (by repeat (first | (with_reducible first | exact HB.out | apply below_alloc | apply pw_below_drewN | apply below_drew1 | refine below_set ?_ GE330.out | refine below_set ?_ GE342.out | refine below_set ?_ GE365.out) | exact HB.out)) hb); clear HO_331003; clear HO_343003; clear HO356; clear HO362; clear BK330; clear BK342; clear BK365; clear HB; have HO_331003 := n0_; have HO_343003 := n1_; have HO356 := n2_; have HO362 := n3_; have BK330 := n4_; have BK342 := n5_; have BK365 := n6_; have HB := n7_; clear n0_ n1_ n2_ n3_ n4_ n5_ n6_ n7_; (try clear hb); (try clear hb2); (try clear hk); (try clear hi)))
                            go_meet
                            case rel => exact ⟨_, (true), (by first | rfl | (simp; done) | (simp [*]; done)), H', ⟨by have := HJ7.out; have := HJ43.out; first | omega | exact Nat.le_refl _⟩, ⟨kqR HO_331003.out⟩, ⟨kqR HO_343003.out⟩, ⟨kqR HO362.out⟩, ⟨zq BK330.out⟩, ⟨zq BK342.out⟩, ⟨zq BK365.out⟩, ⟨by repeat (first | (with_reducible first | exact HB.out | apply below_alloc | apply pw_below_drewN | apply below_drew1 | refine below_set ?_ GE330.out | refine below_set ?_ GE342.out | refine below_set ?_ GE365.out) | exact HB.out)⟩⟩
                        · replace c87 := Bool.eq_false_iff.mpr c87
                          subst c87
                          have H1 : (laws_FnExactGetVal.j2 kj43 t351 true t334 t335 t336 t352) = some r := by rw [if_neg (show ¬ (false = true) by decide)] at H; exact H
                          clear H
                          have H := H1
                          clear H1
                          have H' := am H
                          clear H
                          have hnb101 := NB365_330.out
                          have hnc101 := NB330_365.out
                          have hnb102 := NB365_342.out
                          have hnc102 := NB342_365.out
                          have hcz103_0 : w85.cell? ⟨gb365, 0, none⟩ = some (.int .i64 t357) := (blk_cell BK365.out 0).trans rfl
                          have hcz103_1 : w85.cell? ⟨gb365, 1, none⟩ = some (.int .i64 t358) := (blk_cell BK365.out 1).trans rfl
                          have hcz103_2 : w85.cell? ⟨gb365, 2, none⟩ = some (.string t359) := (blk_cell BK365.out 2).trans rfl
                          have hcz103_3 : w85.cell? ⟨gb365, 3, none⟩ = some (.slice Ao84 t360.length co84) := (blk_cell BK365.out 3).trans rfl
                          have hfz103_0 := blk_frozen BK365.out 0
                          have hfz103_1 := blk_frozen BK365.out 1
                          have hfz103_2 := blk_frozen BK365.out 2
                          have hfz103_3 := blk_frozen BK365.out 3
                          have hnb104 := NB330_342.out
                          have hnc104 := NB342_330.out
                          have hcz105_0 : w85.cell? ⟨gb330, 0, none⟩ = some (.int .i64 t322) := (blk_cell BK330.out 0).trans rfl
                          have hcz105_1 : w85.cell? ⟨gb330, 1, none⟩ = some (.int .i64 t323) := (blk_cell BK330.out 1).trans rfl
                          have hcz105_2 : w85.cell? ⟨gb330, 2, none⟩ = some (.string t324) := (blk_cell BK330.out 2).trans rfl
                          have hcz105_3 : w85.cell? ⟨gb330, 3, none⟩ = some (.slice Ao14 t325.length co14) := (blk_cell BK330.out 3).trans rfl
                          have hfz105_0 := blk_frozen BK330.out 0
                          have hfz105_1 := blk_frozen BK330.out 1
                          have hfz105_2 := blk_frozen BK330.out 2
                          have hfz105_3 := blk_frozen BK330.out 3
                          go_wp2_with (first | ((with_reducible refine gate_callee (f := 19) rfl ?_); refine goesL_ (some 99) rfl rfl Try.func19 (by kernel_rfl) rfl #[.agg #[.int .i64 t357, .int .i64 t358, .string t359, .slice Ao84 t360.length co84], .agg #[.int .i64 t322, .int .i64 t323, .string t324, .slice Ao14 t325.length co14]] rfl (by (try simp only [List.map_toArray, List.map_cons, List.map_nil]); first | done | rfl | (simp only [List.length_drop, List.length_take]; rfl)) ?_; (with_reducible refine (laws_eqVal.calls kj43 t357 t358 t359 _ _ t360 t322 t323 t324 _ _ t325 false _ ?side1 ?side2 ?side3 ?side4 A86.out).mono ?_); (case side1 => repeat (first | exact (Kd.R_reads' HO362.out).2.2 | (with_reducible refine Kd.C_alloc ?_ _) | (with_reducible refine Kd.C_drewN ?_ _) | (with_reducible refine Kd.C_drew ?_))); (case side2 => exact (Kd.R_reads' HO362.out).2.1); (case side3 => repeat (first | exact (Kd.R_reads' HO_331003.out).2.2 | (with_reducible refine Kd.C_alloc ?_ _) | (with_reducible refine Kd.C_drewN ?_ _) | (with_reducible refine Kd.C_drew ?_))); (case side4 => exact (Kd.R_reads' HO_331003.out).2.1); rintro e w106 ⟨rfl, hb⟩; refine ⟨_, rfl, ?_⟩; have n0_ := am (Kd.R_below (kqR HO_331003.out) hb); have n1_ := am (Kd.R_below (kqR HO_343003.out) hb); have n2_ := am (Kd.R_below (kqR HO356.out) hb); have n3_ := am (Kd.R_below (kqR HO362.out) hb); have n4_ := am (blk_below (g := gb330) (o := .cells #[.int .i64 t322, .int .i64 t323, .string t324, .slice Ao14 t325.length co14] 29 (0, 0)) (zq BK330.out) hb); have n5_ := am (blk_below (g := gb342) (o := .cells #[.int .i64 t334, .int .i64 t335, .string t336, .slice Ao22 t337.length co22] 29 (0, 0)) (zq BK342.out) hb); have n6_ := am (blk_below (g := gb365) (o := .cells #[.int .i64 t357, .int .i64 t358, .string t359, .slice Ao84 t360.length co84] 29 (0, 0)) (zq BK365.out) hb); have n7_ := am (below_step (by repeat (first | (with_reducible first | exact HB.out | apply below_alloc | apply pw_below_drewN | apply below_drew1 | refine below_set ?_ GE330.out | refine below_set ?_ GE342.out | refine below_set ?_ GE365.out) | exact HB.out)) hb); clear HO_331003; clear HO_343003; clear HO356; clear HO362; clear BK330; clear BK342; clear BK365; clear HB; have HO_331003 := n0_; have HO_343003 := n1_; have HO356 := n2_; have HO362 := n3_; have BK330 := n4_; have BK342 := n5_; have BK365 := n6_; have HB := n7_; clear n0_ n1_ n2_ n3_ n4_ n5_ n6_ n7_; (try clear hb); (try clear hb2); (try clear hk); (try clear hi)))
                          go_meet
                          case rel => exact ⟨_, (true), (by first | rfl | (simp; done) | (simp [*]; done)), H', ⟨by have := HJ7.out; have := HJ43.out; first | omega | exact Nat.le_refl _⟩, ⟨kqR HO_331003.out⟩, ⟨kqR HO_343003.out⟩, ⟨kqR HO362.out⟩, ⟨zq BK330.out⟩, ⟨zq BK342.out⟩, ⟨zq BK365.out⟩, ⟨by repeat (first | (with_reducible first | exact HB.out | apply below_alloc | apply pw_below_drewN | apply below_drew1 | refine below_set ?_ GE330.out | refine below_set ?_ GE342.out | refine below_set ?_ GE365.out) | exact HB.out)⟩⟩
                      case rest =>
                        clear HC71
                        try clear c1
                        try clear c2
                        try clear p2
                        try clear c3
                        try clear c3b0
                        try clear c3b1
                        try clear c4
                        try clear c5
                        try clear c6
                        try clear c7
                        try clear c8
                        try clear c9
                        try clear c10
                        try clear c15
                        try clear c18
                        try clear c19
                        try clear c20
                        try clear c21
                        try clear c25
                        try clear c26
                        try clear c26b0
                        try clear c26b1
                        try clear c27
                        try clear c31
                        try clear c35
                        try clear c36
                        try clear c37
                        try clear c39
                        try clear c42
                        try clear c48
                        try clear c48b0
                        try clear c50
                        try clear c51
                        try clear c51b0
                        try clear c51b1
                        try clear c52
                        try clear c56
                        try clear c60
                        try clear c64
                        try clear c67
                        try clear c67b0
                        try clear c68
                        try clear c68b0
                        try clear c68b1
                        try clear c72
                        try clear c81
                        try clear c82
                        try clear c87
                        try clear c88
                        try clear c88b0
                        try clear c88b1
                        try clear c89
                        try clear c90
                        try clear c92
                        try clear c95
                        try clear c96
                        try clear c98
                        try clear c101
                        try clear c102
                        try clear c104
                        try clear hcz103_0
                        try clear hcz103_1
                        try clear hcz103_2
                        try clear hcz103_3
                        try clear hcz105_0
                        try clear hcz105_1
                        try clear hcz105_2
                        try clear hcz105_3
                        try clear hcz13_0
                        try clear hcz13_1
                        try clear hcz13_2
                        try clear hcz13_3
                        try clear hcz21_0
                        try clear hcz21_1
                        try clear hcz21_2
                        try clear hcz21_3
                        try clear hcz28_0
                        try clear hcz28_1
                        try clear hcz28_2
                        try clear hcz28_3
                        try clear hcz29_0
                        try clear hcz29_1
                        try clear hcz29_2
                        try clear hcz29_3
                        try clear hcz32_0
                        try clear hcz32_1
                        try clear hcz32_2
                        try clear hcz32_3
                        try clear hcz33_0
                        try clear hcz33_1
                        try clear hcz33_2
                        try clear hcz33_3
                        try clear hcz36_0
                        try clear hcz36_1
                        try clear hcz36_2
                        try clear hcz36_3
                        try clear hcz37_0
                        try clear hcz37_1
                        try clear hcz37_2
                        try clear hcz37_3
                        try clear hcz53_0
                        try clear hcz53_1
                        try clear hcz53_2
                        try clear hcz53_3
                        try clear hcz54_0
                        try clear hcz54_1
                        try clear hcz54_2
                        try clear hcz54_3
                        try clear hcz57_0
                        try clear hcz57_1
                        try clear hcz57_2
                        try clear hcz57_3
                        try clear hcz58_0
                        try clear hcz58_1
                        try clear hcz58_2
                        try clear hcz58_3
                        try clear hcz61_0
                        try clear hcz61_1
                        try clear hcz61_2
                        try clear hcz61_3
                        try clear hcz62_0
                        try clear hcz62_1
                        try clear hcz62_2
                        try clear hcz62_3
                        try clear hcz73_0
                        try clear hcz73_1
                        try clear hcz73_2
                        try clear hcz73_3
                        try clear hcz75_0
                        try clear hcz75_1
                        try clear hcz75_2
                        try clear hcz75_3
                        try clear hcz83_0
                        try clear hcz83_1
                        try clear hcz83_2
                        try clear hcz83_3
                        try clear hcz91_0
                        try clear hcz91_1
                        try clear hcz91_2
                        try clear hcz91_3
                        try clear hcz93_0
                        try clear hcz93_1
                        try clear hcz93_2
                        try clear hcz93_3
                        try clear hcz97_0
                        try clear hcz97_1
                        try clear hcz97_2
                        try clear hcz97_3
                        try clear hcz99_0
                        try clear hcz99_1
                        try clear hcz99_2
                        try clear hcz99_3
                        try clear hfz103_0
                        try clear hfz103_1
                        try clear hfz103_2
                        try clear hfz103_3
                        try clear hfz105_0
                        try clear hfz105_1
                        try clear hfz105_2
                        try clear hfz105_3
                        try clear hfz13_0
                        try clear hfz13_1
                        try clear hfz13_2
                        try clear hfz13_3
                        try clear hfz21_0
                        try clear hfz21_1
                        try clear hfz21_2
                        try clear hfz21_3
                        try clear hfz28_0
                        try clear hfz28_1
                        try clear hfz28_2
                        try clear hfz28_3
                        try clear hfz29_0
                        try clear hfz29_1
                        try clear hfz29_2
                        try clear hfz29_3
                        try clear hfz32_0
                        try clear hfz32_1
                        try clear hfz32_2
                        try clear hfz32_3
                        try clear hfz33_0
                        try clear hfz33_1
                        try clear hfz33_2
                        try clear hfz33_3
                        try clear hfz36_0
                        try clear hfz36_1
                        try clear hfz36_2
                        try clear hfz36_3
                        try clear hfz37_0
                        try clear hfz37_1
                        try clear hfz37_2
                        try clear hfz37_3
                        try clear hfz53_0
                        try clear hfz53_1
                        try clear hfz53_2
                        try clear hfz53_3
                        try clear hfz54_0
                        try clear hfz54_1
                        try clear hfz54_2
                        try clear hfz54_3
                        try clear hfz57_0
                        try clear hfz57_1
                        try clear hfz57_2
                        try clear hfz57_3
                        try clear hfz58_0
                        try clear hfz58_1
                        try clear hfz58_2
                        try clear hfz58_3
                        try clear hfz61_0
                        try clear hfz61_1
                        try clear hfz61_2
                        try clear hfz61_3
                        try clear hfz62_0
                        try clear hfz62_1
                        try clear hfz62_2
                        try clear hfz62_3
                        try clear hfz73_0
                        try clear hfz73_1
                        try clear hfz73_2
                        try clear hfz73_3
                        try clear hfz75_0
                        try clear hfz75_1
                        try clear hfz75_2
                        try clear hfz75_3
                        try clear hfz83_0
                        try clear hfz83_1
                        try clear hfz83_2
                        try clear hfz83_3
                        try clear hfz91_0
                        try clear hfz91_1
                        try clear hfz91_2
                        try clear hfz91_3
                        try clear hfz93_0
                        try clear hfz93_1
                        try clear hfz93_2
                        try clear hfz93_3
                        try clear hfz97_0
                        try clear hfz97_1
                        try clear hfz97_2
                        try clear hfz97_3
                        try clear hfz99_0
                        try clear hfz99_1
                        try clear hfz99_2
                        try clear hfz99_3
                        try clear p2
                        obtain ⟨kq, x110_70, rfl, HA, HJ70, HO_331003, HO_343003, HO_366003, BK330, BK342, BK365, HB⟩ := hcut
                        have hl343003_70 := (Kd.R_reads' HO_343003.out).1
                        rw [hl343003_70] at HO_343003
                        (try simp only [hl343003_70])
                        (try simp only [hl343003_70] at BK330)
                        (try simp only [hl343003_70] at BK342)
                        (try simp only [hl343003_70] at BK365)
                        (try simp only [hl343003_70] at HO_331003)
                        (try simp only [hl343003_70] at HO_366003)
                        cases kq with
                        | zero => exact absurd HA.out (by simp [laws_FnExactGetVal.j2])
                        | succ kj70 =>
                          have H := HA.out
                          clear HA
                          simp only [laws_FnExactGetVal.j2] at H
                          by_cases c107 : x110_70 = true
                          · subst c107
                            have H1 : (some false) = some r := by rw [if_pos rfl] at H; exact H
                            clear H
                            have H := H1
                            clear H1
                            exact absurd ((Option.some.inj H).trans HRT.out) (by decide)
                          · replace c107 := Bool.eq_false_iff.mpr c107
                            subst c107
                            have H1 : ((laws_heldVal.f kj70 t334 t335 t336 t352 1).bind fun t367 => (if t367 < 0 then (some false) else (if t367 = t351 then (some true) else (some false)))) = some r := by rw [if_neg (show ¬ (false = true) by decide)] at H; exact H
                            clear H
                            have H := H1
                            clear H1
                            replace H := Option.bind_eq_some_iff.mp H
                            obtain ⟨t367, A1080, H⟩ := H
                            replace H : (if t367 < 0 then (some false) else (if t367 = t351 then (some true) else (some false))) = some r := H
                            have A108 := am A1080
                            clear A1080
                            by_cases c109 : t367 < 0
                            · rw [if_pos c109] at H
                              have c109b0 : decide (t367 < 0) = true := decide_eq_true c109
                              clear c109
                              exact absurd ((Option.some.inj H).trans HRT.out) (by decide)
                            · rw [if_neg c109] at H
                              have c109b0 : decide (t367 < 0) = false := decide_eq_false c109
                              clear c109
                              by_cases c110 : t367 = t351
                              · rw [if_pos c110] at H
                                have c110b0 : (t367 == t351) = true := beq_iff_eq.mpr c110
                                have c110b1 : (t367 != t351) = false := bne_eq_false_iff_eq.mpr c110
                                clear c110
                                obtain rfl := Option.some.inj H
                                have hnb111 := NB342_330.out
                                have hnc111 := NB330_342.out
                                have hnb112 := NB342_365.out
                                have hnc112 := NB365_342.out
                                have hcz113_0 : wc.cell? ⟨gb342, 0, none⟩ = some (.int .i64 t334) := (blk_cell BK342.out 0).trans rfl
                                have hcz113_1 : wc.cell? ⟨gb342, 1, none⟩ = some (.int .i64 t335) := (blk_cell BK342.out 1).trans rfl
                                have hcz113_2 : wc.cell? ⟨gb342, 2, none⟩ = some (.string t336) := (blk_cell BK342.out 2).trans rfl
                                have hcz113_3 : wc.cell? ⟨gb342, 3, none⟩ = some (.slice Ao22 t352.length co22) := (blk_cell BK342.out 3).trans rfl
                                have hfz113_0 := blk_frozen BK342.out 0
                                have hfz113_1 := blk_frozen BK342.out 1
                                have hfz113_2 := blk_frozen BK342.out 2
                                have hfz113_3 := blk_frozen BK342.out 3
                                go_wp2_with (first | ((with_reducible refine gate_callee (f := 37) rfl ?_); refine goesL_ (some 113) rfl rfl Try.func37 (by kernel_rfl) rfl #[.agg #[.int .i64 t334, .int .i64 t335, .string t336, .slice Ao22 t352.length co22], .int .i64 1] rfl (by (try simp only [List.map_toArray, List.map_cons, List.map_nil]); first | done | rfl | (simp only [List.length_drop, List.length_take]; rfl)) ?_; (with_reducible refine (laws_heldVal.calls kj70 t334 t335 t336 _ _ t352 1 t367 _ ?side1 ?side2 A108.out).mono ?_); (case side1 => repeat (first | exact (Kd.R_reads' HO_343003.out).2.2 | (with_reducible refine Kd.C_alloc ?_ _) | (with_reducible refine Kd.C_drewN ?_ _) | (with_reducible refine Kd.C_drew ?_))); (case side2 => exact (Kd.R_reads' HO_343003.out).2.1); rintro e w114 ⟨rfl, hb⟩; refine ⟨_, rfl, ?_⟩; have n0_ := am (Kd.R_below (kqR HO_331003.out) hb); have n1_ := am (Kd.R_below (kqR HO_343003.out) hb); have n2_ := am (Kd.R_below (kqR HO_366003.out) hb); have n3_ := am (blk_below (g := gb330) (o := .cells #[.int .i64 t322, .int .i64 t323, .string t324, .slice Ao14 t325.length co14] 29 (0, 0)) (zq BK330.out) hb); have n4_ := am (blk_below (g := gb342) (o := .cells #[.int .i64 t334, .int .i64 t335, .string t336, .slice Ao22 t352.length co22] 29 (0, 0)) (zq BK342.out) hb); have n5_ := am (blk_below (g := gb365) (o := .cells #[.int .i64 t357, .int .i64 t358, .string t359, .slice Ao84 t360.length co84] 29 (0, 0)) (zq BK365.out) hb); have n6_ := am (below_step (by repeat (first | (with_reducible first | exact HB.out | apply below_alloc | apply pw_below_drewN | apply below_drew1 | refine below_set ?_ GE330.out | refine below_set ?_ GE342.out | refine below_set ?_ GE365.out) | exact HB.out)) hb); clear HO_331003; clear HO_343003; clear HO_366003; clear BK330; clear BK342; clear BK365; clear HB; have HO_331003 := n0_; have HO_343003 := n1_; have HO_366003 := n2_; have BK330 := n3_; have BK342 := n4_; have BK365 := n5_; have HB := n6_; clear n0_ n1_ n2_ n3_ n4_ n5_ n6_; (try clear hb); (try clear hb2); (try clear hk); (try clear hi)))
                                go_ret
                                exact ⟨by first | rfl | (simp [errW_none, errW_some] <;> rfl) | (simp [*, errW_none, errW_some] <;> rfl), by repeat (first | (with_reducible first | exact HB.out | apply below_alloc | apply pw_below_drewN | apply below_drew1 | refine below_set ?_ GE330.out | refine below_set ?_ GE342.out | refine below_set ?_ GE365.out) | exact HB.out)⟩
                              · rw [if_neg c110] at H
                                have c110b0 : (t367 == t351) = false := beq_eq_false_iff_ne.mpr c110
                                have c110b1 : (t367 != t351) = true := bne_iff_ne.mpr c110
                                exact absurd ((Option.some.inj H).trans HRT.out) (by decide)
                    · rw [if_neg c68] at H
                      have c68b0 : (t353 == t351) = false := beq_eq_false_iff_ne.mpr c68
                      have c68b1 : (t353 != t351) = true := bne_iff_ne.mpr c68
                      exact absurd ((Option.some.inj H).trans HRT.out) (by decide)
          · replace c42 := Bool.eq_false_iff.mpr c42
            subst c42
            have H1 : (some false) = some r := by rw [if_neg (show ¬ (false = true) by decide)] at H; exact H
            clear H
            have H := H1
            clear H1
            exact absurd ((Option.some.inj H).trans HRT.out) (by decide)

/-- THE ONE PURE STATEMENT of laws_FnExactGetVal. -/
def laws_FnExactGetVal.Pure : Prop := ∀ (l0 : List Int) (a1 : Int), l0.length ≤ maxLen → (∀ y ∈ l0, (Lit.int .u8 y).wf = true) → (Lit.int .i64 a1).wf = true → ∃ k, laws_FnExactGetVal.f k l0 a1 = some true

end Go.Proofs.Ythhnfmbfgplelaa.XFnExactGetVal
