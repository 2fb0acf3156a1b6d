/- The functions that one law reaches, as Lean functions, with their walks: printed by a program of this seat (wip/tools) out of the translation. -/
import Derived.Test.YtebffdmkfkfoaaaXFnStaticsx0
import Derived.Test.YtebffdmkfkfoaaaXFnStaticsx3
import Derived.Test.YtebffdmkfkfoaaaXFnStaticsx6
import Derived.Test.YtebffdmkfkfoaaaXFnStaticsx11
import Derived.Test.YtebffdmkfkfoaaaXFnStaticsx12
namespace Go.Proofs.Ytebffdmkfkfoaaa.XFnStatics
open Go.RowKit Go.Proofs.YtebffdmkfkfoaaaW.PrintWords Go.Proofs.YtebffdmkfkfoaaaW.PrintLast Go.Proofs.YtebffdmkfkfoaaaW.PrintMore
attribute [local go_sem] max2_int min2_int max_two min_two max_three min_three max_four min_four   -- for this text's walks alone
set_option linter.unusedVariables false
set_option linter.unusedSimpArgs false

/-! ### laws_FnStatics: function 9 -/
def laws_FnStatics.j0 : Nat → Int → Int → Int → List (S44) → List (S44) → List (S44) → Bool → Bool → Option (Bool)
  | 0, _, _, _, _, _, _, _, _ => none
  | k + 1, x4, x5, x6, x7, x9, x10, x11, x86 => if x86 = true then (some false) else ((impl_LookUp.f k x9 x4 x5).bind fun t405 => (if t405 = x6 then (if x11 = true then ((impl_LookUp.f k x10 x4 x5).bind fun t406 => (if t406 = (-1) then ((impl_FdbOk.f k x7).bind fun t407 => (if t407 = true then ((impl_FdbOk.f k x10).bind fun t408 => (if t408 = true then (some ((wrap64 ((x10.length : Int) + 1)) == (x9.length : Int))) else (some false))) else (some false))) else (some false))) else (some false)) else (some false)))
def laws_FnStatics.f (k : Nat) (l0 : List Int) : Option (Bool) := (laws_big.f l0).bind fun t382 => (if t382 = true then (some true) else ((spec_DrawFdb.f k l0).bind fun bt383 => ((impl_SetStatic.f k bt383.1 bt383.2.1 bt383.2.2.1 bt383.2.2.2).bind fun bt389 => (if bt389.2 = true then ((impl_Learn.f k bt389.1 bt383.2.1 bt383.2.2.1 (Int.tmod (wrap64 (bt383.2.2.2 + 1)) 4)).bind fun t394 => ((impl_DropStatic.f k t394 bt383.2.1 bt383.2.2.1).bind fun bt397 => ((impl_NextEnt.f k t394 bt383.2.1 bt383.2.2.1).bind fun t401 => (if t401 ≥ 0 then (if 0 ≤ t401 then (if t401 < (t394.length : Int) then (if ((rd_T44 t394 t401).f0) < bt383.2.1 then (laws_FnStatics.j0 k bt383.2.1 bt383.2.2.1 bt383.2.2.2 bt389.1 t394 bt397.1 bt397.2 true) else (if ((rd_T44 t394 t401).f0) = bt383.2.1 then (laws_FnStatics.j0 k bt383.2.1 bt383.2.2.1 bt383.2.2.2 bt389.1 t394 bt397.1 bt397.2 (decide (((rd_T44 t394 t401).f1) ≤ bt383.2.2.1))) else (laws_FnStatics.j0 k bt383.2.1 bt383.2.2.1 bt383.2.2.2 bt389.1 t394 bt397.1 bt397.2 false))) else (none)) else (none)) else (laws_FnStatics.j0 k bt383.2.1 bt383.2.2.1 bt383.2.2.2 bt389.1 t394 bt397.1 bt397.2 false))))) else ((laws_sameFdb.f k bt389.1 bt383.1).bind fun t393 => (if t393 = true then (some ((bt383.1.length : Int) == 12)) else (some false)))))))
theorem laws_FnStatics.mono_l : ∀ k, (∀ y0 y1 y2 y3 y4 y5 y6 y7, LeO (laws_FnStatics.j0 k y0 y1 y2 y3 y4 y5 y6 y7) (laws_FnStatics.j0 (k + 1) y0 y1 y2 y3 y4 y5 y6 y7))
  | 0 => fun _ _ _ _ _ _ _ _ r h => by simp [laws_FnStatics.j0] at h
  | k + 1 => by
    have ih0 := laws_FnStatics.mono_l k
    · intro y0 y1 y2 y3 y4 y5 y6 y7
      unfold laws_FnStatics.j0
      repeat' first
      | (with_reducible exact ih0 _ _ _ _ _ _ _ _)
      | (with_reducible exact impl_DropStatic.mono _ _ _ _)
      | (with_reducible exact impl_FdbOk.mono _ _)
      | (with_reducible exact impl_Learn.mono _ _ _ _ _)
      | (with_reducible exact impl_LookUp.mono _ _ _ _)
      | (with_reducible exact impl_NextEnt.mono _ _ _ _)
      | (with_reducible exact impl_SetStatic.mono _ _ _ _ _)
      | (with_reducible exact laws_sameFdb.mono _ _ _)
      | (with_reducible exact spec_DrawFdb.mono _ _)
      | (with_reducible exact LeO.refl _)
      | (with_reducible exact LeO.none _)
      | (with_reducible refine LeO.ite ?_ ?_)
      | (with_reducible refine LeO.bind ?_ (fun _ => ?_))
      | exact ih0 _ _ _ _ _ _ _ _
      | exact impl_DropStatic.mono _ _ _ _
      | exact impl_FdbOk.mono _ _
      | exact impl_Learn.mono _ _ _ _ _
      | exact impl_LookUp.mono _ _ _ _
      | exact impl_NextEnt.mono _ _ _ _
      | exact impl_SetStatic.mono _ _ _ _ _
      | exact laws_sameFdb.mono _ _ _
      | exact spec_DrawFdb.mono _ _
      | exact LeO.none _
      | refine LeO.ite ?_ ?_
      | refine LeO.bind ?_ (fun _ => ?_)
theorem laws_FnStatics.mono : ∀ a0 k, LeO (laws_FnStatics.f k a0) (laws_FnStatics.f (k + 1) a0) := by
  intro a0 k
  have ih0 := laws_FnStatics.mono_l k
  unfold laws_FnStatics.f
  repeat' first
      | (with_reducible exact ih0 _ _ _ _ _ _ _ _)
      | (with_reducible exact impl_DropStatic.mono _ _ _ _)
      | (with_reducible exact impl_FdbOk.mono _ _)
      | (with_reducible exact impl_Learn.mono _ _ _ _ _)
      | (with_reducible exact impl_LookUp.mono _ _ _ _)
      | (with_reducible exact impl_NextEnt.mono _ _ _ _)
      | (with_reducible exact impl_SetStatic.mono _ _ _ _ _)
      | (with_reducible exact laws_sameFdb.mono _ _ _)
      | (with_reducible exact spec_DrawFdb.mono _ _)
      | (with_reducible exact LeO.refl _)
      | (with_reducible exact LeO.none _)
      | (with_reducible refine LeO.ite ?_ ?_)
      | (with_reducible refine LeO.bind ?_ (fun _ => ?_))
      | exact ih0 _ _ _ _ _ _ _ _
      | exact impl_DropStatic.mono _ _ _ _
      | exact impl_FdbOk.mono _ _
      | exact impl_Learn.mono _ _ _ _ _
      | exact impl_LookUp.mono _ _ _ _
      | exact impl_NextEnt.mono _ _ _ _
      | exact impl_SetStatic.mono _ _ _ _ _
      | exact laws_sameFdb.mono _ _ _
      | exact spec_DrawFdb.mono _ _
      | exact LeO.none _
      | refine LeO.ite ?_ ?_
      | refine LeO.bind ?_ (fun _ => ?_)
set_option maxHeartbeats 8000000 in
set_option maxRecDepth 100000 in
theorem laws_FnStatics.calls (k : Nat) (A0 : Option Addr) (c0 : Nat) (l0 : List Int) (r : Bool) (w : World) (hr0 : Kd.C (Kd.int .u8) w A0 l0.length l0) (hc0 : l0.length ≤ c0) (hr_ : r = true) (h : laws_FnStatics.f k l0 = some r) :
    Calls Try.prog 9 #[.slice A0 l0.length c0] w fun e w' => e = .returned (.bool r) ∧ Below w.heap.size w w' := by
  have HRT := am hr_
  clear hr_
  have HR0 := am hr0
  have HC0 := am hc0
  clear hr0 hc0
  have HB := am (Below.refl w.heap.size w)
  have H : ((laws_big.f l0).bind fun t382 => (if t382 = true then (some true) else ((spec_DrawFdb.f k l0).bind fun bt383 => ((impl_SetStatic.f k bt383.1 bt383.2.1 bt383.2.2.1 bt383.2.2.2).bind fun bt389 => (if bt389.2 = true then ((impl_Learn.f k bt389.1 bt383.2.1 bt383.2.2.1 (Int.tmod (wrap64 (bt383.2.2.2 + 1)) 4)).bind fun t394 => ((impl_DropStatic.f k t394 bt383.2.1 bt383.2.2.1).bind fun bt397 => ((impl_NextEnt.f k t394 bt383.2.1 bt383.2.2.1).bind fun t401 => (if t401 ≥ 0 then (if 0 ≤ t401 then (if t401 < (t394.length : Int) then (if ((rd_T44 t394 t401).f0) < bt383.2.1 then (laws_FnStatics.j0 k bt383.2.1 bt383.2.2.1 bt383.2.2.2 bt389.1 t394 bt397.1 bt397.2 true) else (if ((rd_T44 t394 t401).f0) = bt383.2.1 then (laws_FnStatics.j0 k bt383.2.1 bt383.2.2.1 bt383.2.2.2 bt389.1 t394 bt397.1 bt397.2 (decide (((rd_T44 t394 t401).f1) ≤ bt383.2.2.1))) else (laws_FnStatics.j0 k bt383.2.1 bt383.2.2.1 bt383.2.2.2 bt389.1 t394 bt397.1 bt397.2 false))) else (none)) else (none)) else (laws_FnStatics.j0 k bt383.2.1 bt383.2.2.1 bt383.2.2.2 bt389.1 t394 bt397.1 bt397.2 false))))) else ((laws_sameFdb.f k bt389.1 bt383.1).bind fun t393 => (if t393 = true then (some ((bt383.1.length : Int) == 12)) else (some false)))))))) = some r := h
  clear h
  replace H := Option.bind_eq_some_iff.mp H
  obtain ⟨t382, A20, H⟩ := H
  replace H : (if t382 = true then (some true) else ((spec_DrawFdb.f k l0).bind fun bt383 => ((impl_SetStatic.f k bt383.1 bt383.2.1 bt383.2.2.1 bt383.2.2.2).bind fun bt389 => (if bt389.2 = true then ((impl_Learn.f k bt389.1 bt383.2.1 bt383.2.2.1 (Int.tmod (wrap64 (bt383.2.2.2 + 1)) 4)).bind fun t394 => ((impl_DropStatic.f k t394 bt383.2.1 bt383.2.2.1).bind fun bt397 => ((impl_NextEnt.f k t394 bt383.2.1 bt383.2.2.1).bind fun t401 => (if t401 ≥ 0 then (if 0 ≤ t401 then (if t401 < (t394.length : Int) then (if ((rd_T44 t394 t401).f0) < bt383.2.1 then (laws_FnStatics.j0 k bt383.2.1 bt383.2.2.1 bt383.2.2.2 bt389.1 t394 bt397.1 bt397.2 true) else (if ((rd_T44 t394 t401).f0) = bt383.2.1 then (laws_FnStatics.j0 k bt383.2.1 bt383.2.2.1 bt383.2.2.2 bt389.1 t394 bt397.1 bt397.2 (decide (((rd_T44 t394 t401).f1) ≤ bt383.2.2.1))) else (laws_FnStatics.j0 k bt383.2.1 bt383.2.2.1 bt383.2.2.2 bt389.1 t394 bt397.1 bt397.2 false))) else (none)) else (none)) else (laws_FnStatics.j0 k bt383.2.1 bt383.2.2.1 bt383.2.2.2 bt389.1 t394 bt397.1 bt397.2 false))))) else ((laws_sameFdb.f k bt389.1 bt383.1).bind fun t393 => (if t393 = true then (some ((bt383.1.length : Int) == 12)) else (some false))))))) = some r := H
  have A2 := am A20
  clear A20
  by_cases c3 : t382 = true
  · subst c3
    have H1 : (some true) = some r := by rw [if_pos rfl] at H; exact H
    clear H
    have H := H1
    clear H1
    obtain rfl := Option.some.inj H
    go_enter Try.func9, Try.ntmps9
    go_wp2_with (first | ((with_reducible refine gate_callee (f := 26) rfl ?_); refine goesL_ (some 14) rfl rfl Try.func26 (by kernel_rfl) rfl #[.slice A0 l0.length c0] rfl (by (try simp only [List.map_toArray, List.map_cons, List.map_nil]); first | done | rfl | (simp only [List.length_drop, List.length_take]; rfl)) ?_; (with_reducible refine (laws_big.calls _ _ l0 true _ ?side1 ?side2 A2.out).mono ?_); (case side1 => exact cq HR0.out); (case side2 => exact HC0.out); rintro e w' ⟨rfl, ⟨nd, rfl⟩⟩; refine ⟨_, rfl, ?_⟩))
    go_ret
    exact ⟨by first | rfl | (simp [errW_none, errW_some] <;> rfl) | (simp [*, errW_none, errW_some] <;> rfl), bq HB.out⟩
  · replace c3 := Bool.eq_false_iff.mpr c3
    subst c3
    have H1 : ((spec_DrawFdb.f k l0).bind fun bt383 => ((impl_SetStatic.f k bt383.1 bt383.2.1 bt383.2.2.1 bt383.2.2.2).bind fun bt389 => (if bt389.2 = true then ((impl_Learn.f k bt389.1 bt383.2.1 bt383.2.2.1 (Int.tmod (wrap64 (bt383.2.2.2 + 1)) 4)).bind fun t394 => ((impl_DropStatic.f k t394 bt383.2.1 bt383.2.2.1).bind fun bt397 => ((impl_NextEnt.f k t394 bt383.2.1 bt383.2.2.1).bind fun t401 => (if t401 ≥ 0 then (if 0 ≤ t401 then (if t401 < (t394.length : Int) then (if ((rd_T44 t394 t401).f0) < bt383.2.1 then (laws_FnStatics.j0 k bt383.2.1 bt383.2.2.1 bt383.2.2.2 bt389.1 t394 bt397.1 bt397.2 true) else (if ((rd_T44 t394 t401).f0) = bt383.2.1 then (laws_FnStatics.j0 k bt383.2.1 bt383.2.2.1 bt383.2.2.2 bt389.1 t394 bt397.1 bt397.2 (decide (((rd_T44 t394 t401).f1) ≤ bt383.2.2.1))) else (laws_FnStatics.j0 k bt383.2.1 bt383.2.2.1 bt383.2.2.2 bt389.1 t394 bt397.1 bt397.2 false))) else (none)) else (none)) else (laws_FnStatics.j0 k bt383.2.1 bt383.2.2.1 bt383.2.2.2 bt389.1 t394 bt397.1 bt397.2 false))))) else ((laws_sameFdb.f k bt389.1 bt383.1).bind fun t393 => (if t393 = true then (some ((bt383.1.length : Int) == 12)) else (some false)))))) = some r := by rw [if_neg (show ¬ (false = true) by decide)] at H; exact H
    clear H
    have H := H1
    clear H1
    replace H := Option.bind_eq_some_iff.mp H
    obtain ⟨⟨t383, t384, t385, t386⟩, A40, H⟩ := H
    replace H : ((impl_SetStatic.f k t383 t384 t385 t386).bind fun bt389 => (if bt389.2 = true then ((impl_Learn.f k bt389.1 t384 t385 (Int.tmod (wrap64 (t386 + 1)) 4)).bind fun t394 => ((impl_DropStatic.f k t394 t384 t385).bind fun bt397 => ((impl_NextEnt.f k t394 t384 t385).bind fun t401 => (if t401 ≥ 0 then (if 0 ≤ t401 then (if t401 < (t394.length : Int) then (if ((rd_T44 t394 t401).f0) < t384 then (laws_FnStatics.j0 k t384 t385 t386 bt389.1 t394 bt397.1 bt397.2 true) else (if ((rd_T44 t394 t401).f0) = t384 then (laws_FnStatics.j0 k t384 t385 t386 bt389.1 t394 bt397.1 bt397.2 (decide (((rd_T44 t394 t401).f1) ≤ t385))) else (laws_FnStatics.j0 k t384 t385 t386 bt389.1 t394 bt397.1 bt397.2 false))) else (none)) else (none)) else (laws_FnStatics.j0 k t384 t385 t386 bt389.1 t394 bt397.1 bt397.2 false))))) else ((laws_sameFdb.f k bt389.1 t383).bind fun t393 => (if t393 = true then (some ((t383.length : Int) == 12)) else (some false))))) = some r := H
    have A4 := am A40
    clear A40
    replace H := Option.bind_eq_some_iff.mp H
    obtain ⟨⟨t389, t390⟩, A50, H⟩ := H
    replace H : (if t390 = true then ((impl_Learn.f k t389 t384 t385 (Int.tmod (wrap64 (t386 + 1)) 4)).bind fun t394 => ((impl_DropStatic.f k t394 t384 t385).bind fun bt397 => ((impl_NextEnt.f k t394 t384 t385).bind fun t401 => (if t401 ≥ 0 then (if 0 ≤ t401 then (if t401 < (t394.length : Int) then (if ((rd_T44 t394 t401).f0) < t384 then (laws_FnStatics.j0 k t384 t385 t386 t389 t394 bt397.1 bt397.2 true) else (if ((rd_T44 t394 t401).f0) = t384 then (laws_FnStatics.j0 k t384 t385 t386 t389 t394 bt397.1 bt397.2 (decide (((rd_T44 t394 t401).f1) ≤ t385))) else (laws_FnStatics.j0 k t384 t385 t386 t389 t394 bt397.1 bt397.2 false))) else (none)) else (none)) else (laws_FnStatics.j0 k t384 t385 t386 t389 t394 bt397.1 bt397.2 false))))) else ((laws_sameFdb.f k t389 t383).bind fun t393 => (if t393 = true then (some ((t383.length : Int) == 12)) else (some false)))) = some r := H
    have A5 := am A50
    clear A50
    by_cases c6 : t390 = true
    · subst c6
      have H1 : ((impl_Learn.f k t389 t384 t385 (Int.tmod (wrap64 (t386 + 1)) 4)).bind fun t394 => ((impl_DropStatic.f k t394 t384 t385).bind fun bt397 => ((impl_NextEnt.f k t394 t384 t385).bind fun t401 => (if t401 ≥ 0 then (if 0 ≤ t401 then (if t401 < (t394.length : Int) then (if ((rd_T44 t394 t401).f0) < t384 then (laws_FnStatics.j0 k t384 t385 t386 t389 t394 bt397.1 bt397.2 true) else (if ((rd_T44 t394 t401).f0) = t384 then (laws_FnStatics.j0 k t384 t385 t386 t389 t394 bt397.1 bt397.2 (decide (((rd_T44 t394 t401).f1) ≤ t385))) else (laws_FnStatics.j0 k t384 t385 t386 t389 t394 bt397.1 bt397.2 false))) else (none)) else (none)) else (laws_FnStatics.j0 k t384 t385 t386 t389 t394 bt397.1 bt397.2 false))))) = some r := by rw [if_pos rfl] at H; exact H
      clear H
      have H := H1
      clear H1
      replace H := Option.bind_eq_some_iff.mp H
      obtain ⟨t394, A70, H⟩ := H
      replace H : ((impl_DropStatic.f k t394 t384 t385).bind fun bt397 => ((impl_NextEnt.f k t394 t384 t385).bind fun t401 => (if t401 ≥ 0 then (if 0 ≤ t401 then (if t401 < (t394.length : Int) then (if ((rd_T44 t394 t401).f0) < t384 then (laws_FnStatics.j0 k t384 t385 t386 t389 t394 bt397.1 bt397.2 true) else (if ((rd_T44 t394 t401).f0) = t384 then (laws_FnStatics.j0 k t384 t385 t386 t389 t394 bt397.1 bt397.2 (decide (((rd_T44 t394 t401).f1) ≤ t385))) else (laws_FnStatics.j0 k t384 t385 t386 t389 t394 bt397.1 bt397.2 false))) else (none)) else (none)) else (laws_FnStatics.j0 k t384 t385 t386 t389 t394 bt397.1 bt397.2 false)))) = some r := H
      have A7 := am A70
      clear A70
      replace H := Option.bind_eq_some_iff.mp H
      obtain ⟨⟨t397, t398⟩, A80, H⟩ := H
      replace H : ((impl_NextEnt.f k t394 t384 t385).bind fun t401 => (if t401 ≥ 0 then (if 0 ≤ t401 then (if t401 < (t394.length : Int) then (if ((rd_T44 t394 t401).f0) < t384 then (laws_FnStatics.j0 k t384 t385 t386 t389 t394 t397 t398 true) else (if ((rd_T44 t394 t401).f0) = t384 then (laws_FnStatics.j0 k t384 t385 t386 t389 t394 t397 t398 (decide (((rd_T44 t394 t401).f1) ≤ t385))) else (laws_FnStatics.j0 k t384 t385 t386 t389 t394 t397 t398 false))) else (none)) else (none)) else (laws_FnStatics.j0 k t384 t385 t386 t389 t394 t397 t398 false))) = some r := H
      have A8 := am A80
      clear A80
      replace H := Option.bind_eq_some_iff.mp H
      obtain ⟨t401, A90, H⟩ := H
      replace H : (if t401 ≥ 0 then (if 0 ≤ t401 then (if t401 < (t394.length : Int) then (if ((rd_T44 t394 t401).f0) < t384 then (laws_FnStatics.j0 k t384 t385 t386 t389 t394 t397 t398 true) else (if ((rd_T44 t394 t401).f0) = t384 then (laws_FnStatics.j0 k t384 t385 t386 t389 t394 t397 t398 (decide (((rd_T44 t394 t401).f1) ≤ t385))) else (laws_FnStatics.j0 k t384 t385 t386 t389 t394 t397 t398 false))) else (none)) else (none)) else (laws_FnStatics.j0 k t384 t385 t386 t389 t394 t397 t398 false)) = some r := H
      have A9 := am A90
      clear A90
      have HC10 := am H
      clear H
      go_enter Try.func9, Try.ntmps9
      go_upto_region 10 with (first | ((with_reducible refine gate_callee (f := 26) rfl ?_); refine goesL_ (some 14) rfl rfl Try.func26 (by kernel_rfl) rfl #[.slice A0 l0.length c0] rfl (by (try simp only [List.map_toArray, List.map_cons, List.map_nil]); first | done | rfl | (simp only [List.length_drop, List.length_take]; rfl)) ?_; (with_reducible refine (laws_big.calls _ _ l0 false _ ?side1 ?side2 A2.out).mono ?_); (case side1 => exact cq HR0.out); (case side2 => exact HC0.out); rintro e w' ⟨rfl, ⟨nd, rfl⟩⟩; refine ⟨_, rfl, ?_⟩) | ((with_reducible refine gate_callee (f := 27) rfl ?_); refine goesL_ (some 17) rfl rfl Try.func27 (by kernel_rfl) rfl #[.slice A0 l0.length c0] rfl (by (try simp only [List.map_toArray, List.map_cons, List.map_nil]); first | done | rfl | (simp only [List.length_drop, List.length_take]; rfl)) ?_; (with_reducible refine (spec_DrawFdb.calls k _ _ l0 t383 t384 t385 t386 _ ?side1 ?side2 A4.out).mono ?_); (case side1 => exact cq HR0.out); (case side2 => exact HC0.out); rintro e w11 ⟨v387, rfl, ho0, hb⟩; refine ⟨_, rfl, ?_⟩; have n0_ := am (Kd.R_lower ho0 (below_size (bq HB.out))); have n1_ := am (below_step (bq HB.out) hb); clear HB; have HO388 := n0_; have HB := n1_; clear n0_ n1_; (try clear hb); (try clear hb2); (try clear hk); (try clear hi); (try clear ho0); obtain ⟨Ao12, co12, eo12⟩ := Kd.R_slice HO388.out; subst eo12) | ((with_reducible refine gate_callee (f := 22) rfl ?_); refine goesL_ (some 27) rfl rfl Try.func22 (by kernel_rfl) rfl #[.slice Ao12 t383.length co12, .int .i64 t384, .int .i64 t385, .int .i64 t386] rfl (by (try simp only [List.map_toArray, List.map_cons, List.map_nil]); first | done | rfl | (simp only [List.length_drop, List.length_take]; rfl)) ?_; (with_reducible refine (impl_SetStatic.calls k _ _ t383 t384 t385 t386 t389 true _ ?side1 ?side2 A5.out).mono ?_); (case side1 => repeat (first | exact (Kd.R_reads' HO388.out).2.2 | (with_reducible refine Kd.C_alloc ?_ _) | (with_reducible refine Kd.C_drewN ?_ _) | (with_reducible refine Kd.C_drew ?_))); (case side2 => exact (Kd.R_reads' HO388.out).2.1); rintro e w13 ⟨v391, rfl, ho0, hb⟩; refine ⟨_, rfl, ?_⟩; have n0_ := am (Kd.R_elder' (kqR HO388.out) (Kd.R_base ho0) hb); have n1_ := am (Kd.R_lower (Kd.R_new' ho0 (Kd.R_lt (kqR HO388.out))) (below_size (bq HB.out))); have n2_ := am (below_step (bq HB.out) hb); clear HO388; clear HB; have HO388 := n0_; have HO392 := n1_; have HB := n2_; clear n0_ n1_ n2_; (try clear hb); (try clear hb2); (try clear hk); (try clear hi); (try clear ho0); obtain ⟨Ao14, co14, eo14⟩ := Kd.R_slice HO392.out; subst eo14) | ((with_reducible refine gate_callee (f := 28) rfl ?_); refine goesL_ (some 46) rfl rfl Try.func28 (by kernel_rfl) rfl #[.slice Ao14 t389.length co14, .int .i64 t384, .int .i64 t385, .int .i64 (Int.tmod (wrap64 (t386 + 1)) 4)] rfl (by (try simp only [List.map_toArray, List.map_cons, List.map_nil]); first | done | rfl | (simp only [List.length_drop, List.length_take]; rfl)) ?_; (with_reducible refine (impl_Learn.calls k _ _ t389 t384 t385 (Int.tmod (wrap64 (t386 + 1)) 4) t394 _ ?side1 ?side2 A7.out).mono ?_); (case side1 => repeat (first | exact (Kd.R_reads' HO392.out).2.2 | (with_reducible refine Kd.C_alloc ?_ _) | (with_reducible refine Kd.C_drewN ?_ _) | (with_reducible refine Kd.C_drew ?_))); (case side2 => exact (Kd.R_reads' HO392.out).2.1); rintro e w15 ⟨v395, rfl, ho0, hb⟩; refine ⟨_, rfl, ?_⟩; have n0_ := am (Kd.R_elder' (kqR HO388.out) (Kd.R_base ho0) hb); have n1_ := am (Kd.R_elder' (kqR HO392.out) (Kd.R_base ho0) hb); have n2_ := am (Kd.R_lower (Kd.R_new' (Kd.R_new' ho0 (Kd.R_lt (kqR HO388.out))) (Kd.R_lt (kqR HO392.out))) (below_size (bq HB.out))); have n3_ := am (below_step (bq HB.out) hb); clear HO388; clear HO392; clear HB; have HO388 := n0_; have HO392 := n1_; have HO396 := n2_; have HB := n3_; clear n0_ n1_ n2_ n3_; (try clear hb); (try clear hb2); (try clear hk); (try clear hi); (try clear ho0); obtain ⟨Ao16, co16, eo16⟩ := Kd.R_slice HO396.out; subst eo16) | ((with_reducible refine gate_callee (f := 41) rfl ?_); refine goesL_ (some 51) rfl rfl Try.func41 (by kernel_rfl) rfl #[.slice Ao16 t394.length co16, .int .i64 t384, .int .i64 t385] rfl (by (try simp only [List.map_toArray, List.map_cons, List.map_nil]); first | done | rfl | (simp only [List.length_drop, List.length_take]; rfl)) ?_; (with_reducible refine (impl_DropStatic.calls k _ _ t394 t384 t385 t397 t398 _ ?side1 ?side2 A8.out).mono ?_); (case side1 => repeat (first | exact (Kd.R_reads' HO396.out).2.2 | (with_reducible refine Kd.C_alloc ?_ _) | (with_reducible refine Kd.C_drewN ?_ _) | (with_reducible refine Kd.C_drew ?_))); (case side2 => exact (Kd.R_reads' HO396.out).2.1); rintro e w17 ⟨v399, rfl, ho0, hb⟩; refine ⟨_, rfl, ?_⟩; have n0_ := am (Kd.R_elder' (kqR HO388.out) (Kd.R_base ho0) hb); have n1_ := am (Kd.R_elder' (kqR HO392.out) (Kd.R_base ho0) hb); have n2_ := am (Kd.R_elder' (kqR HO396.out) (Kd.R_base ho0) hb); have n3_ := am (Kd.R_lower (Kd.R_new' (Kd.R_new' (Kd.R_new' ho0 (Kd.R_lt (kqR HO388.out))) (Kd.R_lt (kqR HO392.out))) (Kd.R_lt (kqR HO396.out))) (below_size (bq HB.out))); have n4_ := am (below_step (bq HB.out) hb); clear HO388; clear HO392; clear HO396; clear HB; have HO388 := n0_; have HO392 := n1_; have HO396 := n2_; have HO400 := n3_; have HB := n4_; clear n0_ n1_ n2_ n3_ n4_; (try clear hb); (try clear hb2); (try clear hk); (try clear hi); (try clear ho0)) | ((with_reducible refine gate_callee (f := 42) rfl ?_); refine goesL_ (some 57) rfl rfl Try.func42 (by kernel_rfl) rfl #[.slice Ao16 t394.length co16, .int .i64 t384, .int .i64 t385] rfl (by (try simp only [List.map_toArray, List.map_cons, List.map_nil]); first | done | rfl | (simp only [List.length_drop, List.length_take]; rfl)) ?_; (with_reducible refine (impl_NextEnt.calls k _ _ t394 t384 t385 t401 _ ?side1 ?side2 A9.out).mono ?_); (case side1 => repeat (first | exact (Kd.R_reads' HO396.out).2.2 | (with_reducible refine Kd.C_alloc ?_ _) | (with_reducible refine Kd.C_drewN ?_ _) | (with_reducible refine Kd.C_drew ?_))); (case side2 => exact (Kd.R_reads' HO396.out).2.1); rintro e w18 ⟨rfl, hb⟩; refine ⟨_, rfl, ?_⟩; have n0_ := am (Kd.R_below (kqR HO388.out) hb); have n1_ := am (Kd.R_below (kqR HO392.out) hb); have n2_ := am (Kd.R_below (kqR HO396.out) hb); have n3_ := am (Kd.R_below (kqR HO400.out) hb); have n4_ := am (below_step (bq HB.out) hb); clear HO388; clear HO392; clear HO396; clear HO400; clear HB; have HO388 := n0_; have HO392 := n1_; have HO396 := n2_; have HO400 := n3_; have HB := n4_; clear n0_ n1_ n2_ n3_ n4_; (try clear hb); (try clear hb2); (try clear hk); (try clear hi)))
      (try simp only [Act.put, List.setIfInBounds_toArray, List.set_cons_zero, List.set_cons_succ])
      go_cut [86] (fun v86 wc => ∃ (kq : Nat) (x86_9 : Bool), v86 = .bool x86_9 ∧ Aside0 (laws_FnStatics.j0 kq t384 t385 t386 t389 t394 t397 t398 x86_9 = some r) ∧ Aside0 (kq ≤ k) ∧ Aside0 (Kd.R k44 44 wc w.heap.size (fun k_ => some k_ ≠ ((.slice Ao16 t394.length co16) : Value).ownBlock ∧ some k_ ≠ (v399 : Value).ownBlock) (.slice Ao14 t389.length co14) t389) ∧ Aside0 (Kd.R k44 44 wc w.heap.size (fun k_ => some k_ ≠ ((.slice Ao14 t389.length co14) : Value).ownBlock ∧ some k_ ≠ (v399 : Value).ownBlock) (.slice Ao16 t394.length co16) t394) ∧ Aside0 (Kd.R k44 44 wc w.heap.size (fun k_ => some k_ ≠ ((.slice Ao14 t389.length co14) : Value).ownBlock ∧ some k_ ≠ ((.slice Ao16 t394.length co16) : Value).ownBlock) v399 t397) ∧ Aside0 (Below w.heap.size w wc))
      case first =>
        have H := HC10.out
        clear HC10
        by_cases c19 : t401 ≥ 0
        · rw [if_pos c19] at H
          have c19b0 : decide (0 ≤ t401) = true := decide_eq_true c19
          clear c19
          (first | rw [c19b0] | (simp only [i64_w, i32_w]; rw [c19b0]) | skip)
          by_cases c20 : 0 ≤ t401
          · rw [if_pos c20] at H
            have c20b0 : decide (0 ≤ t401) = true := decide_eq_true c20
            clear c20
            by_cases c21 : t401 < (t394.length : Int)
            · rw [if_pos c21] at H
              have c21b0 : decide (t401 < (t394.length : Int)) = true := decide_eq_true c21
              clear c21
              by_cases c22 : ((rd_T44 t394 t401).f0) < t384
              · rw [if_pos c22] at H
                have c22b0 : decide (((rd_T44 t394 t401).f0) < t384) = true := decide_eq_true c22
                clear c22
                have H' := am H
                clear H
                have p402 : 0 ≤ (t401 : Int) := oda
                have q402 : t401 < (t394.length : Int) := oda
                obtain ⟨ad402, e402, hx402_0, hx402_1, hx402_2, hx402_3, hx402_4⟩ := at_T44 (Kd.R_reads' HO396.out).2.2 t401 p402 q402
                cases e402
                replace p402 := eq_true p402
                replace q402 := eq_true q402
                go_wp2
                go_meet
                case rel => exact ⟨_, (true), (by first | rfl | (simp; done) | (simp [*]; done)), H', ⟨by first | omega | exact Nat.le_refl _⟩, ⟨by (with_reducible repeat (first | apply Kd.R_alloc | apply Kd.R_drewN | apply Kd.R_drew)); exact Kd.R_mono HO392.out (fun _ hk => ⟨hk.1.2, hk.2⟩)⟩, ⟨by (with_reducible repeat (first | apply Kd.R_alloc | apply Kd.R_drewN | apply Kd.R_drew)); exact Kd.R_mono HO396.out (fun _ hk => ⟨hk.1.2, hk.2⟩)⟩, ⟨by (with_reducible repeat (first | apply Kd.R_alloc | apply Kd.R_drewN | apply Kd.R_drew)); exact Kd.R_mono HO400.out (fun _ hk => ⟨hk.1.2, hk.2⟩)⟩, ⟨bq HB.out⟩⟩
              · rw [if_neg c22] at H
                have c22b0 : decide (((rd_T44 t394 t401).f0) < t384) = false := decide_eq_false c22
                clear c22
                by_cases c23 : ((rd_T44 t394 t401).f0) = t384
                · rw [if_pos c23] at H
                  have c23b0 : (((rd_T44 t394 t401).f0) == t384) = true := beq_iff_eq.mpr c23
                  have c23b1 : (((rd_T44 t394 t401).f0) != t384) = false := bne_eq_false_iff_eq.mpr c23
                  clear c23
                  have H' := am H
                  clear H
                  have p402 : 0 ≤ (t401 : Int) := oda
                  have q402 : t401 < (t394.length : Int) := oda
                  obtain ⟨ad402, e402, hx402_0, hx402_1, hx402_2, hx402_3, hx402_4⟩ := at_T44 (Kd.R_reads' HO396.out).2.2 t401 p402 q402
                  cases e402
                  replace p402 := eq_true p402
                  replace q402 := eq_true q402
                  have p403 : 0 ≤ (t401 : Int) := oda
                  have q403 : t401 < (t394.length : Int) := oda
                  obtain ⟨ad403, e403, hx403_0, hx403_1, hx403_2, hx403_3, hx403_4⟩ := at_T44 (Kd.R_reads' HO396.out).2.2 t401 p403 q403
                  obtain rfl : ad402 = ad403 := (by injection e403)
                  replace p403 := eq_true p403
                  replace q403 := eq_true q403
                  have p404 : 0 ≤ (t401 : Int) := oda
                  have q404 : t401 < (t394.length : Int) := oda
                  obtain ⟨ad404, e404, hx404_0, hx404_1, hx404_2, hx404_3, hx404_4⟩ := at_T44 (Kd.R_reads' HO396.out).2.2 t401 p404 q404
                  obtain rfl : ad402 = ad404 := (by injection e404)
                  replace p404 := eq_true p404
                  replace q404 := eq_true q404
                  go_wp2
                  go_meet
                  case rel => exact ⟨_, (decide (((rd_T44 t394 t401).f1) ≤ t385)), (by first | rfl | (simp; done) | (simp [*]; done)), H', ⟨by first | omega | exact Nat.le_refl _⟩, ⟨by (with_reducible repeat (first | apply Kd.R_alloc | apply Kd.R_drewN | apply Kd.R_drew)); exact Kd.R_mono HO392.out (fun _ hk => ⟨hk.1.2, hk.2⟩)⟩, ⟨by (with_reducible repeat (first | apply Kd.R_alloc | apply Kd.R_drewN | apply Kd.R_drew)); exact Kd.R_mono HO396.out (fun _ hk => ⟨hk.1.2, hk.2⟩)⟩, ⟨by (with_reducible repeat (first | apply Kd.R_alloc | apply Kd.R_drewN | apply Kd.R_drew)); exact Kd.R_mono HO400.out (fun _ hk => ⟨hk.1.2, hk.2⟩)⟩, ⟨bq HB.out⟩⟩
                · rw [if_neg c23] at H
                  have c23b0 : (((rd_T44 t394 t401).f0) == t384) = false := beq_eq_false_iff_ne.mpr c23
                  have c23b1 : (((rd_T44 t394 t401).f0) != t384) = true := bne_iff_ne.mpr c23
                  have H' := am H
                  clear H
                  have p402 : 0 ≤ (t401 : Int) := oda
                  have q402 : t401 < (t394.length : Int) := oda
                  obtain ⟨ad402, e402, hx402_0, hx402_1, hx402_2, hx402_3, hx402_4⟩ := at_T44 (Kd.R_reads' HO396.out).2.2 t401 p402 q402
                  cases e402
                  replace p402 := eq_true p402
                  replace q402 := eq_true q402
                  have p403 : 0 ≤ (t401 : Int) := oda
                  have q403 : t401 < (t394.length : Int) := oda
                  obtain ⟨ad403, e403, hx403_0, hx403_1, hx403_2, hx403_3, hx403_4⟩ := at_T44 (Kd.R_reads' HO396.out).2.2 t401 p403 q403
                  obtain rfl : ad402 = ad403 := (by injection e403)
                  replace p403 := eq_true p403
                  replace q403 := eq_true q403
                  go_wp2
                  go_meet
                  case rel => exact ⟨_, (false), (by first | rfl | (simp; done) | (simp [*]; done)), H', ⟨by first | omega | exact Nat.le_refl _⟩, ⟨by (with_reducible repeat (first | apply Kd.R_alloc | apply Kd.R_drewN | apply Kd.R_drew)); exact Kd.R_mono HO392.out (fun _ hk => ⟨hk.1.2, hk.2⟩)⟩, ⟨by (with_reducible repeat (first | apply Kd.R_alloc | apply Kd.R_drewN | apply Kd.R_drew)); exact Kd.R_mono HO396.out (fun _ hk => ⟨hk.1.2, hk.2⟩)⟩, ⟨by (with_reducible repeat (first | apply Kd.R_alloc | apply Kd.R_drewN | apply Kd.R_drew)); exact Kd.R_mono HO400.out (fun _ hk => ⟨hk.1.2, hk.2⟩)⟩, ⟨bq HB.out⟩⟩
            · rw [if_neg c21] at H
              exact absurd H (by simp)
          · rw [if_neg c20] at H
            exact absurd H (by simp)
        · rw [if_neg c19] at H
          have c19b0 : decide (0 ≤ t401) = false := decide_eq_false c19
          clear c19
          (first | rw [c19b0] | (simp only [i64_w, i32_w]; rw [c19b0]) | skip)
          have H' := am H
          clear H
          go_wp2
          go_meet
          case rel => exact ⟨_, (false), (by first | rfl | (simp; done) | (simp [*]; done)), H', ⟨by first | omega | exact Nat.le_refl _⟩, ⟨by (with_reducible repeat (first | apply Kd.R_alloc | apply Kd.R_drewN | apply Kd.R_drew)); exact Kd.R_mono HO392.out (fun _ hk => ⟨hk.1.2, hk.2⟩)⟩, ⟨by (with_reducible repeat (first | apply Kd.R_alloc | apply Kd.R_drewN | apply Kd.R_drew)); exact Kd.R_mono HO396.out (fun _ hk => ⟨hk.1.2, hk.2⟩)⟩, ⟨by (with_reducible repeat (first | apply Kd.R_alloc | apply Kd.R_drewN | apply Kd.R_drew)); exact Kd.R_mono HO400.out (fun _ hk => ⟨hk.1.2, hk.2⟩)⟩, ⟨bq HB.out⟩⟩
      case rest =>
        clear HC10
        try clear c1
        try clear c2
        try clear p2
        try clear c3
        try clear c4
        try clear p4
        try clear q4
        try clear hx4
        try clear c6
        try clear p6
        try clear c9
        try clear c19
        try clear c19b0
        try clear c20
        try clear c20b0
        try clear c21
        try clear c21b0
        try clear c22
        try clear c22b0
        try clear c23
        try clear c23b0
        try clear c23b1
        try clear hx402_0
        try clear hx402_1
        try clear hx402_2
        try clear hx402_3
        try clear hx402_4
        try clear hx403_0
        try clear hx403_1
        try clear hx403_2
        try clear hx403_3
        try clear hx403_4
        try clear hx404_0
        try clear hx404_1
        try clear hx404_2
        try clear hx404_3
        try clear hx404_4
        try clear p402
        try clear p403
        try clear p404
        try clear q402
        try clear q403
        try clear q404
        obtain ⟨kq, x86_9, rfl, HA, HJ9, HO_7, HO_9, HO_10, HB⟩ := hcut
        cases kq with
        | zero => exact absurd HA.out (by simp [laws_FnStatics.j0])
        | succ kj9 =>
          have H := HA.out
          clear HA
          simp only [laws_FnStatics.j0] at H
          by_cases c24 : x86_9 = true
          · subst c24
            have H1 : (some false) = some r := by rw [if_pos rfl] at H; exact H
            clear H
            have H := H1
            clear H1
            exact absurd ((Option.some.inj H).trans HRT.out) (by decide)
          · replace c24 := Bool.eq_false_iff.mpr c24
            subst c24
            have H1 : ((impl_LookUp.f kj9 t394 t384 t385).bind fun t405 => (if t405 = t386 then (if t398 = true then ((impl_LookUp.f kj9 t397 t384 t385).bind fun t406 => (if t406 = (-1) then ((impl_FdbOk.f kj9 t389).bind fun t407 => (if t407 = true then ((impl_FdbOk.f kj9 t397).bind fun t408 => (if t408 = true then (some ((wrap64 ((t397.length : Int) + 1)) == (t394.length : Int))) else (some false))) else (some false))) else (some false))) else (some false)) else (some false))) = some r := by rw [if_neg (show ¬ (false = true) by decide)] at H; exact H
            clear H
            have H := H1
            clear H1
            replace H := Option.bind_eq_some_iff.mp H
            obtain ⟨t405, A250, H⟩ := H
            replace H : (if t405 = t386 then (if t398 = true then ((impl_LookUp.f kj9 t397 t384 t385).bind fun t406 => (if t406 = (-1) then ((impl_FdbOk.f kj9 t389).bind fun t407 => (if t407 = true then ((impl_FdbOk.f kj9 t397).bind fun t408 => (if t408 = true then (some ((wrap64 ((t397.length : Int) + 1)) == (t394.length : Int))) else (some false))) else (some false))) else (some false))) else (some false)) else (some false)) = some r := H
            have A25 := am A250
            clear A250
            by_cases c26 : t405 = t386
            · rw [if_pos c26] at H
              have c26b0 : (t405 == t386) = true := beq_iff_eq.mpr c26
              have c26b1 : (t405 != t386) = false := bne_eq_false_iff_eq.mpr c26
              clear c26
              by_cases c27 : t398 = true
              · subst c27
                have H1 : ((impl_LookUp.f kj9 t397 t384 t385).bind fun t406 => (if t406 = (-1) then ((impl_FdbOk.f kj9 t389).bind fun t407 => (if t407 = true then ((impl_FdbOk.f kj9 t397).bind fun t408 => (if t408 = true then (some ((wrap64 ((t397.length : Int) + 1)) == (t394.length : Int))) else (some false))) else (some false))) else (some false))) = some r := by rw [if_pos rfl] at H; exact H
                clear H
                have H := H1
                clear H1
                replace H := Option.bind_eq_some_iff.mp H
                obtain ⟨t406, A280, H⟩ := H
                replace H : (if t406 = (-1) then ((impl_FdbOk.f kj9 t389).bind fun t407 => (if t407 = true then ((impl_FdbOk.f kj9 t397).bind fun t408 => (if t408 = true then (some ((wrap64 ((t397.length : Int) + 1)) == (t394.length : Int))) else (some false))) else (some false))) else (some false)) = some r := H
                have A28 := am A280
                clear A280
                by_cases c29 : t406 = (-1)
                · rw [if_pos c29] at H
                  have c29b0 : (t406 == (-1)) = true := beq_iff_eq.mpr c29
                  have c29b1 : (t406 != (-1)) = false := bne_eq_false_iff_eq.mpr c29
                  clear c29
                  replace H := Option.bind_eq_some_iff.mp H
                  obtain ⟨t407, A300, H⟩ := H
                  replace H : (if t407 = true then ((impl_FdbOk.f kj9 t397).bind fun t408 => (if t408 = true then (some ((wrap64 ((t397.length : Int) + 1)) == (t394.length : Int))) else (some false))) else (some false)) = some r := H
                  have A30 := am A300
                  clear A300
                  by_cases c31 : t407 = true
                  · subst c31
                    have H1 : ((impl_FdbOk.f kj9 t397).bind fun t408 => (if t408 = true then (some ((wrap64 ((t397.length : Int) + 1)) == (t394.length : Int))) else (some false))) = some r := by rw [if_pos rfl] at H; exact H
                    clear H
                    have H := H1
                    clear H1
                    replace H := Option.bind_eq_some_iff.mp H
                    obtain ⟨t408, A320, H⟩ := H
                    replace H : (if t408 = true then (some ((wrap64 ((t397.length : Int) + 1)) == (t394.length : Int))) else (some false)) = some r := H
                    have A32 := am A320
                    clear A320
                    by_cases c33 : t408 = true
                    · subst c33
                      have H1 : (some ((wrap64 ((t397.length : Int) + 1)) == (t394.length : Int))) = some r := by rw [if_pos rfl] at H; exact H
                      clear H
                      have H := H1
                      clear H1
                      obtain rfl := Option.some.inj H
                      go_wp2_with (first | ((with_reducible refine gate_callee (f := 29) rfl ?_); refine goesL_ (some 90) rfl rfl Try.func29 (by kernel_rfl) rfl #[.slice Ao16 t394.length co16, .int .i64 t384, .int .i64 t385] rfl (by (try simp only [List.map_toArray, List.map_cons, List.map_nil]); first | done | rfl | (simp only [List.length_drop, List.length_take]; rfl)) ?_; (with_reducible refine (impl_LookUp.calls kj9 _ _ t394 t384 t385 t405 _ ?side1 ?side2 A25.out).mono ?_); (case side1 => repeat (first | exact (Kd.R_reads' HO_9.out).2.2 | (with_reducible refine Kd.C_alloc ?_ _) | (with_reducible refine Kd.C_drewN ?_ _) | (with_reducible refine Kd.C_drew ?_))); (case side2 => exact (Kd.R_reads' HO_9.out).2.1); rintro e w34 ⟨rfl, hb⟩; refine ⟨_, rfl, ?_⟩; have n0_ := am (Kd.R_below (kqR HO_7.out) hb); have n1_ := am (Kd.R_below (kqR HO_9.out) hb); have n2_ := am (Kd.R_below (kqR HO_10.out) hb); have n3_ := am (below_step (bq HB.out) hb); clear HO_7; clear HO_9; clear HO_10; clear HB; have HO_7 := n0_; have HO_9 := n1_; have HO_10 := n2_; have HB := n3_; clear n0_ n1_ n2_ n3_; (try clear hb); (try clear hb2); (try clear hk); (try clear hi); obtain ⟨Ao35, co35, eo35⟩ := Kd.R_slice HO_10.out; subst eo35) | (go_at_call 29; (with_reducible refine (impl_LookUp.calls kj9 _ _ t397 t384 t385 t406 _ ?side1 ?side2 A28.out).mono ?_); (case side1 => repeat (first | exact (Kd.R_reads' HO_10.out).2.2 | (with_reducible refine Kd.C_alloc ?_ _) | (with_reducible refine Kd.C_drewN ?_ _) | (with_reducible refine Kd.C_drew ?_))); (case side2 => exact (Kd.R_reads' HO_10.out).2.1); rintro e w36 ⟨rfl, hb⟩; have n0_ := am (Kd.R_below (kqR HO_7.out) hb); have n1_ := am (Kd.R_below (kqR HO_9.out) hb); have n2_ := am (Kd.R_below (kqR HO_10.out) hb); have n3_ := am (below_step (bq HB.out) hb); clear HO_7; clear HO_9; clear HO_10; clear HB; have HO_7 := n0_; have HO_9 := n1_; have HO_10 := n2_; have HB := n3_; clear n0_ n1_ n2_ n3_; (try clear hb); (try clear hb2); (try clear hk); (try clear hi)) | (go_at_call 30; (with_reducible refine (impl_FdbOk.calls kj9 _ _ t389 true _ ?side1 ?side2 A30.out).mono ?_); (case side1 => repeat (first | exact (Kd.R_reads' HO_7.out).2.2 | (with_reducible refine Kd.C_alloc ?_ _) | (with_reducible refine Kd.C_drewN ?_ _) | (with_reducible refine Kd.C_drew ?_))); (case side2 => exact (Kd.R_reads' HO_7.out).2.1); rintro e w37 ⟨rfl, hb⟩; have n0_ := am (Kd.R_below (kqR HO_7.out) hb); have n1_ := am (Kd.R_below (kqR HO_9.out) hb); have n2_ := am (Kd.R_below (kqR HO_10.out) hb); have n3_ := am (below_step (bq HB.out) hb); clear HO_7; clear HO_9; clear HO_10; clear HB; have HO_7 := n0_; have HO_9 := n1_; have HO_10 := n2_; have HB := n3_; clear n0_ n1_ n2_ n3_; (try clear hb); (try clear hb2); (try clear hk); (try clear hi)) | (go_at_call 30; (with_reducible refine (impl_FdbOk.calls kj9 _ _ t397 true _ ?side1 ?side2 A32.out).mono ?_); (case side1 => repeat (first | exact (Kd.R_reads' HO_10.out).2.2 | (with_reducible refine Kd.C_alloc ?_ _) | (with_reducible refine Kd.C_drewN ?_ _) | (with_reducible refine Kd.C_drew ?_))); (case side2 => exact (Kd.R_reads' HO_10.out).2.1); rintro e w38 ⟨rfl, hb⟩; have n0_ := am (Kd.R_below (kqR HO_7.out) hb); have n1_ := am (Kd.R_below (kqR HO_9.out) hb); have n2_ := am (Kd.R_below (kqR HO_10.out) hb); have n3_ := am (below_step (bq HB.out) hb); clear HO_7; clear HO_9; clear HO_10; clear HB; have HO_7 := n0_; have HO_9 := n1_; have HO_10 := n2_; have HB := n3_; clear n0_ n1_ n2_ n3_; (try clear hb); (try clear hb2); (try clear hk); (try clear hi)))
                      go_ret
                      exact ⟨by first | rfl | (simp [errW_none, errW_some] <;> rfl) | (simp [*, errW_none, errW_some] <;> rfl), bq HB.out⟩
                    · replace c33 := Bool.eq_false_iff.mpr c33
                      subst c33
                      have H1 : (some false) = some r := by rw [if_neg (show ¬ (false = true) by decide)] at H; exact H
                      clear H
                      have H := H1
                      clear H1
                      exact absurd ((Option.some.inj H).trans HRT.out) (by decide)
                  · replace c31 := Bool.eq_false_iff.mpr c31
                    subst c31
                    have H1 : (some false) = some r := by rw [if_neg (show ¬ (false = true) by decide)] at H; exact H
                    clear H
                    have H := H1
                    clear H1
                    exact absurd ((Option.some.inj H).trans HRT.out) (by decide)
                · rw [if_neg c29] at H
                  have c29b0 : (t406 == (-1)) = false := beq_eq_false_iff_ne.mpr c29
                  have c29b1 : (t406 != (-1)) = true := bne_iff_ne.mpr c29
                  exact absurd ((Option.some.inj H).trans HRT.out) (by decide)
              · replace c27 := Bool.eq_false_iff.mpr c27
                subst c27
                have H1 : (some false) = some r := by rw [if_neg (show ¬ (false = true) by decide)] at H; exact H
                clear H
                have H := H1
                clear H1
                exact absurd ((Option.some.inj H).trans HRT.out) (by decide)
            · rw [if_neg c26] at H
              have c26b0 : (t405 == t386) = false := beq_eq_false_iff_ne.mpr c26
              have c26b1 : (t405 != t386) = true := bne_iff_ne.mpr c26
              exact absurd ((Option.some.inj H).trans HRT.out) (by decide)
    · replace c6 := Bool.eq_false_iff.mpr c6
      subst c6
      have H1 : ((laws_sameFdb.f k t389 t383).bind fun t393 => (if t393 = true then (some ((t383.length : Int) == 12)) else (some false))) = some r := by rw [if_neg (show ¬ (false = true) by decide)] at H; exact H
      clear H
      have H := H1
      clear H1
      replace H := Option.bind_eq_some_iff.mp H
      obtain ⟨t393, A390, H⟩ := H
      replace H : (if t393 = true then (some ((t383.length : Int) == 12)) else (some false)) = some r := H
      have A39 := am A390
      clear A390
      by_cases c40 : t393 = true
      · subst c40
        have H1 : (some ((t383.length : Int) == 12)) = some r := by rw [if_pos rfl] at H; exact H
        clear H
        have H := H1
        clear H1
        obtain rfl := Option.some.inj H
        go_enter Try.func9, Try.ntmps9
        go_wp2_with (first | ((with_reducible refine gate_callee (f := 26) rfl ?_); refine goesL_ (some 14) rfl rfl Try.func26 (by kernel_rfl) rfl #[.slice A0 l0.length c0] rfl (by (try simp only [List.map_toArray, List.map_cons, List.map_nil]); first | done | rfl | (simp only [List.length_drop, List.length_take]; rfl)) ?_; (with_reducible refine (laws_big.calls _ _ l0 false _ ?side1 ?side2 A2.out).mono ?_); (case side1 => exact cq HR0.out); (case side2 => exact HC0.out); rintro e w' ⟨rfl, ⟨nd, rfl⟩⟩; refine ⟨_, rfl, ?_⟩) | ((with_reducible refine gate_callee (f := 27) rfl ?_); refine goesL_ (some 17) rfl rfl Try.func27 (by kernel_rfl) rfl #[.slice A0 l0.length c0] rfl (by (try simp only [List.map_toArray, List.map_cons, List.map_nil]); first | done | rfl | (simp only [List.length_drop, List.length_take]; rfl)) ?_; (with_reducible refine (spec_DrawFdb.calls k _ _ l0 t383 t384 t385 t386 _ ?side1 ?side2 A4.out).mono ?_); (case side1 => exact cq HR0.out); (case side2 => exact HC0.out); rintro e w41 ⟨v387, rfl, ho0, hb⟩; refine ⟨_, rfl, ?_⟩; have n0_ := am (Kd.R_lower ho0 (below_size (bq HB.out))); have n1_ := am (below_step (bq HB.out) hb); clear HB; have HO388 := n0_; have HB := n1_; clear n0_ n1_; (try clear hb); (try clear hb2); (try clear hk); (try clear hi); (try clear ho0); obtain ⟨Ao42, co42, eo42⟩ := Kd.R_slice HO388.out; subst eo42) | ((with_reducible refine gate_callee (f := 22) rfl ?_); refine goesL_ (some 27) rfl rfl Try.func22 (by kernel_rfl) rfl #[.slice Ao42 t383.length co42, .int .i64 t384, .int .i64 t385, .int .i64 t386] rfl (by (try simp only [List.map_toArray, List.map_cons, List.map_nil]); first | done | rfl | (simp only [List.length_drop, List.length_take]; rfl)) ?_; (with_reducible refine (impl_SetStatic.calls k _ _ t383 t384 t385 t386 t389 false _ ?side1 ?side2 A5.out).mono ?_); (case side1 => repeat (first | exact (Kd.R_reads' HO388.out).2.2 | (with_reducible refine Kd.C_alloc ?_ _) | (with_reducible refine Kd.C_drewN ?_ _) | (with_reducible refine Kd.C_drew ?_))); (case side2 => exact (Kd.R_reads' HO388.out).2.1); rintro e w43 ⟨v391, rfl, ho0, hb⟩; refine ⟨_, rfl, ?_⟩; have n0_ := am (Kd.R_elder' (kqR HO388.out) (Kd.R_base ho0) hb); have n1_ := am (Kd.R_lower (Kd.R_new' ho0 (Kd.R_lt (kqR HO388.out))) (below_size (bq HB.out))); have n2_ := am (below_step (bq HB.out) hb); clear HO388; clear HB; have HO388 := n0_; have HO392 := n1_; have HB := n2_; clear n0_ n1_ n2_; (try clear hb); (try clear hb2); (try clear hk); (try clear hi); (try clear ho0); obtain ⟨Ao44, co44, eo44⟩ := Kd.R_slice HO392.out; subst eo44) | ((with_reducible refine gate_callee (f := 31) rfl ?_); refine goesL_ (some 34) rfl rfl Try.func31 (by kernel_rfl) rfl #[.slice Ao44 t389.length co44, .slice Ao42 t383.length co42] rfl (by (try simp only [List.map_toArray, List.map_cons, List.map_nil]); first | done | rfl | (simp only [List.length_drop, List.length_take]; rfl)) ?_; (with_reducible refine (laws_sameFdb.calls k _ _ t389 _ _ t383 true _ ?side1 ?side2 ?side3 ?side4 A39.out).mono ?_); (case side1 => repeat (first | exact (Kd.R_reads' HO392.out).2.2 | (with_reducible refine Kd.C_alloc ?_ _) | (with_reducible refine Kd.C_drewN ?_ _) | (with_reducible refine Kd.C_drew ?_))); (case side2 => exact (Kd.R_reads' HO392.out).2.1); (case side3 => repeat (first | exact (Kd.R_reads' HO388.out).2.2 | (with_reducible refine Kd.C_alloc ?_ _) | (with_reducible refine Kd.C_drewN ?_ _) | (with_reducible refine Kd.C_drew ?_))); (case side4 => exact (Kd.R_reads' HO388.out).2.1); rintro e w' ⟨rfl, ⟨nd, rfl⟩⟩; refine ⟨_, rfl, ?_⟩))
        go_ret
        exact ⟨by first | rfl | (simp [errW_none, errW_some] <;> rfl) | (simp [*, errW_none, errW_some] <;> rfl), bq HB.out⟩
      · replace c40 := Bool.eq_false_iff.mpr c40
        subst c40
        have H1 : (some false) = some r := by rw [if_neg (show ¬ (false = true) by decide)] at H; exact H
        clear H
        have H := H1
        clear H1
        exact absurd ((Option.some.inj H).trans HRT.out) (by decide)

/-- THE ONE PURE STATEMENT of laws_FnStatics. -/
def laws_FnStatics.Pure : Prop := ∀ (l0 : List Int), l0.length ≤ maxLen → (∀ y ∈ l0, (Lit.int .u8 y).wf = true) → ∃ k, laws_FnStatics.f k l0 = some true

end Go.Proofs.Ytebffdmkfkfoaaa.XFnStatics
