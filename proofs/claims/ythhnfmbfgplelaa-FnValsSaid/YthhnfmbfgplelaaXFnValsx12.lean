/- The functions that one law reaches, as Lean functions, with their walks: printed by a program of this seat (wip/tools) out of the translation. -/
import Derived.Test.YthhnfmbfgplelaaXFnValsx0
import Derived.Test.YthhnfmbfgplelaaXFnValsx1
import Derived.Test.YthhnfmbfgplelaaXFnValsx3
import Derived.Test.YthhnfmbfgplelaaXFnValsx6
import Derived.Test.YthhnfmbfgplelaaXFnValsx8
import Derived.Test.YthhnfmbfgplelaaXFnValsx10
import Derived.Test.YthhnfmbfgplelaaXFnValsx11
namespace Go.Proofs.Ythhnfmbfgplelaa.XFnVals
open Go.RowKit Go.Proofs.YthhnfmbfgplelaaW.PrintWords Go.Proofs.YthhnfmbfgplelaaW.PrintLast Go.Proofs.YthhnfmbfgplelaaW.PrintMore
attribute [local go_sem] max2_int min2_int max_two min_two max_three min_three max_four min_four   -- for this text's walks alone
set_option linter.unusedVariables false
set_option linter.unusedSimpArgs false
def laws_FnVals.j0 : Nat → List Int → List Int → List Int → Bool → Int → Int → ByteArray → List Int → Option (Bool)
 | 0, _, _, _, _, _, _, _, _ => none
 | k + 1, x0, x3, x5, x69, x701000, x701001, x701002, x701003 => if x69 = true then (some false) else ((spec_ValOk.f k x701000 x701001 x701002 x701003).bind fun t738 => (if t738 = true then ((impl_GetVal.f k x5 (x3.length : Int)).bind fun bt741 => ((spec_DrawSameVal.f k x0).bind fun bt750 => (if bt741.2.2.2.2.2 = true then ((impl_SameVal.f k bt741.1 bt741.2.1 bt741.2.2.1 bt741.2.2.2.1 x701000 x701001 x701002 x701003).bind fun t764 => (if t764 = true then (if bt741.2.2.2.2.1 = (x5.length : Int) then ((impl_ValOk.f k x701000 x701001 x701002 x701003).bind fun t765 => (if t765 = true then ((impl_SameVal.f k bt750.1 bt750.2.1 bt750.2.2.1 bt750.2.2.2.1 bt750.2.2.2.2.1 bt750.2.2.2.2.2.1 bt750.2.2.2.2.2.2.1 bt750.2.2.2.2.2.2.2).bind fun t766 => ((spec_SameVal.f k bt750.1 bt750.2.1 bt750.2.2.1 bt750.2.2.2.1 bt750.2.2.2.2.1 bt750.2.2.2.2.2.1 bt750.2.2.2.2.2.2.1 bt750.2.2.2.2.2.2.2).bind fun t767 => (some (t766 == t767)))) else (some false))) else (some false)) else (some false))) else (some false)))) else ((laws_sameBytes.f k x5 x3).bind fun t739 => (if t739 = true then ((impl_ValOk.f k x701000 x701001 x701002 x701003).bind fun t740 => (some (!t740))) else (some false)))))
def laws_FnVals.f (k : Nat) (l0 : List Int) : Option (Bool) := (laws_big.f l0).bind fun t690 => (if t690 = true then (some true) else ((spec_DrawPutVal.f k l0).bind fun bt691 => ((impl_PutVal.f k bt691.1 bt691.2.1 bt691.2.2.1 bt691.2.2.2.1 bt691.2.2.2.2).bind fun t701 => ((spec_DrawGetVal.f k l0).bind fun bt704 => ((impl_GetVal.f k bt704.1 bt704.2).bind fun bt708 => ((spec_GetVal.f k bt704.1 bt704.2).bind fun bt717 => (if (bt708.2.2.2.2.2 != bt717.2.2.2.2.2) = true then (laws_FnVals.j0 k l0 bt691.1 t701 true bt691.2.1 bt691.2.2.1 bt691.2.2.2.1 bt691.2.2.2.2) else (if bt708.2.2.2.2.2 = true then ((impl_ValOk.f k bt708.1 bt708.2.1 bt708.2.2.1 bt708.2.2.2.1).bind fun t726 => (if t726 = true then ((impl_PutVal.f k (([] : List Int)) bt708.1 bt708.2.1 bt708.2.2.1 bt708.2.2.2.1).bind fun t730 => (if 0 ≤ bt704.2 then (if bt704.2 ≤ bt708.2.2.2.2.1 then (if bt708.2.2.2.2.1 ≤ (bt704.1.length : Int) then ((laws_sameBytes.f k t730 ((bt704.1.take (bt708.2.2.2.2.1 : Int).toNat).drop (bt704.2 : Int).toNat)).bind fun t737 => (laws_FnVals.j0 k l0 bt691.1 t701 (!t737) bt691.2.1 bt691.2.2.1 bt691.2.2.2.1 bt691.2.2.2.2)) else (none)) else (none)) else (none))) else (laws_FnVals.j0 k l0 bt691.1 t701 true bt691.2.1 bt691.2.2.1 bt691.2.2.2.1 bt691.2.2.2.2))) else (laws_FnVals.j0 k l0 bt691.1 t701 false bt691.2.1 bt691.2.2.1 bt691.2.2.2.1 bt691.2.2.2.2)))))))))
theorem laws_FnVals.mono_l : ∀ k, (∀ y0 y1 y2 y3 y4 y5 y6 y7, LeO (laws_FnVals.j0 k y0 y1 y2 y3 y4 y5 y6 y7) (laws_FnVals.j0 (k + 1) y0 y1 y2 y3 y4 y5 y6 y7))
 | 0 => fun _ _ _ _ _ _ _ _ r h => by simp [laws_FnVals.j0] at h
 | k + 1 => by
  have ih0 := laws_FnVals.mono_l k
  intro y0 y1 y2 y3 y4 y5 y6 y7
  unfold laws_FnVals.j0
  repeat' first
  | (with_reducible exact ih0 _ _ _ _ _ _ _ _)
  | (with_reducible exact impl_GetVal.mono _ _ _)
  | (with_reducible exact impl_PutVal.mono _ _ _ _ _ _)
  | (with_reducible exact impl_SameVal.mono _ _ _ _ _ _ _ _ _)
  | (with_reducible exact impl_ValOk.mono _ _ _ _ _)
  | (with_reducible exact laws_sameBytes.mono _ _ _)
  | (with_reducible exact spec_DrawGetVal.mono _ _)
  | (with_reducible exact spec_DrawPutVal.mono _ _)
  | (with_reducible exact spec_DrawSameVal.mono _ _)
  | (with_reducible exact spec_GetVal.mono _ _ _)
  | (with_reducible exact spec_SameVal.mono _ _ _ _ _ _ _ _ _)
  | (with_reducible exact spec_ValOk.mono _ _ _ _ _)
  | (with_reducible exact LeO.refl _)
  | (with_reducible exact LeO.none _)
  | (with_reducible refine LeO.ite ?_ ?_)
  | (with_reducible refine LeO.bind ?_ (fun _ => ?_))
  | exact ih0 _ _ _ _ _ _ _ _
  | exact impl_GetVal.mono _ _ _
  | exact impl_PutVal.mono _ _ _ _ _ _
  | exact impl_SameVal.mono _ _ _ _ _ _ _ _ _
  | exact impl_ValOk.mono _ _ _ _ _
  | exact laws_sameBytes.mono _ _ _
  | exact spec_DrawGetVal.mono _ _
  | exact spec_DrawPutVal.mono _ _
  | exact spec_DrawSameVal.mono _ _
  | exact spec_GetVal.mono _ _ _
  | exact spec_SameVal.mono _ _ _ _ _ _ _ _ _
  | exact spec_ValOk.mono _ _ _ _ _
  | exact LeO.none _
  | refine LeO.ite ?_ ?_
  | refine LeO.bind ?_ (fun _ => ?_)
theorem laws_FnVals.mono : ∀ a0 k, LeO (laws_FnVals.f k a0) (laws_FnVals.f (k + 1) a0) := by
 intro a0 k
 have ih0 := laws_FnVals.mono_l k
 unfold laws_FnVals.f
 repeat' first
  | (with_reducible exact ih0 _ _ _ _ _ _ _ _)
  | (with_reducible exact impl_GetVal.mono _ _ _)
  | (with_reducible exact impl_PutVal.mono _ _ _ _ _ _)
  | (with_reducible exact impl_SameVal.mono _ _ _ _ _ _ _ _ _)
  | (with_reducible exact impl_ValOk.mono _ _ _ _ _)
  | (with_reducible exact laws_sameBytes.mono _ _ _)
  | (with_reducible exact spec_DrawGetVal.mono _ _)
  | (with_reducible exact spec_DrawPutVal.mono _ _)
  | (with_reducible exact spec_DrawSameVal.mono _ _)
  | (with_reducible exact spec_GetVal.mono _ _ _)
  | (with_reducible exact spec_SameVal.mono _ _ _ _ _ _ _ _ _)
  | (with_reducible exact spec_ValOk.mono _ _ _ _ _)
  | (with_reducible exact LeO.refl _)
  | (with_reducible exact LeO.none _)
  | (with_reducible refine LeO.ite ?_ ?_)
  | (with_reducible refine LeO.bind ?_ (fun _ => ?_))
  | exact ih0 _ _ _ _ _ _ _ _
  | exact impl_GetVal.mono _ _ _
  | exact impl_PutVal.mono _ _ _ _ _ _
  | exact impl_SameVal.mono _ _ _ _ _ _ _ _ _
  | exact impl_ValOk.mono _ _ _ _ _
  | exact laws_sameBytes.mono _ _ _
  | exact spec_DrawGetVal.mono _ _
  | exact spec_DrawPutVal.mono _ _
  | exact spec_DrawSameVal.mono _ _
  | exact spec_GetVal.mono _ _ _
  | exact spec_SameVal.mono _ _ _ _ _ _ _ _ _
  | exact spec_ValOk.mono _ _ _ _ _
  | exact LeO.none _
  | refine LeO.ite ?_ ?_
  | refine LeO.bind ?_ (fun _ => ?_)
def laws_FnVals.T8 : Bool × List (List Nat × List Nat) := (true, [([], []), ([], []), ([0, 1], [0, 1]), ([2], [2]), ([3], [3]), ([4, 3, 3], [3, 4]), ([5], [5]), ([6, 5, 5], [5, 6]), ([7, 5], [5, 7]), ([8, 7, 5], [5, 8]), ([9], [9]), ([9], [9]), ([10, 11, 9, 9], [9, 10, 11]), ([9], [9]), ([9], [9]), ([9], [9]), ([13, 14, 15, 9], [9, 13, 14, 15]), ([12, 16, 12, 9], [9, 12, 16]), ([17, 9], [9, 17]), ([9, 18, 5], [5, 9, 18]), ([5, 19, 3], [3, 5, 19]), ([3, 20], [3, 20])])
def laws_FnVals.B8 : List Nat := [0, 0, 3, 7, 15, 31, 63, 127, 255, 511, 1023, 1023, 4095, 1023, 1023, 1023, 58367, 131071, 262143, 524287, 1048575, 2097151]
theorem laws_FnVals.tab8 : rtab .any (opsOf Try.f7 8) = laws_FnVals.T8 := by kernel_rfl
theorem laws_FnVals.bits8 : waitsOk laws_FnVals.T8.2 laws_FnVals.B8 = true := by kernel_rfl
def laws_FnVals.T14 : Bool × List (List Nat × List Nat) := (true, [([], []), ([0], [0]), ([1], [1]), ([1], [1]), ([2, 3, 1, 1], [1, 2, 3]), ([1, 4], [1, 4]), ([5, 4], [5]), ([6], [6]), ([6], [6]), ([8, 6], [6, 8]), ([7, 9, 6], [6, 7, 9]), ([6, 10], [6, 10]), ([11, 6], [11]), ([12], [12]), ([13, 12, 12], [12, 13]), ([12, 14], [12, 14]), ([15, 14], [15]), ([16], [16]), ([16], [16]), ([17, 18, 16, 16], [16, 17, 18]), ([16], [16]), ([16], [16]), ([20, 21, 19, 16], [16, 20, 21]), ([19, 22, 16], [16, 19, 22]), ([16, 23], [16, 23]), ([24, 22, 0, 1, 2, 3, 4, 5, 6, 7, 8, 9, 10, 11, 12, 13, 14, 15, 16, 17, 18, 19, 20, 21, 22, 23, 24], [24])])
def laws_FnVals.B14 : List Nat := [0, 1, 3, 3, 15, 31, 63, 127, 127, 383, 1023, 2047, 4095, 8191, 16383, 32767, 65535, 131071, 131071, 524287, 131071, 131071, 4194303, 8388607, 16777215, 33554431]
theorem laws_FnVals.tab14 : rtab .any (opsOf Try.f7 14) = laws_FnVals.T14 := by kernel_rfl
theorem laws_FnVals.bits14 : waitsOk laws_FnVals.T14.2 laws_FnVals.B14 = true := by kernel_rfl
set_option maxHeartbeats 8000000 in
set_option maxRecDepth 100000 in
theorem laws_FnVals.calls (k : Nat) (A0 : Option Addr) (c0 : Nat) (l0 : List Int) (r : Bool) (w : World) (hr0 : Kd.C (Kd.int .u8) w A0 l0.length l0) (hc0 : l0.length ≤ c0) (hr_ : r = true) (h : laws_FnVals.f k l0 = some r) :
 Calls Try.prog 7 #[.slice A0 l0.length c0] w fun e w' => e = .returned (.bool r) ∧ Below w.heap.size w w' := by
 have hu29 := Try.underlying29
 have HRT := am hr_
 clear hr_
 have HR0 := am hr0
 have HC0 := am hc0
 clear hr0 hc0
 have HB := am (Below.refl w.heap.size w)
 have H : ((laws_big.f l0).bind fun t690 => (if t690 = true then (some true) else ((spec_DrawPutVal.f k l0).bind fun bt691 => ((impl_PutVal.f k bt691.1 bt691.2.1 bt691.2.2.1 bt691.2.2.2.1 bt691.2.2.2.2).bind fun t701 => ((spec_DrawGetVal.f k l0).bind fun bt704 => ((impl_GetVal.f k bt704.1 bt704.2).bind fun bt708 => ((spec_GetVal.f k bt704.1 bt704.2).bind fun bt717 => (if (bt708.2.2.2.2.2 != bt717.2.2.2.2.2) = true then (laws_FnVals.j0 k l0 bt691.1 t701 true bt691.2.1 bt691.2.2.1 bt691.2.2.2.1 bt691.2.2.2.2) else (if bt708.2.2.2.2.2 = true then ((impl_ValOk.f k bt708.1 bt708.2.1 bt708.2.2.1 bt708.2.2.2.1).bind fun t726 => (if t726 = true then ((impl_PutVal.f k (([] : List Int)) bt708.1 bt708.2.1 bt708.2.2.1 bt708.2.2.2.1).bind fun t730 => (if 0 ≤ bt704.2 then (if bt704.2 ≤ bt708.2.2.2.2.1 then (if bt708.2.2.2.2.1 ≤ (bt704.1.length : Int) then ((laws_sameBytes.f k t730 ((bt704.1.take (bt708.2.2.2.2.1 : Int).toNat).drop (bt704.2 : Int).toNat)).bind fun t737 => (laws_FnVals.j0 k l0 bt691.1 t701 (!t737) bt691.2.1 bt691.2.2.1 bt691.2.2.2.1 bt691.2.2.2.2)) else (none)) else (none)) else (none))) else (laws_FnVals.j0 k l0 bt691.1 t701 true bt691.2.1 bt691.2.2.1 bt691.2.2.2.1 bt691.2.2.2.2))) else (laws_FnVals.j0 k l0 bt691.1 t701 false bt691.2.1 bt691.2.2.1 bt691.2.2.2.1 bt691.2.2.2.2)))))))))) = some r := h
 clear h
 replace H := Option.bind_eq_some_iff.mp H
 obtain ⟨t690, A20, H⟩ := H
 replace H : (if t690 = true then (some true) else ((spec_DrawPutVal.f k l0).bind fun bt691 => ((impl_PutVal.f k bt691.1 bt691.2.1 bt691.2.2.1 bt691.2.2.2.1 bt691.2.2.2.2).bind fun t701 => ((spec_DrawGetVal.f k l0).bind fun bt704 => ((impl_GetVal.f k bt704.1 bt704.2).bind fun bt708 => ((spec_GetVal.f k bt704.1 bt704.2).bind fun bt717 => (if (bt708.2.2.2.2.2 != bt717.2.2.2.2.2) = true then (laws_FnVals.j0 k l0 bt691.1 t701 true bt691.2.1 bt691.2.2.1 bt691.2.2.2.1 bt691.2.2.2.2) else (if bt708.2.2.2.2.2 = true then ((impl_ValOk.f k bt708.1 bt708.2.1 bt708.2.2.1 bt708.2.2.2.1).bind fun t726 => (if t726 = true then ((impl_PutVal.f k (([] : List Int)) bt708.1 bt708.2.1 bt708.2.2.1 bt708.2.2.2.1).bind fun t730 => (if 0 ≤ bt704.2 then (if bt704.2 ≤ bt708.2.2.2.2.1 then (if bt708.2.2.2.2.1 ≤ (bt704.1.length : Int) then ((laws_sameBytes.f k t730 ((bt704.1.take (bt708.2.2.2.2.1 : Int).toNat).drop (bt704.2 : Int).toNat)).bind fun t737 => (laws_FnVals.j0 k l0 bt691.1 t701 (!t737) bt691.2.1 bt691.2.2.1 bt691.2.2.2.1 bt691.2.2.2.2)) else (none)) else (none)) else (none))) else (laws_FnVals.j0 k l0 bt691.1 t701 true bt691.2.1 bt691.2.2.1 bt691.2.2.2.1 bt691.2.2.2.2))) else (laws_FnVals.j0 k l0 bt691.1 t701 false bt691.2.1 bt691.2.2.1 bt691.2.2.2.1 bt691.2.2.2.2))))))))) = some r := H
 have A2 := am A20
 clear A20
 by_cases c3 : t690 = true
 · subst c3
   replace H : (some true) = some r := by rw [if_pos rfl] at H; exact H
   obtain rfl := Option.some.inj H
   go_enter Try.func7, Try.ntmps7
   go_wp2_with (first | ((with_reducible refine gate_callee (f := 23) rfl ?_); refine goesL_ (some 20) rfl rfl Try.func23 (by kernel_rfl) rfl #[.slice A0 l0.length c0] rfl ga ?_; (with_reducible refine (laws_big.calls _ _ l0 true _ ?side1 ?side2 A2.out).mono ?_); (case side1 => exact cq HR0.out); (case side2 => exact HC0.out); rintro e w' ⟨rfl, ⟨nd, rfl⟩⟩; refine ⟨_, rfl, ?_⟩))
   go_ret
   exact ⟨rq, bq HB.out⟩
 replace c3 := Bool.eq_false_iff.mpr c3
 subst c3
 replace H : ((spec_DrawPutVal.f k l0).bind fun bt691 => ((impl_PutVal.f k bt691.1 bt691.2.1 bt691.2.2.1 bt691.2.2.2.1 bt691.2.2.2.2).bind fun t701 => ((spec_DrawGetVal.f k l0).bind fun bt704 => ((impl_GetVal.f k bt704.1 bt704.2).bind fun bt708 => ((spec_GetVal.f k bt704.1 bt704.2).bind fun bt717 => (if (bt708.2.2.2.2.2 != bt717.2.2.2.2.2) = true then (laws_FnVals.j0 k l0 bt691.1 t701 true bt691.2.1 bt691.2.2.1 bt691.2.2.2.1 bt691.2.2.2.2) else (if bt708.2.2.2.2.2 = true then ((impl_ValOk.f k bt708.1 bt708.2.1 bt708.2.2.1 bt708.2.2.2.1).bind fun t726 => (if t726 = true then ((impl_PutVal.f k (([] : List Int)) bt708.1 bt708.2.1 bt708.2.2.1 bt708.2.2.2.1).bind fun t730 => (if 0 ≤ bt704.2 then (if bt704.2 ≤ bt708.2.2.2.2.1 then (if bt708.2.2.2.2.1 ≤ (bt704.1.length : Int) then ((laws_sameBytes.f k t730 ((bt704.1.take (bt708.2.2.2.2.1 : Int).toNat).drop (bt704.2 : Int).toNat)).bind fun t737 => (laws_FnVals.j0 k l0 bt691.1 t701 (!t737) bt691.2.1 bt691.2.2.1 bt691.2.2.2.1 bt691.2.2.2.2)) else (none)) else (none)) else (none))) else (laws_FnVals.j0 k l0 bt691.1 t701 true bt691.2.1 bt691.2.2.1 bt691.2.2.2.1 bt691.2.2.2.2))) else (laws_FnVals.j0 k l0 bt691.1 t701 false bt691.2.1 bt691.2.2.1 bt691.2.2.2.1 bt691.2.2.2.2)))))))) = some r := by rw [if_neg (show ¬ (false = true) by decide)] at H; exact H
 replace H := Option.bind_eq_some_iff.mp H
 obtain ⟨⟨t691, t694, t695, t696, t697⟩, A40, H⟩ := H
 replace H : ((impl_PutVal.f k t691 t694 t695 t696 t697).bind fun t701 => ((spec_DrawGetVal.f k l0).bind fun bt704 => ((impl_GetVal.f k bt704.1 bt704.2).bind fun bt708 => ((spec_GetVal.f k bt704.1 bt704.2).bind fun bt717 => (if (bt708.2.2.2.2.2 != bt717.2.2.2.2.2) = true then (laws_FnVals.j0 k l0 t691 t701 true t694 t695 t696 t697) else (if bt708.2.2.2.2.2 = true then ((impl_ValOk.f k bt708.1 bt708.2.1 bt708.2.2.1 bt708.2.2.2.1).bind fun t726 => (if t726 = true then ((impl_PutVal.f k (([] : List Int)) bt708.1 bt708.2.1 bt708.2.2.1 bt708.2.2.2.1).bind fun t730 => (if 0 ≤ bt704.2 then (if bt704.2 ≤ bt708.2.2.2.2.1 then (if bt708.2.2.2.2.1 ≤ (bt704.1.length : Int) then ((laws_sameBytes.f k t730 ((bt704.1.take (bt708.2.2.2.2.1 : Int).toNat).drop (bt704.2 : Int).toNat)).bind fun t737 => (laws_FnVals.j0 k l0 t691 t701 (!t737) t694 t695 t696 t697)) else (none)) else (none)) else (none))) else (laws_FnVals.j0 k l0 t691 t701 true t694 t695 t696 t697))) else (laws_FnVals.j0 k l0 t691 t701 false t694 t695 t696 t697))))))) = some r := H
 have A4 := am A40
 clear A40
 replace H := Option.bind_eq_some_iff.mp H
 obtain ⟨t701, A50, H⟩ := H
 replace H : ((spec_DrawGetVal.f k l0).bind fun bt704 => ((impl_GetVal.f k bt704.1 bt704.2).bind fun bt708 => ((spec_GetVal.f k bt704.1 bt704.2).bind fun bt717 => (if (bt708.2.2.2.2.2 != bt717.2.2.2.2.2) = true then (laws_FnVals.j0 k l0 t691 t701 true t694 t695 t696 t697) else (if bt708.2.2.2.2.2 = true then ((impl_ValOk.f k bt708.1 bt708.2.1 bt708.2.2.1 bt708.2.2.2.1).bind fun t726 => (if t726 = true then ((impl_PutVal.f k (([] : List Int)) bt708.1 bt708.2.1 bt708.2.2.1 bt708.2.2.2.1).bind fun t730 => (if 0 ≤ bt704.2 then (if bt704.2 ≤ bt708.2.2.2.2.1 then (if bt708.2.2.2.2.1 ≤ (bt704.1.length : Int) then ((laws_sameBytes.f k t730 ((bt704.1.take (bt708.2.2.2.2.1 : Int).toNat).drop (bt704.2 : Int).toNat)).bind fun t737 => (laws_FnVals.j0 k l0 t691 t701 (!t737) t694 t695 t696 t697)) else (none)) else (none)) else (none))) else (laws_FnVals.j0 k l0 t691 t701 true t694 t695 t696 t697))) else (laws_FnVals.j0 k l0 t691 t701 false t694 t695 t696 t697)))))) = some r := H
 have A5 := am A50
 clear A50
 replace H := Option.bind_eq_some_iff.mp H
 obtain ⟨⟨t704, t705⟩, A60, H⟩ := H
 replace H : ((impl_GetVal.f k t704 t705).bind fun bt708 => ((spec_GetVal.f k t704 t705).bind fun bt717 => (if (bt708.2.2.2.2.2 != bt717.2.2.2.2.2) = true then (laws_FnVals.j0 k l0 t691 t701 true t694 t695 t696 t697) else (if bt708.2.2.2.2.2 = true then ((impl_ValOk.f k bt708.1 bt708.2.1 bt708.2.2.1 bt708.2.2.2.1).bind fun t726 => (if t726 = true then ((impl_PutVal.f k (([] : List Int)) bt708.1 bt708.2.1 bt708.2.2.1 bt708.2.2.2.1).bind fun t730 => (if 0 ≤ t705 then (if t705 ≤ bt708.2.2.2.2.1 then (if bt708.2.2.2.2.1 ≤ (t704.length : Int) then ((laws_sameBytes.f k t730 ((t704.take (bt708.2.2.2.2.1 : Int).toNat).drop (t705 : Int).toNat)).bind fun t737 => (laws_FnVals.j0 k l0 t691 t701 (!t737) t694 t695 t696 t697)) else (none)) else (none)) else (none))) else (laws_FnVals.j0 k l0 t691 t701 true t694 t695 t696 t697))) else (laws_FnVals.j0 k l0 t691 t701 false t694 t695 t696 t697))))) = some r := H
 have A6 := am A60
 clear A60
 replace H := Option.bind_eq_some_iff.mp H
 obtain ⟨⟨t708, t709, t710, t711, t714, t715⟩, A70, H⟩ := H
 replace H : ((spec_GetVal.f k t704 t705).bind fun bt717 => (if (t715 != bt717.2.2.2.2.2) = true then (laws_FnVals.j0 k l0 t691 t701 true t694 t695 t696 t697) else (if t715 = true then ((impl_ValOk.f k t708 t709 t710 t711).bind fun t726 => (if t726 = true then ((impl_PutVal.f k (([] : List Int)) t708 t709 t710 t711).bind fun t730 => (if 0 ≤ t705 then (if t705 ≤ t714 then (if t714 ≤ (t704.length : Int) then ((laws_sameBytes.f k t730 ((t704.take (t714 : Int).toNat).drop (t705 : Int).toNat)).bind fun t737 => (laws_FnVals.j0 k l0 t691 t701 (!t737) t694 t695 t696 t697)) else (none)) else (none)) else (none))) else (laws_FnVals.j0 k l0 t691 t701 true t694 t695 t696 t697))) else (laws_FnVals.j0 k l0 t691 t701 false t694 t695 t696 t697)))) = some r := H
 have A7 := am A70
 clear A70
 replace H := Option.bind_eq_some_iff.mp H
 obtain ⟨⟨t717, t718, t719, t720, t723, t724⟩, A80, H⟩ := H
 replace H : (if (t715 != t724) = true then (laws_FnVals.j0 k l0 t691 t701 true t694 t695 t696 t697) else (if t715 = true then ((impl_ValOk.f k t708 t709 t710 t711).bind fun t726 => (if t726 = true then ((impl_PutVal.f k (([] : List Int)) t708 t709 t710 t711).bind fun t730 => (if 0 ≤ t705 then (if t705 ≤ t714 then (if t714 ≤ (t704.length : Int) then ((laws_sameBytes.f k t730 ((t704.take (t714 : Int).toNat).drop (t705 : Int).toNat)).bind fun t737 => (laws_FnVals.j0 k l0 t691 t701 (!t737) t694 t695 t696 t697)) else (none)) else (none)) else (none))) else (laws_FnVals.j0 k l0 t691 t701 true t694 t695 t696 t697))) else (laws_FnVals.j0 k l0 t691 t701 false t694 t695 t696 t697))) = some r := H
 have A8 := am A80
 clear A80
 have HC9 := am H
 clear H
 go_enter Try.func7, Try.ntmps7
 go_upto_region 8 with (first | ((with_reducible refine gate_callee (f := 23) rfl ?_); refine goesL_ (some 20) rfl rfl Try.func23 (by kernel_rfl) rfl #[.slice A0 l0.length c0] rfl ga ?_; (with_reducible refine (laws_big.calls _ _ l0 false _ ?side1 ?side2 A2.out).mono ?_); (case side1 => exact cq HR0.out); (case side2 => exact HC0.out); rintro e w' ⟨rfl, ⟨nd, rfl⟩⟩; refine ⟨_, rfl, ?_⟩) | ((with_reducible refine gate_callee (f := 44) rfl ?_); refine goesL_ (some 23) rfl rfl Try.func44 (by kernel_rfl) rfl #[.slice A0 l0.length c0] rfl ga ?_; (with_reducible refine (spec_DrawPutVal.calls k _ _ l0 t691 t694 t695 t696 t697 _ ?side1 ?side2 A4.out).mono ?_); (case side1 => exact cq HR0.out); (case side2 => exact HC0.out); rintro e w10 ⟨v692, v698, rfl, ho0, ho1, hb⟩; refine ⟨_, rfl, ?_⟩; have n_ := ak3 (Kd.R_lower ho0 (below_size (bq HB.out))) (Kd.R_lower ho1 (below_size (bq HB.out))) (below_step (bq HB.out) hb); clear HB; obtain ⟨HO693, HO699, HB⟩ := n_; (try clear hb ho0 ho1)) | ((with_reducible refine gate_dst (N := 4) rfl ?_); (try (refine gate_guard (by rfl) ?_; dsimp only)); refine bxe 4 #[.int .i64 0, .int .i64 0, .string (⟨#[]⟩ : ByteArray), .slice none 0 0] 29 ?_; intro gb700 hg w11 hbox hb; have n_ := ak6 (Kd.R_below (kqR HO693.out) hb) (Kd.R_below (kqR HO699.out) hb) (below_step (bq HB.out) hb) hbox ((by rw [hg]; exact (below_size (bq HB.out)) : w.heap.size ≤ gb700)) ((by rw [hg]; exact (below_size (bq HB.out)) : w.heap.size ≤ gb700)); clear HO693 HO699 HB; obtain ⟨HO693, HO699, HB, BK700, GW700, GE700⟩ := n_; clear hb hbox hg; obtain ⟨hcz12_0, hcz12_1, hcz12_2, hcz12_3, hfz12_0, hfz12_1, hfz12_2, hfz12_3⟩ := cl4 BK700.out; obtain ⟨Ao13, co13, eo13⟩ := Kd.R_slice HO699.out; subst eo13) | ((with_reducible refine gate_store (t := 29) (p := 4) rfl ?_); refine store_event (t := 29) (p := 4) (v := ?vo_w14) (w1 := ((((w11.setCell ⟨gb700, 0, none⟩ (.int .i64 t694)).setCell ⟨gb700, 1, none⟩ (.int .i64 t695)).setCell ⟨gb700, 2, none⟩ (.string t696)).setCell ⟨gb700, 3, none⟩ (.slice Ao13 t697.length co13))) ?hg ?ho ?hn ?hr ?_; (case ho => rfl); (case hg => rfl); (case hn => rfl); (case hr => exact gs); intro w14 hw; have n_ : Aside0 (Kd.R (Kd.int .u8) 5 w14 w.heap.size (fun _ => True) v692 t691) ∧ Aside0 (Kd.R (Kd.int .i64) 3 w14 w.heap.size (fun _ => True) (.slice Ao13 t697.length co13) t697) ∧ Aside0 (w14.heap[gb700]? = some (.cells #[.int .i64 t694, .int .i64 t695, .string t696, .slice Ao13 t697.length co13] 29 (0, 0))) ∧ Aside0 (Below w.heap.size w w14) := ⟨⟨(by rw [hw]; exact (by refine kr ?_; exact Kd.R_mono (rf4 gb700 (.int .i64 t694) (.int .i64 t695) (.string t696) (.slice Ao13 t697.length co13) (Kd.R_types HO693.out BK700.out (by decide)) (fun _ hk => hk.2)) (fun _ hk => trivial)))⟩, ⟨(by rw [hw]; exact (by refine kr ?_; exact Kd.R_mono (rf4 gb700 (.int .i64 t694) (.int .i64 t695) (.string t696) (.slice Ao13 t697.length co13) (Kd.R_types HO699.out BK700.out (by decide)) (fun _ hk => hk.2)) (fun _ hk => trivial)))⟩, ⟨(by rw [hw]; exact (by refine zr ?_; exact bp4 (zb BK700.out)))⟩, ⟨(by rw [hw]; exact (bq1 HB.out GE700.out))⟩⟩; clear hw HO693 HO699 BK700 HB; obtain ⟨HO693, HO699, BK700, HB⟩ := n_; obtain ⟨hcz15_0, hcz15_1, hcz15_2, hcz15_3, hfz15_0, hfz15_1, hfz15_2, hfz15_3⟩ := cl4 BK700.out; obtain ⟨Ao16, co16, eo16⟩ := Kd.R_slice HO693.out; subst eo16) | ((with_reducible refine gate_callee (f := 17) rfl ?_); refine goesL_ (some 28) rfl rfl Try.func17 (by kernel_rfl) rfl #[.slice Ao16 t691.length co16, .agg #[.int .i64 t694, .int .i64 t695, .string t696, .slice Ao13 t697.length co13]] rfl ga ?_; (with_reducible refine (impl_PutVal.calls k _ _ t691 t694 t695 t696 _ _ t697 t701 _ ?side1 ?side2 ?side3 ?side4 A5.out).mono ?_); (case side1 => repeat (first | exact (Kd.R_reads' HO693.out).2.2 | (with_reducible refine Kd.C_alloc ?_ _) | (with_reducible refine Kd.C_drewN ?_ _) | (with_reducible refine Kd.C_drew ?_))); (case side2 => exact (Kd.R_reads' HO693.out).2.1); (case side3 => repeat (first | exact (Kd.R_reads' HO699.out).2.2 | (with_reducible refine Kd.C_alloc ?_ _) | (with_reducible refine Kd.C_drewN ?_ _) | (with_reducible refine Kd.C_drew ?_))); (case side4 => exact (Kd.R_reads' HO699.out).2.1); rintro e w17 ⟨v702, rfl, ho0, hb⟩; refine ⟨_, rfl, ?_⟩; have n_ := ak5 (Kd.R_elder' (kqR HO693.out) (Kd.R_base ho0) hb) (Kd.R_below (kqR HO699.out) hb) (Kd.R_lower (Kd.R_new' ho0 (Kd.R_lt (kqR HO693.out))) (below_size (bq1 HB.out GE700.out))) (blk_below (zb BK700.out) hb) (below_step (bq1 HB.out GE700.out) hb); clear HO693 HO699 BK700 HB; obtain ⟨HO693, HO699, HO703, BK700, HB⟩ := n_; (try clear hb ho0)) | ((with_reducible refine gate_callee (f := 45) rfl ?_); refine goesL_ (some 31) rfl rfl Try.func45 (by kernel_rfl) rfl #[.slice A0 l0.length c0] rfl ga ?_; (with_reducible refine (spec_DrawGetVal.calls k _ _ l0 t704 t705 _ ?side1 ?side2 A6.out).mono ?_); (case side1 => exact cq (Kd.C_below HR0.out HB.out)); (case side2 => exact HC0.out); rintro e w18 ⟨v706, rfl, ho0, hb⟩; refine ⟨_, rfl, ?_⟩; have n_ := ak6 (Kd.R_elder' (kqR HO693.out) (Kd.R_base ho0) hb) (Kd.R_below (kqR HO699.out) hb) (Kd.R_elder' (kqR HO703.out) (Kd.R_base ho0) hb) (Kd.R_lower (Kd.R_new' (Kd.R_new' ho0 (Kd.R_lt (kqR HO693.out))) (Kd.R_lt (kqR HO703.out))) (below_size (bq1 HB.out GE700.out))) (blk_below (zb BK700.out) hb) (below_step (bq1 HB.out GE700.out) hb); clear HO693 HO699 HO703 BK700 HB; obtain ⟨HO693, HO699, HO703, HO707, BK700, HB⟩ := n_; (try clear hb ho0); obtain ⟨Ao19, co19, eo19⟩ := Kd.R_slice HO707.out; subst eo19) | ((with_reducible refine gate_callee (f := 36) rfl ?_); refine goesL_ (some 37) rfl rfl Try.func36 (by kernel_rfl) rfl #[.slice Ao19 t704.length co19, .int .i64 t705] rfl ga ?_; (with_reducible refine (impl_GetVal.calls k _ _ t704 t705 t708 t709 t710 t711 t714 t715 _ ?side1 ?side2 A7.out).mono ?_); (case side1 => repeat (first | exact (Kd.R_reads' HO707.out).2.2 | (with_reducible refine Kd.C_alloc ?_ _) | (with_reducible refine Kd.C_drewN ?_ _) | (with_reducible refine Kd.C_drew ?_))); (case side2 => exact (Kd.R_reads' HO707.out).2.1); rintro e w20 ⟨v712, rfl, ho0, hb⟩; refine ⟨_, rfl, ?_⟩; have n_ := ak7 (Kd.R_below (kqR HO693.out) hb) (Kd.R_elder' (kqR HO699.out) (Kd.R_base ho0) hb) (Kd.R_below (kqR HO703.out) hb) (Kd.R_below (kqR HO707.out) hb) (Kd.R_lower (Kd.R_new' ho0 (Kd.R_lt (kqR HO699.out))) (below_size (bq1 HB.out GE700.out))) (blk_below (zb BK700.out) hb) (below_step (bq1 HB.out GE700.out) hb); clear HO693 HO699 HO703 HO707 BK700 HB; obtain ⟨HO693, HO699, HO703, HO707, HO713, BK700, HB⟩ := n_; (try clear hb ho0)) | ((with_reducible refine gate_dst (N := 8) rfl ?_); (try (refine gate_guard (by rfl) ?_; dsimp only)); refine bxe 8 #[.int .i64 0, .int .i64 0, .string (⟨#[]⟩ : ByteArray), .slice none 0 0] 29 ?_; intro gb716 hg w21 hbox hb; have n_ := ak12 (Kd.R_below (kqR HO693.out) hb) (Kd.R_below (kqR HO699.out) hb) (Kd.R_below (kqR HO703.out) hb) (Kd.R_below (kqR HO707.out) hb) (Kd.R_below (kqR HO713.out) hb) (blk_below (zb BK700.out) hb) (below_step (bq1 HB.out GE700.out) hb) hbox ((by rw [hg]; exact (below_size (bq1 HB.out GE700.out)) : w.heap.size ≤ gb716)) ((by rw [hg]; exact (below_size (bq1 HB.out GE700.out)) : w.heap.size ≤ gb716)) ((nlt hg (zb BK700.out) : gb700 ≠ gb716)) ((ngt hg (zb BK700.out) : gb716 ≠ gb700)); clear HO693 HO699 HO703 HO707 HO713 BK700 HB; obtain ⟨HO693, HO699, HO703, HO707, HO713, BK700, HB, BK716, GW716, GE716, NB700_716, NB716_700⟩ := n_; clear hb hbox hg; have hnb22 := NB716_700.out; have hnc22 := NB700_716.out; obtain ⟨hcz23_0, hcz23_1, hcz23_2, hcz23_3, hfz23_0, hfz23_1, hfz23_2, hfz23_3⟩ := cl4 BK716.out; obtain ⟨Ao24, co24, eo24⟩ := Kd.R_slice HO713.out; subst eo24) | ((with_reducible refine gate_store (t := 29) (p := 8) rfl ?_); refine store_event (t := 29) (p := 8) (v := ?vo_w25) (w1 := ((((w21.setCell ⟨gb716, 0, none⟩ (.int .i64 t708)).setCell ⟨gb716, 1, none⟩ (.int .i64 t709)).setCell ⟨gb716, 2, none⟩ (.string t710)).setCell ⟨gb716, 3, none⟩ (.slice Ao24 t711.length co24))) ?hg ?ho ?hn ?hr ?_; (case ho => rfl); (case hg => rfl); (case hn => rfl); (case hr => exact gs); intro w25 hw; have n_ : Aside0 (Kd.R (Kd.int .u8) 5 w25 w.heap.size (fun k_ => some k_ ≠ (v702 : Value).ownBlock ∧ some k_ ≠ (.slice Ao19 t704.length co19 : Value).ownBlock) (.slice Ao16 t691.length co16) t691) ∧ Aside0 (Kd.R (Kd.int .i64) 3 w25 w.heap.size (fun k_ => some k_ ≠ (.slice Ao24 t711.length co24 : Value).ownBlock) (.slice Ao13 t697.length co13) t697) ∧ Aside0 (Kd.R (Kd.int .u8) 5 w25 w.heap.size (fun k_ => some k_ ≠ (.slice Ao16 t691.length co16 : Value).ownBlock ∧ some k_ ≠ (.slice Ao19 t704.length co19 : Value).ownBlock) v702 t701) ∧ Aside0 (Kd.R (Kd.int .u8) 5 w25 w.heap.size (fun k_ => some k_ ≠ (.slice Ao16 t691.length co16 : Value).ownBlock ∧ some k_ ≠ (v702 : Value).ownBlock) (.slice Ao19 t704.length co19) t704) ∧ Aside0 (Kd.R (Kd.int .i64) 3 w25 w.heap.size (fun k_ => some k_ ≠ (.slice Ao13 t697.length co13 : Value).ownBlock) (.slice Ao24 t711.length co24) t711) ∧ Aside0 (w25.heap[gb700]? = some (.cells #[.int .i64 t694, .int .i64 t695, .string t696, .slice Ao13 t697.length co13] 29 (0, 0))) ∧ Aside0 (w25.heap[gb716]? = some (.cells #[.int .i64 t708, .int .i64 t709, .string t710, .slice Ao24 t711.length co24] 29 (0, 0))) ∧ Aside0 (Below w.heap.size w w25) := ⟨⟨(by rw [hw]; exact (by refine kr ?_; exact Kd.R_mono (rf4 gb716 (.int .i64 t708) (.int .i64 t709) (.string t710) (.slice Ao24 t711.length co24) (Kd.R_types HO693.out BK716.out (by decide)) (fun _ hk => hk.2)) (fun _ hk => ⟨hk.1.1.2, hk.1.2⟩)))⟩, ⟨(by rw [hw]; exact (by refine kr ?_; exact Kd.R_mono (rf4 gb716 (.int .i64 t708) (.int .i64 t709) (.string t710) (.slice Ao24 t711.length co24) (Kd.R_types HO699.out BK716.out (by decide)) (fun _ hk => hk.2)) (fun _ hk => hk.1.2)))⟩, ⟨(by rw [hw]; exact (by refine kr ?_; exact Kd.R_mono (rf4 gb716 (.int .i64 t708) (.int .i64 t709) (.string t710) (.slice Ao24 t711.length co24) (Kd.R_types HO703.out BK716.out (by decide)) (fun _ hk => hk.2)) (fun _ hk => ⟨hk.1.1.2, hk.1.2⟩)))⟩, ⟨(by rw [hw]; exact (by refine kr ?_; exact Kd.R_mono (rf4 gb716 (.int .i64 t708) (.int .i64 t709) (.string t710) (.slice Ao24 t711.length co24) (Kd.R_types HO707.out BK716.out (by decide)) (fun _ hk => hk.2)) (fun _ hk => ⟨hk.1.1.2, hk.1.2⟩)))⟩, ⟨(by rw [hw]; exact (by refine kr ?_; exact Kd.R_mono (rf4 gb716 (.int .i64 t708) (.int .i64 t709) (.string t710) (.slice Ao24 t711.length co24) (Kd.R_types HO713.out BK716.out (by decide)) (fun _ hk => hk.2)) (fun _ hk => hk.1.2)))⟩, ⟨(by rw [hw]; exact (by refine zr ?_; refine blk_far ?_ NB700_716.out _; refine zr ?_; refine blk_far ?_ NB700_716.out _; refine zr ?_; refine blk_far ?_ NB700_716.out _; refine zr ?_; refine blk_far ?_ NB700_716.out _; refine zr ?_; exact BK700.out))⟩, ⟨(by rw [hw]; exact (by refine zr ?_; exact bp4 (zb BK716.out)))⟩, ⟨(by rw [hw]; exact (bq2 HB.out GE700.out GE716.out))⟩⟩; clear hw HO693 HO699 HO703 HO707 HO713 BK700 BK716 HB; obtain ⟨HO693, HO699, HO703, HO707, HO713, BK700, BK716, HB⟩ := n_) | ((with_reducible refine gate_callee (f := 35) rfl ?_); refine goesL_ (some 44) rfl rfl Try.func35 (by kernel_rfl) rfl #[.slice Ao19 t704.length co19, .int .i64 t705] rfl ga ?_; (with_reducible refine (spec_GetVal.calls k _ _ t704 t705 t717 t718 t719 t720 t723 t724 _ ?side1 ?side2 A8.out).mono ?_); (case side1 => repeat (first | exact (Kd.R_reads' HO707.out).2.2 | (with_reducible refine Kd.C_alloc ?_ _) | (with_reducible refine Kd.C_drewN ?_ _) | (with_reducible refine Kd.C_drew ?_))); (case side2 => exact (Kd.R_reads' HO707.out).2.1); rintro e w26 ⟨v721, rfl, ho0, hb⟩; refine ⟨_, rfl, ?_⟩; have n_ := ak9 (Kd.R_below (kqR HO693.out) hb) (Kd.R_elder' (kqR HO699.out) (Kd.R_base ho0) hb) (Kd.R_below (kqR HO703.out) hb) (Kd.R_below (kqR HO707.out) hb) (Kd.R_elder' (kqR HO713.out) (Kd.R_base ho0) hb) (Kd.R_lower (Kd.R_new' (Kd.R_new' ho0 (Kd.R_lt (kqR HO699.out))) (Kd.R_lt (kqR HO713.out))) (below_size (bq2 HB.out GE700.out GE716.out))) (blk_below (zb BK700.out) hb) (blk_below (zb BK716.out) hb) (below_step (bq2 HB.out GE700.out GE716.out) hb); clear HO693 HO699 HO703 HO707 HO713 BK700 BK716 HB; obtain ⟨HO693, HO699, HO703, HO707, HO713, HO722, BK700, BK716, HB⟩ := n_; (try clear hb ho0)) | ((with_reducible refine gate_dst (N := 11) rfl ?_); (try (refine gate_guard (by rfl) ?_; dsimp only)); refine bxe 11 #[.int .i64 0, .int .i64 0, .string (⟨#[]⟩ : ByteArray), .slice none 0 0] 29 ?_; intro gb725 hg w27 hbox hb; have n0_ := am (Kd.R_below (kqR HO693.out) hb); have n1_ := am (Kd.R_below (kqR HO699.out) hb); have n2_ := am (Kd.R_below (kqR HO703.out) hb); have n3_ := am (Kd.R_below (kqR HO707.out) hb); have n4_ := am (Kd.R_below (kqR HO713.out) hb); have n5_ := am (Kd.R_below (kqR HO722.out) hb); have n6_ := am (blk_below (zb BK700.out) hb); have n7_ := am (blk_below (zb BK716.out) hb); have n8_ := am (below_step (bq2 HB.out GE700.out GE716.out) hb); have n9_ := am (hbox); have n10_ := am ((by rw [hg]; exact (below_size (bq2 HB.out GE700.out GE716.out)) : w.heap.size ≤ gb725)); have n11_ := am ((by rw [hg]; exact (below_size (bq2 HB.out GE700.out GE716.out)) : w.heap.size ≤ gb725)); have n12_ := am ((nlt hg (zb BK700.out) : gb700 ≠ gb725)); have n13_ := am ((ngt hg (zb BK700.out) : gb725 ≠ gb700)); have n14_ := am ((nlt hg (zb BK716.out) : gb716 ≠ gb725)); have n15_ := am ((ngt hg (zb BK716.out) : gb725 ≠ gb716)); clear HO693; clear HO699; clear HO703; clear HO707; clear HO713; clear HO722; clear BK700; clear BK716; clear HB; have HO693 := n0_; have HO699 := n1_; have HO703 := n2_; have HO707 := n3_; have HO713 := n4_; have HO722 := n5_; have BK700 := n6_; have BK716 := n7_; have HB := n8_; have BK725 := n9_; have GW725 := n10_; have GE725 := n11_; have NB700_725 := n12_; have NB725_700 := n13_; have NB716_725 := n14_; have NB725_716 := n15_; clear n0_ n1_ n2_ n3_ n4_ n5_ n6_ n7_ n8_ n9_ n10_ n11_ n12_ n13_ n14_ n15_; clear hb hbox hg; have hnb28 := NB725_700.out; have hnc28 := NB700_725.out; have hnb29 := NB725_716.out; have hnc29 := NB716_725.out; obtain ⟨hcz30_0, hcz30_1, hcz30_2, hcz30_3, hfz30_0, hfz30_1, hfz30_2, hfz30_3⟩ := cl4 BK725.out; obtain ⟨Ao31, co31, eo31⟩ := Kd.R_slice HO722.out; subst eo31) | ((with_reducible refine gate_store (t := 29) (p := 11) rfl ?_); refine store_event (t := 29) (p := 11) (v := ?vo_w32) (w1 := ((((w27.setCell ⟨gb725, 0, none⟩ (.int .i64 t717)).setCell ⟨gb725, 1, none⟩ (.int .i64 t718)).setCell ⟨gb725, 2, none⟩ (.string t719)).setCell ⟨gb725, 3, none⟩ (.slice Ao31 t720.length co31))) ?hg ?ho ?hn ?hr ?_; (case ho => rfl); (case hg => rfl); (case hn => rfl); (case hr => exact gs); intro w32 hw; have n_ : Aside0 (Kd.R (Kd.int .u8) 5 w32 w.heap.size (fun k_ => some k_ ≠ (v702 : Value).ownBlock ∧ some k_ ≠ (.slice Ao19 t704.length co19 : Value).ownBlock) (.slice Ao16 t691.length co16) t691) ∧ Aside0 (Kd.R (Kd.int .i64) 3 w32 w.heap.size (fun k_ => some k_ ≠ (.slice Ao24 t711.length co24 : Value).ownBlock ∧ some k_ ≠ (.slice Ao31 t720.length co31 : Value).ownBlock) (.slice Ao13 t697.length co13) t697) ∧ Aside0 (Kd.R (Kd.int .u8) 5 w32 w.heap.size (fun k_ => some k_ ≠ (.slice Ao16 t691.length co16 : Value).ownBlock ∧ some k_ ≠ (.slice Ao19 t704.length co19 : Value).ownBlock) v702 t701) ∧ Aside0 (Kd.R (Kd.int .u8) 5 w32 w.heap.size (fun k_ => some k_ ≠ (.slice Ao16 t691.length co16 : Value).ownBlock ∧ some k_ ≠ (v702 : Value).ownBlock) (.slice Ao19 t704.length co19) t704) ∧ Aside0 (Kd.R (Kd.int .i64) 3 w32 w.heap.size (fun k_ => some k_ ≠ (.slice Ao13 t697.length co13 : Value).ownBlock ∧ some k_ ≠ (.slice Ao31 t720.length co31 : Value).ownBlock) (.slice Ao24 t711.length co24) t711) ∧ Aside0 (Kd.R (Kd.int .i64) 3 w32 w.heap.size (fun k_ => some k_ ≠ (.slice Ao13 t697.length co13 : Value).ownBlock ∧ some k_ ≠ (.slice Ao24 t711.length co24 : Value).ownBlock) (.slice Ao31 t720.length co31) t720) ∧ Aside0 (w32.heap[gb700]? = some (.cells #[.int .i64 t694, .int .i64 t695, .string t696, .slice Ao13 t697.length co13] 29 (0, 0))) ∧ Aside0 (w32.heap[gb716]? = some (.cells #[.int .i64 t708, .int .i64 t709, .string t710, .slice Ao24 t711.length co24] 29 (0, 0))) ∧ Aside0 (w32.heap[gb725]? = some (.cells #[.int .i64 t717, .int .i64 t718, .string t719, .slice Ao31 t720.length co31] 29 (0, 0))) ∧ Aside0 (Below w.heap.size w w32) := ⟨⟨(by rw [hw]; exact (by refine kr ?_; exact Kd.R_mono (rf4 gb725 (.int .i64 t717) (.int .i64 t718) (.string t719) (.slice Ao31 t720.length co31) (Kd.R_types HO693.out BK725.out (by decide)) (fun _ hk => hk.2)) (fun _ hk => ⟨hk.1.1, hk.1.2⟩)))⟩, ⟨(by rw [hw]; exact (by refine kr ?_; exact Kd.R_mono (rf4 gb725 (.int .i64 t717) (.int .i64 t718) (.string t719) (.slice Ao31 t720.length co31) (Kd.R_types HO699.out BK725.out (by decide)) (fun _ hk => hk.2)) (fun _ hk => ⟨hk.1.1, hk.1.2⟩)))⟩, ⟨(by rw [hw]; exact (by refine kr ?_; exact Kd.R_mono (rf4 gb725 (.int .i64 t717) (.int .i64 t718) (.string t719) (.slice Ao31 t720.length co31) (Kd.R_types HO703.out BK725.out (by decide)) (fun _ hk => hk.2)) (fun _ hk => ⟨hk.1.1, hk.1.2⟩)))⟩, ⟨(by rw [hw]; exact (by refine kr ?_; exact Kd.R_mono (rf4 gb725 (.int .i64 t717) (.int .i64 t718) (.string t719) (.slice Ao31 t720.length co31) (Kd.R_types HO707.out BK725.out (by decide)) (fun _ hk => hk.2)) (fun _ hk => ⟨hk.1.1, hk.1.2⟩)))⟩, ⟨(by rw [hw]; exact (by refine kr ?_; exact Kd.R_mono (rf4 gb725 (.int .i64 t717) (.int .i64 t718) (.string t719) (.slice Ao31 t720.length co31) (Kd.R_types HO713.out BK725.out (by decide)) (fun _ hk => hk.2)) (fun _ hk => ⟨hk.1.1, hk.1.2⟩)))⟩, ⟨(by rw [hw]; exact (by refine kr ?_; exact Kd.R_mono (rf4 gb725 (.int .i64 t717) (.int .i64 t718) (.string t719) (.slice Ao31 t720.length co31) (Kd.R_types HO722.out BK725.out (by decide)) (fun _ hk => hk.2)) (fun _ hk => ⟨hk.1.1.2, hk.1.2⟩)))⟩, ⟨(by rw [hw]; exact (by refine zr ?_; refine blk_far ?_ NB700_725.out _; refine zr ?_; refine blk_far ?_ NB700_725.out _; refine zr ?_; refine blk_far ?_ NB700_725.out _; refine zr ?_; refine blk_far ?_ NB700_725.out _; refine zr ?_; exact BK700.out))⟩, ⟨(by rw [hw]; exact (by refine zr ?_; refine blk_far ?_ NB716_725.out _; refine zr ?_; refine blk_far ?_ NB716_725.out _; refine zr ?_; refine blk_far ?_ NB716_725.out _; refine zr ?_; refine blk_far ?_ NB716_725.out _; refine zr ?_; exact BK716.out))⟩, ⟨(by rw [hw]; exact (by refine zr ?_; exact bp4 (zb BK725.out)))⟩, ⟨(by rw [hw]; exact (bq3 HB.out GE700.out GE716.out GE725.out))⟩⟩; clear hw HO693 HO699 HO703 HO707 HO713 HO722 BK700 BK716 BK725 HB; obtain ⟨HO693, HO699, HO703, HO707, HO713, HO722, BK700, BK716, BK725, HB⟩ := n_))
 (try simp only [Act.put, List.setIfInBounds_toArray, List.set_cons_zero, List.set_cons_succ])
 go_cut [69] (fun v69 wc => ∃ (kq : Nat) (x69_8 : Bool), v69 = .bool x69_8 ∧ Aside0 (laws_FnVals.j0 kq l0 t691 t701 x69_8 t694 t695 t696 t697 = some r) ∧ Aside0 (kq ≤ k) ∧ Aside0 (Kd.R (Kd.int .u8) 5 wc w.heap.size (fun k_ => some k_ ≠ (v702 : Value).ownBlock) (.slice Ao16 t691.length co16) t691) ∧ Aside0 (Kd.R (Kd.int .u8) 5 wc w.heap.size (fun k_ => some k_ ≠ ((.slice Ao16 t691.length co16) : Value).ownBlock) v702 t701) ∧ Aside0 (Kd.R (Kd.int .i64) 3 wc w.heap.size (fun k_ => some k_ ≠ ((.slice Ao24 t711.length co24) : Value).ownBlock ∧ some k_ ≠ ((.slice Ao31 t720.length co31) : Value).ownBlock) (.slice Ao13 t697.length co13) t697) ∧ Aside0 (Kd.R (Kd.int .i64) 3 wc w.heap.size (fun k_ => some k_ ≠ ((.slice Ao13 t697.length co13) : Value).ownBlock ∧ some k_ ≠ ((.slice Ao31 t720.length co31) : Value).ownBlock) (.slice Ao24 t711.length co24) t711) ∧ Aside0 (Kd.R (Kd.int .i64) 3 wc w.heap.size (fun k_ => some k_ ≠ ((.slice Ao13 t697.length co13) : Value).ownBlock ∧ some k_ ≠ ((.slice Ao24 t711.length co24) : Value).ownBlock) (.slice Ao31 t720.length co31) t720) ∧ Aside0 (wc.heap[gb700]? = some (.cells #[.int .i64 t694, .int .i64 t695, .string t696, (.slice Ao13 t697.length co13)] 29 (0, 0))) ∧ Aside0 (wc.heap[gb716]? = some (.cells #[.int .i64 t708, .int .i64 t709, .string t710, (.slice Ao24 t711.length co24)] 29 (0, 0))) ∧ Aside0 (wc.heap[gb725]? = some (.cells #[.int .i64 t717, .int .i64 t718, .string t719, (.slice Ao31 t720.length co31)] 29 (0, 0))) ∧ Aside0 (Below w.heap.size w wc))
 case first =>
  have H := HC9.out
  clear HC9
  by_cases c33 : (t715 != t724) = true
  · rw [if_pos c33] at H
    have c33b0 : (t715 != t724) = true := c33
    (try (have c33b1 : decide (t715 = t724) = false := by simpa using c33))
    (try (have c33b2 : (t715 == t724) = false := by simpa using c33))
    (try (have c33b3 : ¬ (t715 = t724) := by simpa using c33))
    clear c33
    (first | rw [c33b0] | (simp only [i64_w, i32_w]; rw [c33b0]) | skip)
    have H' := am H
    clear H
    try go_wp2
    have n_ := ak10 (Kd.R_drew HO693.out) (Kd.R_drew HO699.out) (Kd.R_drew HO703.out) (Kd.R_drew HO707.out) (Kd.R_drew HO713.out) (Kd.R_drew HO722.out) (blk_drew BK700.out) (blk_drew BK716.out) (blk_drew BK725.out) (below_drew1 HB.out)
    clear HO693 HO699 HO703 HO707 HO713 HO722 BK700 BK716 BK725 HB
    obtain ⟨HO693, HO699, HO703, HO707, HO713, HO722, BK700, BK716, BK725, HB⟩ := n_
    refine start_ (n := 22) (S := fun w' => True) (ds := []) #[false, false, false, false, false, false, false, false, false, false, false, false, false, false, false, false, false, false, false, false, false, false] (by kernel_rfl) rfl rfl trivial (fun hHeld => ?_); refine with_tabW laws_FnVals.tab8 laws_FnVals.bits8 (fun HT_ HW_ => ?_)
    generalize w32.drew = w34 at HO693 HO699 HO703 HO707 HO713 HO722 BK700 BK716 BK725 HB hHeld ⊢
    refine pu 0 (some 48) #[true, false, false, false, false, false, false, false, false, false, false, false, false, false, false, false, false, false, false, false, false, false] rfl rfl (any_of HT_.out (by kernel_rfl)) (Or.inl ⟨by rfl, by intro w'; go_simp; with_reducible rfl⟩) ?_
    refine pu 1 (some 49) #[true, true, false, false, false, false, false, false, false, false, false, false, false, false, false, false, false, false, false, false, false, false] rfl rfl (any_of HT_.out (by kernel_rfl)) (Or.inl ⟨by rfl, by intro w'; go_simp; with_reducible rfl⟩) ?_
    refine pu 2 (some 50) #[true, true, true, false, false, false, false, false, false, false, false, false, false, false, false, false, false, false, false, false, false, false] rfl rfl (any_of HT_.out (by kernel_rfl)) (Or.inl ⟨by rfl, by intro w'; go_simp; with_reducible rfl⟩) ?_
    refine pu 3 (some 51) #[true, true, true, true, false, false, false, false, false, false, false, false, false, false, false, false, false, false, false, false, false, false] rfl rfl (any_of HT_.out (by kernel_rfl)) (Or.inl ⟨by rfl, by intro w'; go_simp; with_reducible rfl⟩) ?_
    refine pure_ (i := 4) (N := some 52) (v := undef) (a' := ?_) #[true, true, true, true, true, false, false, false, false, false, false, false, false, false, false, false, false, false, false, false, false, false] rfl rfl (any_of HT_.out (by kernel_rfl)) (fun _ _ _ h => h) (Or.inr ⟨by rfl, rfl⟩) ?_ ?_
    rotate_left
    · simp only [Act.put, List.setIfInBounds_toArray, List.set_cons_zero, List.set_cons_succ, i64_w, i32_w]
      rfl
    refine pure_ (i := 5) (N := some 53) (v := undef) (a' := ?_) #[true, true, true, true, true, true, false, false, false, false, false, false, false, false, false, false, false, false, false, false, false, false] rfl rfl (any_of HT_.out (by kernel_rfl)) (fun _ _ _ h => h) (Or.inr ⟨by rfl, rfl⟩) ?_ ?_
    rotate_left
    · simp only [Act.put, List.setIfInBounds_toArray, List.set_cons_zero, List.set_cons_succ, i64_w, i32_w]
      rfl
    refine pure_ (i := 6) (N := some 54) (v := undef) (a' := ?_) #[true, true, true, true, true, true, true, false, false, false, false, false, false, false, false, false, false, false, false, false, false, false] rfl rfl (any_of HT_.out (by kernel_rfl)) (fun _ _ _ h => h) (Or.inr ⟨by rfl, rfl⟩) ?_ ?_
    rotate_left
    · simp only [Act.put, List.setIfInBounds_toArray, List.set_cons_zero, List.set_cons_succ, i64_w, i32_w]
      rfl
    refine pure_ (i := 7) (N := some 55) (v := undef) (a' := ?_) #[true, true, true, true, true, true, true, true, false, false, false, false, false, false, false, false, false, false, false, false, false, false] rfl rfl (any_of HT_.out (by kernel_rfl)) (fun _ _ _ h => h) (Or.inr ⟨by rfl, rfl⟩) ?_ ?_
    rotate_left
    · simp only [Act.put, List.setIfInBounds_toArray, List.set_cons_zero, List.set_cons_succ, i64_w, i32_w]
      rfl
    refine pure_ (i := 8) (N := some 56) (v := undef) (a' := ?_) #[true, true, true, true, true, true, true, true, true, false, false, false, false, false, false, false, false, false, false, false, false, false] rfl rfl (any_of HT_.out (by kernel_rfl)) (fun _ _ _ h => h) (Or.inr ⟨by rfl, rfl⟩) ?_ ?_
    rotate_left
    · simp only [Act.put, List.setIfInBounds_toArray, List.set_cons_zero, List.set_cons_succ, i64_w, i32_w]
      rfl
    refine pure_ (i := 9) (N := some 57) (v := undef) (a' := ?_) #[true, true, true, true, true, true, true, true, true, true, false, false, false, false, false, false, false, false, false, false, false, false] rfl rfl (any_of HT_.out (by kernel_rfl)) (fun _ _ _ h => h) (Or.inr ⟨by rfl, rfl⟩) ?_ ?_
    rotate_left
    · simp only [Act.put, List.setIfInBounds_toArray, List.set_cons_zero, List.set_cons_succ, i64_w, i32_w]
      rfl
    refine pure_ (i := 10) (N := some 58) (v := undef) (a' := ?_) #[true, true, true, true, true, true, true, true, true, true, true, false, false, false, false, false, false, false, false, false, false, false] rfl rfl (any_of HT_.out (by kernel_rfl)) (fun _ _ _ h => h) (Or.inr ⟨by rfl, rfl⟩) ?_ ?_
    rotate_left
    · simp only [Act.put, List.setIfInBounds_toArray, List.set_cons_zero, List.set_cons_succ, i64_w, i32_w]
      rfl
    refine pure_ (i := 11) (N := some 59) (v := undef) (a' := ?_) #[true, true, true, true, true, true, true, true, true, true, true, true, false, false, false, false, false, false, false, false, false, false] rfl rfl (any_of HT_.out (by kernel_rfl)) (fun _ _ _ h => h) (Or.inr ⟨by rfl, rfl⟩) ?_ ?_
    rotate_left
    · simp only [Act.put, List.setIfInBounds_toArray, List.set_cons_zero, List.set_cons_succ, i64_w, i32_w]
      rfl
    refine pure_ (i := 12) (N := some 60) (v := undef) (a' := ?_) #[true, true, true, true, true, true, true, true, true, true, true, true, true, false, false, false, false, false, false, false, false, false] rfl rfl (any_of HT_.out (by kernel_rfl)) (fun _ _ _ h => h) (Or.inr ⟨by rfl, rfl⟩) ?_ ?_
    rotate_left
    · simp only [Act.put, List.setIfInBounds_toArray, List.set_cons_zero, List.set_cons_succ, i64_w, i32_w]
      rfl
    refine pure_ (i := 13) (N := some 61) (v := undef) (a' := ?_) #[true, true, true, true, true, true, true, true, true, true, true, true, true, true, false, false, false, false, false, false, false, false] rfl rfl (any_of HT_.out (by kernel_rfl)) (fun _ _ _ h => h) (Or.inr ⟨by rfl, rfl⟩) ?_ ?_
    rotate_left
    · simp only [Act.put, List.setIfInBounds_toArray, List.set_cons_zero, List.set_cons_succ, i64_w, i32_w]
      rfl
    refine pure_ (i := 14) (N := some 62) (v := undef) (a' := ?_) #[true, true, true, true, true, true, true, true, true, true, true, true, true, true, true, false, false, false, false, false, false, false] rfl rfl (any_of HT_.out (by kernel_rfl)) (fun _ _ _ h => h) (Or.inr ⟨by rfl, rfl⟩) ?_ ?_
    rotate_left
    · simp only [Act.put, List.setIfInBounds_toArray, List.set_cons_zero, List.set_cons_succ, i64_w, i32_w]
      rfl
    refine pure_ (i := 15) (N := some 63) (v := undef) (a' := ?_) #[true, true, true, true, true, true, true, true, true, true, true, true, true, true, true, true, false, false, false, false, false, false] rfl rfl (any_of HT_.out (by kernel_rfl)) (fun _ _ _ h => h) (Or.inr ⟨by rfl, rfl⟩) ?_ ?_
    rotate_left
    · simp only [Act.put, List.setIfInBounds_toArray, List.set_cons_zero, List.set_cons_succ, i64_w, i32_w]
      rfl
    refine pure_ (i := 16) (N := some 64) (v := undef) (a' := ?_) #[true, true, true, true, true, true, true, true, true, true, true, true, true, true, true, true, true, false, false, false, false, false] rfl rfl (any_of HT_.out (by kernel_rfl)) (fun _ _ _ h => h) (Or.inr ⟨by rfl, rfl⟩) ?_ ?_
    rotate_left
    · simp only [Act.put, List.setIfInBounds_toArray, List.set_cons_zero, List.set_cons_succ, i64_w, i32_w]
      rfl
    refine pure_ (i := 17) (N := some 65) (v := undef) (a' := ?_) #[true, true, true, true, true, true, true, true, true, true, true, true, true, true, true, true, true, true, false, false, false, false] rfl rfl (any_of HT_.out (by kernel_rfl)) (fun _ _ _ h => h) (Or.inr ⟨by rfl, rfl⟩) ?_ ?_
    rotate_left
    · simp only [Act.put, List.setIfInBounds_toArray, List.set_cons_zero, List.set_cons_succ, i64_w, i32_w]
      rfl
    refine pure_ (i := 18) (N := some 66) (v := undef) (a' := ?_) #[true, true, true, true, true, true, true, true, true, true, true, true, true, true, true, true, true, true, true, false, false, false] rfl rfl (any_of HT_.out (by kernel_rfl)) (fun _ _ _ h => h) (Or.inr ⟨by rfl, rfl⟩) ?_ ?_
    rotate_left
    · simp only [Act.put, List.setIfInBounds_toArray, List.set_cons_zero, List.set_cons_succ, i64_w, i32_w]
      rfl
    refine pure_ (i := 19) (N := some 67) (v := undef) (a' := ?_) #[true, true, true, true, true, true, true, true, true, true, true, true, true, true, true, true, true, true, true, true, false, false] rfl rfl (any_of HT_.out (by kernel_rfl)) (fun _ _ _ h => h) (Or.inr ⟨by rfl, rfl⟩) ?_ ?_
    rotate_left
    · simp only [Act.put, List.setIfInBounds_toArray, List.set_cons_zero, List.set_cons_succ, i64_w, i32_w]
      rfl
    refine pure_ (i := 20) (N := some 68) (v := undef) (a' := ?_) #[true, true, true, true, true, true, true, true, true, true, true, true, true, true, true, true, true, true, true, true, true, false] rfl rfl (any_of HT_.out (by kernel_rfl)) (fun _ _ _ h => h) (Or.inr ⟨by rfl, rfl⟩) ?_ ?_
    rotate_left
    · simp only [Act.put, List.setIfInBounds_toArray, List.set_cons_zero, List.set_cons_succ, i64_w, i32_w]
      rfl
    refine pu 21 (some 69) #[true, true, true, true, true, true, true, true, true, true, true, true, true, true, true, true, true, true, true, true, true, true] rfl rfl (any_of HT_.out (by kernel_rfl)) (Or.inl ⟨by rfl, by intro w'; go_simp; with_reducible rfl⟩) ?_
    refine done_ (done_of HT_.out (by kernel_rfl)) ?_
    try go_wp2
    go_meet
    case rel => exact ⟨_, (true), sq, H', ⟨by first | omega | exact Nat.le_refl _⟩, ⟨by refine kr ?_; exact Kd.R_mono HO693.out (fun _ hk => hk.1)⟩, ⟨by refine kr ?_; exact Kd.R_mono HO703.out (fun _ hk => hk.1)⟩, ⟨kqR HO699.out⟩, ⟨kqR HO713.out⟩, ⟨kqR HO722.out⟩, ⟨zq BK700.out⟩, ⟨zq BK716.out⟩, ⟨zq BK725.out⟩, ⟨bq3 HB.out GE700.out GE716.out GE725.out⟩⟩
  rw [if_neg c33] at H
  have c33b0 : (t715 != t724) = false := by simpa using c33
  (try (have c33b1 : decide (t715 = t724) = true := by simpa using c33))
  (try (have c33b2 : (t715 == t724) = true := by simpa using c33))
  clear c33
  (first | rw [c33b0] | (simp only [i64_w, i32_w]; rw [c33b0]) | skip)
  by_cases c35 : t715 = true
  rotate_left
  · replace c35 := Bool.eq_false_iff.mpr c35
    subst c35
    replace H : (laws_FnVals.j0 k l0 t691 t701 false t694 t695 t696 t697) = some r := by rw [if_neg (show ¬ (false = true) by decide)] at H; exact H
    have H' := am H
    clear H
    try go_wp2
    have n_ := ak10 (Kd.R_drew HO693.out) (Kd.R_drew HO699.out) (Kd.R_drew HO703.out) (Kd.R_drew HO707.out) (Kd.R_drew HO713.out) (Kd.R_drew HO722.out) (blk_drew BK700.out) (blk_drew BK716.out) (blk_drew BK725.out) (below_drew1 HB.out)
    clear HO693 HO699 HO703 HO707 HO713 HO722 BK700 BK716 BK725 HB
    obtain ⟨HO693, HO699, HO703, HO707, HO713, HO722, BK700, BK716, BK725, HB⟩ := n_
    refine start_ (n := 22) (S := fun w' => True) (ds := []) #[false, false, false, false, false, false, false, false, false, false, false, false, false, false, false, false, false, false, false, false, false, false] (by kernel_rfl) rfl rfl trivial (fun hHeld => ?_); refine with_tabW laws_FnVals.tab8 laws_FnVals.bits8 (fun HT_ HW_ => ?_)
    generalize w32.drew = w53 at HO693 HO699 HO703 HO707 HO713 HO722 BK700 BK716 BK725 HB hHeld ⊢
    refine pu 0 (some 48) #[true, false, false, false, false, false, false, false, false, false, false, false, false, false, false, false, false, false, false, false, false, false] rfl rfl (any_of HT_.out (by kernel_rfl)) (Or.inl ⟨by rfl, by intro w'; go_simp; with_reducible rfl⟩) ?_
    refine pu 1 (some 49) #[true, true, false, false, false, false, false, false, false, false, false, false, false, false, false, false, false, false, false, false, false, false] rfl rfl (any_of HT_.out (by kernel_rfl)) (Or.inl ⟨by rfl, by intro w'; go_simp; with_reducible rfl⟩) ?_
    refine pu 2 (some 50) #[true, true, true, false, false, false, false, false, false, false, false, false, false, false, false, false, false, false, false, false, false, false] rfl rfl (any_of HT_.out (by kernel_rfl)) (Or.inl ⟨by rfl, by intro w'; go_simp; with_reducible rfl⟩) ?_
    refine pu 3 (some 51) #[true, true, true, true, false, false, false, false, false, false, false, false, false, false, false, false, false, false, false, false, false, false] rfl rfl (any_of HT_.out (by kernel_rfl)) (Or.inl ⟨by rfl, by intro w'; go_simp; with_reducible rfl⟩) ?_
    refine pu 4 (some 52) #[true, true, true, true, true, false, false, false, false, false, false, false, false, false, false, false, false, false, false, false, false, false] rfl rfl (any_of HT_.out (by kernel_rfl)) (Or.inl ⟨by rfl, by intro w'; go_simp; with_reducible rfl⟩) ?_
    refine pu 5 (some 53) #[true, true, true, true, true, true, false, false, false, false, false, false, false, false, false, false, false, false, false, false, false, false] rfl rfl (any_of HT_.out (by kernel_rfl)) (Or.inl ⟨by rfl, by intro w'; go_simp; with_reducible rfl⟩) ?_
    refine pure_ (i := 6) (N := some 54) (v := undef) (a' := ?_) #[true, true, true, true, true, true, true, false, false, false, false, false, false, false, false, false, false, false, false, false, false, false] rfl rfl (any_of HT_.out (by kernel_rfl)) (fun _ _ _ h => h) (Or.inr ⟨by rfl, rfl⟩) ?_ ?_
    rotate_left
    · simp only [Act.put, List.setIfInBounds_toArray, List.set_cons_zero, List.set_cons_succ, i64_w, i32_w]
      rfl
    refine pure_ (i := 7) (N := some 55) (v := undef) (a' := ?_) #[true, true, true, true, true, true, true, true, false, false, false, false, false, false, false, false, false, false, false, false, false, false] rfl rfl (any_of HT_.out (by kernel_rfl)) (fun _ _ _ h => h) (Or.inr ⟨by rfl, rfl⟩) ?_ ?_
    rotate_left
    · simp only [Act.put, List.setIfInBounds_toArray, List.set_cons_zero, List.set_cons_succ, i64_w, i32_w]
      rfl
    refine pure_ (i := 8) (N := some 56) (v := undef) (a' := ?_) #[true, true, true, true, true, true, true, true, true, false, false, false, false, false, false, false, false, false, false, false, false, false] rfl rfl (any_of HT_.out (by kernel_rfl)) (fun _ _ _ h => h) (Or.inr ⟨by rfl, rfl⟩) ?_ ?_
    rotate_left
    · simp only [Act.put, List.setIfInBounds_toArray, List.set_cons_zero, List.set_cons_succ, i64_w, i32_w]
      rfl
    refine pure_ (i := 9) (N := some 57) (v := undef) (a' := ?_) #[true, true, true, true, true, true, true, true, true, true, false, false, false, false, false, false, false, false, false, false, false, false] rfl rfl (any_of HT_.out (by kernel_rfl)) (fun _ _ _ h => h) (Or.inr ⟨by rfl, rfl⟩) ?_ ?_
    rotate_left
    · simp only [Act.put, List.setIfInBounds_toArray, List.set_cons_zero, List.set_cons_succ, i64_w, i32_w]
      rfl
    refine pure_ (i := 10) (N := some 58) (v := undef) (a' := ?_) #[true, true, true, true, true, true, true, true, true, true, true, false, false, false, false, false, false, false, false, false, false, false] rfl rfl (any_of HT_.out (by kernel_rfl)) (fun _ _ _ h => h) (Or.inr ⟨by rfl, rfl⟩) ?_ ?_
    rotate_left
    · simp only [Act.put, List.setIfInBounds_toArray, List.set_cons_zero, List.set_cons_succ, i64_w, i32_w]
      rfl
    refine pure_ (i := 11) (N := some 59) (v := undef) (a' := ?_) #[true, true, true, true, true, true, true, true, true, true, true, true, false, false, false, false, false, false, false, false, false, false] rfl rfl (any_of HT_.out (by kernel_rfl)) (fun _ _ _ h => h) (Or.inr ⟨by rfl, rfl⟩) ?_ ?_
    rotate_left
    · simp only [Act.put, List.setIfInBounds_toArray, List.set_cons_zero, List.set_cons_succ, i64_w, i32_w]
      rfl
    refine pure_ (i := 12) (N := some 60) (v := undef) (a' := ?_) #[true, true, true, true, true, true, true, true, true, true, true, true, true, false, false, false, false, false, false, false, false, false] rfl rfl (any_of HT_.out (by kernel_rfl)) (fun _ _ _ h => h) (Or.inr ⟨by rfl, rfl⟩) ?_ ?_
    rotate_left
    · simp only [Act.put, List.setIfInBounds_toArray, List.set_cons_zero, List.set_cons_succ, i64_w, i32_w]
      rfl
    refine pure_ (i := 13) (N := some 61) (v := undef) (a' := ?_) #[true, true, true, true, true, true, true, true, true, true, true, true, true, true, false, false, false, false, false, false, false, false] rfl rfl (any_of HT_.out (by kernel_rfl)) (fun _ _ _ h => h) (Or.inr ⟨by rfl, rfl⟩) ?_ ?_
    rotate_left
    · simp only [Act.put, List.setIfInBounds_toArray, List.set_cons_zero, List.set_cons_succ, i64_w, i32_w]
      rfl
    refine pure_ (i := 14) (N := some 62) (v := undef) (a' := ?_) #[true, true, true, true, true, true, true, true, true, true, true, true, true, true, true, false, false, false, false, false, false, false] rfl rfl (any_of HT_.out (by kernel_rfl)) (fun _ _ _ h => h) (Or.inr ⟨by rfl, rfl⟩) ?_ ?_
    rotate_left
    · simp only [Act.put, List.setIfInBounds_toArray, List.set_cons_zero, List.set_cons_succ, i64_w, i32_w]
      rfl
    refine pure_ (i := 15) (N := some 63) (v := undef) (a' := ?_) #[true, true, true, true, true, true, true, true, true, true, true, true, true, true, true, true, false, false, false, false, false, false] rfl rfl (any_of HT_.out (by kernel_rfl)) (fun _ _ _ h => h) (Or.inr ⟨by rfl, rfl⟩) ?_ ?_
    rotate_left
    · simp only [Act.put, List.setIfInBounds_toArray, List.set_cons_zero, List.set_cons_succ, i64_w, i32_w]
      rfl
    refine pure_ (i := 16) (N := some 64) (v := undef) (a' := ?_) #[true, true, true, true, true, true, true, true, true, true, true, true, true, true, true, true, true, false, false, false, false, false] rfl rfl (any_of HT_.out (by kernel_rfl)) (fun _ _ _ h => h) (Or.inr ⟨by rfl, rfl⟩) ?_ ?_
    rotate_left
    · simp only [Act.put, List.setIfInBounds_toArray, List.set_cons_zero, List.set_cons_succ, i64_w, i32_w]
      rfl
    refine pure_ (i := 17) (N := some 65) (v := undef) (a' := ?_) #[true, true, true, true, true, true, true, true, true, true, true, true, true, true, true, true, true, true, false, false, false, false] rfl rfl (any_of HT_.out (by kernel_rfl)) (fun _ _ _ h => h) (Or.inr ⟨by rfl, rfl⟩) ?_ ?_
    rotate_left
    · simp only [Act.put, List.setIfInBounds_toArray, List.set_cons_zero, List.set_cons_succ, i64_w, i32_w]
      rfl
    refine pure_ (i := 18) (N := some 66) (v := undef) (a' := ?_) #[true, true, true, true, true, true, true, true, true, true, true, true, true, true, true, true, true, true, true, false, false, false] rfl rfl (any_of HT_.out (by kernel_rfl)) (fun _ _ _ h => h) (Or.inr ⟨by rfl, rfl⟩) ?_ ?_
    rotate_left
    · simp only [Act.put, List.setIfInBounds_toArray, List.set_cons_zero, List.set_cons_succ, i64_w, i32_w]
      rfl
    refine pure_ (i := 19) (N := some 67) (v := undef) (a' := ?_) #[true, true, true, true, true, true, true, true, true, true, true, true, true, true, true, true, true, true, true, true, false, false] rfl rfl (any_of HT_.out (by kernel_rfl)) (fun _ _ _ h => h) (Or.inr ⟨by rfl, rfl⟩) ?_ ?_
    rotate_left
    · simp only [Act.put, List.setIfInBounds_toArray, List.set_cons_zero, List.set_cons_succ, i64_w, i32_w]
      rfl
    refine pu 20 (some 68) #[true, true, true, true, true, true, true, true, true, true, true, true, true, true, true, true, true, true, true, true, true, false] rfl rfl (any_of HT_.out (by kernel_rfl)) (Or.inl ⟨by rfl, by intro w'; go_simp; with_reducible rfl⟩) ?_
    refine pu 21 (some 69) #[true, true, true, true, true, true, true, true, true, true, true, true, true, true, true, true, true, true, true, true, true, true] rfl rfl (any_of HT_.out (by kernel_rfl)) (Or.inl ⟨by rfl, by intro w'; go_simp; with_reducible rfl⟩) ?_
    refine done_ (done_of HT_.out (by kernel_rfl)) ?_
    try go_wp2
    go_meet
    case rel => exact ⟨_, (false), sq, H', ⟨by first | omega | exact Nat.le_refl _⟩, ⟨by refine kr ?_; exact Kd.R_mono HO693.out (fun _ hk => hk.1)⟩, ⟨by refine kr ?_; exact Kd.R_mono HO703.out (fun _ hk => hk.1)⟩, ⟨kqR HO699.out⟩, ⟨kqR HO713.out⟩, ⟨kqR HO722.out⟩, ⟨zq BK700.out⟩, ⟨zq BK716.out⟩, ⟨zq BK725.out⟩, ⟨bq3 HB.out GE700.out GE716.out GE725.out⟩⟩
  subst c35
  replace H : ((impl_ValOk.f k t708 t709 t710 t711).bind fun t726 => (if t726 = true then ((impl_PutVal.f k (([] : List Int)) t708 t709 t710 t711).bind fun t730 => (if 0 ≤ t705 then (if t705 ≤ t714 then (if t714 ≤ (t704.length : Int) then ((laws_sameBytes.f k t730 ((t704.take (t714 : Int).toNat).drop (t705 : Int).toNat)).bind fun t737 => (laws_FnVals.j0 k l0 t691 t701 (!t737) t694 t695 t696 t697)) else (none)) else (none)) else (none))) else (laws_FnVals.j0 k l0 t691 t701 true t694 t695 t696 t697))) = some r := by rw [if_pos rfl] at H; exact H
  replace H := Option.bind_eq_some_iff.mp H
  obtain ⟨t726, A360, H⟩ := H
  replace H : (if t726 = true then ((impl_PutVal.f k (([] : List Int)) t708 t709 t710 t711).bind fun t730 => (if 0 ≤ t705 then (if t705 ≤ t714 then (if t714 ≤ (t704.length : Int) then ((laws_sameBytes.f k t730 ((t704.take (t714 : Int).toNat).drop (t705 : Int).toNat)).bind fun t737 => (laws_FnVals.j0 k l0 t691 t701 (!t737) t694 t695 t696 t697)) else (none)) else (none)) else (none))) else (laws_FnVals.j0 k l0 t691 t701 true t694 t695 t696 t697)) = some r := H
  have A36 := am A360
  clear A360
  by_cases c37 : t726 = true
  rotate_left
  · replace c37 := Bool.eq_false_iff.mpr c37
    subst c37
    replace H : (laws_FnVals.j0 k l0 t691 t701 true t694 t695 t696 t697) = some r := by rw [if_neg (show ¬ (false = true) by decide)] at H; exact H
    have H' := am H
    clear H
    try go_wp2
    have n_ := ak10 (Kd.R_drew HO693.out) (Kd.R_drew HO699.out) (Kd.R_drew HO703.out) (Kd.R_drew HO707.out) (Kd.R_drew HO713.out) (Kd.R_drew HO722.out) (blk_drew BK700.out) (blk_drew BK716.out) (blk_drew BK725.out) (below_drew1 HB.out)
    clear HO693 HO699 HO703 HO707 HO713 HO722 BK700 BK716 BK725 HB
    obtain ⟨HO693, HO699, HO703, HO707, HO713, HO722, BK700, BK716, BK725, HB⟩ := n_
    refine start_ (n := 22) (S := fun w' => w'.cell? ⟨gb716, 0, none⟩ = some (.int .i64 t708) ∧ w'.cell? ⟨gb716, 1, none⟩ = some (.int .i64 t709) ∧ w'.cell? ⟨gb716, 2, none⟩ = some (.string t710) ∧ w'.cell? ⟨gb716, 3, none⟩ = some (.slice Ao24 t711.length co24)) (ds := []) #[false, false, false, false, false, false, false, false, false, false, false, false, false, false, false, false, false, false, false, false, false, false] (by kernel_rfl) rfl rfl ⟨(blk_cell BK716.out 0).trans rfl, (blk_cell BK716.out 1).trans rfl, (blk_cell BK716.out 2).trans rfl, (blk_cell BK716.out 3).trans rfl⟩ (fun hHeld => ?_); refine with_tabW laws_FnVals.tab8 laws_FnVals.bits8 (fun HT_ HW_ => ?_)
    generalize w32.drew = w51 at HO693 HO699 HO703 HO707 HO713 HO722 BK700 BK716 BK725 HB hHeld ⊢
    refine pu 0 (some 48) #[true, false, false, false, false, false, false, false, false, false, false, false, false, false, false, false, false, false, false, false, false, false] rfl rfl (any_of HT_.out (by kernel_rfl)) (Or.inl ⟨by rfl, by intro w'; go_simp; with_reducible rfl⟩) ?_
    refine pu 1 (some 49) #[true, true, false, false, false, false, false, false, false, false, false, false, false, false, false, false, false, false, false, false, false, false] rfl rfl (any_of HT_.out (by kernel_rfl)) (Or.inl ⟨by rfl, by intro w'; go_simp; with_reducible rfl⟩) ?_
    refine pu 2 (some 50) #[true, true, true, false, false, false, false, false, false, false, false, false, false, false, false, false, false, false, false, false, false, false] rfl rfl (any_of HT_.out (by kernel_rfl)) (Or.inl ⟨by rfl, by intro w'; go_simp; with_reducible rfl⟩) ?_
    refine pu 3 (some 51) #[true, true, true, true, false, false, false, false, false, false, false, false, false, false, false, false, false, false, false, false, false, false] rfl rfl (any_of HT_.out (by kernel_rfl)) (Or.inl ⟨by rfl, by intro w'; go_simp; with_reducible rfl⟩) ?_
    refine pu 4 (some 52) #[true, true, true, true, true, false, false, false, false, false, false, false, false, false, false, false, false, false, false, false, false, false] rfl rfl (any_of HT_.out (by kernel_rfl)) (Or.inl ⟨by rfl, by intro w'; go_simp; with_reducible rfl⟩) ?_
    refine pu 5 (some 53) #[true, true, true, true, true, true, false, false, false, false, false, false, false, false, false, false, false, false, false, false, false, false] rfl rfl (any_of HT_.out (by kernel_rfl)) (Or.inl ⟨by rfl, by intro w'; go_simp; with_reducible rfl⟩) ?_
    refine tk 6 (some 54) #[true, true, true, true, true, true, true, false, false, false, false, false, false, false, false, false, false, false, false, false, false, false] rfl rfl (take_ofW HT_.out HW_.out (by kernel_rfl)) hHeld (Or.inl ⟨by rfl, by rintro w' ⟨s0, s1, s2, s3⟩; go_simp; with_reducible rfl⟩) ?_
    refine one_ (i := 7) (N := some 55) #[true, true, true, true, true, true, true, true, false, false, false, false, false, false, false, false, false, false, false, false, false, false] rfl rfl (one_of HT_.out (by kernel_rfl)) (by decide) (fun K hK => ?_)
    refine goes_ Try.func46 (by kernel_rfl) rfl #[.agg #[.int .i64 t708, .int .i64 t709, .string t710, .slice Ao24 t711.length co24]] (by rfl) rfl rfl ga ?_
    with_reducible refine (impl_ValOk.calls k t708 t709 t710 _ _ t711 false _ ?side1 ?side2 A36.out).mono ?_
    (case side1 => repeat (first | exact (Kd.R_reads' HO713.out).2.2 | (with_reducible refine Kd.C_alloc ?_ _) | (with_reducible refine Kd.C_drewN ?_ _) | (with_reducible refine Kd.C_drew ?_)))
    (case side2 => exact (Kd.R_reads' HO713.out).2.1)
    rintro e w52 ⟨rfl, hb⟩
    refine ⟨_, rfl, ?_⟩
    have n_ := ak10 (Kd.R_below (kqR HO693.out) hb) (Kd.R_below (kqR HO699.out) hb) (Kd.R_below (kqR HO703.out) hb) (Kd.R_below (kqR HO707.out) hb) (Kd.R_below (kqR HO713.out) hb) (Kd.R_below (kqR HO722.out) hb) (blk_below (zb BK700.out) hb) (blk_below (zb BK716.out) hb) (blk_below (zb BK725.out) hb) (below_step (bq3 HB.out GE700.out GE716.out GE725.out) hb)
    clear HO693 HO699 HO703 HO707 HO713 HO722 BK700 BK716 BK725 HB
    obtain ⟨HO693, HO699, HO703, HO707, HO713, HO722, BK700, BK716, BK725, HB⟩ := n_
    (try clear hb)
    refine hK.out _ _ ⟨(blk_cell BK716.out 0).trans rfl, (blk_cell BK716.out 1).trans rfl, (blk_cell BK716.out 2).trans rfl, (blk_cell BK716.out 3).trans rfl⟩ (fun hHeld => ?_)
    clear hK K
    refine norm_ (a' := ?_) ?_ ?_
    rotate_left
    · show Act.put _ (some 55) _ = _
      simp only [Act.put, List.setIfInBounds_toArray, List.set_cons_zero, List.set_cons_succ, i64_w, i32_w]
      rfl
    refine pu 8 (some 56) #[true, true, true, true, true, true, true, true, true, false, false, false, false, false, false, false, false, false, false, false, false, false] rfl rfl (any_of HT_.out (by kernel_rfl)) (Or.inl ⟨by rfl, by intro w'; go_simp; with_reducible rfl⟩) ?_
    refine pu 9 (some 57) #[true, true, true, true, true, true, true, true, true, true, false, false, false, false, false, false, false, false, false, false, false, false] rfl rfl (any_of HT_.out (by kernel_rfl)) (Or.inl ⟨by rfl, by intro w'; go_simp; with_reducible rfl⟩) ?_
    refine pure_ (i := 10) (N := some 58) (v := undef) (a' := ?_) #[true, true, true, true, true, true, true, true, true, true, true, false, false, false, false, false, false, false, false, false, false, false] rfl rfl (any_of HT_.out (by kernel_rfl)) (fun _ _ _ h => h) (Or.inr ⟨by rfl, rfl⟩) ?_ ?_
    rotate_left
    · simp only [Act.put, List.setIfInBounds_toArray, List.set_cons_zero, List.set_cons_succ, i64_w, i32_w]
      rfl
    refine pure_ (i := 11) (N := some 59) (v := undef) (a' := ?_) #[true, true, true, true, true, true, true, true, true, true, true, true, false, false, false, false, false, false, false, false, false, false] rfl rfl (any_of HT_.out (by kernel_rfl)) (fun _ _ _ h => h) (Or.inr ⟨by rfl, rfl⟩) ?_ ?_
    rotate_left
    · simp only [Act.put, List.setIfInBounds_toArray, List.set_cons_zero, List.set_cons_succ, i64_w, i32_w]
      rfl
    refine pure_ (i := 12) (N := some 60) (v := undef) (a' := ?_) #[true, true, true, true, true, true, true, true, true, true, true, true, true, false, false, false, false, false, false, false, false, false] rfl rfl (any_of HT_.out (by kernel_rfl)) (fun _ _ _ h => h) (Or.inr ⟨by rfl, rfl⟩) ?_ ?_
    rotate_left
    · simp only [Act.put, List.setIfInBounds_toArray, List.set_cons_zero, List.set_cons_succ, i64_w, i32_w]
      rfl
    refine pure_ (i := 13) (N := some 61) (v := undef) (a' := ?_) #[true, true, true, true, true, true, true, true, true, true, true, true, true, true, false, false, false, false, false, false, false, false] rfl rfl (any_of HT_.out (by kernel_rfl)) (fun _ _ _ h => h) (Or.inr ⟨by rfl, rfl⟩) ?_ ?_
    rotate_left
    · simp only [Act.put, List.setIfInBounds_toArray, List.set_cons_zero, List.set_cons_succ, i64_w, i32_w]
      rfl
    refine pure_ (i := 14) (N := some 62) (v := undef) (a' := ?_) #[true, true, true, true, true, true, true, true, true, true, true, true, true, true, true, false, false, false, false, false, false, false] rfl rfl (any_of HT_.out (by kernel_rfl)) (fun _ _ _ h => h) (Or.inr ⟨by rfl, rfl⟩) ?_ ?_
    rotate_left
    · simp only [Act.put, List.setIfInBounds_toArray, List.set_cons_zero, List.set_cons_succ, i64_w, i32_w]
      rfl
    refine pure_ (i := 15) (N := some 63) (v := undef) (a' := ?_) #[true, true, true, true, true, true, true, true, true, true, true, true, true, true, true, true, false, false, false, false, false, false] rfl rfl (any_of HT_.out (by kernel_rfl)) (fun _ _ _ h => h) (Or.inr ⟨by rfl, rfl⟩) ?_ ?_
    rotate_left
    · simp only [Act.put, List.setIfInBounds_toArray, List.set_cons_zero, List.set_cons_succ, i64_w, i32_w]
      rfl
    refine pure_ (i := 16) (N := some 64) (v := undef) (a' := ?_) #[true, true, true, true, true, true, true, true, true, true, true, true, true, true, true, true, true, false, false, false, false, false] rfl rfl (any_of HT_.out (by kernel_rfl)) (fun _ _ _ h => h) (Or.inr ⟨by rfl, rfl⟩) ?_ ?_
    rotate_left
    · simp only [Act.put, List.setIfInBounds_toArray, List.set_cons_zero, List.set_cons_succ, i64_w, i32_w]
      rfl
    refine pure_ (i := 17) (N := some 65) (v := undef) (a' := ?_) #[true, true, true, true, true, true, true, true, true, true, true, true, true, true, true, true, true, true, false, false, false, false] rfl rfl (any_of HT_.out (by kernel_rfl)) (fun _ _ _ h => h) (Or.inr ⟨by rfl, rfl⟩) ?_ ?_
    rotate_left
    · simp only [Act.put, List.setIfInBounds_toArray, List.set_cons_zero, List.set_cons_succ, i64_w, i32_w]
      rfl
    refine pure_ (i := 18) (N := some 66) (v := undef) (a' := ?_) #[true, true, true, true, true, true, true, true, true, true, true, true, true, true, true, true, true, true, true, false, false, false] rfl rfl (any_of HT_.out (by kernel_rfl)) (fun _ _ _ h => h) (Or.inr ⟨by rfl, rfl⟩) ?_ ?_
    rotate_left
    · simp only [Act.put, List.setIfInBounds_toArray, List.set_cons_zero, List.set_cons_succ, i64_w, i32_w]
      rfl
    refine pu 19 (some 67) #[true, true, true, true, true, true, true, true, true, true, true, true, true, true, true, true, true, true, true, true, false, false] rfl rfl (any_of HT_.out (by kernel_rfl)) (Or.inl ⟨by rfl, by intro w'; go_simp; with_reducible rfl⟩) ?_
    refine pu 20 (some 68) #[true, true, true, true, true, true, true, true, true, true, true, true, true, true, true, true, true, true, true, true, true, false] rfl rfl (any_of HT_.out (by kernel_rfl)) (Or.inl ⟨by rfl, by intro w'; go_simp; with_reducible rfl⟩) ?_
    refine pu 21 (some 69) #[true, true, true, true, true, true, true, true, true, true, true, true, true, true, true, true, true, true, true, true, true, true] rfl rfl (any_of HT_.out (by kernel_rfl)) (Or.inl ⟨by rfl, by intro w'; go_simp; with_reducible rfl⟩) ?_
    refine done_ (done_of HT_.out (by kernel_rfl)) ?_
    try go_wp2
    go_meet
    case rel => exact ⟨_, (true), sq, H', ⟨by first | omega | exact Nat.le_refl _⟩, ⟨by refine kr ?_; exact Kd.R_mono HO693.out (fun _ hk => hk.1)⟩, ⟨by refine kr ?_; exact Kd.R_mono HO703.out (fun _ hk => hk.1)⟩, ⟨kqR HO699.out⟩, ⟨kqR HO713.out⟩, ⟨kqR HO722.out⟩, ⟨zq BK700.out⟩, ⟨zq BK716.out⟩, ⟨zq BK725.out⟩, ⟨bq3 HB.out GE700.out GE716.out GE725.out⟩⟩
  subst c37
  replace H : ((impl_PutVal.f k (([] : List Int)) t708 t709 t710 t711).bind fun t730 => (if 0 ≤ t705 then (if t705 ≤ t714 then (if t714 ≤ (t704.length : Int) then ((laws_sameBytes.f k t730 ((t704.take (t714 : Int).toNat).drop (t705 : Int).toNat)).bind fun t737 => (laws_FnVals.j0 k l0 t691 t701 (!t737) t694 t695 t696 t697)) else (none)) else (none)) else (none))) = some r := by rw [if_pos rfl] at H; exact H
  obtain ⟨y727, hy727⟩ : ∃ y_ : List Int, y_ = (([] : List Int)) := ⟨_, rfl⟩
  replace H : ((impl_PutVal.f k y727 t708 t709 t710 t711).bind fun t730 => (if 0 ≤ t705 then (if t705 ≤ t714 then (if t714 ≤ (t704.length : Int) then ((laws_sameBytes.f k t730 ((t704.take (t714 : Int).toNat).drop (t705 : Int).toNat)).bind fun t737 => (laws_FnVals.j0 k l0 t691 t701 (!t737) t694 t695 t696 t697)) else (none)) else (none)) else (none))) = some r := hx H hy727
  have Ny727 := am hy727
  clear hy727
  replace H := Option.bind_eq_some_iff.mp H
  obtain ⟨t730, A380, H⟩ := H
  replace H : (if 0 ≤ t705 then (if t705 ≤ t714 then (if t714 ≤ (t704.length : Int) then ((laws_sameBytes.f k t730 ((t704.take (t714 : Int).toNat).drop (t705 : Int).toNat)).bind fun t737 => (laws_FnVals.j0 k l0 t691 t701 (!t737) t694 t695 t696 t697)) else (none)) else (none)) else (none)) = some r := H
  have A38 := am A380
  clear A380
  by_cases c39 : 0 ≤ t705
  rotate_left
  · rw [if_neg c39] at H
    exact absurd H (by simp)
  rw [if_pos c39] at H
  have c39b0 := eq_true c39
  have c39b1 : decide (0 ≤ t705) = true := decide_eq_true c39
  clear c39
  by_cases c40 : t705 ≤ t714
  rotate_left
  · rw [if_neg c40] at H
    exact absurd H (by simp)
  rw [if_pos c40] at H
  have c40b0 := eq_true c40
  have c40b1 : decide (t705 ≤ t714) = true := decide_eq_true c40
  clear c40
  by_cases c41 : t714 ≤ (t704.length : Int)
  rotate_left
  · rw [if_neg c41] at H
    exact absurd H (by simp)
  rw [if_pos c41] at H
  have c41b0 := eq_true c41
  have c41b1 : decide (t714 ≤ (t704.length : Int)) = true := decide_eq_true c41
  clear c41
  obtain ⟨y733, hy733⟩ : ∃ y_ : List Int, y_ = ((t704.take (t714 : Int).toNat).drop (t705 : Int).toNat) := ⟨_, rfl⟩
  replace H : ((laws_sameBytes.f k t730 y733).bind fun t737 => (laws_FnVals.j0 k l0 t691 t701 (!t737) t694 t695 t696 t697)) = some r := hx H hy733
  have Ny733 := am hy733
  clear hy733
  replace H := Option.bind_eq_some_iff.mp H
  obtain ⟨t737, A420, H⟩ := H
  replace H : (laws_FnVals.j0 k l0 t691 t701 (!t737) t694 t695 t696 t697) = some r := H
  have A42 := am A420
  clear A420
  have H' := am H
  clear H
  try go_wp2
  have n_ := ak10 (Kd.R_drew HO693.out) (Kd.R_drew HO699.out) (Kd.R_drew HO703.out) (Kd.R_drew HO707.out) (Kd.R_drew HO713.out) (Kd.R_drew HO722.out) (blk_drew BK700.out) (blk_drew BK716.out) (blk_drew BK725.out) (below_drew1 HB.out)
  clear HO693 HO699 HO703 HO707 HO713 HO722 BK700 BK716 BK725 HB
  obtain ⟨HO693, HO699, HO703, HO707, HO713, HO722, BK700, BK716, BK725, HB⟩ := n_
  have q49 : (t714 : Int) ≤ ((t704.length : Int) : Int) := oda
  obtain ⟨i049, hi049, _, hsz49, _⟩ := info_parts info5
  have hroom49 : t704.length ≤ co19 := (Kd.R_reads' HO707.out).2.1
  have ql49 : (t705 : Int) ≤ (t714 : Int) := oda
  have q049 : (0 : Int) ≤ (t705 : Int) := oda
  have hcut49 := cut_mid (P := Try.prog) 22 5 .i64 .i64 Try.underlying22 hi049 1 hsz49 Ao19 t704.length co19 t705 t714 q049 ql49 q49 hroom49
  obtain ⟨A49, hA49⟩ : ∃ A1, A1 = (if co19 = (t705 : Int).toNat then Ao19 else (Ao19 : Option Addr).map (·.add ((t705 : Int).toNat * 1))) := ⟨_, rfl⟩
  obtain ⟨c49, hc49⟩ : ∃ c1, c1 = co19 - (t705 : Int).toNat := ⟨_, rfl⟩
  have hy49 : y733.length = (t714 : Int).toNat - (t705 : Int).toNat := (by rw [Ny733.out, List.length_drop, List.length_take] <;> omega)
  rw [← hy49, ← hA49, ← hc49] at hcut49
  clear hi049 hsz49
  have HHhA49 := am hA49
  have HHhc49 := am hc49
  have HHhy49 := am hy49
  clear hA49 hc49 hy49
  refine start_ (n := 22) (S := fun w' => w'.cell? ⟨gb716, 0, none⟩ = some (.int .i64 t708) ∧ w'.cell? ⟨gb716, 1, none⟩ = some (.int .i64 t709) ∧ w'.cell? ⟨gb716, 2, none⟩ = some (.string t710) ∧ w'.cell? ⟨gb716, 3, none⟩ = some (.slice Ao24 t711.length co24)) (ds := []) #[false, false, false, false, false, false, false, false, false, false, false, false, false, false, false, false, false, false, false, false, false, false] (by kernel_rfl) rfl rfl ⟨(blk_cell BK716.out 0).trans rfl, (blk_cell BK716.out 1).trans rfl, (blk_cell BK716.out 2).trans rfl, (blk_cell BK716.out 3).trans rfl⟩ (fun hHeld => ?_); refine with_tabW laws_FnVals.tab8 laws_FnVals.bits8 (fun HT_ HW_ => ?_)
  generalize w32.drew = w43 at HO693 HO699 HO703 HO707 HO713 HO722 BK700 BK716 BK725 HB hHeld ⊢
  refine pu 0 (some 48) #[true, false, false, false, false, false, false, false, false, false, false, false, false, false, false, false, false, false, false, false, false, false] rfl rfl (any_of HT_.out (by kernel_rfl)) (Or.inl ⟨by rfl, by intro w'; go_simp; with_reducible rfl⟩) ?_
  refine pu 1 (some 49) #[true, true, false, false, false, false, false, false, false, false, false, false, false, false, false, false, false, false, false, false, false, false] rfl rfl (any_of HT_.out (by kernel_rfl)) (Or.inl ⟨by rfl, by intro w'; go_simp; with_reducible rfl⟩) ?_
  refine pu 2 (some 50) #[true, true, true, false, false, false, false, false, false, false, false, false, false, false, false, false, false, false, false, false, false, false] rfl rfl (any_of HT_.out (by kernel_rfl)) (Or.inl ⟨by rfl, by intro w'; go_simp; with_reducible rfl⟩) ?_
  refine pu 3 (some 51) #[true, true, true, true, false, false, false, false, false, false, false, false, false, false, false, false, false, false, false, false, false, false] rfl rfl (any_of HT_.out (by kernel_rfl)) (Or.inl ⟨by rfl, by intro w'; go_simp; with_reducible rfl⟩) ?_
  refine pu 4 (some 52) #[true, true, true, true, true, false, false, false, false, false, false, false, false, false, false, false, false, false, false, false, false, false] rfl rfl (any_of HT_.out (by kernel_rfl)) (Or.inl ⟨by rfl, by intro w'; go_simp; with_reducible rfl⟩) ?_
  refine pu 5 (some 53) #[true, true, true, true, true, true, false, false, false, false, false, false, false, false, false, false, false, false, false, false, false, false] rfl rfl (any_of HT_.out (by kernel_rfl)) (Or.inl ⟨by rfl, by intro w'; go_simp; with_reducible rfl⟩) ?_
  refine tk 6 (some 54) #[true, true, true, true, true, true, true, false, false, false, false, false, false, false, false, false, false, false, false, false, false, false] rfl rfl (take_ofW HT_.out HW_.out (by kernel_rfl)) hHeld (Or.inl ⟨by rfl, by rintro w' ⟨s0, s1, s2, s3⟩; go_simp; with_reducible rfl⟩) ?_
  refine one_ (i := 7) (N := some 55) #[true, true, true, true, true, true, true, true, false, false, false, false, false, false, false, false, false, false, false, false, false, false] rfl rfl (one_of HT_.out (by kernel_rfl)) (by decide) (fun K hK => ?_)
  refine goes_ Try.func46 (by kernel_rfl) rfl #[.agg #[.int .i64 t708, .int .i64 t709, .string t710, .slice Ao24 t711.length co24]] (by rfl) rfl rfl ga ?_
  with_reducible refine (impl_ValOk.calls k t708 t709 t710 _ _ t711 true _ ?side1 ?side2 A36.out).mono ?_
  (case side1 => repeat (first | exact (Kd.R_reads' HO713.out).2.2 | (with_reducible refine Kd.C_alloc ?_ _) | (with_reducible refine Kd.C_drewN ?_ _) | (with_reducible refine Kd.C_drew ?_)))
  (case side2 => exact (Kd.R_reads' HO713.out).2.1)
  rintro e w44 ⟨rfl, hb⟩
  refine ⟨_, rfl, ?_⟩
  have n_ := ak10 (Kd.R_below (kqR HO693.out) hb) (Kd.R_below (kqR HO699.out) hb) (Kd.R_below (kqR HO703.out) hb) (Kd.R_below (kqR HO707.out) hb) (Kd.R_below (kqR HO713.out) hb) (Kd.R_below (kqR HO722.out) hb) (blk_below (zb BK700.out) hb) (blk_below (zb BK716.out) hb) (blk_below (zb BK725.out) hb) (below_step (bq3 HB.out GE700.out GE716.out GE725.out) hb)
  clear HO693 HO699 HO703 HO707 HO713 HO722 BK700 BK716 BK725 HB
  obtain ⟨HO693, HO699, HO703, HO707, HO713, HO722, BK700, BK716, BK725, HB⟩ := n_
  (try clear hb)
  refine hK.out _ _ ⟨(blk_cell BK716.out 0).trans rfl, (blk_cell BK716.out 1).trans rfl, (blk_cell BK716.out 2).trans rfl, (blk_cell BK716.out 3).trans rfl⟩ (fun hHeld => ?_)
  clear hK K
  refine norm_ (a' := ?_) ?_ ?_
  rotate_left
  · show Act.put _ (some 55) _ = _
    simp only [Act.put, List.setIfInBounds_toArray, List.set_cons_zero, List.set_cons_succ, i64_w, i32_w]
    rfl
  refine pu 8 (some 56) #[true, true, true, true, true, true, true, true, true, false, false, false, false, false, false, false, false, false, false, false, false, false] rfl rfl (any_of HT_.out (by kernel_rfl)) (Or.inl ⟨by rfl, by intro w'; go_simp; with_reducible rfl⟩) ?_
  refine pu 9 (some 57) #[true, true, true, true, true, true, true, true, true, true, false, false, false, false, false, false, false, false, false, false, false, false] rfl rfl (any_of HT_.out (by kernel_rfl)) (Or.inl ⟨by rfl, by intro w'; go_simp; with_reducible rfl⟩) ?_
  refine pu 13 (some 61) #[true, true, true, true, true, true, true, true, true, true, false, false, false, true, false, false, false, false, false, false, false, false] rfl rfl (any_of HT_.out (by kernel_rfl)) (Or.inl ⟨by rfl, by intro w'; go_simp; with_reducible rfl⟩) ?_
  refine pu 14 (some 62) #[true, true, true, true, true, true, true, true, true, true, false, false, false, true, true, false, false, false, false, false, false, false] rfl rfl (any_of HT_.out (by kernel_rfl)) (Or.inl ⟨by rfl, by intro w'; go_simp; with_reducible rfl⟩) ?_
  refine pu 15 (some 63) #[true, true, true, true, true, true, true, true, true, true, false, false, false, true, true, true, false, false, false, false, false, false] rfl rfl (any_of HT_.out (by kernel_rfl)) (Or.inl ⟨by rfl, by intro w'; go_simp; with_reducible rfl⟩) ?_
  refine pu 16 (some 64) #[true, true, true, true, true, true, true, true, true, true, false, false, false, true, true, true, true, false, false, false, false, false] rfl rfl (any_of HT_.out (by kernel_rfl)) (Or.inl ⟨by rfl, by intro w'; go_simp; with_reducible rfl⟩) ?_
  refine tk 11 (some 59) #[true, true, true, true, true, true, true, true, true, true, false, true, false, true, true, true, true, false, false, false, false, false] rfl rfl (take_ofW HT_.out HW_.out (by kernel_rfl)) hHeld (Or.inl ⟨by rfl, by rintro w' ⟨s0, s1, s2, s3⟩; go_simp; with_reducible rfl⟩) ?_
  refine one_ (i := 10) (N := some 58) #[true, true, true, true, true, true, true, true, true, true, true, true, false, true, true, true, true, false, false, false, false, false] rfl rfl (one_of HT_.out (by kernel_rfl)) (by decide) (fun K hK => ?_)
  refine Kd.R_lit_step (Kd.int .u8) _ 5 ?hg (N := 58) ?hd (xs := ([] : List Int)) (inner := []) (ok := fun _ => True) (okp := fun _ => True) ?hr ?hp (fun _ hk => hk) trivial (Below.refl _ _) (Nat.le_refl _) (by simp) ?_; (case hd => rfl); (case hg => rfl); (case hr => exact gs); (case hp => exact (Reps.none _ _))
  intro v728 w45 ho46 hb hg_ hnew_
  clear hg_ hnew_
  (first | rw [← Ny727.out] at ho46 | (simp only [Int.reduceToNat] at ho46; rw [← Ny727.out] at ho46))
  have n_ := ak11 (Kd.R_elder' (kqR HO693.out) (Kd.R_base ho46) hb) (Kd.R_below (kqR HO699.out) hb) (Kd.R_elder' (kqR HO703.out) (Kd.R_base ho46) hb) (Kd.R_elder' (kqR HO707.out) (Kd.R_base ho46) hb) (Kd.R_below (kqR HO713.out) hb) (Kd.R_below (kqR HO722.out) hb) (Kd.R_lower (Kd.R_new' (Kd.R_new' (Kd.R_new' ho46 (Kd.R_lt (kqR HO693.out))) (Kd.R_lt (kqR HO703.out))) (Kd.R_lt (kqR HO707.out))) (below_size (bq3 HB.out GE700.out GE716.out GE725.out))) (blk_below (zb BK700.out) hb) (blk_below (zb BK716.out) hb) (blk_below (zb BK725.out) hb) (below_step (bq3 HB.out GE700.out GE716.out GE725.out) hb)
  clear HO693 HO699 HO703 HO707 HO713 HO722 BK700 BK716 BK725 HB
  obtain ⟨HO693, HO699, HO703, HO707, HO713, HO722, HO729, BK700, BK716, BK725, HB⟩ := n_
  clear hb ho46
  obtain ⟨Ao47, co47, eo47⟩ := Kd.R_slice HO729.out
  (first | subst eo47 | (injection eo47 with f1_ f2_ f3_; have f4_ := f1_.symm; have f5_ := f3_.symm; clear f1_ f2_ f3_; subst f4_; subst f5_))
  refine hK.out _ _ ⟨(blk_cell BK716.out 0).trans rfl, (blk_cell BK716.out 1).trans rfl, (blk_cell BK716.out 2).trans rfl, (blk_cell BK716.out 3).trans rfl⟩ (fun hHeld => ?_)
  clear hK K
  refine norm_ (a' := ?_) ?_ ?_
  rotate_left
  · show Act.put _ (some 58) _ = _
    simp only [Act.put, List.setIfInBounds_toArray, List.set_cons_zero, List.set_cons_succ, i64_w, i32_w]
    rfl
  refine one_ (i := 12) (N := some 60) #[true, true, true, true, true, true, true, true, true, true, true, true, true, true, true, true, true, false, false, false, false, false] rfl rfl (one_of HT_.out (by kernel_rfl)) (by decide) (fun K hK => ?_)
  refine goes_ Try.func17 (by kernel_rfl) rfl #[.slice Ao47 y727.length co47, .agg #[.int .i64 t708, .int .i64 t709, .string t710, .slice Ao24 t711.length co24]] (by rfl) rfl rfl ga ?_
  with_reducible refine (impl_PutVal.calls k _ _ y727 t708 t709 t710 _ _ t711 t730 _ ?side1 ?side2 ?side3 ?side4 A38.out).mono ?_
  (case side1 => repeat (first | exact (Kd.R_reads' HO729.out).2.2 | (with_reducible refine Kd.C_alloc ?_ _) | (with_reducible refine Kd.C_drewN ?_ _) | (with_reducible refine Kd.C_drew ?_)))
  (case side2 => exact (Kd.R_reads' HO729.out).2.1)
  (case side3 => repeat (first | exact (Kd.R_reads' HO713.out).2.2 | (with_reducible refine Kd.C_alloc ?_ _) | (with_reducible refine Kd.C_drewN ?_ _) | (with_reducible refine Kd.C_drew ?_)))
  (case side4 => exact (Kd.R_reads' HO713.out).2.1)
  rintro e w48 ⟨v731, rfl, ho0, hb⟩
  refine ⟨_, rfl, ?_⟩
  have n_ := ak12 (Kd.R_elder' (kqR HO693.out) (Kd.R_base ho0) hb) (Kd.R_below (kqR HO699.out) hb) (Kd.R_elder' (kqR HO703.out) (Kd.R_base ho0) hb) (Kd.R_elder' (kqR HO707.out) (Kd.R_base ho0) hb) (Kd.R_below (kqR HO713.out) hb) (Kd.R_below (kqR HO722.out) hb) (Kd.R_elder' (kqR HO729.out) (Kd.R_base ho0) hb) (Kd.R_lower (Kd.R_new' (Kd.R_new' (Kd.R_new' (Kd.R_new' ho0 (Kd.R_lt (kqR HO693.out))) (Kd.R_lt (kqR HO703.out))) (Kd.R_lt (kqR HO707.out))) (Kd.R_lt (kqR HO729.out))) (below_size (bq3 HB.out GE700.out GE716.out GE725.out))) (blk_below (zb BK700.out) hb) (blk_below (zb BK716.out) hb) (blk_below (zb BK725.out) hb) (below_step (bq3 HB.out GE700.out GE716.out GE725.out) hb)
  clear HO693 HO699 HO703 HO707 HO713 HO722 HO729 BK700 BK716 BK725 HB
  obtain ⟨HO693, HO699, HO703, HO707, HO713, HO722, HO729, HO732, BK700, BK716, BK725, HB⟩ := n_
  (try clear hb ho0)
  have hA49 := HHhA49.out
  have hc49 := HHhc49.out
  have hy49 := HHhy49.out
  have hC49 : Kd.C (Kd.int .u8) _ Ao19 t704.length t704 := (Kd.R_reads' HO707.out).2.2
  have hr49 := Kd.C_mid (lo := (t705 : Int).toNat) (hi := (t714 : Int).toNat) (c := co19) hC49 (by omega) (by omega) hroom49
  rw [show ((t704).take (t714 : Int).toNat).drop (t705 : Int).toNat = y733 from Ny733.out.symm] at hr49
  replace hr49 : Kd.C (Kd.int .u8) _ A49 y733.length y733 := (by rw [hA49]; exact hr49)
  have HR736 := am hr49
  have HC736 := am (show y733.length ≤ c49 from by rw [hy49, hc49]; exact Nat.sub_le_sub_right (Nat.le_trans (by omega) hroom49) _)
  clear hr49 hC49 hroom49 hc49
  have KY49 := am hy49
  have KA49 := am hA49
  clear hy49 hA49
  have KL49 := am (show (t714 : Int).toNat ≤ t704.length from by omega)
  have KM49 := am (show (t705 : Int).toNat ≤ (t714 : Int).toNat from by omega)
  replace q49 := eq_true q49
  obtain ⟨Ao50, co50, eo50⟩ := Kd.R_slice HO732.out
  (first | subst eo50 | (injection eo50 with f1_ f2_ f3_; have f4_ := f1_.symm; have f5_ := f3_.symm; clear f1_ f2_ f3_; subst f4_; subst f5_))
  refine hK.out _ _ ⟨(blk_cell BK716.out 0).trans rfl, (blk_cell BK716.out 1).trans rfl, (blk_cell BK716.out 2).trans rfl, (blk_cell BK716.out 3).trans rfl⟩ (fun hHeld => ?_)
  clear hK K
  refine norm_ (a' := ?_) ?_ ?_
  rotate_left
  · show Act.put _ (some 60) _ = _
    simp only [Act.put, List.setIfInBounds_toArray, List.set_cons_zero, List.set_cons_succ, i64_w, i32_w]
    rfl
  refine one_ (i := 17) (N := some 65) #[true, true, true, true, true, true, true, true, true, true, true, true, true, true, true, true, true, true, false, false, false, false] rfl rfl (one_of HT_.out (by kernel_rfl)) (by decide) (fun K hK => ?_)
  refine goes_ Try.func32 (by kernel_rfl) rfl #[.slice Ao50 t730.length co50, .slice A49 y733.length c49] (by rfl) rfl rfl ga ?_
  with_reducible refine (laws_sameBytes.calls k _ _ t730 _ _ y733 t737 _ ?side1 ?side2 ?side3 ?side4 A42.out).mono ?_
  (case side1 => repeat (first | exact (Kd.R_reads' HO732.out).2.2 | (with_reducible refine Kd.C_alloc ?_ _) | (with_reducible refine Kd.C_drewN ?_ _) | (with_reducible refine Kd.C_drew ?_)))
  (case side2 => exact (Kd.R_reads' HO732.out).2.1)
  (case side3 => repeat (first | exact (by repeat (first | (with_reducible exact HR736.out) | (with_reducible refine Kd.C_alloc ?_ _) | (with_reducible refine Kd.C_drewN ?_ _) | (with_reducible refine Kd.C_drew ?_) | exact HR736.out)) | (with_reducible refine Kd.C_alloc ?_ _) | (with_reducible refine Kd.C_drewN ?_ _) | (with_reducible refine Kd.C_drew ?_)))
  (case side4 => exact HC736.out)
  rintro e w' ⟨rfl, ⟨nd, rfl⟩⟩
  refine ⟨_, rfl, ?_⟩
  refine hK.out _ _ ⟨(blk_cell BK716.out 0).trans rfl, (blk_cell BK716.out 1).trans rfl, (blk_cell BK716.out 2).trans rfl, (blk_cell BK716.out 3).trans rfl⟩ (fun hHeld => ?_)
  clear hK K
  refine norm_ (a' := ?_) ?_ ?_
  rotate_left
  · show Act.put _ (some 65) _ = _
    simp only [Act.put, List.setIfInBounds_toArray, List.set_cons_zero, List.set_cons_succ, i64_w, i32_w]
    rfl
  refine pu 18 (some 66) #[true, true, true, true, true, true, true, true, true, true, true, true, true, true, true, true, true, true, true, false, false, false] rfl rfl (any_of HT_.out (by kernel_rfl)) (Or.inl ⟨by rfl, by intro w'; go_simp; with_reducible rfl⟩) ?_
  refine pu 19 (some 67) #[true, true, true, true, true, true, true, true, true, true, true, true, true, true, true, true, true, true, true, true, false, false] rfl rfl (any_of HT_.out (by kernel_rfl)) (Or.inl ⟨by rfl, by intro w'; go_simp; with_reducible rfl⟩) ?_
  refine pu 20 (some 68) #[true, true, true, true, true, true, true, true, true, true, true, true, true, true, true, true, true, true, true, true, true, false] rfl rfl (any_of HT_.out (by kernel_rfl)) (Or.inl ⟨by rfl, by intro w'; go_simp; with_reducible rfl⟩) ?_
  refine pu 21 (some 69) #[true, true, true, true, true, true, true, true, true, true, true, true, true, true, true, true, true, true, true, true, true, true] rfl rfl (any_of HT_.out (by kernel_rfl)) (Or.inl ⟨by rfl, by intro w'; go_simp; with_reducible rfl⟩) ?_
  refine done_ (done_of HT_.out (by kernel_rfl)) ?_
  try go_wp2
  go_meet
  case rel => exact ⟨_, (!t737), sq, H', ⟨by first | omega | exact Nat.le_refl _⟩, ⟨by refine kr ?_; exact Kd.R_mono HO693.out (fun _ hk => hk.1.1.1)⟩, ⟨by refine kr ?_; exact Kd.R_mono HO703.out (fun _ hk => hk.1.1.1)⟩, ⟨kqR HO699.out⟩, ⟨kqR HO713.out⟩, ⟨kqR HO722.out⟩, ⟨zq BK700.out⟩, ⟨zq BK716.out⟩, ⟨zq BK725.out⟩, ⟨bq3 HB.out GE700.out GE716.out GE725.out⟩⟩
 case rest =>
  clear HC9
  try clear c1
  try clear p2
  try clear c3
  try clear c4
  try clear q4
  try clear c17
  try clear c32
  try clear c35
  try clear c37
  try clear c39
  try clear c40
  try clear c41
  try clear c46
  try clear c49
  try clear q49
  try clear q049
  try clear q49
  obtain ⟨kq, x69_8, rfl, HA, HJ8, HO_3, HO_5, HO_701003, HO_717003, HO_726003, BK700, BK716, BK725, HB⟩ := hcut
  cases kq with
  | zero => exact absurd HA.out (by simp [laws_FnVals.j0])
  | succ kj8 =>
   have H := HA.out
   clear HA
   simp only [laws_FnVals.j0] at H
   by_cases c54 : x69_8 = true
   · subst c54
     replace H : (some false) = some r := by rw [if_pos rfl] at H; exact H
     exact absurd ((Option.some.inj H).trans HRT.out) (by decide)
   replace c54 := Bool.eq_false_iff.mpr c54
   subst c54
   replace H : ((spec_ValOk.f kj8 t694 t695 t696 t697).bind fun t738 => (if t738 = true then ((impl_GetVal.f kj8 t701 (t691.length : Int)).bind fun bt741 => ((spec_DrawSameVal.f kj8 l0).bind fun bt750 => (if bt741.2.2.2.2.2 = true then ((impl_SameVal.f kj8 bt741.1 bt741.2.1 bt741.2.2.1 bt741.2.2.2.1 t694 t695 t696 t697).bind fun t764 => (if t764 = true then (if bt741.2.2.2.2.1 = (t701.length : Int) then ((impl_ValOk.f kj8 t694 t695 t696 t697).bind fun t765 => (if t765 = true then ((impl_SameVal.f kj8 bt750.1 bt750.2.1 bt750.2.2.1 bt750.2.2.2.1 bt750.2.2.2.2.1 bt750.2.2.2.2.2.1 bt750.2.2.2.2.2.2.1 bt750.2.2.2.2.2.2.2).bind fun t766 => ((spec_SameVal.f kj8 bt750.1 bt750.2.1 bt750.2.2.1 bt750.2.2.2.1 bt750.2.2.2.2.1 bt750.2.2.2.2.2.1 bt750.2.2.2.2.2.2.1 bt750.2.2.2.2.2.2.2).bind fun t767 => (some (t766 == t767)))) else (some false))) else (some false)) else (some false))) else (some false)))) else ((laws_sameBytes.f kj8 t701 t691).bind fun t739 => (if t739 = true then ((impl_ValOk.f kj8 t694 t695 t696 t697).bind fun t740 => (some (!t740))) else (some false))))) = some r := by rw [if_neg (show ¬ (false = true) by decide)] at H; exact H
   replace H := Option.bind_eq_some_iff.mp H
   obtain ⟨t738, A550, H⟩ := H
   replace H : (if t738 = true then ((impl_GetVal.f kj8 t701 (t691.length : Int)).bind fun bt741 => ((spec_DrawSameVal.f kj8 l0).bind fun bt750 => (if bt741.2.2.2.2.2 = true then ((impl_SameVal.f kj8 bt741.1 bt741.2.1 bt741.2.2.1 bt741.2.2.2.1 t694 t695 t696 t697).bind fun t764 => (if t764 = true then (if bt741.2.2.2.2.1 = (t701.length : Int) then ((impl_ValOk.f kj8 t694 t695 t696 t697).bind fun t765 => (if t765 = true then ((impl_SameVal.f kj8 bt750.1 bt750.2.1 bt750.2.2.1 bt750.2.2.2.1 bt750.2.2.2.2.1 bt750.2.2.2.2.2.1 bt750.2.2.2.2.2.2.1 bt750.2.2.2.2.2.2.2).bind fun t766 => ((spec_SameVal.f kj8 bt750.1 bt750.2.1 bt750.2.2.1 bt750.2.2.2.1 bt750.2.2.2.2.1 bt750.2.2.2.2.2.1 bt750.2.2.2.2.2.2.1 bt750.2.2.2.2.2.2.2).bind fun t767 => (some (t766 == t767)))) else (some false))) else (some false)) else (some false))) else (some false)))) else ((laws_sameBytes.f kj8 t701 t691).bind fun t739 => (if t739 = true then ((impl_ValOk.f kj8 t694 t695 t696 t697).bind fun t740 => (some (!t740))) else (some false)))) = some r := H
   have A55 := am A550
   clear A550
   by_cases c56 : t738 = true
   rotate_left
   · replace c56 := Bool.eq_false_iff.mpr c56
     subst c56
     replace H : ((laws_sameBytes.f kj8 t701 t691).bind fun t739 => (if t739 = true then ((impl_ValOk.f kj8 t694 t695 t696 t697).bind fun t740 => (some (!t740))) else (some false))) = some r := by rw [if_neg (show ¬ (false = true) by decide)] at H; exact H
     replace H := Option.bind_eq_some_iff.mp H
     obtain ⟨t739, A1030, H⟩ := H
     replace H : (if t739 = true then ((impl_ValOk.f kj8 t694 t695 t696 t697).bind fun t740 => (some (!t740))) else (some false)) = some r := H
     have A103 := am A1030
     clear A1030
     by_cases c104 : t739 = true
     rotate_left
     · replace c104 := Bool.eq_false_iff.mpr c104
       subst c104
       replace H : (some false) = some r := by rw [if_neg (show ¬ (false = true) by decide)] at H; exact H
       exact absurd ((Option.some.inj H).trans HRT.out) (by decide)
     subst c104
     replace H : ((impl_ValOk.f kj8 t694 t695 t696 t697).bind fun t740 => (some (!t740))) = some r := by rw [if_pos rfl] at H; exact H
     replace H := Option.bind_eq_some_iff.mp H
     obtain ⟨t740, A1050, H⟩ := H
     replace H : (some (!t740)) = some r := H
     have A105 := am A1050
     clear A1050
     obtain rfl := Option.some.inj H
     have hnb106 := NB700_716.out
     have hnc106 := NB716_700.out
     have hnb107 := NB700_725.out
     have hnc107 := NB725_700.out
     obtain ⟨hcz108_0, hcz108_1, hcz108_2, hcz108_3, hfz108_0, hfz108_1, hfz108_2, hfz108_3⟩ := cl4 BK700.out
     go_wp2_with (first | ((with_reducible refine gate_callee (f := 47) rfl ?_); refine goesL_ (some 71) rfl rfl Try.func47 (by kernel_rfl) rfl #[.agg #[.int .i64 t694, .int .i64 t695, .string t696, .slice Ao13 t697.length co13]] rfl ga ?_; (with_reducible refine (spec_ValOk.calls kj8 t694 t695 t696 _ _ t697 false _ ?side1 ?side2 A55.out).mono ?_); (case side1 => repeat (first | exact (Kd.R_reads' HO_701003.out).2.2 | (with_reducible refine Kd.C_alloc ?_ _) | (with_reducible refine Kd.C_drewN ?_ _) | (with_reducible refine Kd.C_drew ?_))); (case side2 => exact (Kd.R_reads' HO_701003.out).2.1); rintro e w109 ⟨rfl, hb⟩; refine ⟨_, rfl, ?_⟩; have n_ := ak9 (Kd.R_below (kqR HO_3.out) hb) (Kd.R_below (kqR HO_5.out) hb) (Kd.R_below (kqR HO_701003.out) hb) (Kd.R_below (kqR HO_717003.out) hb) (Kd.R_below (kqR HO_726003.out) hb) (blk_below (zb BK700.out) hb) (blk_below (zb BK716.out) hb) (blk_below (zb BK725.out) hb) (below_step (bq3 HB.out GE700.out GE716.out GE725.out) hb); clear HO_3 HO_5 HO_701003 HO_717003 HO_726003 BK700 BK716 BK725 HB; obtain ⟨HO_3, HO_5, HO_701003, HO_717003, HO_726003, BK700, BK716, BK725, HB⟩ := n_; (try clear hb); obtain ⟨Ao110, co110, eo110⟩ := Kd.R_slice HO_5.out; subst eo110) | ((with_reducible refine gate_callee (f := 32) rfl ?_); refine goesL_ (some 75) rfl rfl Try.func32 (by kernel_rfl) rfl #[.slice Ao110 t701.length co110, .slice Ao16 t691.length co16] rfl ga ?_; (with_reducible refine (laws_sameBytes.calls kj8 _ _ t701 _ _ t691 true _ ?side1 ?side2 ?side3 ?side4 A103.out).mono ?_); (case side1 => repeat (first | exact (Kd.R_reads' HO_5.out).2.2 | (with_reducible refine Kd.C_alloc ?_ _) | (with_reducible refine Kd.C_drewN ?_ _) | (with_reducible refine Kd.C_drew ?_))); (case side2 => exact (Kd.R_reads' HO_5.out).2.1); (case side3 => repeat (first | exact (Kd.R_reads' HO_3.out).2.2 | (with_reducible refine Kd.C_alloc ?_ _) | (with_reducible refine Kd.C_drewN ?_ _) | (with_reducible refine Kd.C_drew ?_))); (case side4 => exact (Kd.R_reads' HO_3.out).2.1); rintro e w' ⟨rfl, ⟨nd, rfl⟩⟩; refine ⟨_, rfl, ?_⟩; obtain ⟨hcz111_0, hcz111_1, hcz111_2, hcz111_3, hfz111_0, hfz111_1, hfz111_2, hfz111_3⟩ := cl4 BK700.out) | (go_at_call 46; (with_reducible refine (impl_ValOk.calls kj8 t694 t695 t696 _ _ t697 t740 _ ?side1 ?side2 A105.out).mono ?_); (case side1 => repeat (first | exact (Kd.R_reads' HO_701003.out).2.2 | (with_reducible refine Kd.C_alloc ?_ _) | (with_reducible refine Kd.C_drewN ?_ _) | (with_reducible refine Kd.C_drew ?_))); (case side2 => exact (Kd.R_reads' HO_701003.out).2.1); rintro e w112 ⟨rfl, hb⟩; have n_ := ak9 (Kd.R_below (kqR HO_3.out) hb) (Kd.R_below (kqR HO_5.out) hb) (Kd.R_below (kqR HO_701003.out) hb) (Kd.R_below (kqR HO_717003.out) hb) (Kd.R_below (kqR HO_726003.out) hb) (blk_below (zb BK700.out) hb) (blk_below (zb BK716.out) hb) (blk_below (zb BK725.out) hb) (below_step (bq3 HB.out GE700.out GE716.out GE725.out) hb); clear HO_3 HO_5 HO_701003 HO_717003 HO_726003 BK700 BK716 BK725 HB; obtain ⟨HO_3, HO_5, HO_701003, HO_717003, HO_726003, BK700, BK716, BK725, HB⟩ := n_; (try clear hb)))
     go_ret
     exact ⟨rq, bq3 HB.out GE700.out GE716.out GE725.out⟩
   subst c56
   replace H : ((impl_GetVal.f kj8 t701 (t691.length : Int)).bind fun bt741 => ((spec_DrawSameVal.f kj8 l0).bind fun bt750 => (if bt741.2.2.2.2.2 = true then ((impl_SameVal.f kj8 bt741.1 bt741.2.1 bt741.2.2.1 bt741.2.2.2.1 t694 t695 t696 t697).bind fun t764 => (if t764 = true then (if bt741.2.2.2.2.1 = (t701.length : Int) then ((impl_ValOk.f kj8 t694 t695 t696 t697).bind fun t765 => (if t765 = true then ((impl_SameVal.f kj8 bt750.1 bt750.2.1 bt750.2.2.1 bt750.2.2.2.1 bt750.2.2.2.2.1 bt750.2.2.2.2.2.1 bt750.2.2.2.2.2.2.1 bt750.2.2.2.2.2.2.2).bind fun t766 => ((spec_SameVal.f kj8 bt750.1 bt750.2.1 bt750.2.2.1 bt750.2.2.2.1 bt750.2.2.2.2.1 bt750.2.2.2.2.2.1 bt750.2.2.2.2.2.2.1 bt750.2.2.2.2.2.2.2).bind fun t767 => (some (t766 == t767)))) else (some false))) else (some false)) else (some false))) else (some false)))) = some r := by rw [if_pos rfl] at H; exact H
   replace H := Option.bind_eq_some_iff.mp H
   obtain ⟨⟨t741, t742, t743, t744, t747, t748⟩, A570, H⟩ := H
   replace H : ((spec_DrawSameVal.f kj8 l0).bind fun bt750 => (if t748 = true then ((impl_SameVal.f kj8 t741 t742 t743 t744 t694 t695 t696 t697).bind fun t764 => (if t764 = true then (if t747 = (t701.length : Int) then ((impl_ValOk.f kj8 t694 t695 t696 t697).bind fun t765 => (if t765 = true then ((impl_SameVal.f kj8 bt750.1 bt750.2.1 bt750.2.2.1 bt750.2.2.2.1 bt750.2.2.2.2.1 bt750.2.2.2.2.2.1 bt750.2.2.2.2.2.2.1 bt750.2.2.2.2.2.2.2).bind fun t766 => ((spec_SameVal.f kj8 bt750.1 bt750.2.1 bt750.2.2.1 bt750.2.2.2.1 bt750.2.2.2.2.1 bt750.2.2.2.2.2.1 bt750.2.2.2.2.2.2.1 bt750.2.2.2.2.2.2.2).bind fun t767 => (some (t766 == t767)))) else (some false))) else (some false)) else (some false))) else (some false))) = some r := H
   have A57 := am A570
   clear A570
   replace H := Option.bind_eq_some_iff.mp H
   obtain ⟨⟨t750, t751, t752, t753, t756, t757, t758, t759⟩, A580, H⟩ := H
   replace H : (if t748 = true then ((impl_SameVal.f kj8 t741 t742 t743 t744 t694 t695 t696 t697).bind fun t764 => (if t764 = true then (if t747 = (t701.length : Int) then ((impl_ValOk.f kj8 t694 t695 t696 t697).bind fun t765 => (if t765 = true then ((impl_SameVal.f kj8 t750 t751 t752 t753 t756 t757 t758 t759).bind fun t766 => ((spec_SameVal.f kj8 t750 t751 t752 t753 t756 t757 t758 t759).bind fun t767 => (some (t766 == t767)))) else (some false))) else (some false)) else (some false))) else (some false)) = some r := H
   have A58 := am A580
   clear A580
   by_cases c59 : t748 = true
   rotate_left
   · replace c59 := Bool.eq_false_iff.mpr c59
     subst c59
     replace H : (some false) = some r := by rw [if_neg (show ¬ (false = true) by decide)] at H; exact H
     exact absurd ((Option.some.inj H).trans HRT.out) (by decide)
   subst c59
   replace H : ((impl_SameVal.f kj8 t741 t742 t743 t744 t694 t695 t696 t697).bind fun t764 => (if t764 = true then (if t747 = (t701.length : Int) then ((impl_ValOk.f kj8 t694 t695 t696 t697).bind fun t765 => (if t765 = true then ((impl_SameVal.f kj8 t750 t751 t752 t753 t756 t757 t758 t759).bind fun t766 => ((spec_SameVal.f kj8 t750 t751 t752 t753 t756 t757 t758 t759).bind fun t767 => (some (t766 == t767)))) else (some false))) else (some false)) else (some false))) = some r := by rw [if_pos rfl] at H; exact H
   replace H := Option.bind_eq_some_iff.mp H
   obtain ⟨t764, A600, H⟩ := H
   replace H : (if t764 = true then (if t747 = (t701.length : Int) then ((impl_ValOk.f kj8 t694 t695 t696 t697).bind fun t765 => (if t765 = true then ((impl_SameVal.f kj8 t750 t751 t752 t753 t756 t757 t758 t759).bind fun t766 => ((spec_SameVal.f kj8 t750 t751 t752 t753 t756 t757 t758 t759).bind fun t767 => (some (t766 == t767)))) else (some false))) else (some false)) else (some false)) = some r := H
   have A60 := am A600
   clear A600
   by_cases c61 : t764 = true
   rotate_left
   · replace c61 := Bool.eq_false_iff.mpr c61
     subst c61
     replace H : (some false) = some r := by rw [if_neg (show ¬ (false = true) by decide)] at H; exact H
     exact absurd ((Option.some.inj H).trans HRT.out) (by decide)
   subst c61
   replace H : (if t747 = (t701.length : Int) then ((impl_ValOk.f kj8 t694 t695 t696 t697).bind fun t765 => (if t765 = true then ((impl_SameVal.f kj8 t750 t751 t752 t753 t756 t757 t758 t759).bind fun t766 => ((spec_SameVal.f kj8 t750 t751 t752 t753 t756 t757 t758 t759).bind fun t767 => (some (t766 == t767)))) else (some false))) else (some false)) = some r := by rw [if_pos rfl] at H; exact H
   by_cases c62 : t747 = (t701.length : Int)
   rotate_left
   · rw [if_neg c62] at H
     have c62b0 : (t747 == (t701.length : Int)) = false := beq_eq_false_iff_ne.mpr c62
     have c62b1 : (t747 != (t701.length : Int)) = true := bne_iff_ne.mpr c62
     exact absurd ((Option.some.inj H).trans HRT.out) (by decide)
   rw [if_pos c62] at H
   have c62b0 : (t747 == (t701.length : Int)) = true := beq_iff_eq.mpr c62
   have c62b1 : (t747 != (t701.length : Int)) = false := bne_eq_false_iff_eq.mpr c62
   clear c62
   replace H := Option.bind_eq_some_iff.mp H
   obtain ⟨t765, A630, H⟩ := H
   replace H : (if t765 = true then ((impl_SameVal.f kj8 t750 t751 t752 t753 t756 t757 t758 t759).bind fun t766 => ((spec_SameVal.f kj8 t750 t751 t752 t753 t756 t757 t758 t759).bind fun t767 => (some (t766 == t767)))) else (some false)) = some r := H
   have A63 := am A630
   clear A630
   by_cases c64 : t765 = true
   rotate_left
   · replace c64 := Bool.eq_false_iff.mpr c64
     subst c64
     replace H : (some false) = some r := by rw [if_neg (show ¬ (false = true) by decide)] at H; exact H
     exact absurd ((Option.some.inj H).trans HRT.out) (by decide)
   subst c64
   replace H : ((impl_SameVal.f kj8 t750 t751 t752 t753 t756 t757 t758 t759).bind fun t766 => ((spec_SameVal.f kj8 t750 t751 t752 t753 t756 t757 t758 t759).bind fun t767 => (some (t766 == t767)))) = some r := by rw [if_pos rfl] at H; exact H
   replace H := Option.bind_eq_some_iff.mp H
   obtain ⟨t766, A650, H⟩ := H
   replace H : ((spec_SameVal.f kj8 t750 t751 t752 t753 t756 t757 t758 t759).bind fun t767 => (some (t766 == t767))) = some r := H
   have A65 := am A650
   clear A650
   replace H := Option.bind_eq_some_iff.mp H
   obtain ⟨t767, A660, H⟩ := H
   replace H : (some (t766 == t767)) = some r := H
   have A66 := am A660
   clear A660
   obtain rfl := Option.some.inj H
   have hnb67 := NB700_716.out
   have hnc67 := NB716_700.out
   have hnb68 := NB700_725.out
   have hnc68 := NB725_700.out
   obtain ⟨hcz69_0, hcz69_1, hcz69_2, hcz69_3, hfz69_0, hfz69_1, hfz69_2, hfz69_3⟩ := cl4 BK700.out
   try go_wp2_with (first | ((with_reducible refine gate_callee (f := 47) rfl ?_); refine goesL_ (some 71) rfl rfl Try.func47 (by kernel_rfl) rfl #[.agg #[.int .i64 t694, .int .i64 t695, .string t696, .slice Ao13 t697.length co13]] rfl ga ?_; (with_reducible refine (spec_ValOk.calls kj8 t694 t695 t696 _ _ t697 true _ ?side1 ?side2 A55.out).mono ?_); (case side1 => repeat (first | exact (Kd.R_reads' HO_701003.out).2.2 | (with_reducible refine Kd.C_alloc ?_ _) | (with_reducible refine Kd.C_drewN ?_ _) | (with_reducible refine Kd.C_drew ?_))); (case side2 => exact (Kd.R_reads' HO_701003.out).2.1); rintro e w70 ⟨rfl, hb⟩; refine ⟨_, rfl, ?_⟩; have n_ := ak9 (Kd.R_below (kqR HO_3.out) hb) (Kd.R_below (kqR HO_5.out) hb) (Kd.R_below (kqR HO_701003.out) hb) (Kd.R_below (kqR HO_717003.out) hb) (Kd.R_below (kqR HO_726003.out) hb) (blk_below (zb BK700.out) hb) (blk_below (zb BK716.out) hb) (blk_below (zb BK725.out) hb) (below_step (bq3 HB.out GE700.out GE716.out GE725.out) hb); clear HO_3 HO_5 HO_701003 HO_717003 HO_726003 BK700 BK716 BK725 HB; obtain ⟨HO_3, HO_5, HO_701003, HO_717003, HO_726003, BK700, BK716, BK725, HB⟩ := n_; (try clear hb); obtain ⟨Ao71, co71, eo71⟩ := Kd.R_slice HO_5.out; subst eo71) | ((with_reducible refine gate_callee (f := 36) rfl ?_); refine goesL_ (some 85) rfl rfl Try.func36 (by kernel_rfl) rfl #[.slice Ao71 t701.length co71, .int .i64 (t691.length : Int)] rfl ga ?_; (with_reducible refine (impl_GetVal.calls kj8 _ _ t701 (t691.length : Int) t741 t742 t743 t744 t747 true _ ?side1 ?side2 A57.out).mono ?_); (case side1 => repeat (first | exact (Kd.R_reads' HO_5.out).2.2 | (with_reducible refine Kd.C_alloc ?_ _) | (with_reducible refine Kd.C_drewN ?_ _) | (with_reducible refine Kd.C_drew ?_))); (case side2 => exact (Kd.R_reads' HO_5.out).2.1); rintro e w72 ⟨v745, rfl, ho0, hb⟩; refine ⟨_, rfl, ?_⟩; have n_ := ak10 (Kd.R_below (kqR HO_3.out) hb) (Kd.R_below (kqR HO_5.out) hb) (Kd.R_elder' (kqR HO_701003.out) (Kd.R_base ho0) hb) (Kd.R_elder' (kqR HO_717003.out) (Kd.R_base ho0) hb) (Kd.R_elder' (kqR HO_726003.out) (Kd.R_base ho0) hb) (Kd.R_lower (Kd.R_new' (Kd.R_new' (Kd.R_new' ho0 (Kd.R_lt (kqR HO_701003.out))) (Kd.R_lt (kqR HO_717003.out))) (Kd.R_lt (kqR HO_726003.out))) (below_size (bq3 HB.out GE700.out GE716.out GE725.out))) (blk_below (zb BK700.out) hb) (blk_below (zb BK716.out) hb) (blk_below (zb BK725.out) hb) (below_step (bq3 HB.out GE700.out GE716.out GE725.out) hb); clear HO_3 HO_5 HO_701003 HO_717003 HO_726003 BK700 BK716 BK725 HB; obtain ⟨HO_3, HO_5, HO_701003, HO_717003, HO_726003, HO746, BK700, BK716, BK725, HB⟩ := n_; (try clear hb ho0)) | ((with_reducible refine gate_dst (N := 14) rfl ?_); (try (refine gate_guard (by rfl) ?_; dsimp only)); refine bxe 14 #[.int .i64 0, .int .i64 0, .string (⟨#[]⟩ : ByteArray), .slice none 0 0] 29 ?_; intro gb749 hg w73 hbox hb; have n0_ := am (Kd.R_below (kqR HO_3.out) hb); have n1_ := am (Kd.R_below (kqR HO_5.out) hb); have n2_ := am (Kd.R_below (kqR HO_701003.out) hb); have n3_ := am (Kd.R_below (kqR HO_717003.out) hb); have n4_ := am (Kd.R_below (kqR HO_726003.out) hb); have n5_ := am (Kd.R_below (kqR HO746.out) hb); have n6_ := am (blk_below (zb BK700.out) hb); have n7_ := am (blk_below (zb BK716.out) hb); have n8_ := am (blk_below (zb BK725.out) hb); have n9_ := am (below_step (bq3 HB.out GE700.out GE716.out GE725.out) hb); have n10_ := am (hbox); have n11_ := am ((by rw [hg]; exact (below_size (bq3 HB.out GE700.out GE716.out GE725.out)) : w.heap.size ≤ gb749)); have n12_ := am ((by rw [hg]; exact (below_size (bq3 HB.out GE700.out GE716.out GE725.out)) : w.heap.size ≤ gb749)); have n13_ := am ((nlt hg (zb BK700.out) : gb700 ≠ gb749)); have n14_ := am ((ngt hg (zb BK700.out) : gb749 ≠ gb700)); have n15_ := am ((nlt hg (zb BK716.out) : gb716 ≠ gb749)); have n16_ := am ((ngt hg (zb BK716.out) : gb749 ≠ gb716)); have n17_ := am ((nlt hg (zb BK725.out) : gb725 ≠ gb749)); have n18_ := am ((ngt hg (zb BK725.out) : gb749 ≠ gb725)); clear HO_3; clear HO_5; clear HO_701003; clear HO_717003; clear HO_726003; clear HO746; clear BK700; clear BK716; clear BK725; clear HB; have HO_3 := n0_; have HO_5 := n1_; have HO_701003 := n2_; have HO_717003 := n3_; have HO_726003 := n4_; have HO746 := n5_; have BK700 := n6_; have BK716 := n7_; have BK725 := n8_; have HB := n9_; have BK749 := n10_; have GW749 := n11_; have GE749 := n12_; have NB700_749 := n13_; have NB749_700 := n14_; have NB716_749 := n15_; have NB749_716 := n16_; have NB725_749 := n17_; have NB749_725 := n18_; clear n0_ n1_ n2_ n3_ n4_ n5_ n6_ n7_ n8_ n9_ n10_ n11_ n12_ n13_ n14_ n15_ n16_ n17_ n18_; clear hb hbox hg; have hnb74 := NB749_700.out; have hnc74 := NB700_749.out; have hnb75 := NB749_716.out; have hnc75 := NB716_749.out; have hnb76 := NB749_725.out; have hnc76 := NB725_749.out; obtain ⟨hcz77_0, hcz77_1, hcz77_2, hcz77_3, hfz77_0, hfz77_1, hfz77_2, hfz77_3⟩ := cl4 BK749.out; obtain ⟨Ao78, co78, eo78⟩ := Kd.R_slice HO746.out; subst eo78) | ((with_reducible refine gate_store (t := 29) (p := 14) rfl ?_); refine store_event (t := 29) (p := 14) (v := ?vo_w79) (w1 := ((((w73.setCell ⟨gb749, 0, none⟩ (.int .i64 t741)).setCell ⟨gb749, 1, none⟩ (.int .i64 t742)).setCell ⟨gb749, 2, none⟩ (.string t743)).setCell ⟨gb749, 3, none⟩ (.slice Ao78 t744.length co78))) ?hg ?ho ?hn ?hr ?_; (case ho => rfl); (case hg => rfl); (case hn => rfl); (case hr => exact gs); intro w79 hw; have n_ : Aside0 (Kd.R (Kd.int .u8) 5 w79 w.heap.size (fun k_ => some k_ ≠ (.slice Ao71 t701.length co71 : Value).ownBlock) (.slice Ao16 t691.length co16) t691) ∧ Aside0 (Kd.R (Kd.int .u8) 5 w79 w.heap.size (fun k_ => some k_ ≠ (.slice Ao16 t691.length co16 : Value).ownBlock) (.slice Ao71 t701.length co71) t701) ∧ Aside0 (Kd.R (Kd.int .i64) 3 w79 w.heap.size (fun k_ => some k_ ≠ (.slice Ao24 t711.length co24 : Value).ownBlock ∧ some k_ ≠ (.slice Ao31 t720.length co31 : Value).ownBlock ∧ some k_ ≠ (.slice Ao78 t744.length co78 : Value).ownBlock) (.slice Ao13 t697.length co13) t697) ∧ Aside0 (Kd.R (Kd.int .i64) 3 w79 w.heap.size (fun k_ => some k_ ≠ (.slice Ao13 t697.length co13 : Value).ownBlock ∧ some k_ ≠ (.slice Ao31 t720.length co31 : Value).ownBlock ∧ some k_ ≠ (.slice Ao78 t744.length co78 : Value).ownBlock) (.slice Ao24 t711.length co24) t711) ∧ Aside0 (Kd.R (Kd.int .i64) 3 w79 w.heap.size (fun k_ => some k_ ≠ (.slice Ao13 t697.length co13 : Value).ownBlock ∧ some k_ ≠ (.slice Ao24 t711.length co24 : Value).ownBlock ∧ some k_ ≠ (.slice Ao78 t744.length co78 : Value).ownBlock) (.slice Ao31 t720.length co31) t720) ∧ Aside0 (Kd.R (Kd.int .i64) 3 w79 w.heap.size (fun k_ => some k_ ≠ (.slice Ao13 t697.length co13 : Value).ownBlock ∧ some k_ ≠ (.slice Ao24 t711.length co24 : Value).ownBlock ∧ some k_ ≠ (.slice Ao31 t720.length co31 : Value).ownBlock) (.slice Ao78 t744.length co78) t744) ∧ Aside0 (w79.heap[gb700]? = some (.cells #[.int .i64 t694, .int .i64 t695, .string t696, .slice Ao13 t697.length co13] 29 (0, 0))) ∧ Aside0 (w79.heap[gb716]? = some (.cells #[.int .i64 t708, .int .i64 t709, .string t710, .slice Ao24 t711.length co24] 29 (0, 0))) ∧ Aside0 (w79.heap[gb725]? = some (.cells #[.int .i64 t717, .int .i64 t718, .string t719, .slice Ao31 t720.length co31] 29 (0, 0))) ∧ Aside0 (w79.heap[gb749]? = some (.cells #[.int .i64 t741, .int .i64 t742, .string t743, .slice Ao78 t744.length co78] 29 (0, 0))) ∧ Aside0 (Below w.heap.size w w79) := ⟨⟨(by rw [hw]; exact (by refine kr ?_; exact Kd.R_mono (rf4 gb749 (.int .i64 t741) (.int .i64 t742) (.string t743) (.slice Ao78 t744.length co78) (Kd.R_types HO_3.out BK749.out (by decide)) (fun _ hk => hk.2)) (fun _ hk => hk.1)))⟩, ⟨(by rw [hw]; exact (by refine kr ?_; exact Kd.R_mono (rf4 gb749 (.int .i64 t741) (.int .i64 t742) (.string t743) (.slice Ao78 t744.length co78) (Kd.R_types HO_5.out BK749.out (by decide)) (fun _ hk => hk.2)) (fun _ hk => hk.1)))⟩, ⟨(by rw [hw]; exact (by refine kr ?_; exact Kd.R_mono (rf4 gb749 (.int .i64 t741) (.int .i64 t742) (.string t743) (.slice Ao78 t744.length co78) (Kd.R_types HO_701003.out BK749.out (by decide)) (fun _ hk => hk.2)) (fun _ hk => ⟨hk.1.1.1, ⟨hk.1.1.2, hk.1.2⟩⟩)))⟩, ⟨(by rw [hw]; exact (by refine kr ?_; exact Kd.R_mono (rf4 gb749 (.int .i64 t741) (.int .i64 t742) (.string t743) (.slice Ao78 t744.length co78) (Kd.R_types HO_717003.out BK749.out (by decide)) (fun _ hk => hk.2)) (fun _ hk => ⟨hk.1.1.1, ⟨hk.1.1.2, hk.1.2⟩⟩)))⟩, ⟨(by rw [hw]; exact (by refine kr ?_; exact Kd.R_mono (rf4 gb749 (.int .i64 t741) (.int .i64 t742) (.string t743) (.slice Ao78 t744.length co78) (Kd.R_types HO_726003.out BK749.out (by decide)) (fun _ hk => hk.2)) (fun _ hk => ⟨hk.1.1.1, ⟨hk.1.1.2, hk.1.2⟩⟩)))⟩, ⟨(by rw [hw]; exact (by refine kr ?_; exact Kd.R_mono (rf4 gb749 (.int .i64 t741) (.int .i64 t742) (.string t743) (.slice Ao78 t744.length co78) (Kd.R_types HO746.out BK749.out (by decide)) (fun _ hk => hk.2)) (fun _ hk => ⟨hk.1.1.1.2, ⟨hk.1.1.2, hk.1.2⟩⟩)))⟩, ⟨(by rw [hw]; exact (by refine zr ?_; refine blk_far ?_ NB700_749.out _; refine zr ?_; refine blk_far ?_ NB700_749.out _; refine zr ?_; refine blk_far ?_ NB700_749.out _; refine zr ?_; refine blk_far ?_ NB700_749.out _; refine zr ?_; exact BK700.out))⟩, ⟨(by rw [hw]; exact (by refine zr ?_; refine blk_far ?_ NB716_749.out _; refine zr ?_; refine blk_far ?_ NB716_749.out _; refine zr ?_; refine blk_far ?_ NB716_749.out _; refine zr ?_; refine blk_far ?_ NB716_749.out _; refine zr ?_; exact BK716.out))⟩, ⟨(by rw [hw]; exact (by refine zr ?_; refine blk_far ?_ NB725_749.out _; refine zr ?_; refine blk_far ?_ NB725_749.out _; refine zr ?_; refine blk_far ?_ NB725_749.out _; refine zr ?_; refine blk_far ?_ NB725_749.out _; refine zr ?_; exact BK725.out))⟩, ⟨(by rw [hw]; exact (by refine zr ?_; exact bp4 (zb BK749.out)))⟩, ⟨(by rw [hw]; exact (bq4 HB.out GE700.out GE716.out GE725.out GE749.out))⟩⟩; clear hw HO_3 HO_5 HO_701003 HO_717003 HO_726003 HO746 BK700 BK716 BK725 BK749 HB; obtain ⟨HO_3, HO_5, HO_701003, HO_717003, HO_726003, HO746, BK700, BK716, BK725, BK749, HB⟩ := n_) | ((with_reducible refine gate_callee (f := 48) rfl ?_); refine goesL_ (some 91) rfl rfl Try.func48 (by kernel_rfl) rfl #[.slice A0 l0.length c0] rfl ga ?_; (with_reducible refine (spec_DrawSameVal.calls kj8 _ _ l0 t750 t751 t752 t753 t756 t757 t758 t759 _ ?side1 ?side2 A58.out).mono ?_); (case side1 => exact cq (Kd.C_below HR0.out HB.out)); (case side2 => exact HC0.out); rintro e w80 ⟨v754, v760, rfl, ho0, ho1, hb⟩; refine ⟨_, rfl, ?_⟩; have n_ := ak13 (Kd.R_below (kqR HO_3.out) hb) (Kd.R_below (kqR HO_5.out) hb) (Kd.R_below (kqR HO_701003.out) hb) (Kd.R_below (kqR HO_717003.out) hb) (Kd.R_below (kqR HO_726003.out) hb) (Kd.R_below (kqR HO746.out) hb) (Kd.V_lower (Kd.V_mono (ok' := fun k_ => some k_ ≠ (.slice Ao16 t691.length co16 : Value).ownBlock ∧ some k_ ≠ (.slice Ao71 t701.length co71 : Value).ownBlock ∧ some k_ ≠ (.slice Ao13 t697.length co13 : Value).ownBlock ∧ some k_ ≠ (.slice Ao24 t711.length co24 : Value).ownBlock ∧ some k_ ≠ (.slice Ao31 t720.length co31 : Value).ownBlock ∧ some k_ ≠ (.slice Ao78 t744.length co78 : Value).ownBlock ∧ k_ ≠ gb700 ∧ k_ ≠ gb716 ∧ k_ ≠ gb725 ∧ k_ ≠ gb749) ho0 (fun k_ hk_ => ⟨(Kd.fresh' (Kd.R_lt (kqR HO_3.out)) k_ hk_), (Kd.fresh' (Kd.R_lt (kqR HO_5.out)) k_ hk_), (Kd.fresh' (Kd.R_lt (kqR HO_701003.out)) k_ hk_), (Kd.fresh' (Kd.R_lt (kqR HO_717003.out)) k_ hk_), (Kd.fresh' (Kd.R_lt (kqR HO_726003.out)) k_ hk_), (Kd.fresh' (Kd.R_lt (kqR HO746.out)) k_ hk_), (Kd.freshB (g := gb700) (o := .cells #[.int .i64 t694, .int .i64 t695, .string t696, .slice Ao13 t697.length co13] 29 (0, 0)) (zq BK700.out) k_ hk_), (Kd.freshB (g := gb716) (o := .cells #[.int .i64 t708, .int .i64 t709, .string t710, .slice Ao24 t711.length co24] 29 (0, 0)) (zq BK716.out) k_ hk_), (Kd.freshB (g := gb725) (o := .cells #[.int .i64 t717, .int .i64 t718, .string t719, .slice Ao31 t720.length co31] 29 (0, 0)) (zq BK725.out) k_ hk_), (Kd.freshB (g := gb749) (o := .cells #[.int .i64 t741, .int .i64 t742, .string t743, .slice Ao78 t744.length co78] 29 (0, 0)) (zq BK749.out) k_ hk_)⟩)) (below_size (bq4 HB.out GE700.out GE716.out GE725.out GE749.out))) (Kd.V_lower (Kd.V_mono (ok' := fun k_ => some k_ ≠ (.slice Ao16 t691.length co16 : Value).ownBlock ∧ some k_ ≠ (.slice Ao71 t701.length co71 : Value).ownBlock ∧ some k_ ≠ (.slice Ao13 t697.length co13 : Value).ownBlock ∧ some k_ ≠ (.slice Ao24 t711.length co24 : Value).ownBlock ∧ some k_ ≠ (.slice Ao31 t720.length co31 : Value).ownBlock ∧ some k_ ≠ (.slice Ao78 t744.length co78 : Value).ownBlock ∧ k_ ≠ gb700 ∧ k_ ≠ gb716 ∧ k_ ≠ gb725 ∧ k_ ≠ gb749) ho1 (fun k_ hk_ => ⟨(Kd.fresh' (Kd.R_lt (kqR HO_3.out)) k_ hk_), (Kd.fresh' (Kd.R_lt (kqR HO_5.out)) k_ hk_), (Kd.fresh' (Kd.R_lt (kqR HO_701003.out)) k_ hk_), (Kd.fresh' (Kd.R_lt (kqR HO_717003.out)) k_ hk_), (Kd.fresh' (Kd.R_lt (kqR HO_726003.out)) k_ hk_), (Kd.fresh' (Kd.R_lt (kqR HO746.out)) k_ hk_), (Kd.freshB (g := gb700) (o := .cells #[.int .i64 t694, .int .i64 t695, .string t696, .slice Ao13 t697.length co13] 29 (0, 0)) (zq BK700.out) k_ hk_), (Kd.freshB (g := gb716) (o := .cells #[.int .i64 t708, .int .i64 t709, .string t710, .slice Ao24 t711.length co24] 29 (0, 0)) (zq BK716.out) k_ hk_), (Kd.freshB (g := gb725) (o := .cells #[.int .i64 t717, .int .i64 t718, .string t719, .slice Ao31 t720.length co31] 29 (0, 0)) (zq BK725.out) k_ hk_), (Kd.freshB (g := gb749) (o := .cells #[.int .i64 t741, .int .i64 t742, .string t743, .slice Ao78 t744.length co78] 29 (0, 0)) (zq BK749.out) k_ hk_)⟩)) (below_size (bq4 HB.out GE700.out GE716.out GE725.out GE749.out))) (blk_below (zb BK700.out) hb) (blk_below (zb BK716.out) hb) (blk_below (zb BK725.out) hb) (blk_below (zb BK749.out) hb) (below_step (bq4 HB.out GE700.out GE716.out GE725.out GE749.out) hb); clear HO_3 HO_5 HO_701003 HO_717003 HO_726003 HO746 BK700 BK716 BK725 BK749 HB; obtain ⟨HO_3, HO_5, HO_701003, HO_717003, HO_726003, HO746, HO755, HO761, BK700, BK716, BK725, BK749, HB⟩ := n_; (try clear hb ho0 ho1)) | ((with_reducible refine gate_dst (N := 17) rfl ?_); (try (refine gate_guard (by rfl) ?_; dsimp only)); refine bxe 17 #[.int .i64 0, .int .i64 0, .string (⟨#[]⟩ : ByteArray), .slice none 0 0] 29 ?_; intro gb762 hg w81 hbox hb; have n0_ := am (Kd.R_below (kqR HO_3.out) hb); have n1_ := am (Kd.R_below (kqR HO_5.out) hb); have n2_ := am (Kd.R_below (kqR HO_701003.out) hb); have n3_ := am (Kd.R_below (kqR HO_717003.out) hb); have n4_ := am (Kd.R_below (kqR HO_726003.out) hb); have n5_ := am (Kd.R_below (kqR HO746.out) hb); have n6_ := am (Kd.V_below (Kd.V_elderB (by (with_reducible repeat (first | apply Kd.V_alloc | apply Kd.V_drewN | apply Kd.V_drew)); exact HO755.out) gb762 (Nat.le_of_eq hg.symm)) hb); have n7_ := am (Kd.V_below (Kd.V_elderB (by (with_reducible repeat (first | apply Kd.V_alloc | apply Kd.V_drewN | apply Kd.V_drew)); exact HO761.out) gb762 (Nat.le_of_eq hg.symm)) hb); have n8_ := am (blk_below (zb BK700.out) hb); have n9_ := am (blk_below (zb BK716.out) hb); have n10_ := am (blk_below (zb BK725.out) hb); have n11_ := am (blk_below (zb BK749.out) hb); have n12_ := am (below_step (bq4 HB.out GE700.out GE716.out GE725.out GE749.out) hb); have n13_ := am (hbox); have n14_ := am ((by rw [hg]; exact (below_size (bq4 HB.out GE700.out GE716.out GE725.out GE749.out)) : w.heap.size ≤ gb762)); have n15_ := am ((by rw [hg]; exact (below_size (bq4 HB.out GE700.out GE716.out GE725.out GE749.out)) : w.heap.size ≤ gb762)); have n16_ := am ((nlt hg (zb BK700.out) : gb700 ≠ gb762)); have n17_ := am ((ngt hg (zb BK700.out) : gb762 ≠ gb700)); have n18_ := am ((nlt hg (zb BK716.out) : gb716 ≠ gb762)); have n19_ := am ((ngt hg (zb BK716.out) : gb762 ≠ gb716)); have n20_ := am ((nlt hg (zb BK725.out) : gb725 ≠ gb762)); have n21_ := am ((ngt hg (zb BK725.out) : gb762 ≠ gb725)); have n22_ := am ((nlt hg (zb BK749.out) : gb749 ≠ gb762)); have n23_ := am ((ngt hg (zb BK749.out) : gb762 ≠ gb749)); clear HO_3; clear HO_5; clear HO_701003; clear HO_717003; clear HO_726003; clear HO746; clear HO755; clear HO761; clear BK700; clear BK716; clear BK725; clear BK749; clear HB; have HO_3 := n0_; have HO_5 := n1_; have HO_701003 := n2_; have HO_717003 := n3_; have HO_726003 := n4_; have HO746 := n5_; have HO755 := n6_; have HO761 := n7_; have BK700 := n8_; have BK716 := n9_; have BK725 := n10_; have BK749 := n11_; have HB := n12_; have BK762 := n13_; have GW762 := n14_; have GE762 := n15_; have NB700_762 := n16_; have NB762_700 := n17_; have NB716_762 := n18_; have NB762_716 := n19_; have NB725_762 := n20_; have NB762_725 := n21_; have NB749_762 := n22_; have NB762_749 := n23_; clear n0_ n1_ n2_ n3_ n4_ n5_ n6_ n7_ n8_ n9_ n10_ n11_ n12_ n13_ n14_ n15_ n16_ n17_ n18_ n19_ n20_ n21_ n22_ n23_; clear hb hbox hg) | ((with_reducible refine gate_dst (N := 18) rfl ?_); (try (refine gate_guard (by rfl) ?_; dsimp only)); refine bxe 18 #[.int .i64 0, .int .i64 0, .string (⟨#[]⟩ : ByteArray), .slice none 0 0] 29 ?_; intro gb763 hg w82 hbox hb; have n0_ := am (Kd.R_below (kqR HO_3.out) hb); have n1_ := am (Kd.R_below (kqR HO_5.out) hb); have n2_ := am (Kd.R_below (kqR HO_701003.out) hb); have n3_ := am (Kd.R_below (kqR HO_717003.out) hb); have n4_ := am (Kd.R_below (kqR HO_726003.out) hb); have n5_ := am (Kd.R_below (kqR HO746.out) hb); have n6_ := am (Kd.V_below (Kd.V_elderB (by (with_reducible repeat (first | apply Kd.V_alloc | apply Kd.V_drewN | apply Kd.V_drew)); exact HO755.out) gb763 (Nat.le_of_eq hg.symm)) hb); have n7_ := am (Kd.V_below (Kd.V_elderB (by (with_reducible repeat (first | apply Kd.V_alloc | apply Kd.V_drewN | apply Kd.V_drew)); exact HO761.out) gb763 (Nat.le_of_eq hg.symm)) hb); have n8_ := am (blk_below (zb BK700.out) hb); have n9_ := am (blk_below (zb BK716.out) hb); have n10_ := am (blk_below (zb BK725.out) hb); have n11_ := am (blk_below (zb BK749.out) hb); have n12_ := am (blk_below (zb BK762.out) hb); have n13_ := am (below_step (bq5 HB.out GE700.out GE716.out GE725.out GE749.out GE762.out) hb); have n14_ := am (hbox); have n15_ := am ((by rw [hg]; exact (below_size (bq5 HB.out GE700.out GE716.out GE725.out GE749.out GE762.out)) : w.heap.size ≤ gb763)); have n16_ := am ((by rw [hg]; exact (below_size (bq5 HB.out GE700.out GE716.out GE725.out GE749.out GE762.out)) : w.heap.size ≤ gb763)); have n17_ := am ((nlt hg (zb BK700.out) : gb700 ≠ gb763)); have n18_ := am ((ngt hg (zb BK700.out) : gb763 ≠ gb700)); have n19_ := am ((nlt hg (zb BK716.out) : gb716 ≠ gb763)); have n20_ := am ((ngt hg (zb BK716.out) : gb763 ≠ gb716)); have n21_ := am ((nlt hg (zb BK725.out) : gb725 ≠ gb763)); have n22_ := am ((ngt hg (zb BK725.out) : gb763 ≠ gb725)); have n23_ := am ((nlt hg (zb BK749.out) : gb749 ≠ gb763)); have n24_ := am ((ngt hg (zb BK749.out) : gb763 ≠ gb749)); have n25_ := am ((nlt hg (zb BK762.out) : gb762 ≠ gb763)); have n26_ := am ((ngt hg (zb BK762.out) : gb763 ≠ gb762)); clear HO_3; clear HO_5; clear HO_701003; clear HO_717003; clear HO_726003; clear HO746; clear HO755; clear HO761; clear BK700; clear BK716; clear BK725; clear BK749; clear BK762; clear HB; have HO_3 := n0_; have HO_5 := n1_; have HO_701003 := n2_; have HO_717003 := n3_; have HO_726003 := n4_; have HO746 := n5_; have HO755 := n6_; have HO761 := n7_; have BK700 := n8_; have BK716 := n9_; have BK725 := n10_; have BK749 := n11_; have BK762 := n12_; have HB := n13_; have BK763 := n14_; have GW763 := n15_; have GE763 := n16_; have NB700_763 := n17_; have NB763_700 := n18_; have NB716_763 := n19_; have NB763_716 := n20_; have NB725_763 := n21_; have NB763_725 := n22_; have NB749_763 := n23_; have NB763_749 := n24_; have NB762_763 := n25_; have NB763_762 := n26_; clear n0_ n1_ n2_ n3_ n4_ n5_ n6_ n7_ n8_ n9_ n10_ n11_ n12_ n13_ n14_ n15_ n16_ n17_ n18_ n19_ n20_ n21_ n22_ n23_ n24_ n25_ n26_; clear hb hbox hg; have hnb83 := NB762_700.out; have hnc83 := NB700_762.out; have hnb84 := NB762_716.out; have hnc84 := NB716_762.out; have hnb85 := NB762_725.out; have hnc85 := NB725_762.out; have hnb86 := NB762_749.out; have hnc86 := NB749_762.out; have hnb87 := NB762_763.out; have hnc87 := NB763_762.out; obtain ⟨hcz88_0, hcz88_1, hcz88_2, hcz88_3, hfz88_0, hfz88_1, hfz88_2, hfz88_3⟩ := cl4 BK762.out; obtain ⟨Ao89, co89, eo89⟩ := Kd.V_slice HO755.out; subst eo89) | ((with_reducible refine gate_store (t := 29) (p := 17) rfl ?_); refine store_event (t := 29) (p := 17) (v := ?vo_w90) (w1 := ((((w82.setCell ⟨gb762, 0, none⟩ (.int .i64 t750)).setCell ⟨gb762, 1, none⟩ (.int .i64 t751)).setCell ⟨gb762, 2, none⟩ (.string t752)).setCell ⟨gb762, 3, none⟩ (.slice Ao89 t753.length co89))) ?hg ?ho ?hn ?hr ?_; (case ho => rfl); (case hg => rfl); (case hn => rfl); (case hr => exact gs); intro w90 hw; have n_ : Aside0 (Kd.R (Kd.int .u8) 5 w90 w.heap.size (fun k_ => some k_ ≠ (.slice Ao71 t701.length co71 : Value).ownBlock) (.slice Ao16 t691.length co16) t691) ∧ Aside0 (Kd.R (Kd.int .u8) 5 w90 w.heap.size (fun k_ => some k_ ≠ (.slice Ao16 t691.length co16 : Value).ownBlock) (.slice Ao71 t701.length co71) t701) ∧ Aside0 (Kd.R (Kd.int .i64) 3 w90 w.heap.size (fun k_ => some k_ ≠ (.slice Ao24 t711.length co24 : Value).ownBlock ∧ some k_ ≠ (.slice Ao31 t720.length co31 : Value).ownBlock ∧ some k_ ≠ (.slice Ao78 t744.length co78 : Value).ownBlock) (.slice Ao13 t697.length co13) t697) ∧ Aside0 (Kd.R (Kd.int .i64) 3 w90 w.heap.size (fun k_ => some k_ ≠ (.slice Ao13 t697.length co13 : Value).ownBlock ∧ some k_ ≠ (.slice Ao31 t720.length co31 : Value).ownBlock ∧ some k_ ≠ (.slice Ao78 t744.length co78 : Value).ownBlock) (.slice Ao24 t711.length co24) t711) ∧ Aside0 (Kd.R (Kd.int .i64) 3 w90 w.heap.size (fun k_ => some k_ ≠ (.slice Ao13 t697.length co13 : Value).ownBlock ∧ some k_ ≠ (.slice Ao24 t711.length co24 : Value).ownBlock ∧ some k_ ≠ (.slice Ao78 t744.length co78 : Value).ownBlock) (.slice Ao31 t720.length co31) t720) ∧ Aside0 (Kd.R (Kd.int .i64) 3 w90 w.heap.size (fun k_ => some k_ ≠ (.slice Ao13 t697.length co13 : Value).ownBlock ∧ some k_ ≠ (.slice Ao24 t711.length co24 : Value).ownBlock ∧ some k_ ≠ (.slice Ao31 t720.length co31 : Value).ownBlock) (.slice Ao78 t744.length co78) t744) ∧ Aside0 (Kd.V (Kd.int .i64) 3 w90 w.heap.size (fun k_ => some k_ ≠ (.slice Ao16 t691.length co16 : Value).ownBlock ∧ some k_ ≠ (.slice Ao71 t701.length co71 : Value).ownBlock ∧ some k_ ≠ (.slice Ao13 t697.length co13 : Value).ownBlock ∧ some k_ ≠ (.slice Ao24 t711.length co24 : Value).ownBlock ∧ some k_ ≠ (.slice Ao31 t720.length co31 : Value).ownBlock ∧ some k_ ≠ (.slice Ao78 t744.length co78 : Value).ownBlock ∧ k_ ≠ gb700 ∧ k_ ≠ gb716 ∧ k_ ≠ gb725 ∧ k_ ≠ gb749 ∧ k_ ≠ gb762 ∧ k_ ≠ gb763) (.slice Ao89 t753.length co89) t753) ∧ Aside0 (Kd.V (Kd.int .i64) 3 w90 w.heap.size (fun k_ => some k_ ≠ (.slice Ao16 t691.length co16 : Value).ownBlock ∧ some k_ ≠ (.slice Ao71 t701.length co71 : Value).ownBlock ∧ some k_ ≠ (.slice Ao13 t697.length co13 : Value).ownBlock ∧ some k_ ≠ (.slice Ao24 t711.length co24 : Value).ownBlock ∧ some k_ ≠ (.slice Ao31 t720.length co31 : Value).ownBlock ∧ some k_ ≠ (.slice Ao78 t744.length co78 : Value).ownBlock ∧ k_ ≠ gb700 ∧ k_ ≠ gb716 ∧ k_ ≠ gb725 ∧ k_ ≠ gb749 ∧ k_ ≠ gb762 ∧ k_ ≠ gb763) v760 t759) ∧ Aside0 (w90.heap[gb700]? = some (.cells #[.int .i64 t694, .int .i64 t695, .string t696, .slice Ao13 t697.length co13] 29 (0, 0))) ∧ Aside0 (w90.heap[gb716]? = some (.cells #[.int .i64 t708, .int .i64 t709, .string t710, .slice Ao24 t711.length co24] 29 (0, 0))) ∧ Aside0 (w90.heap[gb725]? = some (.cells #[.int .i64 t717, .int .i64 t718, .string t719, .slice Ao31 t720.length co31] 29 (0, 0))) ∧ Aside0 (w90.heap[gb749]? = some (.cells #[.int .i64 t741, .int .i64 t742, .string t743, .slice Ao78 t744.length co78] 29 (0, 0))) ∧ Aside0 (w90.heap[gb762]? = some (.cells #[.int .i64 t750, .int .i64 t751, .string t752, .slice Ao89 t753.length co89] 29 (0, 0))) ∧ Aside0 (w90.heap[gb763]? = some (.cells #[.int .i64 0, .int .i64 0, .string (⟨#[]⟩ : ByteArray), .slice none 0 0] 29 (0, 0))) ∧ Aside0 (Below w.heap.size w w90) := ⟨⟨(by rw [hw]; exact (by refine kr ?_; exact Kd.R_mono (rf4 gb762 (.int .i64 t750) (.int .i64 t751) (.string t752) (.slice Ao89 t753.length co89) (Kd.R_types HO_3.out BK762.out (by decide)) (fun _ hk => hk.2)) (fun _ hk => hk.1)))⟩, ⟨(by rw [hw]; exact (by refine kr ?_; exact Kd.R_mono (rf4 gb762 (.int .i64 t750) (.int .i64 t751) (.string t752) (.slice Ao89 t753.length co89) (Kd.R_types HO_5.out BK762.out (by decide)) (fun _ hk => hk.2)) (fun _ hk => hk.1)))⟩, ⟨(by rw [hw]; exact (by refine kr ?_; exact Kd.R_mono (rf4 gb762 (.int .i64 t750) (.int .i64 t751) (.string t752) (.slice Ao89 t753.length co89) (Kd.R_types HO_701003.out BK762.out (by decide)) (fun _ hk => hk.2)) (fun _ hk => ⟨hk.1.1, ⟨hk.1.2.1, hk.1.2.2⟩⟩)))⟩, ⟨(by rw [hw]; exact (by refine kr ?_; exact Kd.R_mono (rf4 gb762 (.int .i64 t750) (.int .i64 t751) (.string t752) (.slice Ao89 t753.length co89) (Kd.R_types HO_717003.out BK762.out (by decide)) (fun _ hk => hk.2)) (fun _ hk => ⟨hk.1.1, ⟨hk.1.2.1, hk.1.2.2⟩⟩)))⟩, ⟨(by rw [hw]; exact (by refine kr ?_; exact Kd.R_mono (rf4 gb762 (.int .i64 t750) (.int .i64 t751) (.string t752) (.slice Ao89 t753.length co89) (Kd.R_types HO_726003.out BK762.out (by decide)) (fun _ hk => hk.2)) (fun _ hk => ⟨hk.1.1, ⟨hk.1.2.1, hk.1.2.2⟩⟩)))⟩, ⟨(by rw [hw]; exact (by refine kr ?_; exact Kd.R_mono (rf4 gb762 (.int .i64 t750) (.int .i64 t751) (.string t752) (.slice Ao89 t753.length co89) (Kd.R_types HO746.out BK762.out (by decide)) (fun _ hk => hk.2)) (fun _ hk => ⟨hk.1.1, ⟨hk.1.2.1, hk.1.2.2⟩⟩)))⟩, ⟨(by rw [hw]; exact (by (with_reducible repeat (first | apply Kd.V_alloc | apply Kd.V_drewN | apply Kd.V_drew)); exact Kd.V_mono (Kd.V_far (p := ⟨gb762, 3, none⟩) (Kd.V_far (p := ⟨gb762, 2, none⟩) (Kd.V_far (p := ⟨gb762, 1, none⟩) (Kd.V_far (p := ⟨gb762, 0, none⟩) (Kd.V_mono HO755.out (fun k_ hk => (⟨hk, hk.1.2⟩ : _ ∧ k_ ≠ gb762))) (fun _ hk => hk.2) (.int .i64 t750)) (fun _ hk => hk.2) (.int .i64 t751)) (fun _ hk => hk.2) (.string t752)) (fun _ hk => hk.2) (.slice Ao89 t753.length co89)) (fun _ hk => ⟨hk.1.1.1.1, ⟨hk.1.1.1.2.1, ⟨hk.1.1.1.2.2.1, ⟨hk.1.1.1.2.2.2.1, ⟨hk.1.1.1.2.2.2.2.1, ⟨hk.1.1.1.2.2.2.2.2.1, ⟨hk.1.1.1.2.2.2.2.2.2.1, ⟨hk.1.1.1.2.2.2.2.2.2.2.1, ⟨hk.1.1.1.2.2.2.2.2.2.2.2.1, ⟨hk.1.1.1.2.2.2.2.2.2.2.2.2, ⟨hk.1.1.2, hk.1.2⟩⟩⟩⟩⟩⟩⟩⟩⟩⟩⟩)))⟩, ⟨(by rw [hw]; exact (by (with_reducible repeat (first | apply Kd.V_alloc | apply Kd.V_drewN | apply Kd.V_drew)); exact Kd.V_mono (Kd.V_far (p := ⟨gb762, 3, none⟩) (Kd.V_far (p := ⟨gb762, 2, none⟩) (Kd.V_far (p := ⟨gb762, 1, none⟩) (Kd.V_far (p := ⟨gb762, 0, none⟩) (Kd.V_mono HO761.out (fun k_ hk => (⟨hk, hk.1.2⟩ : _ ∧ k_ ≠ gb762))) (fun _ hk => hk.2) (.int .i64 t750)) (fun _ hk => hk.2) (.int .i64 t751)) (fun _ hk => hk.2) (.string t752)) (fun _ hk => hk.2) (.slice Ao89 t753.length co89)) (fun _ hk => ⟨hk.1.1.1.1, ⟨hk.1.1.1.2.1, ⟨hk.1.1.1.2.2.1, ⟨hk.1.1.1.2.2.2.1, ⟨hk.1.1.1.2.2.2.2.1, ⟨hk.1.1.1.2.2.2.2.2.1, ⟨hk.1.1.1.2.2.2.2.2.2.1, ⟨hk.1.1.1.2.2.2.2.2.2.2.1, ⟨hk.1.1.1.2.2.2.2.2.2.2.2.1, ⟨hk.1.1.1.2.2.2.2.2.2.2.2.2, ⟨hk.1.1.2, hk.1.2⟩⟩⟩⟩⟩⟩⟩⟩⟩⟩⟩)))⟩, ⟨(by rw [hw]; exact (by refine zr ?_; refine blk_far ?_ NB700_762.out _; refine zr ?_; refine blk_far ?_ NB700_762.out _; refine zr ?_; refine blk_far ?_ NB700_762.out _; refine zr ?_; refine blk_far ?_ NB700_762.out _; refine zr ?_; exact BK700.out))⟩, ⟨(by rw [hw]; exact (by refine zr ?_; refine blk_far ?_ NB716_762.out _; refine zr ?_; refine blk_far ?_ NB716_762.out _; refine zr ?_; refine blk_far ?_ NB716_762.out _; refine zr ?_; refine blk_far ?_ NB716_762.out _; refine zr ?_; exact BK716.out))⟩, ⟨(by rw [hw]; exact (by refine zr ?_; refine blk_far ?_ NB725_762.out _; refine zr ?_; refine blk_far ?_ NB725_762.out _; refine zr ?_; refine blk_far ?_ NB725_762.out _; refine zr ?_; refine blk_far ?_ NB725_762.out _; refine zr ?_; exact BK725.out))⟩, ⟨(by rw [hw]; exact (by refine zr ?_; refine blk_far ?_ NB749_762.out _; refine zr ?_; refine blk_far ?_ NB749_762.out _; refine zr ?_; refine blk_far ?_ NB749_762.out _; refine zr ?_; refine blk_far ?_ NB749_762.out _; refine zr ?_; exact BK749.out))⟩, ⟨(by rw [hw]; exact (by refine zr ?_; exact bp4 (zb BK762.out)))⟩, ⟨(by rw [hw]; exact (by refine zr ?_; refine blk_far ?_ NB763_762.out _; refine zr ?_; refine blk_far ?_ NB763_762.out _; refine zr ?_; refine blk_far ?_ NB763_762.out _; refine zr ?_; refine blk_far ?_ NB763_762.out _; refine zr ?_; exact BK763.out))⟩, ⟨(by rw [hw]; exact (bq6 HB.out GE700.out GE716.out GE725.out GE749.out GE762.out GE763.out))⟩⟩; clear hw HO_3 HO_5 HO_701003 HO_717003 HO_726003 HO746 HO755 HO761 BK700 BK716 BK725 BK749 BK762 BK763 HB; obtain ⟨HO_3, HO_5, HO_701003, HO_717003, HO_726003, HO746, HO755, HO761, BK700, BK716, BK725, BK749, BK762, BK763, HB⟩ := n_; have hnb91 := NB763_700.out; have hnc91 := NB700_763.out; have hnb92 := NB763_716.out; have hnc92 := NB716_763.out; have hnb93 := NB763_725.out; have hnc93 := NB725_763.out; have hnb94 := NB763_749.out; have hnc94 := NB749_763.out; obtain ⟨hcz95_0, hcz95_1, hcz95_2, hcz95_3, hfz95_0, hfz95_1, hfz95_2, hfz95_3⟩ := cl4 BK763.out; obtain ⟨Ao96, co96, eo96⟩ := Kd.V_slice HO761.out; subst eo96) | ((with_reducible refine gate_store (t := 29) (p := 18) rfl ?_); refine store_event (t := 29) (p := 18) (v := ?vo_w97) (w1 := ((((w90.setCell ⟨gb763, 0, none⟩ (.int .i64 t756)).setCell ⟨gb763, 1, none⟩ (.int .i64 t757)).setCell ⟨gb763, 2, none⟩ (.string t758)).setCell ⟨gb763, 3, none⟩ (.slice Ao96 t759.length co96))) ?hg ?ho ?hn ?hr ?_; (case ho => rfl); (case hg => rfl); (case hn => rfl); (case hr => exact gs); intro w97 hw; have n_ : Aside0 (Kd.R (Kd.int .u8) 5 w97 w.heap.size (fun k_ => some k_ ≠ (.slice Ao71 t701.length co71 : Value).ownBlock) (.slice Ao16 t691.length co16) t691) ∧ Aside0 (Kd.R (Kd.int .u8) 5 w97 w.heap.size (fun k_ => some k_ ≠ (.slice Ao16 t691.length co16 : Value).ownBlock) (.slice Ao71 t701.length co71) t701) ∧ Aside0 (Kd.R (Kd.int .i64) 3 w97 w.heap.size (fun k_ => some k_ ≠ (.slice Ao24 t711.length co24 : Value).ownBlock ∧ some k_ ≠ (.slice Ao31 t720.length co31 : Value).ownBlock ∧ some k_ ≠ (.slice Ao78 t744.length co78 : Value).ownBlock) (.slice Ao13 t697.length co13) t697) ∧ Aside0 (Kd.R (Kd.int .i64) 3 w97 w.heap.size (fun k_ => some k_ ≠ (.slice Ao13 t697.length co13 : Value).ownBlock ∧ some k_ ≠ (.slice Ao31 t720.length co31 : Value).ownBlock ∧ some k_ ≠ (.slice Ao78 t744.length co78 : Value).ownBlock) (.slice Ao24 t711.length co24) t711) ∧ Aside0 (Kd.R (Kd.int .i64) 3 w97 w.heap.size (fun k_ => some k_ ≠ (.slice Ao13 t697.length co13 : Value).ownBlock ∧ some k_ ≠ (.slice Ao24 t711.length co24 : Value).ownBlock ∧ some k_ ≠ (.slice Ao78 t744.length co78 : Value).ownBlock) (.slice Ao31 t720.length co31) t720) ∧ Aside0 (Kd.R (Kd.int .i64) 3 w97 w.heap.size (fun k_ => some k_ ≠ (.slice Ao13 t697.length co13 : Value).ownBlock ∧ some k_ ≠ (.slice Ao24 t711.length co24 : Value).ownBlock ∧ some k_ ≠ (.slice Ao31 t720.length co31 : Value).ownBlock) (.slice Ao78 t744.length co78) t744) ∧ Aside0 (Kd.V (Kd.int .i64) 3 w97 w.heap.size (fun k_ => some k_ ≠ (.slice Ao16 t691.length co16 : Value).ownBlock ∧ some k_ ≠ (.slice Ao71 t701.length co71 : Value).ownBlock ∧ some k_ ≠ (.slice Ao13 t697.length co13 : Value).ownBlock ∧ some k_ ≠ (.slice Ao24 t711.length co24 : Value).ownBlock ∧ some k_ ≠ (.slice Ao31 t720.length co31 : Value).ownBlock ∧ some k_ ≠ (.slice Ao78 t744.length co78 : Value).ownBlock ∧ k_ ≠ gb700 ∧ k_ ≠ gb716 ∧ k_ ≠ gb725 ∧ k_ ≠ gb749 ∧ k_ ≠ gb762 ∧ k_ ≠ gb763) (.slice Ao89 t753.length co89) t753) ∧ Aside0 (Kd.V (Kd.int .i64) 3 w97 w.heap.size (fun k_ => some k_ ≠ (.slice Ao16 t691.length co16 : Value).ownBlock ∧ some k_ ≠ (.slice Ao71 t701.length co71 : Value).ownBlock ∧ some k_ ≠ (.slice Ao13 t697.length co13 : Value).ownBlock ∧ some k_ ≠ (.slice Ao24 t711.length co24 : Value).ownBlock ∧ some k_ ≠ (.slice Ao31 t720.length co31 : Value).ownBlock ∧ some k_ ≠ (.slice Ao78 t744.length co78 : Value).ownBlock ∧ k_ ≠ gb700 ∧ k_ ≠ gb716 ∧ k_ ≠ gb725 ∧ k_ ≠ gb749 ∧ k_ ≠ gb762 ∧ k_ ≠ gb763) (.slice Ao96 t759.length co96) t759) ∧ Aside0 (w97.heap[gb700]? = some (.cells #[.int .i64 t694, .int .i64 t695, .string t696, .slice Ao13 t697.length co13] 29 (0, 0))) ∧ Aside0 (w97.heap[gb716]? = some (.cells #[.int .i64 t708, .int .i64 t709, .string t710, .slice Ao24 t711.length co24] 29 (0, 0))) ∧ Aside0 (w97.heap[gb725]? = some (.cells #[.int .i64 t717, .int .i64 t718, .string t719, .slice Ao31 t720.length co31] 29 (0, 0))) ∧ Aside0 (w97.heap[gb749]? = some (.cells #[.int .i64 t741, .int .i64 t742, .string t743, .slice Ao78 t744.length co78] 29 (0, 0))) ∧ Aside0 (w97.heap[gb762]? = some (.cells #[.int .i64 t750, .int .i64 t751, .string t752, .slice Ao89 t753.length co89] 29 (0, 0))) ∧ Aside0 (w97.heap[gb763]? = some (.cells #[.int .i64 t756, .int .i64 t757, .string t758, .slice Ao96 t759.length co96] 29 (0, 0))) ∧ Aside0 (Below w.heap.size w w97) := ⟨⟨(by rw [hw]; exact (by refine kr ?_; exact Kd.R_mono (rf4 gb763 (.int .i64 t756) (.int .i64 t757) (.string t758) (.slice Ao96 t759.length co96) (Kd.R_types HO_3.out BK763.out (by decide)) (fun _ hk => hk.2)) (fun _ hk => hk.1)))⟩, ⟨(by rw [hw]; exact (by refine kr ?_; exact Kd.R_mono (rf4 gb763 (.int .i64 t756) (.int .i64 t757) (.string t758) (.slice Ao96 t759.length co96) (Kd.R_types HO_5.out BK763.out (by decide)) (fun _ hk => hk.2)) (fun _ hk => hk.1)))⟩, ⟨(by rw [hw]; exact (by refine kr ?_; exact Kd.R_mono (rf4 gb763 (.int .i64 t756) (.int .i64 t757) (.string t758) (.slice Ao96 t759.length co96) (Kd.R_types HO_701003.out BK763.out (by decide)) (fun _ hk => hk.2)) (fun _ hk => ⟨hk.1.1, ⟨hk.1.2.1, hk.1.2.2⟩⟩)))⟩, ⟨(by rw [hw]; exact (by refine kr ?_; exact Kd.R_mono (rf4 gb763 (.int .i64 t756) (.int .i64 t757) (.string t758) (.slice Ao96 t759.length co96) (Kd.R_types HO_717003.out BK763.out (by decide)) (fun _ hk => hk.2)) (fun _ hk => ⟨hk.1.1, ⟨hk.1.2.1, hk.1.2.2⟩⟩)))⟩, ⟨(by rw [hw]; exact (by refine kr ?_; exact Kd.R_mono (rf4 gb763 (.int .i64 t756) (.int .i64 t757) (.string t758) (.slice Ao96 t759.length co96) (Kd.R_types HO_726003.out BK763.out (by decide)) (fun _ hk => hk.2)) (fun _ hk => ⟨hk.1.1, ⟨hk.1.2.1, hk.1.2.2⟩⟩)))⟩, ⟨(by rw [hw]; exact (by refine kr ?_; exact Kd.R_mono (rf4 gb763 (.int .i64 t756) (.int .i64 t757) (.string t758) (.slice Ao96 t759.length co96) (Kd.R_types HO746.out BK763.out (by decide)) (fun _ hk => hk.2)) (fun _ hk => ⟨hk.1.1, ⟨hk.1.2.1, hk.1.2.2⟩⟩)))⟩, ⟨(by rw [hw]; exact (by (with_reducible repeat (first | apply Kd.V_alloc | apply Kd.V_drewN | apply Kd.V_drew)); exact Kd.V_mono (Kd.V_far (p := ⟨gb763, 3, none⟩) (Kd.V_far (p := ⟨gb763, 2, none⟩) (Kd.V_far (p := ⟨gb763, 1, none⟩) (Kd.V_far (p := ⟨gb763, 0, none⟩) (Kd.V_mono HO755.out (fun k_ hk => (⟨hk, hk.2.2.2.2.2.2.2.2.2.2.2⟩ : _ ∧ k_ ≠ gb763))) (fun _ hk => hk.2) (.int .i64 t756)) (fun _ hk => hk.2) (.int .i64 t757)) (fun _ hk => hk.2) (.string t758)) (fun _ hk => hk.2) (.slice Ao96 t759.length co96)) (fun _ hk => ⟨hk.1.1, ⟨hk.1.2.1, ⟨hk.1.2.2.1, ⟨hk.1.2.2.2.1, ⟨hk.1.2.2.2.2.1, ⟨hk.1.2.2.2.2.2.1, ⟨hk.1.2.2.2.2.2.2.1, ⟨hk.1.2.2.2.2.2.2.2.1, ⟨hk.1.2.2.2.2.2.2.2.2.1, ⟨hk.1.2.2.2.2.2.2.2.2.2.1, ⟨hk.1.2.2.2.2.2.2.2.2.2.2.1, hk.1.2.2.2.2.2.2.2.2.2.2.2⟩⟩⟩⟩⟩⟩⟩⟩⟩⟩⟩)))⟩, ⟨(by rw [hw]; exact (by (with_reducible repeat (first | apply Kd.V_alloc | apply Kd.V_drewN | apply Kd.V_drew)); exact Kd.V_mono (Kd.V_far (p := ⟨gb763, 3, none⟩) (Kd.V_far (p := ⟨gb763, 2, none⟩) (Kd.V_far (p := ⟨gb763, 1, none⟩) (Kd.V_far (p := ⟨gb763, 0, none⟩) (Kd.V_mono HO761.out (fun k_ hk => (⟨hk, hk.2.2.2.2.2.2.2.2.2.2.2⟩ : _ ∧ k_ ≠ gb763))) (fun _ hk => hk.2) (.int .i64 t756)) (fun _ hk => hk.2) (.int .i64 t757)) (fun _ hk => hk.2) (.string t758)) (fun _ hk => hk.2) (.slice Ao96 t759.length co96)) (fun _ hk => ⟨hk.1.1, ⟨hk.1.2.1, ⟨hk.1.2.2.1, ⟨hk.1.2.2.2.1, ⟨hk.1.2.2.2.2.1, ⟨hk.1.2.2.2.2.2.1, ⟨hk.1.2.2.2.2.2.2.1, ⟨hk.1.2.2.2.2.2.2.2.1, ⟨hk.1.2.2.2.2.2.2.2.2.1, ⟨hk.1.2.2.2.2.2.2.2.2.2.1, ⟨hk.1.2.2.2.2.2.2.2.2.2.2.1, hk.1.2.2.2.2.2.2.2.2.2.2.2⟩⟩⟩⟩⟩⟩⟩⟩⟩⟩⟩)))⟩, ⟨(by rw [hw]; exact (by refine zr ?_; refine blk_far ?_ NB700_763.out _; refine zr ?_; refine blk_far ?_ NB700_763.out _; refine zr ?_; refine blk_far ?_ NB700_763.out _; refine zr ?_; refine blk_far ?_ NB700_763.out _; refine zr ?_; exact BK700.out))⟩, ⟨(by rw [hw]; exact (by refine zr ?_; refine blk_far ?_ NB716_763.out _; refine zr ?_; refine blk_far ?_ NB716_763.out _; refine zr ?_; refine blk_far ?_ NB716_763.out _; refine zr ?_; refine blk_far ?_ NB716_763.out _; refine zr ?_; exact BK716.out))⟩, ⟨(by rw [hw]; exact (by refine zr ?_; refine blk_far ?_ NB725_763.out _; refine zr ?_; refine blk_far ?_ NB725_763.out _; refine zr ?_; refine blk_far ?_ NB725_763.out _; refine zr ?_; refine blk_far ?_ NB725_763.out _; refine zr ?_; exact BK725.out))⟩, ⟨(by rw [hw]; exact (by refine zr ?_; refine blk_far ?_ NB749_763.out _; refine zr ?_; refine blk_far ?_ NB749_763.out _; refine zr ?_; refine blk_far ?_ NB749_763.out _; refine zr ?_; refine blk_far ?_ NB749_763.out _; refine zr ?_; exact BK749.out))⟩, ⟨(by rw [hw]; exact (by refine zr ?_; refine blk_far ?_ NB762_763.out _; refine zr ?_; refine blk_far ?_ NB762_763.out _; refine zr ?_; refine blk_far ?_ NB762_763.out _; refine zr ?_; refine blk_far ?_ NB762_763.out _; refine zr ?_; exact BK762.out))⟩, ⟨(by rw [hw]; exact (by refine zr ?_; exact bp4 (zb BK763.out)))⟩, ⟨(by rw [hw]; exact (bq6 HB.out GE700.out GE716.out GE725.out GE749.out GE762.out GE763.out))⟩⟩; clear hw HO_3 HO_5 HO_701003 HO_717003 HO_726003 HO746 HO755 HO761 BK700 BK716 BK725 BK749 BK762 BK763 HB; obtain ⟨HO_3, HO_5, HO_701003, HO_717003, HO_726003, HO746, HO755, HO761, BK700, BK716, BK725, BK749, BK762, BK763, HB⟩ := n_))
   have n0_ := am (Kd.R_drew HO_3.out)
   have n1_ := am (Kd.R_drew HO_5.out)
   have n2_ := am (Kd.R_drew HO_701003.out)
   have n3_ := am (Kd.R_drew HO_717003.out)
   have n4_ := am (Kd.R_drew HO_726003.out)
   have n5_ := am (Kd.R_drew HO746.out)
   have n6_ := am (Kd.V_drew HO755.out)
   have n7_ := am (Kd.V_drew HO761.out)
   have n8_ := am (blk_drew BK700.out)
   have n9_ := am (blk_drew BK716.out)
   have n10_ := am (blk_drew BK725.out)
   have n11_ := am (blk_drew BK749.out)
   have n12_ := am (blk_drew BK762.out)
   have n13_ := am (blk_drew BK763.out)
   have n14_ := am (below_drew1 HB.out)
   clear HO_3
   clear HO_5
   clear HO_701003
   clear HO_717003
   clear HO_726003
   clear HO746
   clear HO755
   clear HO761
   clear BK700
   clear BK716
   clear BK725
   clear BK749
   clear BK762
   clear BK763
   clear HB
   have HO_3 := n0_
   have HO_5 := n1_
   have HO_701003 := n2_
   have HO_717003 := n3_
   have HO_726003 := n4_
   have HO746 := n5_
   have HO755 := n6_
   have HO761 := n7_
   have BK700 := n8_
   have BK716 := n9_
   have BK725 := n10_
   have BK749 := n11_
   have BK762 := n12_
   have BK763 := n13_
   have HB := n14_
   clear n0_ n1_ n2_ n3_ n4_ n5_ n6_ n7_ n8_ n9_ n10_ n11_ n12_ n13_ n14_
   refine start_ (n := 26) (S := fun w' => w'.cell? ⟨gb749, 0, none⟩ = some (.int .i64 t741) ∧ w'.cell? ⟨gb749, 1, none⟩ = some (.int .i64 t742) ∧ w'.cell? ⟨gb749, 2, none⟩ = some (.string t743) ∧ w'.cell? ⟨gb749, 3, none⟩ = some (.slice Ao78 t744.length co78) ∧ w'.cell? ⟨gb700, 0, none⟩ = some (.int .i64 t694) ∧ w'.cell? ⟨gb700, 1, none⟩ = some (.int .i64 t695) ∧ w'.cell? ⟨gb700, 2, none⟩ = some (.string t696) ∧ w'.cell? ⟨gb700, 3, none⟩ = some (.slice Ao13 t697.length co13) ∧ w'.cell? ⟨gb762, 0, none⟩ = some (.int .i64 t750) ∧ w'.cell? ⟨gb762, 1, none⟩ = some (.int .i64 t751) ∧ w'.cell? ⟨gb762, 2, none⟩ = some (.string t752) ∧ w'.cell? ⟨gb762, 3, none⟩ = some (.slice Ao89 t753.length co89) ∧ w'.cell? ⟨gb763, 0, none⟩ = some (.int .i64 t756) ∧ w'.cell? ⟨gb763, 1, none⟩ = some (.int .i64 t757) ∧ w'.cell? ⟨gb763, 2, none⟩ = some (.string t758) ∧ w'.cell? ⟨gb763, 3, none⟩ = some (.slice Ao96 t759.length co96)) (ds := []) #[false, false, false, false, false, false, false, false, false, false, false, false, false, false, false, false, false, false, false, false, false, false, false, false, false, false] (by kernel_rfl) rfl rfl ⟨(blk_cell BK749.out 0).trans rfl, (blk_cell BK749.out 1).trans rfl, (blk_cell BK749.out 2).trans rfl, (blk_cell BK749.out 3).trans rfl, (blk_cell BK700.out 0).trans rfl, (blk_cell BK700.out 1).trans rfl, (blk_cell BK700.out 2).trans rfl, (blk_cell BK700.out 3).trans rfl, (blk_cell BK762.out 0).trans rfl, (blk_cell BK762.out 1).trans rfl, (blk_cell BK762.out 2).trans rfl, (blk_cell BK762.out 3).trans rfl, (blk_cell BK763.out 0).trans rfl, (blk_cell BK763.out 1).trans rfl, (blk_cell BK763.out 2).trans rfl, (blk_cell BK763.out 3).trans rfl⟩ (fun hHeld => ?_); refine with_tabW laws_FnVals.tab14 laws_FnVals.bits14 (fun HT_ HW_ => ?_)
   generalize w97.drew = w98 at HO_3 HO_5 HO_701003 HO_717003 HO_726003 HO746 HO755 HO761 BK700 BK716 BK725 BK749 BK762 BK763 HB hHeld ⊢
   refine pu 0 (some 94) #[true, false, false, false, false, false, false, false, false, false, false, false, false, false, false, false, false, false, false, false, false, false, false, false, false, false] rfl rfl (any_of HT_.out (by kernel_rfl)) (Or.inl ⟨by rfl, by intro w'; go_simp; with_reducible rfl⟩) ?_
   refine pu 1 (some 95) #[true, true, false, false, false, false, false, false, false, false, false, false, false, false, false, false, false, false, false, false, false, false, false, false, false, false] rfl rfl (any_of HT_.out (by kernel_rfl)) (Or.inl ⟨by rfl, by intro w'; go_simp; with_reducible rfl⟩) ?_
   refine tk 2 (some 96) #[true, true, true, false, false, false, false, false, false, false, false, false, false, false, false, false, false, false, false, false, false, false, false, false, false, false] rfl rfl (take_ofW HT_.out HW_.out (by kernel_rfl)) hHeld (Or.inl ⟨by rfl, by rintro w' ⟨s0, s1, s2, s3, s4, s5, s6, s7, s8, s9, s10, s11, s12, s13, s14, s15⟩; go_simp; with_reducible rfl⟩) ?_
   refine tk 3 (some 97) #[true, true, true, true, false, false, false, false, false, false, false, false, false, false, false, false, false, false, false, false, false, false, false, false, false, false] rfl rfl (take_ofW HT_.out HW_.out (by kernel_rfl)) hHeld (Or.inl ⟨by rfl, by rintro w' ⟨s0, s1, s2, s3, s4, s5, s6, s7, s8, s9, s10, s11, s12, s13, s14, s15⟩; go_simp; with_reducible rfl⟩) ?_
   refine one_ (i := 4) (N := some 98) #[true, true, true, true, true, false, false, false, false, false, false, false, false, false, false, false, false, false, false, false, false, false, false, false, false, false] rfl rfl (one_of HT_.out (by kernel_rfl)) (by decide) (fun K hK => ?_)
   refine goes_ Try.func49 (by kernel_rfl) rfl #[.agg #[.int .i64 t741, .int .i64 t742, .string t743, .slice Ao78 t744.length co78], .agg #[.int .i64 t694, .int .i64 t695, .string t696, .slice Ao13 t697.length co13]] (by rfl) rfl rfl ga ?_
   with_reducible refine (impl_SameVal.calls kj8 t741 t742 t743 _ _ t744 t694 t695 t696 _ _ t697 true _ ?side1 ?side2 ?side3 ?side4 A60.out).mono ?_
   (case side1 => repeat (first | exact (Kd.R_reads' HO746.out).2.2 | (with_reducible refine Kd.C_alloc ?_ _) | (with_reducible refine Kd.C_drewN ?_ _) | (with_reducible refine Kd.C_drew ?_)))
   (case side2 => exact (Kd.R_reads' HO746.out).2.1)
   (case side3 => repeat (first | exact (Kd.R_reads' HO_701003.out).2.2 | (with_reducible refine Kd.C_alloc ?_ _) | (with_reducible refine Kd.C_drewN ?_ _) | (with_reducible refine Kd.C_drew ?_)))
   (case side4 => exact (Kd.R_reads' HO_701003.out).2.1)
   rintro e w99 ⟨rfl, hb⟩
   refine ⟨_, rfl, ?_⟩
   have n0_ := am (Kd.R_below (kqR HO_3.out) hb)
   have n1_ := am (Kd.R_below (kqR HO_5.out) hb)
   have n2_ := am (Kd.R_below (kqR HO_701003.out) hb)
   have n3_ := am (Kd.R_below (kqR HO_717003.out) hb)
   have n4_ := am (Kd.R_below (kqR HO_726003.out) hb)
   have n5_ := am (Kd.R_below (kqR HO746.out) hb)
   have n6_ := am (Kd.V_below (by (with_reducible repeat (first | apply Kd.V_alloc | apply Kd.V_drewN | apply Kd.V_drew)); exact HO755.out) hb)
   have n7_ := am (Kd.V_below (by (with_reducible repeat (first | apply Kd.V_alloc | apply Kd.V_drewN | apply Kd.V_drew)); exact HO761.out) hb)
   have n8_ := am (blk_below (zb BK700.out) hb)
   have n9_ := am (blk_below (zb BK716.out) hb)
   have n10_ := am (blk_below (zb BK725.out) hb)
   have n11_ := am (blk_below (zb BK749.out) hb)
   have n12_ := am (blk_below (zb BK762.out) hb)
   have n13_ := am (blk_below (zb BK763.out) hb)
   have n14_ := am (below_step (bq6 HB.out GE700.out GE716.out GE725.out GE749.out GE762.out GE763.out) hb)
   clear HO_3
   clear HO_5
   clear HO_701003
   clear HO_717003
   clear HO_726003
   clear HO746
   clear HO755
   clear HO761
   clear BK700
   clear BK716
   clear BK725
   clear BK749
   clear BK762
   clear BK763
   clear HB
   have HO_3 := n0_
   have HO_5 := n1_
   have HO_701003 := n2_
   have HO_717003 := n3_
   have HO_726003 := n4_
   have HO746 := n5_
   have HO755 := n6_
   have HO761 := n7_
   have BK700 := n8_
   have BK716 := n9_
   have BK725 := n10_
   have BK749 := n11_
   have BK762 := n12_
   have BK763 := n13_
   have HB := n14_
   clear n0_ n1_ n2_ n3_ n4_ n5_ n6_ n7_ n8_ n9_ n10_ n11_ n12_ n13_ n14_
   (try clear hb)
   refine hK.out _ _ ⟨(blk_cell BK749.out 0).trans rfl, (blk_cell BK749.out 1).trans rfl, (blk_cell BK749.out 2).trans rfl, (blk_cell BK749.out 3).trans rfl, (blk_cell BK700.out 0).trans rfl, (blk_cell BK700.out 1).trans rfl, (blk_cell BK700.out 2).trans rfl, (blk_cell BK700.out 3).trans rfl, (blk_cell BK762.out 0).trans rfl, (blk_cell BK762.out 1).trans rfl, (blk_cell BK762.out 2).trans rfl, (blk_cell BK762.out 3).trans rfl, (blk_cell BK763.out 0).trans rfl, (blk_cell BK763.out 1).trans rfl, (blk_cell BK763.out 2).trans rfl, (blk_cell BK763.out 3).trans rfl⟩ (fun hHeld => ?_)
   clear hK K
   refine norm_ (a' := ?_) ?_ ?_
   rotate_left
   · show Act.put _ (some 98) _ = _
     simp only [Act.put, List.setIfInBounds_toArray, List.set_cons_zero, List.set_cons_succ, i64_w, i32_w]
     rfl
   refine pu 5 (some 99) #[true, true, true, true, true, true, false, false, false, false, false, false, false, false, false, false, false, false, false, false, false, false, false, false, false, false] rfl rfl (any_of HT_.out (by kernel_rfl)) (Or.inl ⟨by rfl, by intro w'; go_simp; with_reducible rfl⟩) ?_
   refine pu 6 (some 100) #[true, true, true, true, true, true, true, false, false, false, false, false, false, false, false, false, false, false, false, false, false, false, false, false, false, false] rfl rfl (any_of HT_.out (by kernel_rfl)) (Or.inl ⟨by rfl, by intro w'; go_simp; with_reducible rfl⟩) ?_
   refine pu 7 (some 101) #[true, true, true, true, true, true, true, true, false, false, false, false, false, false, false, false, false, false, false, false, false, false, false, false, false, false] rfl rfl (any_of HT_.out (by kernel_rfl)) (Or.inl ⟨by rfl, by intro w'; go_simp; with_reducible rfl⟩) ?_
   refine pu 8 (some 102) #[true, true, true, true, true, true, true, true, true, false, false, false, false, false, false, false, false, false, false, false, false, false, false, false, false, false] rfl rfl (any_of HT_.out (by kernel_rfl)) (Or.inl ⟨by rfl, by intro w'; go_simp; with_reducible rfl⟩) ?_
   refine pu 9 (some 103) #[true, true, true, true, true, true, true, true, true, true, false, false, false, false, false, false, false, false, false, false, false, false, false, false, false, false] rfl rfl (any_of HT_.out (by kernel_rfl)) (Or.inl ⟨by rfl, by intro w'; go_simp; with_reducible rfl⟩) ?_
   refine pu 10 (some 104) #[true, true, true, true, true, true, true, true, true, true, true, false, false, false, false, false, false, false, false, false, false, false, false, false, false, false] rfl rfl (any_of HT_.out (by kernel_rfl)) (Or.inl ⟨by rfl, by intro w'; go_simp; with_reducible rfl⟩) ?_
   refine pu 11 (some 105) #[true, true, true, true, true, true, true, true, true, true, true, true, false, false, false, false, false, false, false, false, false, false, false, false, false, false] rfl rfl (any_of HT_.out (by kernel_rfl)) (Or.inl ⟨by rfl, by intro w'; go_simp; with_reducible rfl⟩) ?_
   refine pu 12 (some 106) #[true, true, true, true, true, true, true, true, true, true, true, true, true, false, false, false, false, false, false, false, false, false, false, false, false, false] rfl rfl (any_of HT_.out (by kernel_rfl)) (Or.inl ⟨by rfl, by intro w'; go_simp; with_reducible rfl⟩) ?_
   refine tk 13 (some 107) #[true, true, true, true, true, true, true, true, true, true, true, true, true, true, false, false, false, false, false, false, false, false, false, false, false, false] rfl rfl (take_ofW HT_.out HW_.out (by kernel_rfl)) hHeld (Or.inl ⟨by rfl, by rintro w' ⟨s0, s1, s2, s3, s4, s5, s6, s7, s8, s9, s10, s11, s12, s13, s14, s15⟩; go_simp; with_reducible rfl⟩) ?_
   refine one_ (i := 14) (N := some 108) #[true, true, true, true, true, true, true, true, true, true, true, true, true, true, true, false, false, false, false, false, false, false, false, false, false, false] rfl rfl (one_of HT_.out (by kernel_rfl)) (by decide) (fun K hK => ?_)
   refine goes_ Try.func46 (by kernel_rfl) rfl #[.agg #[.int .i64 t694, .int .i64 t695, .string t696, .slice Ao13 t697.length co13]] (by rfl) rfl rfl ga ?_
   with_reducible refine (impl_ValOk.calls kj8 t694 t695 t696 _ _ t697 true _ ?side1 ?side2 A63.out).mono ?_
   (case side1 => repeat (first | exact (Kd.R_reads' HO_701003.out).2.2 | (with_reducible refine Kd.C_alloc ?_ _) | (with_reducible refine Kd.C_drewN ?_ _) | (with_reducible refine Kd.C_drew ?_)))
   (case side2 => exact (Kd.R_reads' HO_701003.out).2.1)
   rintro e w100 ⟨rfl, hb⟩
   refine ⟨_, rfl, ?_⟩
   have n0_ := am (Kd.R_below (kqR HO_3.out) hb)
   have n1_ := am (Kd.R_below (kqR HO_5.out) hb)
   have n2_ := am (Kd.R_below (kqR HO_701003.out) hb)
   have n3_ := am (Kd.R_below (kqR HO_717003.out) hb)
   have n4_ := am (Kd.R_below (kqR HO_726003.out) hb)
   have n5_ := am (Kd.R_below (kqR HO746.out) hb)
   have n6_ := am (Kd.V_below (by (with_reducible repeat (first | apply Kd.V_alloc | apply Kd.V_drewN | apply Kd.V_drew)); exact HO755.out) hb)
   have n7_ := am (Kd.V_below (by (with_reducible repeat (first | apply Kd.V_alloc | apply Kd.V_drewN | apply Kd.V_drew)); exact HO761.out) hb)
   have n8_ := am (blk_below (zb BK700.out) hb)
   have n9_ := am (blk_below (zb BK716.out) hb)
   have n10_ := am (blk_below (zb BK725.out) hb)
   have n11_ := am (blk_below (zb BK749.out) hb)
   have n12_ := am (blk_below (zb BK762.out) hb)
   have n13_ := am (blk_below (zb BK763.out) hb)
   have n14_ := am (below_step (bq6 HB.out GE700.out GE716.out GE725.out GE749.out GE762.out GE763.out) hb)
   clear HO_3
   clear HO_5
   clear HO_701003
   clear HO_717003
   clear HO_726003
   clear HO746
   clear HO755
   clear HO761
   clear BK700
   clear BK716
   clear BK725
   clear BK749
   clear BK762
   clear BK763
   clear HB
   have HO_3 := n0_
   have HO_5 := n1_
   have HO_701003 := n2_
   have HO_717003 := n3_
   have HO_726003 := n4_
   have HO746 := n5_
   have HO755 := n6_
   have HO761 := n7_
   have BK700 := n8_
   have BK716 := n9_
   have BK725 := n10_
   have BK749 := n11_
   have BK762 := n12_
   have BK763 := n13_
   have HB := n14_
   clear n0_ n1_ n2_ n3_ n4_ n5_ n6_ n7_ n8_ n9_ n10_ n11_ n12_ n13_ n14_
   (try clear hb)
   refine hK.out _ _ ⟨(blk_cell BK749.out 0).trans rfl, (blk_cell BK749.out 1).trans rfl, (blk_cell BK749.out 2).trans rfl, (blk_cell BK749.out 3).trans rfl, (blk_cell BK700.out 0).trans rfl, (blk_cell BK700.out 1).trans rfl, (blk_cell BK700.out 2).trans rfl, (blk_cell BK700.out 3).trans rfl, (blk_cell BK762.out 0).trans rfl, (blk_cell BK762.out 1).trans rfl, (blk_cell BK762.out 2).trans rfl, (blk_cell BK762.out 3).trans rfl, (blk_cell BK763.out 0).trans rfl, (blk_cell BK763.out 1).trans rfl, (blk_cell BK763.out 2).trans rfl, (blk_cell BK763.out 3).trans rfl⟩ (fun hHeld => ?_)
   clear hK K
   refine norm_ (a' := ?_) ?_ ?_
   rotate_left
   · show Act.put _ (some 108) _ = _
     simp only [Act.put, List.setIfInBounds_toArray, List.set_cons_zero, List.set_cons_succ, i64_w, i32_w]
     rfl
   refine pu 15 (some 109) #[true, true, true, true, true, true, true, true, true, true, true, true, true, true, true, true, false, false, false, false, false, false, false, false, false, false] rfl rfl (any_of HT_.out (by kernel_rfl)) (Or.inl ⟨by rfl, by intro w'; go_simp; with_reducible rfl⟩) ?_
   refine pu 16 (some 110) #[true, true, true, true, true, true, true, true, true, true, true, true, true, true, true, true, true, false, false, false, false, false, false, false, false, false] rfl rfl (any_of HT_.out (by kernel_rfl)) (Or.inl ⟨by rfl, by intro w'; go_simp; with_reducible rfl⟩) ?_
   refine tk 17 (some 111) #[true, true, true, true, true, true, true, true, true, true, true, true, true, true, true, true, true, true, false, false, false, false, false, false, false, false] rfl rfl (take_ofW HT_.out HW_.out (by kernel_rfl)) hHeld (Or.inl ⟨by rfl, by rintro w' ⟨s0, s1, s2, s3, s4, s5, s6, s7, s8, s9, s10, s11, s12, s13, s14, s15⟩; go_simp; with_reducible rfl⟩) ?_
   refine tk 18 (some 112) #[true, true, true, true, true, true, true, true, true, true, true, true, true, true, true, true, true, true, true, false, false, false, false, false, false, false] rfl rfl (take_ofW HT_.out HW_.out (by kernel_rfl)) hHeld (Or.inl ⟨by rfl, by rintro w' ⟨s0, s1, s2, s3, s4, s5, s6, s7, s8, s9, s10, s11, s12, s13, s14, s15⟩; go_simp; with_reducible rfl⟩) ?_
   refine tk 20 (some 114) #[true, true, true, true, true, true, true, true, true, true, true, true, true, true, true, true, true, true, true, false, true, false, false, false, false, false] rfl rfl (take_ofW HT_.out HW_.out (by kernel_rfl)) hHeld (Or.inl ⟨by rfl, by rintro w' ⟨s0, s1, s2, s3, s4, s5, s6, s7, s8, s9, s10, s11, s12, s13, s14, s15⟩; go_simp; with_reducible rfl⟩) ?_
   refine tk 21 (some 115) #[true, true, true, true, true, true, true, true, true, true, true, true, true, true, true, true, true, true, true, false, true, true, false, false, false, false] rfl rfl (take_ofW HT_.out HW_.out (by kernel_rfl)) hHeld (Or.inl ⟨by rfl, by rintro w' ⟨s0, s1, s2, s3, s4, s5, s6, s7, s8, s9, s10, s11, s12, s13, s14, s15⟩; go_simp; with_reducible rfl⟩) ?_
   refine one_ (i := 19) (N := some 113) #[true, true, true, true, true, true, true, true, true, true, true, true, true, true, true, true, true, true, true, true, true, true, false, false, false, false] rfl rfl (one_of HT_.out (by kernel_rfl)) (by decide) (fun K hK => ?_)
   refine goes_ Try.func49 (by kernel_rfl) rfl #[.agg #[.int .i64 t750, .int .i64 t751, .string t752, .slice Ao89 t753.length co89], .agg #[.int .i64 t756, .int .i64 t757, .string t758, .slice Ao96 t759.length co96]] (by rfl) rfl rfl ga ?_
   with_reducible refine (impl_SameVal.calls kj8 t750 t751 t752 _ _ t753 t756 t757 t758 _ _ t759 t766 _ ?side1 ?side2 ?side3 ?side4 A65.out).mono ?_
   (case side1 => repeat (first | exact (Kd.V_reads' HO755.out).2.2 | (with_reducible refine Kd.C_alloc ?_ _) | (with_reducible refine Kd.C_drewN ?_ _) | (with_reducible refine Kd.C_drew ?_)))
   (case side2 => exact (Kd.V_reads' HO755.out).2.1)
   (case side3 => repeat (first | exact (Kd.V_reads' HO761.out).2.2 | (with_reducible refine Kd.C_alloc ?_ _) | (with_reducible refine Kd.C_drewN ?_ _) | (with_reducible refine Kd.C_drew ?_)))
   (case side4 => exact (Kd.V_reads' HO761.out).2.1)
   rintro e w101 ⟨rfl, hb⟩
   refine ⟨_, rfl, ?_⟩
   have n0_ := am (Kd.R_below (kqR HO_3.out) hb)
   have n1_ := am (Kd.R_below (kqR HO_5.out) hb)
   have n2_ := am (Kd.R_below (kqR HO_701003.out) hb)
   have n3_ := am (Kd.R_below (kqR HO_717003.out) hb)
   have n4_ := am (Kd.R_below (kqR HO_726003.out) hb)
   have n5_ := am (Kd.R_below (kqR HO746.out) hb)
   have n6_ := am (Kd.V_below (by (with_reducible repeat (first | apply Kd.V_alloc | apply Kd.V_drewN | apply Kd.V_drew)); exact HO755.out) hb)
   have n7_ := am (Kd.V_below (by (with_reducible repeat (first | apply Kd.V_alloc | apply Kd.V_drewN | apply Kd.V_drew)); exact HO761.out) hb)
   have n8_ := am (blk_below (zb BK700.out) hb)
   have n9_ := am (blk_below (zb BK716.out) hb)
   have n10_ := am (blk_below (zb BK725.out) hb)
   have n11_ := am (blk_below (zb BK749.out) hb)
   have n12_ := am (blk_below (zb BK762.out) hb)
   have n13_ := am (blk_below (zb BK763.out) hb)
   have n14_ := am (below_step (bq6 HB.out GE700.out GE716.out GE725.out GE749.out GE762.out GE763.out) hb)
   clear HO_3
   clear HO_5
   clear HO_701003
   clear HO_717003
   clear HO_726003
   clear HO746
   clear HO755
   clear HO761
   clear BK700
   clear BK716
   clear BK725
   clear BK749
   clear BK762
   clear BK763
   clear HB
   have HO_3 := n0_
   have HO_5 := n1_
   have HO_701003 := n2_
   have HO_717003 := n3_
   have HO_726003 := n4_
   have HO746 := n5_
   have HO755 := n6_
   have HO761 := n7_
   have BK700 := n8_
   have BK716 := n9_
   have BK725 := n10_
   have BK749 := n11_
   have BK762 := n12_
   have BK763 := n13_
   have HB := n14_
   clear n0_ n1_ n2_ n3_ n4_ n5_ n6_ n7_ n8_ n9_ n10_ n11_ n12_ n13_ n14_
   (try clear hb)
   refine hK.out _ _ ⟨(blk_cell BK749.out 0).trans rfl, (blk_cell BK749.out 1).trans rfl, (blk_cell BK749.out 2).trans rfl, (blk_cell BK749.out 3).trans rfl, (blk_cell BK700.out 0).trans rfl, (blk_cell BK700.out 1).trans rfl, (blk_cell BK700.out 2).trans rfl, (blk_cell BK700.out 3).trans rfl, (blk_cell BK762.out 0).trans rfl, (blk_cell BK762.out 1).trans rfl, (blk_cell BK762.out 2).trans rfl, (blk_cell BK762.out 3).trans rfl, (blk_cell BK763.out 0).trans rfl, (blk_cell BK763.out 1).trans rfl, (blk_cell BK763.out 2).trans rfl, (blk_cell BK763.out 3).trans rfl⟩ (fun hHeld => ?_)
   clear hK K
   refine norm_ (a' := ?_) ?_ ?_
   rotate_left
   · show Act.put _ (some 113) _ = _
     simp only [Act.put, List.setIfInBounds_toArray, List.set_cons_zero, List.set_cons_succ, i64_w, i32_w]
     rfl
   refine one_ (i := 22) (N := some 116) #[true, true, true, true, true, true, true, true, true, true, true, true, true, true, true, true, true, true, true, true, true, true, true, false, false, false] rfl rfl (one_of HT_.out (by kernel_rfl)) (by decide) (fun K hK => ?_)
   refine goes_ Try.func50 (by kernel_rfl) rfl #[.agg #[.int .i64 t750, .int .i64 t751, .string t752, .slice Ao89 t753.length co89], .agg #[.int .i64 t756, .int .i64 t757, .string t758, .slice Ao96 t759.length co96]] (by rfl) rfl rfl ga ?_
   with_reducible refine (spec_SameVal.calls kj8 t750 t751 t752 _ _ t753 t756 t757 t758 _ _ t759 t767 _ ?side1 ?side2 ?side3 ?side4 A66.out).mono ?_
   (case side1 => repeat (first | exact (Kd.V_reads' HO755.out).2.2 | (with_reducible refine Kd.C_alloc ?_ _) | (with_reducible refine Kd.C_drewN ?_ _) | (with_reducible refine Kd.C_drew ?_)))
   (case side2 => exact (Kd.V_reads' HO755.out).2.1)
   (case side3 => repeat (first | exact (Kd.V_reads' HO761.out).2.2 | (with_reducible refine Kd.C_alloc ?_ _) | (with_reducible refine Kd.C_drewN ?_ _) | (with_reducible refine Kd.C_drew ?_)))
   (case side4 => exact (Kd.V_reads' HO761.out).2.1)
   rintro e w102 ⟨rfl, hb⟩
   refine ⟨_, rfl, ?_⟩
   have n0_ := am (Kd.R_below (kqR HO_3.out) hb)
   have n1_ := am (Kd.R_below (kqR HO_5.out) hb)
   have n2_ := am (Kd.R_below (kqR HO_701003.out) hb)
   have n3_ := am (Kd.R_below (kqR HO_717003.out) hb)
   have n4_ := am (Kd.R_below (kqR HO_726003.out) hb)
   have n5_ := am (Kd.R_below (kqR HO746.out) hb)
   have n6_ := am (Kd.V_below (by (with_reducible repeat (first | apply Kd.V_alloc | apply Kd.V_drewN | apply Kd.V_drew)); exact HO755.out) hb)
   have n7_ := am (Kd.V_below (by (with_reducible repeat (first | apply Kd.V_alloc | apply Kd.V_drewN | apply Kd.V_drew)); exact HO761.out) hb)
   have n8_ := am (blk_below (zb BK700.out) hb)
   have n9_ := am (blk_below (zb BK716.out) hb)
   have n10_ := am (blk_below (zb BK725.out) hb)
   have n11_ := am (blk_below (zb BK749.out) hb)
   have n12_ := am (blk_below (zb BK762.out) hb)
   have n13_ := am (blk_below (zb BK763.out) hb)
   have n14_ := am (below_step (bq6 HB.out GE700.out GE716.out GE725.out GE749.out GE762.out GE763.out) hb)
   clear HO_3
   clear HO_5
   clear HO_701003
   clear HO_717003
   clear HO_726003
   clear HO746
   clear HO755
   clear HO761
   clear BK700
   clear BK716
   clear BK725
   clear BK749
   clear BK762
   clear BK763
   clear HB
   have HO_3 := n0_
   have HO_5 := n1_
   have HO_701003 := n2_
   have HO_717003 := n3_
   have HO_726003 := n4_
   have HO746 := n5_
   have HO755 := n6_
   have HO761 := n7_
   have BK700 := n8_
   have BK716 := n9_
   have BK725 := n10_
   have BK749 := n11_
   have BK762 := n12_
   have BK763 := n13_
   have HB := n14_
   clear n0_ n1_ n2_ n3_ n4_ n5_ n6_ n7_ n8_ n9_ n10_ n11_ n12_ n13_ n14_
   (try clear hb)
   refine hK.out _ _ ⟨(blk_cell BK749.out 0).trans rfl, (blk_cell BK749.out 1).trans rfl, (blk_cell BK749.out 2).trans rfl, (blk_cell BK749.out 3).trans rfl, (blk_cell BK700.out 0).trans rfl, (blk_cell BK700.out 1).trans rfl, (blk_cell BK700.out 2).trans rfl, (blk_cell BK700.out 3).trans rfl, (blk_cell BK762.out 0).trans rfl, (blk_cell BK762.out 1).trans rfl, (blk_cell BK762.out 2).trans rfl, (blk_cell BK762.out 3).trans rfl, (blk_cell BK763.out 0).trans rfl, (blk_cell BK763.out 1).trans rfl, (blk_cell BK763.out 2).trans rfl, (blk_cell BK763.out 3).trans rfl⟩ (fun hHeld => ?_)
   clear hK K
   refine norm_ (a' := ?_) ?_ ?_
   rotate_left
   · show Act.put _ (some 116) _ = _
     simp only [Act.put, List.setIfInBounds_toArray, List.set_cons_zero, List.set_cons_succ, i64_w, i32_w]
     rfl
   refine pu 23 (some 117) #[true, true, true, true, true, true, true, true, true, true, true, true, true, true, true, true, true, true, true, true, true, true, true, true, false, false] rfl rfl (any_of HT_.out (by kernel_rfl)) (Or.inl ⟨by rfl, by intro w'; go_simp; with_reducible rfl⟩) ?_
   refine pu 24 (some 118) #[true, true, true, true, true, true, true, true, true, true, true, true, true, true, true, true, true, true, true, true, true, true, true, true, true, false] rfl rfl (any_of HT_.out (by kernel_rfl)) (Or.inl ⟨by rfl, by intro w'; go_simp; with_reducible rfl⟩) ?_
   refine pu 25 (some 2) #[true, true, true, true, true, true, true, true, true, true, true, true, true, true, true, true, true, true, true, true, true, true, true, true, true, true] rfl rfl (any_of HT_.out (by kernel_rfl)) (Or.inl ⟨by rfl, by intro w'; go_simp; with_reducible rfl⟩) ?_
   refine done_ (done_of HT_.out (by kernel_rfl)) ?_
   try go_wp2
   go_ret
   exact ⟨rq, bq6 HB.out GE700.out GE716.out GE725.out GE749.out GE762.out GE763.out⟩
/-- THE ONE PURE STATEMENT of laws_FnVals. -/
def laws_FnVals.Pure : Prop := ∀ (l0 : List Int), l0.length ≤ maxLen → (∀ y ∈ l0, (Lit.int .u8 y).wf = true) → ∃ k, laws_FnVals.f k l0 = some true
end Go.Proofs.Ythhnfmbfgplelaa.XFnVals
