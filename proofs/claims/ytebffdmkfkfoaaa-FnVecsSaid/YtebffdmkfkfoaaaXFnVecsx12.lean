/- The functions that one law reaches, as Lean functions, with their walks: printed by a program of this seat (wip/tools) out of the translation. -/
import Derived.Test.YtebffdmkfkfoaaaXFnVecsx0
import Derived.Test.YtebffdmkfkfoaaaXFnVecsx1
import Derived.Test.YtebffdmkfkfoaaaXFnVecsx2
import Derived.Test.YtebffdmkfkfoaaaXFnVecsx5
import Derived.Test.YtebffdmkfkfoaaaXFnVecsx8
import Derived.Test.YtebffdmkfkfoaaaXFnVecsx9
import Derived.Test.YtebffdmkfkfoaaaXFnVecsx11
namespace Go.Proofs.Ytebffdmkfkfoaaa.XFnVecs
open Go.RowKit Go.Proofs.YtebffdmkfkfoaaaW.PrintWords Go.Proofs.YtebffdmkfkfoaaaW.PrintLast Go.Proofs.YtebffdmkfkfoaaaW.PrintMore
attribute [local go_sem] max2_int min2_int max_two min_two max_three min_three max_four min_four   -- for this text's walks alone
set_option linter.unusedVariables false
set_option linter.unusedSimpArgs false

attribute [local go_sem high] eqA47
/-! ### laws_sameBytes: function 66 -/
def laws_sameBytes.l0 : Nat → List Int → List Int → Int → Option (Bool)
 | 0, _, _, _ => none
 | k + 1, x0, x1, x5 => if x5 < (x0.length : Int) then (if 0 ≤ x5 then (if x5 < (x1.length : Int) then (if (rd x0 x5) = (rd x1 x5) then (laws_sameBytes.l0 k x0 x1 (wrap64 (x5 + 1))) else (some false)) else (none)) else (none)) else (some true)
def laws_sameBytes.f (k : Nat) (l0 : List Int) (l1 : List Int) : Option (Bool) := if (l0.length : Int) = (l1.length : Int) then (laws_sameBytes.l0 k l0 l1 0) else (some false)
theorem laws_sameBytes.mono_l : ∀ k, (∀ y0 y1 y2, LeO (laws_sameBytes.l0 k y0 y1 y2) (laws_sameBytes.l0 (k + 1) y0 y1 y2))
 | 0 => fun _ _ _ r h => by simp [laws_sameBytes.l0] at h
 | k + 1 => by
  have ih0 := laws_sameBytes.mono_l k
  intro y0 y1 y2
  unfold laws_sameBytes.l0
  repeat' first
  | (with_reducible exact ih0 _ _ _)
  | (with_reducible exact LeO.refl _)
  | (with_reducible exact LeO.none _)
  | (with_reducible refine LeO.ite ?_ ?_)
  | (with_reducible refine LeO.bind ?_ (fun _ => ?_))
  | exact ih0 _ _ _
  | exact LeO.none _
  | refine LeO.ite ?_ ?_
  | refine LeO.bind ?_ (fun _ => ?_)
theorem laws_sameBytes.mono : ∀ a0 a1 k, LeO (laws_sameBytes.f k a0 a1) (laws_sameBytes.f (k + 1) a0 a1) := by
 intro a0 a1 k
 have ih0 := laws_sameBytes.mono_l k
 unfold laws_sameBytes.f
 repeat' first
  | (with_reducible exact ih0 _ _ _)
  | (with_reducible exact LeO.refl _)
  | (with_reducible exact LeO.none _)
  | (with_reducible refine LeO.ite ?_ ?_)
  | (with_reducible refine LeO.bind ?_ (fun _ => ?_))
  | exact ih0 _ _ _
  | exact LeO.none _
  | refine LeO.ite ?_ ?_
  | refine LeO.bind ?_ (fun _ => ?_)
set_option maxHeartbeats 8000000 in
set_option maxRecDepth 100000 in
theorem laws_sameBytes.calls (k : Nat) (A0 : Option Addr) (c0 : Nat) (l0 : List Int) (A1 : Option Addr) (c1 : Nat) (l1 : List Int) (r : Bool) (w : World) (hr0 : Kd.C (Kd.int .u8) w A0 l0.length l0) (hc0 : l0.length ≤ c0) (hr1 : Kd.C (Kd.int .u8) w A1 l1.length l1) (hc1 : l1.length ≤ c1) (h : laws_sameBytes.f k l0 l1 = some r) :
 Calls Try.prog 66 #[.slice A0 l0.length c0, .slice A1 l1.length c1] w fun e w' => e = .returned (.bool r) ∧ Drawn0 w w' := by
 have HR0 := am hr0
 have HC0 := am hc0
 clear hr0 hc0
 have HR1 := am hr1
 have HC1 := am hc1
 clear hr1 hc1
 have H : (if (l0.length : Int) = (l1.length : Int) then (laws_sameBytes.l0 k l0 l1 0) else (some false)) = some r := h
 clear h
 by_cases c3 : (l0.length : Int) = (l1.length : Int)
 · rw [if_pos c3] at H
   have c3b0 : ((l0.length : Int) == (l1.length : Int)) = true := beq_iff_eq.mpr c3
   have c3b1 : ((l0.length : Int) != (l1.length : Int)) = false := bne_eq_false_iff_eq.mpr c3
   have c3b2 : (l0.length == l1.length) = true := by first | simpa using c3 | (simp at c3 ⊢; omega)
   clear c3
   have H' := am H
   clear H
   go_enter Try.func66, Try.ntmps66
   go_wp2
   repeat (go_quiet (fail); try go_wp2)
   go_loopg [5] k (fun kq v5 w' => ∃ (x5_1 : Int), v5 = .int .i64 x5_1 ∧ Aside0 (laws_sameBytes.l0 kq l0 l1 x5_1 = some r) ∧ Aside0 (kq ≤ k) ∧ Drawn0 w w')
   case atStart => exact ⟨(0), sq, H', ⟨Nat.le_refl _⟩, by repeat (first | exact Drawn0.refl _ | apply Drawn0.step)⟩
   case round =>
    clear H'
    try clear c1
    try clear p2
    try clear c3
    try clear c3b0
    try clear c3b1
    try clear c3b2
    obtain ⟨x5_1, rfl, HA, HK1, ⟨m1, rfl⟩⟩ := hrel
    cases gk with
    | zero => exact absurd HA.out (by simp [laws_sameBytes.l0])
    | succ k1 =>
     have H := HA.out
     clear HA
     simp only [laws_sameBytes.l0] at H
     by_cases c4 : x5_1 < (l0.length : Int)
     · rw [if_pos c4] at H
       have c4b0 : decide (x5_1 < (l0.length : Int)) = true := decide_eq_true c4
       clear c4
       by_cases c5 : 0 ≤ x5_1
       · rw [if_pos c5] at H
         have c5b0 : decide (0 ≤ x5_1) = true := decide_eq_true c5
         clear c5
         by_cases c6 : x5_1 < (l1.length : Int)
         · rw [if_pos c6] at H
           have c6b0 : decide (x5_1 < (l1.length : Int)) = true := decide_eq_true c6
           clear c6
           by_cases c7 : (rd l0 x5_1) = (rd l1 x5_1)
           · rw [if_pos c7] at H
             have c7b0 : ((rd l0 x5_1) == (rd l1 x5_1)) = true := beq_iff_eq.mpr c7
             have c7b1 : ((rd l0 x5_1) != (rd l1 x5_1)) = false := bne_eq_false_iff_eq.mpr c7
             clear c7
             have H' := am H
             clear H
             have p513 : 0 ≤ (x5_1 : Int) := oda
             have q513 : x5_1 < (l0.length : Int) := oda
             obtain ⟨ad513, e513, hx513_0⟩ := Kd.at_int HR0.out x5_1 p513 q513
             cases e513
             replace p513 := eq_true p513
             replace q513 := eq_true q513
             have p514 : 0 ≤ (x5_1 : Int) := oda
             have q514 : x5_1 < (l1.length : Int) := oda
             obtain ⟨ad514, e514, hx514_0⟩ := Kd.at_int HR1.out x5_1 p514 q514
             cases e514
             replace p514 := eq_true p514
             replace q514 := eq_true q514
             go_wp2
             repeat (go_quiet (fail); try go_wp2)
             go_roundg k1
             case measure => have := HK1.out; omega
             case rel => exact ⟨(wrap64 (x5_1 + 1)), sq, H', ⟨by have := HK1.out; omega⟩, by repeat (first | exact Drawn0.refl _ | apply Drawn0.step)⟩
           rw [if_neg c7] at H
           have c7b0 : ((rd l0 x5_1) == (rd l1 x5_1)) = false := beq_eq_false_iff_ne.mpr c7
           have c7b1 : ((rd l0 x5_1) != (rd l1 x5_1)) = true := bne_iff_ne.mpr c7
           obtain rfl := Option.some.inj H
           have p513 : 0 ≤ (x5_1 : Int) := oda
           have q513 : x5_1 < (l0.length : Int) := oda
           obtain ⟨ad513, e513, hx513_0⟩ := Kd.at_int HR0.out x5_1 p513 q513
           cases e513
           replace p513 := eq_true p513
           replace q513 := eq_true q513
           have p514 : 0 ≤ (x5_1 : Int) := oda
           have q514 : x5_1 < (l1.length : Int) := oda
           obtain ⟨ad514, e514, hx514_0⟩ := Kd.at_int HR1.out x5_1 p514 q514
           cases e514
           replace p514 := eq_true p514
           replace q514 := eq_true q514
           go_wp2
           repeat (go_quiet (fail); try go_wp2)
           go_ret
           exact ⟨by first | rfl | (simp; done) | (simp [*]; done), by repeat (first | exact Drawn0.refl _ | apply Drawn0.step)⟩
         rw [if_neg c6] at H
         exact absurd H (by simp)
       rw [if_neg c5] at H
       exact absurd H (by simp)
     rw [if_neg c4] at H
     have c4b0 : decide (x5_1 < (l0.length : Int)) = false := decide_eq_false c4
     clear c4
     obtain rfl := Option.some.inj H
     go_wp2
     repeat (go_quiet (fail); try go_wp2)
     go_ret
     exact ⟨by first | rfl | (simp; done) | (simp [*]; done), by repeat (first | exact Drawn0.refl _ | apply Drawn0.step)⟩
 rw [if_neg c3] at H
 have c3b0 : ((l0.length : Int) == (l1.length : Int)) = false := beq_eq_false_iff_ne.mpr c3
 have c3b1 : ((l0.length : Int) != (l1.length : Int)) = true := bne_iff_ne.mpr c3
 have c3b2 : (l0.length == l1.length) = false := by first | simpa using c3 | (simp at c3 ⊢; omega)
 obtain rfl := Option.some.inj H
 go_enter Try.func66, Try.ntmps66
 go_wp2
 repeat (go_quiet (fail); try go_wp2)
 go_ret
 exact ⟨by first | rfl | (simp; done) | (simp [*]; done), by repeat (first | exact Drawn0.refl _ | apply Drawn0.step)⟩

/-! ### laws_FnVecs: function 13 -/
def laws_FnVecs.j0 : Nat → List Int → Bool → Int → Int → Int → Int → Int → Option (Bool)
 | 0, _, _, _, _, _, _, _ => none
 | k + 1, x4, x47, x522000, x522001, x522002, x522003, x522004 => if x47 = true then (some false) else ((spec_VecOk.f x522000 x522001 x522002 x522003 x522004).bind fun t547 => (if t547 = true then ((impl_GetVec.f k x4).bind fun bt548 => (if bt548.2.2.2.2.2 = true then (if (bt548.1 == x522000 && (bt548.2.1 == x522001 && (bt548.2.2.1 == x522002 && (bt548.2.2.2.1 == x522003 && (bt548.2.2.2.2.1 == x522004))))) = true then ((impl_VecOk.f x522000 x522001 x522002 x522003 x522004).bind fun t555 => (some t555)) else (some false)) else (some false))) else (if (x4.length : Int) = 0 then ((impl_VecOk.f x522000 x522001 x522002 x522003 x522004).bind fun t556 => (some (!t556))) else (some false))))
def laws_FnVecs.f (k : Nat) (l0 : List Int) : Option (Bool) := (laws_big.f l0).bind fun t515 => (if t515 = true then (some true) else ((spec_DrawPutVec.f k l0).bind fun bt516 => ((impl_PutVec.f k bt516.1 bt516.2.1 bt516.2.2.1 bt516.2.2.2.1 bt516.2.2.2.2).bind fun t522 => ((spec_DrawGetVec.f k l0).bind fun t525 => ((impl_GetVec.f k t525).bind fun bt528 => ((spec_GetVec.f k t525).bind fun bt535 => (if (bt528.2.2.2.2.2 != bt535.2.2.2.2.2) = true then (laws_FnVecs.j0 k t522 true bt516.1 bt516.2.1 bt516.2.2.1 bt516.2.2.2.1 bt516.2.2.2.2) else (if bt528.2.2.2.2.2 = true then ((impl_VecOk.f bt528.1 bt528.2.1 bt528.2.2.1 bt528.2.2.2.1 bt528.2.2.2.2.1).bind fun t542 => (if t542 = true then ((impl_PutVec.f k bt528.1 bt528.2.1 bt528.2.2.1 bt528.2.2.2.1 bt528.2.2.2.2.1).bind fun t543 => ((laws_sameBytes.f k t543 t525).bind fun t546 => (laws_FnVecs.j0 k t522 (!t546) bt516.1 bt516.2.1 bt516.2.2.1 bt516.2.2.2.1 bt516.2.2.2.2))) else (laws_FnVecs.j0 k t522 true bt516.1 bt516.2.1 bt516.2.2.1 bt516.2.2.2.1 bt516.2.2.2.2))) else (laws_FnVecs.j0 k t522 false bt516.1 bt516.2.1 bt516.2.2.1 bt516.2.2.2.1 bt516.2.2.2.2)))))))))
theorem laws_FnVecs.mono_l : ∀ k, (∀ y0 y1 y2 y3 y4 y5 y6, LeO (laws_FnVecs.j0 k y0 y1 y2 y3 y4 y5 y6) (laws_FnVecs.j0 (k + 1) y0 y1 y2 y3 y4 y5 y6))
 | 0 => fun _ _ _ _ _ _ _ r h => by simp [laws_FnVecs.j0] at h
 | k + 1 => by
  have ih0 := laws_FnVecs.mono_l k
  intro y0 y1 y2 y3 y4 y5 y6
  unfold laws_FnVecs.j0
  repeat' first
  | (with_reducible exact ih0 _ _ _ _ _ _ _)
  | (with_reducible exact impl_GetVec.mono _ _)
  | (with_reducible exact impl_PutVec.mono _ _ _ _ _ _)
  | (with_reducible exact laws_sameBytes.mono _ _ _)
  | (with_reducible exact spec_DrawGetVec.mono _ _)
  | (with_reducible exact spec_DrawPutVec.mono _ _)
  | (with_reducible exact spec_GetVec.mono _ _)
  | (with_reducible exact LeO.refl _)
  | (with_reducible exact LeO.none _)
  | (with_reducible refine LeO.ite ?_ ?_)
  | (with_reducible refine LeO.bind ?_ (fun _ => ?_))
  | exact ih0 _ _ _ _ _ _ _
  | exact impl_GetVec.mono _ _
  | exact impl_PutVec.mono _ _ _ _ _ _
  | exact laws_sameBytes.mono _ _ _
  | exact spec_DrawGetVec.mono _ _
  | exact spec_DrawPutVec.mono _ _
  | exact spec_GetVec.mono _ _
  | exact LeO.none _
  | refine LeO.ite ?_ ?_
  | refine LeO.bind ?_ (fun _ => ?_)
theorem laws_FnVecs.mono : ∀ a0 k, LeO (laws_FnVecs.f k a0) (laws_FnVecs.f (k + 1) a0) := by
 intro a0 k
 have ih0 := laws_FnVecs.mono_l k
 unfold laws_FnVecs.f
 repeat' first
  | (with_reducible exact ih0 _ _ _ _ _ _ _)
  | (with_reducible exact impl_GetVec.mono _ _)
  | (with_reducible exact impl_PutVec.mono _ _ _ _ _ _)
  | (with_reducible exact laws_sameBytes.mono _ _ _)
  | (with_reducible exact spec_DrawGetVec.mono _ _)
  | (with_reducible exact spec_DrawPutVec.mono _ _)
  | (with_reducible exact spec_GetVec.mono _ _)
  | (with_reducible exact LeO.refl _)
  | (with_reducible exact LeO.none _)
  | (with_reducible refine LeO.ite ?_ ?_)
  | (with_reducible refine LeO.bind ?_ (fun _ => ?_))
  | exact ih0 _ _ _ _ _ _ _
  | exact impl_GetVec.mono _ _
  | exact impl_PutVec.mono _ _ _ _ _ _
  | exact laws_sameBytes.mono _ _ _
  | exact spec_DrawGetVec.mono _ _
  | exact spec_DrawPutVec.mono _ _
  | exact spec_GetVec.mono _ _
  | exact LeO.none _
  | refine LeO.ite ?_ ?_
  | refine LeO.bind ?_ (fun _ => ?_)
set_option maxHeartbeats 8000000 in
set_option maxRecDepth 100000 in
theorem laws_FnVecs.calls (k : Nat) (A0 : Option Addr) (c0 : Nat) (l0 : List Int) (r : Bool) (w : World) (hr0 : Kd.C (Kd.int .u8) w A0 l0.length l0) (hc0 : l0.length ≤ c0) (hr_ : r = true) (h : laws_FnVecs.f k l0 = some r) :
 Calls Try.prog 13 #[.slice A0 l0.length c0] w fun e w' => e = .returned (.bool r) ∧ Below w.heap.size w w' := by
 have hu47 := Try.underlying47
 have HRT := am hr_
 clear hr_
 have HR0 := am hr0
 have HC0 := am hc0
 clear hr0 hc0
 have HB := am (Below.refl w.heap.size w)
 have H : ((laws_big.f l0).bind fun t515 => (if t515 = true then (some true) else ((spec_DrawPutVec.f k l0).bind fun bt516 => ((impl_PutVec.f k bt516.1 bt516.2.1 bt516.2.2.1 bt516.2.2.2.1 bt516.2.2.2.2).bind fun t522 => ((spec_DrawGetVec.f k l0).bind fun t525 => ((impl_GetVec.f k t525).bind fun bt528 => ((spec_GetVec.f k t525).bind fun bt535 => (if (bt528.2.2.2.2.2 != bt535.2.2.2.2.2) = true then (laws_FnVecs.j0 k t522 true bt516.1 bt516.2.1 bt516.2.2.1 bt516.2.2.2.1 bt516.2.2.2.2) else (if bt528.2.2.2.2.2 = true then ((impl_VecOk.f bt528.1 bt528.2.1 bt528.2.2.1 bt528.2.2.2.1 bt528.2.2.2.2.1).bind fun t542 => (if t542 = true then ((impl_PutVec.f k bt528.1 bt528.2.1 bt528.2.2.1 bt528.2.2.2.1 bt528.2.2.2.2.1).bind fun t543 => ((laws_sameBytes.f k t543 t525).bind fun t546 => (laws_FnVecs.j0 k t522 (!t546) bt516.1 bt516.2.1 bt516.2.2.1 bt516.2.2.2.1 bt516.2.2.2.2))) else (laws_FnVecs.j0 k t522 true bt516.1 bt516.2.1 bt516.2.2.1 bt516.2.2.2.1 bt516.2.2.2.2))) else (laws_FnVecs.j0 k t522 false bt516.1 bt516.2.1 bt516.2.2.1 bt516.2.2.2.1 bt516.2.2.2.2)))))))))) = some r := h
 clear h
 replace H := Option.bind_eq_some_iff.mp H
 obtain ⟨t515, A20, H⟩ := H
 replace H : (if t515 = true then (some true) else ((spec_DrawPutVec.f k l0).bind fun bt516 => ((impl_PutVec.f k bt516.1 bt516.2.1 bt516.2.2.1 bt516.2.2.2.1 bt516.2.2.2.2).bind fun t522 => ((spec_DrawGetVec.f k l0).bind fun t525 => ((impl_GetVec.f k t525).bind fun bt528 => ((spec_GetVec.f k t525).bind fun bt535 => (if (bt528.2.2.2.2.2 != bt535.2.2.2.2.2) = true then (laws_FnVecs.j0 k t522 true bt516.1 bt516.2.1 bt516.2.2.1 bt516.2.2.2.1 bt516.2.2.2.2) else (if bt528.2.2.2.2.2 = true then ((impl_VecOk.f bt528.1 bt528.2.1 bt528.2.2.1 bt528.2.2.2.1 bt528.2.2.2.2.1).bind fun t542 => (if t542 = true then ((impl_PutVec.f k bt528.1 bt528.2.1 bt528.2.2.1 bt528.2.2.2.1 bt528.2.2.2.2.1).bind fun t543 => ((laws_sameBytes.f k t543 t525).bind fun t546 => (laws_FnVecs.j0 k t522 (!t546) bt516.1 bt516.2.1 bt516.2.2.1 bt516.2.2.2.1 bt516.2.2.2.2))) else (laws_FnVecs.j0 k t522 true bt516.1 bt516.2.1 bt516.2.2.1 bt516.2.2.2.1 bt516.2.2.2.2))) else (laws_FnVecs.j0 k t522 false bt516.1 bt516.2.1 bt516.2.2.1 bt516.2.2.2.1 bt516.2.2.2.2))))))))) = some r := H
 have A2 := am A20
 clear A20
 by_cases c3 : t515 = true
 · subst c3
   have H1 : (some true) = some r := by rw [if_pos rfl] at H; exact H
   clear H
   have H := H1
   clear H1
   obtain rfl := Option.some.inj H
   go_enter Try.func13, Try.ntmps13
   go_wp2_with (first | ((with_reducible refine gate_callee (f := 26) rfl ?_); refine goesL_ (some 13) rfl rfl Try.func26 (by kernel_rfl) rfl #[.slice A0 l0.length c0] rfl ga ?_; (with_reducible refine (laws_big.calls _ _ l0 true _ ?side1 ?side2 A2.out).mono ?_); (case side1 => exact cq HR0.out); (case side2 => exact HC0.out); rintro e w' ⟨rfl, ⟨nd, rfl⟩⟩; refine ⟨_, rfl, ?_⟩))
   go_ret
   exact ⟨rq, bq HB.out⟩
 replace c3 := Bool.eq_false_iff.mpr c3
 subst c3
 have H1 : ((spec_DrawPutVec.f k l0).bind fun bt516 => ((impl_PutVec.f k bt516.1 bt516.2.1 bt516.2.2.1 bt516.2.2.2.1 bt516.2.2.2.2).bind fun t522 => ((spec_DrawGetVec.f k l0).bind fun t525 => ((impl_GetVec.f k t525).bind fun bt528 => ((spec_GetVec.f k t525).bind fun bt535 => (if (bt528.2.2.2.2.2 != bt535.2.2.2.2.2) = true then (laws_FnVecs.j0 k t522 true bt516.1 bt516.2.1 bt516.2.2.1 bt516.2.2.2.1 bt516.2.2.2.2) else (if bt528.2.2.2.2.2 = true then ((impl_VecOk.f bt528.1 bt528.2.1 bt528.2.2.1 bt528.2.2.2.1 bt528.2.2.2.2.1).bind fun t542 => (if t542 = true then ((impl_PutVec.f k bt528.1 bt528.2.1 bt528.2.2.1 bt528.2.2.2.1 bt528.2.2.2.2.1).bind fun t543 => ((laws_sameBytes.f k t543 t525).bind fun t546 => (laws_FnVecs.j0 k t522 (!t546) bt516.1 bt516.2.1 bt516.2.2.1 bt516.2.2.2.1 bt516.2.2.2.2))) else (laws_FnVecs.j0 k t522 true bt516.1 bt516.2.1 bt516.2.2.1 bt516.2.2.2.1 bt516.2.2.2.2))) else (laws_FnVecs.j0 k t522 false bt516.1 bt516.2.1 bt516.2.2.1 bt516.2.2.2.1 bt516.2.2.2.2)))))))) = some r := by rw [if_neg (show ¬ (false = true) by decide)] at H; exact H
 clear H
 have H := H1
 clear H1
 replace H := Option.bind_eq_some_iff.mp H
 obtain ⟨⟨t516, t517, t518, t519, t520⟩, A40, H⟩ := H
 replace H : ((impl_PutVec.f k t516 t517 t518 t519 t520).bind fun t522 => ((spec_DrawGetVec.f k l0).bind fun t525 => ((impl_GetVec.f k t525).bind fun bt528 => ((spec_GetVec.f k t525).bind fun bt535 => (if (bt528.2.2.2.2.2 != bt535.2.2.2.2.2) = true then (laws_FnVecs.j0 k t522 true t516 t517 t518 t519 t520) else (if bt528.2.2.2.2.2 = true then ((impl_VecOk.f bt528.1 bt528.2.1 bt528.2.2.1 bt528.2.2.2.1 bt528.2.2.2.2.1).bind fun t542 => (if t542 = true then ((impl_PutVec.f k bt528.1 bt528.2.1 bt528.2.2.1 bt528.2.2.2.1 bt528.2.2.2.2.1).bind fun t543 => ((laws_sameBytes.f k t543 t525).bind fun t546 => (laws_FnVecs.j0 k t522 (!t546) t516 t517 t518 t519 t520))) else (laws_FnVecs.j0 k t522 true t516 t517 t518 t519 t520))) else (laws_FnVecs.j0 k t522 false t516 t517 t518 t519 t520))))))) = some r := H
 have A4 := am A40
 clear A40
 replace H := Option.bind_eq_some_iff.mp H
 obtain ⟨t522, A50, H⟩ := H
 replace H : ((spec_DrawGetVec.f k l0).bind fun t525 => ((impl_GetVec.f k t525).bind fun bt528 => ((spec_GetVec.f k t525).bind fun bt535 => (if (bt528.2.2.2.2.2 != bt535.2.2.2.2.2) = true then (laws_FnVecs.j0 k t522 true t516 t517 t518 t519 t520) else (if bt528.2.2.2.2.2 = true then ((impl_VecOk.f bt528.1 bt528.2.1 bt528.2.2.1 bt528.2.2.2.1 bt528.2.2.2.2.1).bind fun t542 => (if t542 = true then ((impl_PutVec.f k bt528.1 bt528.2.1 bt528.2.2.1 bt528.2.2.2.1 bt528.2.2.2.2.1).bind fun t543 => ((laws_sameBytes.f k t543 t525).bind fun t546 => (laws_FnVecs.j0 k t522 (!t546) t516 t517 t518 t519 t520))) else (laws_FnVecs.j0 k t522 true t516 t517 t518 t519 t520))) else (laws_FnVecs.j0 k t522 false t516 t517 t518 t519 t520)))))) = some r := H
 have A5 := am A50
 clear A50
 replace H := Option.bind_eq_some_iff.mp H
 obtain ⟨t525, A60, H⟩ := H
 replace H : ((impl_GetVec.f k t525).bind fun bt528 => ((spec_GetVec.f k t525).bind fun bt535 => (if (bt528.2.2.2.2.2 != bt535.2.2.2.2.2) = true then (laws_FnVecs.j0 k t522 true t516 t517 t518 t519 t520) else (if bt528.2.2.2.2.2 = true then ((impl_VecOk.f bt528.1 bt528.2.1 bt528.2.2.1 bt528.2.2.2.1 bt528.2.2.2.2.1).bind fun t542 => (if t542 = true then ((impl_PutVec.f k bt528.1 bt528.2.1 bt528.2.2.1 bt528.2.2.2.1 bt528.2.2.2.2.1).bind fun t543 => ((laws_sameBytes.f k t543 t525).bind fun t546 => (laws_FnVecs.j0 k t522 (!t546) t516 t517 t518 t519 t520))) else (laws_FnVecs.j0 k t522 true t516 t517 t518 t519 t520))) else (laws_FnVecs.j0 k t522 false t516 t517 t518 t519 t520))))) = some r := H
 have A6 := am A60
 clear A60
 replace H := Option.bind_eq_some_iff.mp H
 obtain ⟨⟨t528, t529, t530, t531, t532, t533⟩, A70, H⟩ := H
 replace H : ((spec_GetVec.f k t525).bind fun bt535 => (if (t533 != bt535.2.2.2.2.2) = true then (laws_FnVecs.j0 k t522 true t516 t517 t518 t519 t520) else (if t533 = true then ((impl_VecOk.f t528 t529 t530 t531 t532).bind fun t542 => (if t542 = true then ((impl_PutVec.f k t528 t529 t530 t531 t532).bind fun t543 => ((laws_sameBytes.f k t543 t525).bind fun t546 => (laws_FnVecs.j0 k t522 (!t546) t516 t517 t518 t519 t520))) else (laws_FnVecs.j0 k t522 true t516 t517 t518 t519 t520))) else (laws_FnVecs.j0 k t522 false t516 t517 t518 t519 t520)))) = some r := H
 have A7 := am A70
 clear A70
 replace H := Option.bind_eq_some_iff.mp H
 obtain ⟨⟨t535, t536, t537, t538, t539, t540⟩, A80, H⟩ := H
 replace H : (if (t533 != t540) = true then (laws_FnVecs.j0 k t522 true t516 t517 t518 t519 t520) else (if t533 = true then ((impl_VecOk.f t528 t529 t530 t531 t532).bind fun t542 => (if t542 = true then ((impl_PutVec.f k t528 t529 t530 t531 t532).bind fun t543 => ((laws_sameBytes.f k t543 t525).bind fun t546 => (laws_FnVecs.j0 k t522 (!t546) t516 t517 t518 t519 t520))) else (laws_FnVecs.j0 k t522 true t516 t517 t518 t519 t520))) else (laws_FnVecs.j0 k t522 false t516 t517 t518 t519 t520))) = some r := H
 have A8 := am A80
 clear A80
 have HC9 := am H
 clear H
 go_enter Try.func13, Try.ntmps13
 go_upto_region 8 with (first | ((with_reducible refine gate_callee (f := 26) rfl ?_); refine goesL_ (some 13) rfl rfl Try.func26 (by kernel_rfl) rfl #[.slice A0 l0.length c0] rfl ga ?_; (with_reducible refine (laws_big.calls _ _ l0 false _ ?side1 ?side2 A2.out).mono ?_); (case side1 => exact cq HR0.out); (case side2 => exact HC0.out); rintro e w' ⟨rfl, ⟨nd, rfl⟩⟩; refine ⟨_, rfl, ?_⟩) | ((with_reducible refine gate_callee (f := 62) rfl ?_); refine goesL_ (some 15) rfl rfl Try.func62 (by kernel_rfl) rfl #[.slice A0 l0.length c0] rfl ga ?_; (with_reducible refine (spec_DrawPutVec.calls k _ _ l0 t516 t517 t518 t519 t520 _ ?side1 ?side2 A4.out).mono ?_); (case side1 => exact cq HR0.out); (case side2 => exact HC0.out); rintro e w10 ⟨rfl, hb⟩; refine ⟨_, rfl, ?_⟩; replace HB := am (below_step (bq HB.out) hb); (try clear hb)) | ((with_reducible refine gate_dst (N := 3) rfl ?_); refine box_event ?hg (N := 3) ?hd (cs := #[.int .i64 0, .int .i64 0, .int .i64 0, .int .i64 0, .int .i64 0]) (t := 47) ?hr ?_; (case hd => rfl); (case hg => rfl); (case hr => exact gs); intro gb521 hg w11 hbox hb; have n_ := ak4 (below_step (bq HB.out) hb) hbox ((by rw [hg]; exact (below_size (bq HB.out)) : w.heap.size ≤ gb521)) ((by rw [hg]; exact (below_size (bq HB.out)) : w.heap.size ≤ gb521)); clear HB; obtain ⟨HB, BK521, GW521, GE521⟩ := n_; clear hb hbox hg; have hcz12_0 : w11.cell? ⟨gb521, 0, none⟩ = some (.int .i64 0) := (blk_cell BK521.out 0).trans rfl; have hcz12_1 : w11.cell? ⟨gb521, 1, none⟩ = some (.int .i64 0) := (blk_cell BK521.out 1).trans rfl; have hcz12_2 : w11.cell? ⟨gb521, 2, none⟩ = some (.int .i64 0) := (blk_cell BK521.out 2).trans rfl; have hcz12_3 : w11.cell? ⟨gb521, 3, none⟩ = some (.int .i64 0) := (blk_cell BK521.out 3).trans rfl; have hcz12_4 : w11.cell? ⟨gb521, 4, none⟩ = some (.int .i64 0) := (blk_cell BK521.out 4).trans rfl; have hfz12_0 := blk_frozen BK521.out 0; have hfz12_1 := blk_frozen BK521.out 1; have hfz12_2 := blk_frozen BK521.out 2; have hfz12_3 := blk_frozen BK521.out 3; have hfz12_4 := blk_frozen BK521.out 4) | ((with_reducible refine gate_store (t := 47) (p := 3) rfl ?_); refine store_event (t := 47) (p := 3) (v := ?vo_w13) (w1 := (((((w11.setCell ⟨gb521, 0, none⟩ (.int .i64 t516)).setCell ⟨gb521, 1, none⟩ (.int .i64 t517)).setCell ⟨gb521, 2, none⟩ (.int .i64 t518)).setCell ⟨gb521, 3, none⟩ (.int .i64 t519)).setCell ⟨gb521, 4, none⟩ (.int .i64 t520))) ?hg ?ho ?hn ?hr ?_; (case ho => rfl); (case hg => rfl); (case hn => rfl); (case hr => exact gs); intro w13 hw; have n0_ : Aside0 (w13.heap[gb521]? = some (.cells #[.int .i64 t516, .int .i64 t517, .int .i64 t518, .int .i64 t519, .int .i64 t520] 47 (0, 0))) := ⟨(by rw [hw]; exact (by (with_reducible repeat (first | refine blk_drewN ?_ _ | refine blk_drew ?_ | refine blk_alloc ?_ _)); refine blk_put (cs := #[.int .i64 t516, .int .i64 t517, .int .i64 t518, .int .i64 t519, .int .i64 0]) ?_ 4 _ rfl; (with_reducible repeat (first | refine blk_drewN ?_ _ | refine blk_drew ?_ | refine blk_alloc ?_ _)); refine blk_put (cs := #[.int .i64 t516, .int .i64 t517, .int .i64 t518, .int .i64 0, .int .i64 0]) ?_ 3 _ rfl; (with_reducible repeat (first | refine blk_drewN ?_ _ | refine blk_drew ?_ | refine blk_alloc ?_ _)); refine blk_put (cs := #[.int .i64 t516, .int .i64 t517, .int .i64 0, .int .i64 0, .int .i64 0]) ?_ 2 _ rfl; (with_reducible repeat (first | refine blk_drewN ?_ _ | refine blk_drew ?_ | refine blk_alloc ?_ _)); refine blk_put (cs := #[.int .i64 t516, .int .i64 0, .int .i64 0, .int .i64 0, .int .i64 0]) ?_ 1 _ rfl; (with_reducible repeat (first | refine blk_drewN ?_ _ | refine blk_drew ?_ | refine blk_alloc ?_ _)); refine blk_put (cs := #[.int .i64 0, .int .i64 0, .int .i64 0, .int .i64 0, .int .i64 0]) ?_ 0 _ rfl; (with_reducible repeat (first | refine blk_drewN ?_ _ | refine blk_drew ?_ | refine blk_alloc ?_ _)); exact BK521.out))⟩; have n1_ : Aside0 (Below w.heap.size w w13) := ⟨(by rw [hw]; exact (bq1 HB.out GE521.out))⟩; clear hw; clear BK521; clear HB; have BK521 := n0_; have HB := n1_; clear n0_ n1_; have hcz14_0 : w13.cell? ⟨gb521, 0, none⟩ = some (.int .i64 t516) := (blk_cell BK521.out 0).trans rfl; have hcz14_1 : w13.cell? ⟨gb521, 1, none⟩ = some (.int .i64 t517) := (blk_cell BK521.out 1).trans rfl; have hcz14_2 : w13.cell? ⟨gb521, 2, none⟩ = some (.int .i64 t518) := (blk_cell BK521.out 2).trans rfl; have hcz14_3 : w13.cell? ⟨gb521, 3, none⟩ = some (.int .i64 t519) := (blk_cell BK521.out 3).trans rfl; have hcz14_4 : w13.cell? ⟨gb521, 4, none⟩ = some (.int .i64 t520) := (blk_cell BK521.out 4).trans rfl; have hfz14_0 := blk_frozen BK521.out 0; have hfz14_1 := blk_frozen BK521.out 1; have hfz14_2 := blk_frozen BK521.out 2; have hfz14_3 := blk_frozen BK521.out 3; have hfz14_4 := blk_frozen BK521.out 4) | ((with_reducible refine gate_callee (f := 63) rfl ?_); refine goesL_ (some 17) rfl rfl Try.func63 (by kernel_rfl) rfl #[.agg #[.int .i64 t516, .int .i64 t517, .int .i64 t518, .int .i64 t519, .int .i64 t520]] rfl ga ?_; (with_reducible refine (impl_PutVec.calls k t516 t517 t518 t519 t520 t522 _ A5.out).mono ?_); rintro e w15 ⟨v523, rfl, ho0, hb⟩; refine ⟨_, rfl, ?_⟩; have n_ := ak3 (Kd.R_lower ho0 (below_size (bq1 HB.out GE521.out))) (blk_below (g := gb521) (o := .cells #[.int .i64 t516, .int .i64 t517, .int .i64 t518, .int .i64 t519, .int .i64 t520] 47 (0, 0)) (zq BK521.out) hb) (below_step (bq1 HB.out GE521.out) hb); clear BK521 HB; obtain ⟨HO524, BK521, HB⟩ := n_; (try clear hb ho0)) | ((with_reducible refine gate_callee (f := 64) rfl ?_); refine goesL_ (some 19) rfl rfl Try.func64 (by kernel_rfl) rfl #[.slice A0 l0.length c0] rfl ga ?_; (with_reducible refine (spec_DrawGetVec.calls k _ _ l0 t525 _ ?side1 ?side2 A6.out).mono ?_); (case side1 => exact cq (Kd.C_below HR0.out HB.out)); (case side2 => exact HC0.out); rintro e w16 ⟨v526, rfl, ho0, hb⟩; refine ⟨_, rfl, ?_⟩; have n_ := ak4 (Kd.R_elder' (kqR HO524.out) (Kd.R_base ho0) hb) (Kd.R_lower (Kd.R_new' ho0 (Kd.R_lt (kqR HO524.out))) (below_size (bq1 HB.out GE521.out))) (blk_below (g := gb521) (o := .cells #[.int .i64 t516, .int .i64 t517, .int .i64 t518, .int .i64 t519, .int .i64 t520] 47 (0, 0)) (zq BK521.out) hb) (below_step (bq1 HB.out GE521.out) hb); clear HO524 BK521 HB; obtain ⟨HO524, HO527, BK521, HB⟩ := n_; (try clear hb ho0); obtain ⟨Ao17, co17, eo17⟩ := Kd.R_slice HO527.out; subst eo17) | ((with_reducible refine gate_callee (f := 35) rfl ?_); refine goesL_ (some 22) rfl rfl Try.func35 (by kernel_rfl) rfl #[.slice Ao17 t525.length co17] rfl ga ?_; (with_reducible refine (impl_GetVec.calls k _ _ t525 t528 t529 t530 t531 t532 t533 _ ?side1 ?side2 A7.out).mono ?_); (case side1 => repeat (first | exact (Kd.R_reads' HO527.out).2.2 | (with_reducible refine Kd.C_alloc ?_ _) | (with_reducible refine Kd.C_drewN ?_ _) | (with_reducible refine Kd.C_drew ?_))); (case side2 => exact (Kd.R_reads' HO527.out).2.1); rintro e w18 ⟨rfl, hb⟩; refine ⟨_, rfl, ?_⟩; have n_ := ak4 (Kd.R_below (kqR HO524.out) hb) (Kd.R_below (kqR HO527.out) hb) (blk_below (g := gb521) (o := .cells #[.int .i64 t516, .int .i64 t517, .int .i64 t518, .int .i64 t519, .int .i64 t520] 47 (0, 0)) (zq BK521.out) hb) (below_step (bq1 HB.out GE521.out) hb); clear HO524 HO527 BK521 HB; obtain ⟨HO524, HO527, BK521, HB⟩ := n_; (try clear hb)) | ((with_reducible refine gate_dst (N := 6) rfl ?_); refine box_event ?hg (N := 6) ?hd (cs := #[.int .i64 0, .int .i64 0, .int .i64 0, .int .i64 0, .int .i64 0]) (t := 47) ?hr ?_; (case hd => rfl); (case hg => rfl); (case hr => exact gs); intro gb534 hg w19 hbox hb; have n_ := ak9 (Kd.R_below (kqR HO524.out) hb) (Kd.R_below (kqR HO527.out) hb) (blk_below (g := gb521) (o := .cells #[.int .i64 t516, .int .i64 t517, .int .i64 t518, .int .i64 t519, .int .i64 t520] 47 (0, 0)) (zq BK521.out) hb) (below_step (bq1 HB.out GE521.out) hb) hbox ((by rw [hg]; exact (below_size (bq1 HB.out GE521.out)) : w.heap.size ≤ gb534)) ((by rw [hg]; exact (below_size (bq1 HB.out GE521.out)) : w.heap.size ≤ gb534)) ((by rw [hg]; exact Nat.ne_of_lt (blk_lt (g := gb521) (o := .cells #[.int .i64 t516, .int .i64 t517, .int .i64 t518, .int .i64 t519, .int .i64 t520] 47 (0, 0)) (zq BK521.out)) : gb521 ≠ gb534)) ((by rw [hg]; exact Nat.ne_of_gt (blk_lt (g := gb521) (o := .cells #[.int .i64 t516, .int .i64 t517, .int .i64 t518, .int .i64 t519, .int .i64 t520] 47 (0, 0)) (zq BK521.out)) : gb534 ≠ gb521)); clear HO524 HO527 BK521 HB; obtain ⟨HO524, HO527, BK521, HB, BK534, GW534, GE534, NB521_534, NB534_521⟩ := n_; clear hb hbox hg; have hnb20 := NB534_521.out; have hnc20 := NB521_534.out; have hcz21_0 : w19.cell? ⟨gb534, 0, none⟩ = some (.int .i64 0) := (blk_cell BK534.out 0).trans rfl; have hcz21_1 : w19.cell? ⟨gb534, 1, none⟩ = some (.int .i64 0) := (blk_cell BK534.out 1).trans rfl; have hcz21_2 : w19.cell? ⟨gb534, 2, none⟩ = some (.int .i64 0) := (blk_cell BK534.out 2).trans rfl; have hcz21_3 : w19.cell? ⟨gb534, 3, none⟩ = some (.int .i64 0) := (blk_cell BK534.out 3).trans rfl; have hcz21_4 : w19.cell? ⟨gb534, 4, none⟩ = some (.int .i64 0) := (blk_cell BK534.out 4).trans rfl; have hfz21_0 := blk_frozen BK534.out 0; have hfz21_1 := blk_frozen BK534.out 1; have hfz21_2 := blk_frozen BK534.out 2; have hfz21_3 := blk_frozen BK534.out 3; have hfz21_4 := blk_frozen BK534.out 4) | ((with_reducible refine gate_store (t := 47) (p := 6) rfl ?_); refine store_event (t := 47) (p := 6) (v := ?vo_w22) (w1 := (((((w19.setCell ⟨gb534, 0, none⟩ (.int .i64 t528)).setCell ⟨gb534, 1, none⟩ (.int .i64 t529)).setCell ⟨gb534, 2, none⟩ (.int .i64 t530)).setCell ⟨gb534, 3, none⟩ (.int .i64 t531)).setCell ⟨gb534, 4, none⟩ (.int .i64 t532))) ?hg ?ho ?hn ?hr ?_; (case ho => rfl); (case hg => rfl); (case hn => rfl); (case hr => exact gs); intro w22 hw; have n0_ : Aside0 (Kd.R (Kd.int .u8) 5 w22 w.heap.size (fun k_ => some k_ ≠ (.slice Ao17 t525.length co17 : Value).ownBlock) v523 t522) := ⟨(by rw [hw]; exact (by (with_reducible repeat (first | apply Kd.R_alloc | apply Kd.R_drewN | apply Kd.R_drew)); exact Kd.R_mono (Kd.R_far (p := ⟨gb534, 4, none⟩) (Kd.R_far (p := ⟨gb534, 3, none⟩) (Kd.R_far (p := ⟨gb534, 2, none⟩) (Kd.R_far (p := ⟨gb534, 1, none⟩) (Kd.R_far (p := ⟨gb534, 0, none⟩) (Kd.R_types HO524.out BK534.out (by decide)) (fun _ hk => hk.2) (.int .i64 t528)) (fun _ hk => hk.2) (.int .i64 t529)) (fun _ hk => hk.2) (.int .i64 t530)) (fun _ hk => hk.2) (.int .i64 t531)) (fun _ hk => hk.2) (.int .i64 t532)) (fun _ hk => hk.1.2)))⟩; have n1_ : Aside0 (Kd.R (Kd.int .u8) 5 w22 w.heap.size (fun k_ => some k_ ≠ (v523 : Value).ownBlock) (.slice Ao17 t525.length co17) t525) := ⟨(by rw [hw]; exact (by (with_reducible repeat (first | apply Kd.R_alloc | apply Kd.R_drewN | apply Kd.R_drew)); exact Kd.R_mono (Kd.R_far (p := ⟨gb534, 4, none⟩) (Kd.R_far (p := ⟨gb534, 3, none⟩) (Kd.R_far (p := ⟨gb534, 2, none⟩) (Kd.R_far (p := ⟨gb534, 1, none⟩) (Kd.R_far (p := ⟨gb534, 0, none⟩) (Kd.R_types HO527.out BK534.out (by decide)) (fun _ hk => hk.2) (.int .i64 t528)) (fun _ hk => hk.2) (.int .i64 t529)) (fun _ hk => hk.2) (.int .i64 t530)) (fun _ hk => hk.2) (.int .i64 t531)) (fun _ hk => hk.2) (.int .i64 t532)) (fun _ hk => hk.1.2)))⟩; have n2_ : Aside0 (w22.heap[gb521]? = some (.cells #[.int .i64 t516, .int .i64 t517, .int .i64 t518, .int .i64 t519, .int .i64 t520] 47 (0, 0))) := ⟨(by rw [hw]; exact (by (with_reducible repeat (first | refine blk_drewN ?_ _ | refine blk_drew ?_ | refine blk_alloc ?_ _)); refine blk_far ?_ NB521_534.out _; (with_reducible repeat (first | refine blk_drewN ?_ _ | refine blk_drew ?_ | refine blk_alloc ?_ _)); refine blk_far ?_ NB521_534.out _; (with_reducible repeat (first | refine blk_drewN ?_ _ | refine blk_drew ?_ | refine blk_alloc ?_ _)); refine blk_far ?_ NB521_534.out _; (with_reducible repeat (first | refine blk_drewN ?_ _ | refine blk_drew ?_ | refine blk_alloc ?_ _)); refine blk_far ?_ NB521_534.out _; (with_reducible repeat (first | refine blk_drewN ?_ _ | refine blk_drew ?_ | refine blk_alloc ?_ _)); refine blk_far ?_ NB521_534.out _; (with_reducible repeat (first | refine blk_drewN ?_ _ | refine blk_drew ?_ | refine blk_alloc ?_ _)); exact BK521.out))⟩; have n3_ : Aside0 (w22.heap[gb534]? = some (.cells #[.int .i64 t528, .int .i64 t529, .int .i64 t530, .int .i64 t531, .int .i64 t532] 47 (0, 0))) := ⟨(by rw [hw]; exact (by (with_reducible repeat (first | refine blk_drewN ?_ _ | refine blk_drew ?_ | refine blk_alloc ?_ _)); refine blk_put (cs := #[.int .i64 t528, .int .i64 t529, .int .i64 t530, .int .i64 t531, .int .i64 0]) ?_ 4 _ rfl; (with_reducible repeat (first | refine blk_drewN ?_ _ | refine blk_drew ?_ | refine blk_alloc ?_ _)); refine blk_put (cs := #[.int .i64 t528, .int .i64 t529, .int .i64 t530, .int .i64 0, .int .i64 0]) ?_ 3 _ rfl; (with_reducible repeat (first | refine blk_drewN ?_ _ | refine blk_drew ?_ | refine blk_alloc ?_ _)); refine blk_put (cs := #[.int .i64 t528, .int .i64 t529, .int .i64 0, .int .i64 0, .int .i64 0]) ?_ 2 _ rfl; (with_reducible repeat (first | refine blk_drewN ?_ _ | refine blk_drew ?_ | refine blk_alloc ?_ _)); refine blk_put (cs := #[.int .i64 t528, .int .i64 0, .int .i64 0, .int .i64 0, .int .i64 0]) ?_ 1 _ rfl; (with_reducible repeat (first | refine blk_drewN ?_ _ | refine blk_drew ?_ | refine blk_alloc ?_ _)); refine blk_put (cs := #[.int .i64 0, .int .i64 0, .int .i64 0, .int .i64 0, .int .i64 0]) ?_ 0 _ rfl; (with_reducible repeat (first | refine blk_drewN ?_ _ | refine blk_drew ?_ | refine blk_alloc ?_ _)); exact BK534.out))⟩; have n4_ : Aside0 (Below w.heap.size w w22) := ⟨(by rw [hw]; exact (bq2 HB.out GE521.out GE534.out))⟩; clear hw; clear HO524; clear HO527; clear BK521; clear BK534; clear HB; have HO524 := n0_; have HO527 := n1_; have BK521 := n2_; have BK534 := n3_; have HB := n4_; clear n0_ n1_ n2_ n3_ n4_) | ((with_reducible refine gate_callee (f := 33) rfl ?_); refine goesL_ (some 27) rfl rfl Try.func33 (by kernel_rfl) rfl #[.slice Ao17 t525.length co17] rfl ga ?_; (with_reducible refine (spec_GetVec.calls k _ _ t525 t535 t536 t537 t538 t539 t540 _ ?side1 ?side2 A8.out).mono ?_); (case side1 => repeat (first | exact (Kd.R_reads' HO527.out).2.2 | (with_reducible refine Kd.C_alloc ?_ _) | (with_reducible refine Kd.C_drewN ?_ _) | (with_reducible refine Kd.C_drew ?_))); (case side2 => exact (Kd.R_reads' HO527.out).2.1); rintro e w23 ⟨rfl, hb⟩; refine ⟨_, rfl, ?_⟩; have n_ := ak5 (Kd.R_below (kqR HO524.out) hb) (Kd.R_below (kqR HO527.out) hb) (blk_below (g := gb521) (o := .cells #[.int .i64 t516, .int .i64 t517, .int .i64 t518, .int .i64 t519, .int .i64 t520] 47 (0, 0)) (zq BK521.out) hb) (blk_below (g := gb534) (o := .cells #[.int .i64 t528, .int .i64 t529, .int .i64 t530, .int .i64 t531, .int .i64 t532] 47 (0, 0)) (zq BK534.out) hb) (below_step (bq2 HB.out GE521.out GE534.out) hb); clear HO524 HO527 BK521 BK534 HB; obtain ⟨HO524, HO527, BK521, BK534, HB⟩ := n_; (try clear hb)) | ((with_reducible refine gate_dst (N := 8) rfl ?_); refine box_event ?hg (N := 8) ?hd (cs := #[.int .i64 0, .int .i64 0, .int .i64 0, .int .i64 0, .int .i64 0]) (t := 47) ?hr ?_; (case hd => rfl); (case hg => rfl); (case hr => exact gs); intro gb541 hg w24 hbox hb; have n_ := ak12 (Kd.R_below (kqR HO524.out) hb) (Kd.R_below (kqR HO527.out) hb) (blk_below (g := gb521) (o := .cells #[.int .i64 t516, .int .i64 t517, .int .i64 t518, .int .i64 t519, .int .i64 t520] 47 (0, 0)) (zq BK521.out) hb) (blk_below (g := gb534) (o := .cells #[.int .i64 t528, .int .i64 t529, .int .i64 t530, .int .i64 t531, .int .i64 t532] 47 (0, 0)) (zq BK534.out) hb) (below_step (bq2 HB.out GE521.out GE534.out) hb) hbox ((by rw [hg]; exact (below_size (bq2 HB.out GE521.out GE534.out)) : w.heap.size ≤ gb541)) ((by rw [hg]; exact (below_size (bq2 HB.out GE521.out GE534.out)) : w.heap.size ≤ gb541)) ((by rw [hg]; exact Nat.ne_of_lt (blk_lt (g := gb521) (o := .cells #[.int .i64 t516, .int .i64 t517, .int .i64 t518, .int .i64 t519, .int .i64 t520] 47 (0, 0)) (zq BK521.out)) : gb521 ≠ gb541)) ((by rw [hg]; exact Nat.ne_of_gt (blk_lt (g := gb521) (o := .cells #[.int .i64 t516, .int .i64 t517, .int .i64 t518, .int .i64 t519, .int .i64 t520] 47 (0, 0)) (zq BK521.out)) : gb541 ≠ gb521)) ((by rw [hg]; exact Nat.ne_of_lt (blk_lt (g := gb534) (o := .cells #[.int .i64 t528, .int .i64 t529, .int .i64 t530, .int .i64 t531, .int .i64 t532] 47 (0, 0)) (zq BK534.out)) : gb534 ≠ gb541)) ((by rw [hg]; exact Nat.ne_of_gt (blk_lt (g := gb534) (o := .cells #[.int .i64 t528, .int .i64 t529, .int .i64 t530, .int .i64 t531, .int .i64 t532] 47 (0, 0)) (zq BK534.out)) : gb541 ≠ gb534)); clear HO524 HO527 BK521 BK534 HB; obtain ⟨HO524, HO527, BK521, BK534, HB, BK541, GW541, GE541, NB521_541, NB541_521, NB534_541, NB541_534⟩ := n_; clear hb hbox hg; have hnb25 := NB541_521.out; have hnc25 := NB521_541.out; have hnb26 := NB541_534.out; have hnc26 := NB534_541.out; have hcz27_0 : w24.cell? ⟨gb541, 0, none⟩ = some (.int .i64 0) := (blk_cell BK541.out 0).trans rfl; have hcz27_1 : w24.cell? ⟨gb541, 1, none⟩ = some (.int .i64 0) := (blk_cell BK541.out 1).trans rfl; have hcz27_2 : w24.cell? ⟨gb541, 2, none⟩ = some (.int .i64 0) := (blk_cell BK541.out 2).trans rfl; have hcz27_3 : w24.cell? ⟨gb541, 3, none⟩ = some (.int .i64 0) := (blk_cell BK541.out 3).trans rfl; have hcz27_4 : w24.cell? ⟨gb541, 4, none⟩ = some (.int .i64 0) := (blk_cell BK541.out 4).trans rfl; have hfz27_0 := blk_frozen BK541.out 0; have hfz27_1 := blk_frozen BK541.out 1; have hfz27_2 := blk_frozen BK541.out 2; have hfz27_3 := blk_frozen BK541.out 3; have hfz27_4 := blk_frozen BK541.out 4) | ((with_reducible refine gate_store (t := 47) (p := 8) rfl ?_); refine store_event (t := 47) (p := 8) (v := ?vo_w28) (w1 := (((((w24.setCell ⟨gb541, 0, none⟩ (.int .i64 t535)).setCell ⟨gb541, 1, none⟩ (.int .i64 t536)).setCell ⟨gb541, 2, none⟩ (.int .i64 t537)).setCell ⟨gb541, 3, none⟩ (.int .i64 t538)).setCell ⟨gb541, 4, none⟩ (.int .i64 t539))) ?hg ?ho ?hn ?hr ?_; (case ho => rfl); (case hg => rfl); (case hn => rfl); (case hr => exact gs); intro w28 hw; have n0_ : Aside0 (Kd.R (Kd.int .u8) 5 w28 w.heap.size (fun k_ => some k_ ≠ (.slice Ao17 t525.length co17 : Value).ownBlock) v523 t522) := ⟨(by rw [hw]; exact (by (with_reducible repeat (first | apply Kd.R_alloc | apply Kd.R_drewN | apply Kd.R_drew)); exact Kd.R_mono (Kd.R_far (p := ⟨gb541, 4, none⟩) (Kd.R_far (p := ⟨gb541, 3, none⟩) (Kd.R_far (p := ⟨gb541, 2, none⟩) (Kd.R_far (p := ⟨gb541, 1, none⟩) (Kd.R_far (p := ⟨gb541, 0, none⟩) (Kd.R_types HO524.out BK541.out (by decide)) (fun _ hk => hk.2) (.int .i64 t535)) (fun _ hk => hk.2) (.int .i64 t536)) (fun _ hk => hk.2) (.int .i64 t537)) (fun _ hk => hk.2) (.int .i64 t538)) (fun _ hk => hk.2) (.int .i64 t539)) (fun _ hk => hk.1)))⟩; have n1_ : Aside0 (Kd.R (Kd.int .u8) 5 w28 w.heap.size (fun k_ => some k_ ≠ (v523 : Value).ownBlock) (.slice Ao17 t525.length co17) t525) := ⟨(by rw [hw]; exact (by (with_reducible repeat (first | apply Kd.R_alloc | apply Kd.R_drewN | apply Kd.R_drew)); exact Kd.R_mono (Kd.R_far (p := ⟨gb541, 4, none⟩) (Kd.R_far (p := ⟨gb541, 3, none⟩) (Kd.R_far (p := ⟨gb541, 2, none⟩) (Kd.R_far (p := ⟨gb541, 1, none⟩) (Kd.R_far (p := ⟨gb541, 0, none⟩) (Kd.R_types HO527.out BK541.out (by decide)) (fun _ hk => hk.2) (.int .i64 t535)) (fun _ hk => hk.2) (.int .i64 t536)) (fun _ hk => hk.2) (.int .i64 t537)) (fun _ hk => hk.2) (.int .i64 t538)) (fun _ hk => hk.2) (.int .i64 t539)) (fun _ hk => hk.1)))⟩; have n2_ : Aside0 (w28.heap[gb521]? = some (.cells #[.int .i64 t516, .int .i64 t517, .int .i64 t518, .int .i64 t519, .int .i64 t520] 47 (0, 0))) := ⟨(by rw [hw]; exact (by (with_reducible repeat (first | refine blk_drewN ?_ _ | refine blk_drew ?_ | refine blk_alloc ?_ _)); refine blk_far ?_ NB521_541.out _; (with_reducible repeat (first | refine blk_drewN ?_ _ | refine blk_drew ?_ | refine blk_alloc ?_ _)); refine blk_far ?_ NB521_541.out _; (with_reducible repeat (first | refine blk_drewN ?_ _ | refine blk_drew ?_ | refine blk_alloc ?_ _)); refine blk_far ?_ NB521_541.out _; (with_reducible repeat (first | refine blk_drewN ?_ _ | refine blk_drew ?_ | refine blk_alloc ?_ _)); refine blk_far ?_ NB521_541.out _; (with_reducible repeat (first | refine blk_drewN ?_ _ | refine blk_drew ?_ | refine blk_alloc ?_ _)); refine blk_far ?_ NB521_541.out _; (with_reducible repeat (first | refine blk_drewN ?_ _ | refine blk_drew ?_ | refine blk_alloc ?_ _)); exact BK521.out))⟩; have n3_ : Aside0 (w28.heap[gb534]? = some (.cells #[.int .i64 t528, .int .i64 t529, .int .i64 t530, .int .i64 t531, .int .i64 t532] 47 (0, 0))) := ⟨(by rw [hw]; exact (by (with_reducible repeat (first | refine blk_drewN ?_ _ | refine blk_drew ?_ | refine blk_alloc ?_ _)); refine blk_far ?_ NB534_541.out _; (with_reducible repeat (first | refine blk_drewN ?_ _ | refine blk_drew ?_ | refine blk_alloc ?_ _)); refine blk_far ?_ NB534_541.out _; (with_reducible repeat (first | refine blk_drewN ?_ _ | refine blk_drew ?_ | refine blk_alloc ?_ _)); refine blk_far ?_ NB534_541.out _; (with_reducible repeat (first | refine blk_drewN ?_ _ | refine blk_drew ?_ | refine blk_alloc ?_ _)); refine blk_far ?_ NB534_541.out _; (with_reducible repeat (first | refine blk_drewN ?_ _ | refine blk_drew ?_ | refine blk_alloc ?_ _)); refine blk_far ?_ NB534_541.out _; (with_reducible repeat (first | refine blk_drewN ?_ _ | refine blk_drew ?_ | refine blk_alloc ?_ _)); exact BK534.out))⟩; have n4_ : Aside0 (w28.heap[gb541]? = some (.cells #[.int .i64 t535, .int .i64 t536, .int .i64 t537, .int .i64 t538, .int .i64 t539] 47 (0, 0))) := ⟨(by rw [hw]; exact (by (with_reducible repeat (first | refine blk_drewN ?_ _ | refine blk_drew ?_ | refine blk_alloc ?_ _)); refine blk_put (cs := #[.int .i64 t535, .int .i64 t536, .int .i64 t537, .int .i64 t538, .int .i64 0]) ?_ 4 _ rfl; (with_reducible repeat (first | refine blk_drewN ?_ _ | refine blk_drew ?_ | refine blk_alloc ?_ _)); refine blk_put (cs := #[.int .i64 t535, .int .i64 t536, .int .i64 t537, .int .i64 0, .int .i64 0]) ?_ 3 _ rfl; (with_reducible repeat (first | refine blk_drewN ?_ _ | refine blk_drew ?_ | refine blk_alloc ?_ _)); refine blk_put (cs := #[.int .i64 t535, .int .i64 t536, .int .i64 0, .int .i64 0, .int .i64 0]) ?_ 2 _ rfl; (with_reducible repeat (first | refine blk_drewN ?_ _ | refine blk_drew ?_ | refine blk_alloc ?_ _)); refine blk_put (cs := #[.int .i64 t535, .int .i64 0, .int .i64 0, .int .i64 0, .int .i64 0]) ?_ 1 _ rfl; (with_reducible repeat (first | refine blk_drewN ?_ _ | refine blk_drew ?_ | refine blk_alloc ?_ _)); refine blk_put (cs := #[.int .i64 0, .int .i64 0, .int .i64 0, .int .i64 0, .int .i64 0]) ?_ 0 _ rfl; (with_reducible repeat (first | refine blk_drewN ?_ _ | refine blk_drew ?_ | refine blk_alloc ?_ _)); exact BK541.out))⟩; have n5_ : Aside0 (Below w.heap.size w w28) := ⟨(by rw [hw]; exact (bq3 HB.out GE521.out GE534.out GE541.out))⟩; clear hw; clear HO524; clear HO527; clear BK521; clear BK534; clear BK541; clear HB; have HO524 := n0_; have HO527 := n1_; have BK521 := n2_; have BK534 := n3_; have BK541 := n4_; have HB := n5_; clear n0_ n1_ n2_ n3_ n4_ n5_))
 (try simp only [Act.put, List.setIfInBounds_toArray, List.set_cons_zero, List.set_cons_succ])
 go_cut [47] (fun v47 wc => ∃ (kq : Nat) (x47_8 : Bool), v47 = .bool x47_8 ∧ Aside0 (laws_FnVecs.j0 kq t522 x47_8 t516 t517 t518 t519 t520 = some r) ∧ Aside0 (kq ≤ k) ∧ Aside0 (Kd.R (Kd.int .u8) 5 wc w.heap.size (fun _ => True) v523 t522) ∧ Aside0 (wc.heap[gb521]? = some (.cells #[.int .i64 t516, .int .i64 t517, .int .i64 t518, .int .i64 t519, .int .i64 t520] 47 (0, 0))) ∧ Aside0 (wc.heap[gb534]? = some (.cells #[.int .i64 t528, .int .i64 t529, .int .i64 t530, .int .i64 t531, .int .i64 t532] 47 (0, 0))) ∧ Aside0 (wc.heap[gb541]? = some (.cells #[.int .i64 t535, .int .i64 t536, .int .i64 t537, .int .i64 t538, .int .i64 t539] 47 (0, 0))) ∧ Aside0 (Below w.heap.size w wc))
 case first =>
  have H := HC9.out
  clear HC9
  by_cases c29 : (t533 != t540) = true
  · rw [if_pos c29] at H
    have c29b0 : (t533 != t540) = true := c29
    (try (have c29b1 : decide (t533 = t540) = false := by simpa using c29))
    (try (have c29b2 : (t533 == t540) = false := by simpa using c29))
    (try (have c29b3 : ¬ (t533 = t540) := by simpa using c29))
    clear c29
    (first | rw [c29b0] | (simp only [i64_w, i32_w]; rw [c29b0]) | skip)
    have H' := am H
    clear H
    go_wp2
    go_meet
    case rel => exact ⟨_, (true), sq, H', ⟨by first | omega | exact Nat.le_refl _⟩, ⟨by (with_reducible repeat (first | apply Kd.R_alloc | apply Kd.R_drewN | apply Kd.R_drew)); exact Kd.R_mono HO524.out (fun _ hk => trivial)⟩, ⟨zq BK521.out⟩, ⟨zq BK534.out⟩, ⟨zq BK541.out⟩, ⟨bq3 HB.out GE521.out GE534.out GE541.out⟩⟩
  rw [if_neg c29] at H
  have c29b0 : (t533 != t540) = false := by simpa using c29
  (try (have c29b1 : decide (t533 = t540) = true := by simpa using c29))
  (try (have c29b2 : (t533 == t540) = true := by simpa using c29))
  clear c29
  (first | rw [c29b0] | (simp only [i64_w, i32_w]; rw [c29b0]) | skip)
  by_cases c30 : t533 = true
  · subst c30
    have H1 : ((impl_VecOk.f t528 t529 t530 t531 t532).bind fun t542 => (if t542 = true then ((impl_PutVec.f k t528 t529 t530 t531 t532).bind fun t543 => ((laws_sameBytes.f k t543 t525).bind fun t546 => (laws_FnVecs.j0 k t522 (!t546) t516 t517 t518 t519 t520))) else (laws_FnVecs.j0 k t522 true t516 t517 t518 t519 t520))) = some r := by rw [if_pos rfl] at H; exact H
    clear H
    have H := H1
    clear H1
    replace H := Option.bind_eq_some_iff.mp H
    obtain ⟨t542, A310, H⟩ := H
    replace H : (if t542 = true then ((impl_PutVec.f k t528 t529 t530 t531 t532).bind fun t543 => ((laws_sameBytes.f k t543 t525).bind fun t546 => (laws_FnVecs.j0 k t522 (!t546) t516 t517 t518 t519 t520))) else (laws_FnVecs.j0 k t522 true t516 t517 t518 t519 t520)) = some r := H
    have A31 := am A310
    clear A310
    by_cases c32 : t542 = true
    · subst c32
      have H1 : ((impl_PutVec.f k t528 t529 t530 t531 t532).bind fun t543 => ((laws_sameBytes.f k t543 t525).bind fun t546 => (laws_FnVecs.j0 k t522 (!t546) t516 t517 t518 t519 t520))) = some r := by rw [if_pos rfl] at H; exact H
      clear H
      have H := H1
      clear H1
      replace H := Option.bind_eq_some_iff.mp H
      obtain ⟨t543, A330, H⟩ := H
      replace H : ((laws_sameBytes.f k t543 t525).bind fun t546 => (laws_FnVecs.j0 k t522 (!t546) t516 t517 t518 t519 t520)) = some r := H
      have A33 := am A330
      clear A330
      replace H := Option.bind_eq_some_iff.mp H
      obtain ⟨t546, A340, H⟩ := H
      replace H : (laws_FnVecs.j0 k t522 (!t546) t516 t517 t518 t519 t520) = some r := H
      have A34 := am A340
      clear A340
      have H' := am H
      clear H
      have hnb35 := NB534_521.out
      have hnc35 := NB521_534.out
      have hnb36 := NB534_541.out
      have hnc36 := NB541_534.out
      have hcz37_0 : w28.cell? ⟨gb534, 0, none⟩ = some (.int .i64 t528) := (blk_cell BK534.out 0).trans rfl
      have hcz37_1 : w28.cell? ⟨gb534, 1, none⟩ = some (.int .i64 t529) := (blk_cell BK534.out 1).trans rfl
      have hcz37_2 : w28.cell? ⟨gb534, 2, none⟩ = some (.int .i64 t530) := (blk_cell BK534.out 2).trans rfl
      have hcz37_3 : w28.cell? ⟨gb534, 3, none⟩ = some (.int .i64 t531) := (blk_cell BK534.out 3).trans rfl
      have hcz37_4 : w28.cell? ⟨gb534, 4, none⟩ = some (.int .i64 t532) := (blk_cell BK534.out 4).trans rfl
      have hfz37_0 := blk_frozen BK534.out 0
      have hfz37_1 := blk_frozen BK534.out 1
      have hfz37_2 := blk_frozen BK534.out 2
      have hfz37_3 := blk_frozen BK534.out 3
      have hfz37_4 := blk_frozen BK534.out 4
      go_wp2_with (first | (go_at_call 65; (with_reducible refine (impl_VecOk.calls t528 t529 t530 t531 t532 true _ A31.out).mono ?_); rintro e w38 ⟨rfl, hb⟩; have n_ := ak6 (Kd.R_below (kqR HO524.out) hb) (Kd.R_below (kqR HO527.out) hb) (blk_below (g := gb521) (o := .cells #[.int .i64 t516, .int .i64 t517, .int .i64 t518, .int .i64 t519, .int .i64 t520] 47 (0, 0)) (zq BK521.out) hb) (blk_below (g := gb534) (o := .cells #[.int .i64 t528, .int .i64 t529, .int .i64 t530, .int .i64 t531, .int .i64 t532] 47 (0, 0)) (zq BK534.out) hb) (blk_below (g := gb541) (o := .cells #[.int .i64 t535, .int .i64 t536, .int .i64 t537, .int .i64 t538, .int .i64 t539] 47 (0, 0)) (zq BK541.out) hb) (below_step (bq3 HB.out GE521.out GE534.out GE541.out) hb); clear HO524 HO527 BK521 BK534 BK541 HB; obtain ⟨HO524, HO527, BK521, BK534, BK541, HB⟩ := n_; (try clear hb); have hcz39_0 : w38.cell? ⟨gb534, 0, none⟩ = some (.int .i64 t528) := (blk_cell BK534.out 0).trans rfl; have hcz39_1 : w38.cell? ⟨gb534, 1, none⟩ = some (.int .i64 t529) := (blk_cell BK534.out 1).trans rfl; have hcz39_2 : w38.cell? ⟨gb534, 2, none⟩ = some (.int .i64 t530) := (blk_cell BK534.out 2).trans rfl; have hcz39_3 : w38.cell? ⟨gb534, 3, none⟩ = some (.int .i64 t531) := (blk_cell BK534.out 3).trans rfl; have hcz39_4 : w38.cell? ⟨gb534, 4, none⟩ = some (.int .i64 t532) := (blk_cell BK534.out 4).trans rfl; have hfz39_0 := blk_frozen BK534.out 0; have hfz39_1 := blk_frozen BK534.out 1; have hfz39_2 := blk_frozen BK534.out 2; have hfz39_3 := blk_frozen BK534.out 3; have hfz39_4 := blk_frozen BK534.out 4) | (go_at_call 63; (with_reducible refine (impl_PutVec.calls k t528 t529 t530 t531 t532 t543 _ A33.out).mono ?_); rintro e w40 ⟨v544, rfl, ho0, hb⟩; have n_ := ak7 (Kd.R_elder' (kqR HO524.out) (Kd.R_base ho0) hb) (Kd.R_elder' (kqR HO527.out) (Kd.R_base ho0) hb) (Kd.R_lower (Kd.R_new' (Kd.R_new' ho0 (Kd.R_lt (kqR HO524.out))) (Kd.R_lt (kqR HO527.out))) (below_size (bq3 HB.out GE521.out GE534.out GE541.out))) (blk_below (g := gb521) (o := .cells #[.int .i64 t516, .int .i64 t517, .int .i64 t518, .int .i64 t519, .int .i64 t520] 47 (0, 0)) (zq BK521.out) hb) (blk_below (g := gb534) (o := .cells #[.int .i64 t528, .int .i64 t529, .int .i64 t530, .int .i64 t531, .int .i64 t532] 47 (0, 0)) (zq BK534.out) hb) (blk_below (g := gb541) (o := .cells #[.int .i64 t535, .int .i64 t536, .int .i64 t537, .int .i64 t538, .int .i64 t539] 47 (0, 0)) (zq BK541.out) hb) (below_step (bq3 HB.out GE521.out GE534.out GE541.out) hb); clear HO524 HO527 BK521 BK534 BK541 HB; obtain ⟨HO524, HO527, HO545, BK521, BK534, BK541, HB⟩ := n_; (try clear hb ho0); obtain ⟨Ao41, co41, eo41⟩ := Kd.R_slice HO545.out; subst eo41) | (go_at_call 66; (with_reducible refine (laws_sameBytes.calls k _ _ t543 _ _ t525 t546 _ ?side1 ?side2 ?side3 ?side4 A34.out).mono ?_); (case side1 => repeat (first | exact (Kd.R_reads' HO545.out).2.2 | (with_reducible refine Kd.C_alloc ?_ _) | (with_reducible refine Kd.C_drewN ?_ _) | (with_reducible refine Kd.C_drew ?_))); (case side2 => exact (Kd.R_reads' HO545.out).2.1); (case side3 => repeat (first | exact (Kd.R_reads' HO527.out).2.2 | (with_reducible refine Kd.C_alloc ?_ _) | (with_reducible refine Kd.C_drewN ?_ _) | (with_reducible refine Kd.C_drew ?_))); (case side4 => exact (Kd.R_reads' HO527.out).2.1); rintro e w' ⟨rfl, ⟨nd, rfl⟩⟩))
      go_meet
      case rel => exact ⟨_, (!t546), sq, H', ⟨by first | omega | exact Nat.le_refl _⟩, ⟨by (with_reducible repeat (first | apply Kd.R_alloc | apply Kd.R_drewN | apply Kd.R_drew)); exact Kd.R_mono HO524.out (fun _ hk => trivial)⟩, ⟨zq BK521.out⟩, ⟨zq BK534.out⟩, ⟨zq BK541.out⟩, ⟨bq3 HB.out GE521.out GE534.out GE541.out⟩⟩
    replace c32 := Bool.eq_false_iff.mpr c32
    subst c32
    have H1 : (laws_FnVecs.j0 k t522 true t516 t517 t518 t519 t520) = some r := by rw [if_neg (show ¬ (false = true) by decide)] at H; exact H
    clear H
    have H := H1
    clear H1
    have H' := am H
    clear H
    have hnb42 := NB534_521.out
    have hnc42 := NB521_534.out
    have hnb43 := NB534_541.out
    have hnc43 := NB541_534.out
    have hcz44_0 : w28.cell? ⟨gb534, 0, none⟩ = some (.int .i64 t528) := (blk_cell BK534.out 0).trans rfl
    have hcz44_1 : w28.cell? ⟨gb534, 1, none⟩ = some (.int .i64 t529) := (blk_cell BK534.out 1).trans rfl
    have hcz44_2 : w28.cell? ⟨gb534, 2, none⟩ = some (.int .i64 t530) := (blk_cell BK534.out 2).trans rfl
    have hcz44_3 : w28.cell? ⟨gb534, 3, none⟩ = some (.int .i64 t531) := (blk_cell BK534.out 3).trans rfl
    have hcz44_4 : w28.cell? ⟨gb534, 4, none⟩ = some (.int .i64 t532) := (blk_cell BK534.out 4).trans rfl
    have hfz44_0 := blk_frozen BK534.out 0
    have hfz44_1 := blk_frozen BK534.out 1
    have hfz44_2 := blk_frozen BK534.out 2
    have hfz44_3 := blk_frozen BK534.out 3
    have hfz44_4 := blk_frozen BK534.out 4
    go_wp2_with (first | (go_at_call 65; (with_reducible refine (impl_VecOk.calls t528 t529 t530 t531 t532 false _ A31.out).mono ?_); rintro e w45 ⟨rfl, hb⟩; have n_ := ak6 (Kd.R_below (kqR HO524.out) hb) (Kd.R_below (kqR HO527.out) hb) (blk_below (g := gb521) (o := .cells #[.int .i64 t516, .int .i64 t517, .int .i64 t518, .int .i64 t519, .int .i64 t520] 47 (0, 0)) (zq BK521.out) hb) (blk_below (g := gb534) (o := .cells #[.int .i64 t528, .int .i64 t529, .int .i64 t530, .int .i64 t531, .int .i64 t532] 47 (0, 0)) (zq BK534.out) hb) (blk_below (g := gb541) (o := .cells #[.int .i64 t535, .int .i64 t536, .int .i64 t537, .int .i64 t538, .int .i64 t539] 47 (0, 0)) (zq BK541.out) hb) (below_step (bq3 HB.out GE521.out GE534.out GE541.out) hb); clear HO524 HO527 BK521 BK534 BK541 HB; obtain ⟨HO524, HO527, BK521, BK534, BK541, HB⟩ := n_; (try clear hb)))
    go_meet
    case rel => exact ⟨_, (true), sq, H', ⟨by first | omega | exact Nat.le_refl _⟩, ⟨by (with_reducible repeat (first | apply Kd.R_alloc | apply Kd.R_drewN | apply Kd.R_drew)); exact Kd.R_mono HO524.out (fun _ hk => trivial)⟩, ⟨zq BK521.out⟩, ⟨zq BK534.out⟩, ⟨zq BK541.out⟩, ⟨bq3 HB.out GE521.out GE534.out GE541.out⟩⟩
  replace c30 := Bool.eq_false_iff.mpr c30
  subst c30
  have H1 : (laws_FnVecs.j0 k t522 false t516 t517 t518 t519 t520) = some r := by rw [if_neg (show ¬ (false = true) by decide)] at H; exact H
  clear H
  have H := H1
  clear H1
  have H' := am H
  clear H
  go_wp2
  go_meet
  case rel => exact ⟨_, (false), sq, H', ⟨by first | omega | exact Nat.le_refl _⟩, ⟨by (with_reducible repeat (first | apply Kd.R_alloc | apply Kd.R_drewN | apply Kd.R_drew)); exact Kd.R_mono HO524.out (fun _ hk => trivial)⟩, ⟨zq BK521.out⟩, ⟨zq BK534.out⟩, ⟨zq BK541.out⟩, ⟨bq3 HB.out GE521.out GE534.out GE541.out⟩⟩
 case rest =>
  clear HC9
  try clear c1
  try clear c2
  try clear p2
  try clear c3
  try clear c4
  try clear c6
  try clear c13
  try clear c20
  try clear c25
  try clear c26
  try clear c29
  try clear c29b0
  try clear c29b1
  try clear c29b2
  try clear c30
  try clear c32
  try clear c33
  try clear c35
  try clear c36
  try clear c42
  try clear c43
  try clear hcz12_0
  try clear hcz12_1
  try clear hcz12_2
  try clear hcz12_3
  try clear hcz12_4
  try clear hcz14_0
  try clear hcz14_1
  try clear hcz14_2
  try clear hcz14_3
  try clear hcz14_4
  try clear hcz21_0
  try clear hcz21_1
  try clear hcz21_2
  try clear hcz21_3
  try clear hcz21_4
  try clear hcz27_0
  try clear hcz27_1
  try clear hcz27_2
  try clear hcz27_3
  try clear hcz27_4
  try clear hcz37_0
  try clear hcz37_1
  try clear hcz37_2
  try clear hcz37_3
  try clear hcz37_4
  try clear hcz39_0
  try clear hcz39_1
  try clear hcz39_2
  try clear hcz39_3
  try clear hcz39_4
  try clear hcz44_0
  try clear hcz44_1
  try clear hcz44_2
  try clear hcz44_3
  try clear hcz44_4
  try clear hfz12_0
  try clear hfz12_1
  try clear hfz12_2
  try clear hfz12_3
  try clear hfz12_4
  try clear hfz14_0
  try clear hfz14_1
  try clear hfz14_2
  try clear hfz14_3
  try clear hfz14_4
  try clear hfz21_0
  try clear hfz21_1
  try clear hfz21_2
  try clear hfz21_3
  try clear hfz21_4
  try clear hfz27_0
  try clear hfz27_1
  try clear hfz27_2
  try clear hfz27_3
  try clear hfz27_4
  try clear hfz37_0
  try clear hfz37_1
  try clear hfz37_2
  try clear hfz37_3
  try clear hfz37_4
  try clear hfz39_0
  try clear hfz39_1
  try clear hfz39_2
  try clear hfz39_3
  try clear hfz39_4
  try clear hfz44_0
  try clear hfz44_1
  try clear hfz44_2
  try clear hfz44_3
  try clear hfz44_4
  obtain ⟨kq, x47_8, rfl, HA, HJ8, HO_4, BK521, BK534, BK541, HB⟩ := hcut
  cases kq with
  | zero => exact absurd HA.out (by simp [laws_FnVecs.j0])
  | succ kj8 =>
   have H := HA.out
   clear HA
   simp only [laws_FnVecs.j0] at H
   by_cases c46 : x47_8 = true
   · subst c46
     have H1 : (some false) = some r := by rw [if_pos rfl] at H; exact H
     clear H
     have H := H1
     clear H1
     exact absurd ((Option.some.inj H).trans HRT.out) (by decide)
   replace c46 := Bool.eq_false_iff.mpr c46
   subst c46
   have H1 : ((spec_VecOk.f t516 t517 t518 t519 t520).bind fun t547 => (if t547 = true then ((impl_GetVec.f kj8 t522).bind fun bt548 => (if bt548.2.2.2.2.2 = true then (if (bt548.1 == t516 && (bt548.2.1 == t517 && (bt548.2.2.1 == t518 && (bt548.2.2.2.1 == t519 && (bt548.2.2.2.2.1 == t520))))) = true then ((impl_VecOk.f t516 t517 t518 t519 t520).bind fun t555 => (some t555)) else (some false)) else (some false))) else (if (t522.length : Int) = 0 then ((impl_VecOk.f t516 t517 t518 t519 t520).bind fun t556 => (some (!t556))) else (some false)))) = some r := by rw [if_neg (show ¬ (false = true) by decide)] at H; exact H
   clear H
   have H := H1
   clear H1
   replace H := Option.bind_eq_some_iff.mp H
   obtain ⟨t547, A470, H⟩ := H
   replace H : (if t547 = true then ((impl_GetVec.f kj8 t522).bind fun bt548 => (if bt548.2.2.2.2.2 = true then (if (bt548.1 == t516 && (bt548.2.1 == t517 && (bt548.2.2.1 == t518 && (bt548.2.2.2.1 == t519 && (bt548.2.2.2.2.1 == t520))))) = true then ((impl_VecOk.f t516 t517 t518 t519 t520).bind fun t555 => (some t555)) else (some false)) else (some false))) else (if (t522.length : Int) = 0 then ((impl_VecOk.f t516 t517 t518 t519 t520).bind fun t556 => (some (!t556))) else (some false))) = some r := H
   have A47 := am A470
   clear A470
   by_cases c48 : t547 = true
   · subst c48
     have H1 : ((impl_GetVec.f kj8 t522).bind fun bt548 => (if bt548.2.2.2.2.2 = true then (if (bt548.1 == t516 && (bt548.2.1 == t517 && (bt548.2.2.1 == t518 && (bt548.2.2.2.1 == t519 && (bt548.2.2.2.2.1 == t520))))) = true then ((impl_VecOk.f t516 t517 t518 t519 t520).bind fun t555 => (some t555)) else (some false)) else (some false))) = some r := by rw [if_pos rfl] at H; exact H
     clear H
     have H := H1
     clear H1
     replace H := Option.bind_eq_some_iff.mp H
     obtain ⟨⟨t548, t549, t550, t551, t552, t553⟩, A490, H⟩ := H
     replace H : (if t553 = true then (if (t548 == t516 && (t549 == t517 && (t550 == t518 && (t551 == t519 && (t552 == t520))))) = true then ((impl_VecOk.f t516 t517 t518 t519 t520).bind fun t555 => (some t555)) else (some false)) else (some false)) = some r := H
     have A49 := am A490
     clear A490
     by_cases c50 : t553 = true
     · subst c50
       have H1 : (if (t548 == t516 && (t549 == t517 && (t550 == t518 && (t551 == t519 && (t552 == t520))))) = true then ((impl_VecOk.f t516 t517 t518 t519 t520).bind fun t555 => (some t555)) else (some false)) = some r := by rw [if_pos rfl] at H; exact H
       clear H
       have H := H1
       clear H1
       by_cases c51 : (t548 == t516 && (t549 == t517 && (t550 == t518 && (t551 == t519 && (t552 == t520))))) = true
       · rw [if_pos c51] at H
         have c51b0 : (t548 == t516 && (t549 == t517 && (t550 == t518 && (t551 == t519 && (t552 == t520))))) = true := c51
         (try (have c51b1 : decide (t548 = t516 && (t549 == t517 && (t550 == t518 && (t551 == t519 && (t552 == t520))))) = true := by simpa using c51))
         (try (have c51b2 : (t548 == t516 && (t549 == t517 && (t550 == t518 && (t551 == t519 && (t552 == t520))))) = true := by simpa using c51))
         clear c51
         replace H := Option.bind_eq_some_iff.mp H
         obtain ⟨t555, A520, H⟩ := H
         replace H : (some t555) = some r := H
         have A52 := am A520
         clear A520
         obtain rfl := Option.some.inj H
         have hnb53 := NB521_534.out
         have hnc53 := NB534_521.out
         have hnb54 := NB521_541.out
         have hnc54 := NB541_521.out
         have hcz55_0 : wc.cell? ⟨gb521, 0, none⟩ = some (.int .i64 t516) := (blk_cell BK521.out 0).trans rfl
         have hcz55_1 : wc.cell? ⟨gb521, 1, none⟩ = some (.int .i64 t517) := (blk_cell BK521.out 1).trans rfl
         have hcz55_2 : wc.cell? ⟨gb521, 2, none⟩ = some (.int .i64 t518) := (blk_cell BK521.out 2).trans rfl
         have hcz55_3 : wc.cell? ⟨gb521, 3, none⟩ = some (.int .i64 t519) := (blk_cell BK521.out 3).trans rfl
         have hcz55_4 : wc.cell? ⟨gb521, 4, none⟩ = some (.int .i64 t520) := (blk_cell BK521.out 4).trans rfl
         have hfz55_0 := blk_frozen BK521.out 0
         have hfz55_1 := blk_frozen BK521.out 1
         have hfz55_2 := blk_frozen BK521.out 2
         have hfz55_3 := blk_frozen BK521.out 3
         have hfz55_4 := blk_frozen BK521.out 4
         go_wp2_with (first | ((with_reducible refine gate_callee (f := 67) rfl ?_); refine goesL_ (some 49) rfl rfl Try.func67 (by kernel_rfl) rfl #[.agg #[.int .i64 t516, .int .i64 t517, .int .i64 t518, .int .i64 t519, .int .i64 t520]] rfl ga ?_; (with_reducible refine (spec_VecOk.calls t516 t517 t518 t519 t520 true _ A47.out).mono ?_); rintro e w56 ⟨rfl, hb⟩; refine ⟨_, rfl, ?_⟩; have n_ := ak5 (Kd.R_below (kqR HO_4.out) hb) (blk_below (g := gb521) (o := .cells #[.int .i64 t516, .int .i64 t517, .int .i64 t518, .int .i64 t519, .int .i64 t520] 47 (0, 0)) (zq BK521.out) hb) (blk_below (g := gb534) (o := .cells #[.int .i64 t528, .int .i64 t529, .int .i64 t530, .int .i64 t531, .int .i64 t532] 47 (0, 0)) (zq BK534.out) hb) (blk_below (g := gb541) (o := .cells #[.int .i64 t535, .int .i64 t536, .int .i64 t537, .int .i64 t538, .int .i64 t539] 47 (0, 0)) (zq BK541.out) hb) (below_step (bq3 HB.out GE521.out GE534.out GE541.out) hb); clear HO_4 BK521 BK534 BK541 HB; obtain ⟨HO_4, BK521, BK534, BK541, HB⟩ := n_; (try clear hb); obtain ⟨Ao57, co57, eo57⟩ := Kd.R_slice HO_4.out; subst eo57) | ((with_reducible refine gate_callee (f := 35) rfl ?_); refine goesL_ (some 61) rfl rfl Try.func35 (by kernel_rfl) rfl #[.slice Ao57 t522.length co57] rfl ga ?_; (with_reducible refine (impl_GetVec.calls kj8 _ _ t522 t548 t549 t550 t551 t552 true _ ?side1 ?side2 A49.out).mono ?_); (case side1 => repeat (first | exact (Kd.R_reads' HO_4.out).2.2 | (with_reducible refine Kd.C_alloc ?_ _) | (with_reducible refine Kd.C_drewN ?_ _) | (with_reducible refine Kd.C_drew ?_))); (case side2 => exact (Kd.R_reads' HO_4.out).2.1); rintro e w58 ⟨rfl, hb⟩; refine ⟨_, rfl, ?_⟩; have n_ := ak5 (Kd.R_below (kqR HO_4.out) hb) (blk_below (g := gb521) (o := .cells #[.int .i64 t516, .int .i64 t517, .int .i64 t518, .int .i64 t519, .int .i64 t520] 47 (0, 0)) (zq BK521.out) hb) (blk_below (g := gb534) (o := .cells #[.int .i64 t528, .int .i64 t529, .int .i64 t530, .int .i64 t531, .int .i64 t532] 47 (0, 0)) (zq BK534.out) hb) (blk_below (g := gb541) (o := .cells #[.int .i64 t535, .int .i64 t536, .int .i64 t537, .int .i64 t538, .int .i64 t539] 47 (0, 0)) (zq BK541.out) hb) (below_step (bq3 HB.out GE521.out GE534.out GE541.out) hb); clear HO_4 BK521 BK534 BK541 HB; obtain ⟨HO_4, BK521, BK534, BK541, HB⟩ := n_; (try clear hb)) | ((with_reducible refine gate_dst (N := 10) rfl ?_); refine box_event ?hg (N := 10) ?hd (cs := #[.int .i64 0, .int .i64 0, .int .i64 0, .int .i64 0, .int .i64 0]) (t := 47) ?hr ?_; (case hd => rfl); (case hg => rfl); (case hr => exact gs); intro gb554 hg w59 hbox hb; have n_ := ak14 (Kd.R_below (kqR HO_4.out) hb) (blk_below (g := gb521) (o := .cells #[.int .i64 t516, .int .i64 t517, .int .i64 t518, .int .i64 t519, .int .i64 t520] 47 (0, 0)) (zq BK521.out) hb) (blk_below (g := gb534) (o := .cells #[.int .i64 t528, .int .i64 t529, .int .i64 t530, .int .i64 t531, .int .i64 t532] 47 (0, 0)) (zq BK534.out) hb) (blk_below (g := gb541) (o := .cells #[.int .i64 t535, .int .i64 t536, .int .i64 t537, .int .i64 t538, .int .i64 t539] 47 (0, 0)) (zq BK541.out) hb) (below_step (bq3 HB.out GE521.out GE534.out GE541.out) hb) hbox ((by rw [hg]; exact (below_size (bq3 HB.out GE521.out GE534.out GE541.out)) : w.heap.size ≤ gb554)) ((by rw [hg]; exact (below_size (bq3 HB.out GE521.out GE534.out GE541.out)) : w.heap.size ≤ gb554)) ((by rw [hg]; exact Nat.ne_of_lt (blk_lt (g := gb521) (o := .cells #[.int .i64 t516, .int .i64 t517, .int .i64 t518, .int .i64 t519, .int .i64 t520] 47 (0, 0)) (zq BK521.out)) : gb521 ≠ gb554)) ((by rw [hg]; exact Nat.ne_of_gt (blk_lt (g := gb521) (o := .cells #[.int .i64 t516, .int .i64 t517, .int .i64 t518, .int .i64 t519, .int .i64 t520] 47 (0, 0)) (zq BK521.out)) : gb554 ≠ gb521)) ((by rw [hg]; exact Nat.ne_of_lt (blk_lt (g := gb534) (o := .cells #[.int .i64 t528, .int .i64 t529, .int .i64 t530, .int .i64 t531, .int .i64 t532] 47 (0, 0)) (zq BK534.out)) : gb534 ≠ gb554)) ((by rw [hg]; exact Nat.ne_of_gt (blk_lt (g := gb534) (o := .cells #[.int .i64 t528, .int .i64 t529, .int .i64 t530, .int .i64 t531, .int .i64 t532] 47 (0, 0)) (zq BK534.out)) : gb554 ≠ gb534)) ((by rw [hg]; exact Nat.ne_of_lt (blk_lt (g := gb541) (o := .cells #[.int .i64 t535, .int .i64 t536, .int .i64 t537, .int .i64 t538, .int .i64 t539] 47 (0, 0)) (zq BK541.out)) : gb541 ≠ gb554)) ((by rw [hg]; exact Nat.ne_of_gt (blk_lt (g := gb541) (o := .cells #[.int .i64 t535, .int .i64 t536, .int .i64 t537, .int .i64 t538, .int .i64 t539] 47 (0, 0)) (zq BK541.out)) : gb554 ≠ gb541)); clear HO_4 BK521 BK534 BK541 HB; obtain ⟨HO_4, BK521, BK534, BK541, HB, BK554, GW554, GE554, NB521_554, NB554_521, NB534_554, NB554_534, NB541_554, NB554_541⟩ := n_; clear hb hbox hg; have hnb60 := NB554_521.out; have hnc60 := NB521_554.out; have hnb61 := NB554_534.out; have hnc61 := NB534_554.out; have hnb62 := NB554_541.out; have hnc62 := NB541_554.out; have hcz63_0 : w59.cell? ⟨gb554, 0, none⟩ = some (.int .i64 0) := (blk_cell BK554.out 0).trans rfl; have hcz63_1 : w59.cell? ⟨gb554, 1, none⟩ = some (.int .i64 0) := (blk_cell BK554.out 1).trans rfl; have hcz63_2 : w59.cell? ⟨gb554, 2, none⟩ = some (.int .i64 0) := (blk_cell BK554.out 2).trans rfl; have hcz63_3 : w59.cell? ⟨gb554, 3, none⟩ = some (.int .i64 0) := (blk_cell BK554.out 3).trans rfl; have hcz63_4 : w59.cell? ⟨gb554, 4, none⟩ = some (.int .i64 0) := (blk_cell BK554.out 4).trans rfl; have hfz63_0 := blk_frozen BK554.out 0; have hfz63_1 := blk_frozen BK554.out 1; have hfz63_2 := blk_frozen BK554.out 2; have hfz63_3 := blk_frozen BK554.out 3; have hfz63_4 := blk_frozen BK554.out 4) | ((with_reducible refine gate_store (t := 47) (p := 10) rfl ?_); refine store_event (t := 47) (p := 10) (v := ?vo_w64) (w1 := (((((w59.setCell ⟨gb554, 0, none⟩ (.int .i64 t548)).setCell ⟨gb554, 1, none⟩ (.int .i64 t549)).setCell ⟨gb554, 2, none⟩ (.int .i64 t550)).setCell ⟨gb554, 3, none⟩ (.int .i64 t551)).setCell ⟨gb554, 4, none⟩ (.int .i64 t552))) ?hg ?ho ?hn ?hr ?_; (case ho => rfl); (case hg => rfl); (case hn => rfl); (case hr => exact gs); intro w64 hw; have n0_ : Aside0 (Kd.R (Kd.int .u8) 5 w64 w.heap.size (fun _ => True) (.slice Ao57 t522.length co57) t522) := ⟨(by rw [hw]; exact (by (with_reducible repeat (first | apply Kd.R_alloc | apply Kd.R_drewN | apply Kd.R_drew)); exact Kd.R_mono (Kd.R_far (p := ⟨gb554, 4, none⟩) (Kd.R_far (p := ⟨gb554, 3, none⟩) (Kd.R_far (p := ⟨gb554, 2, none⟩) (Kd.R_far (p := ⟨gb554, 1, none⟩) (Kd.R_far (p := ⟨gb554, 0, none⟩) (Kd.R_types HO_4.out BK554.out (by decide)) (fun _ hk => hk.2) (.int .i64 t548)) (fun _ hk => hk.2) (.int .i64 t549)) (fun _ hk => hk.2) (.int .i64 t550)) (fun _ hk => hk.2) (.int .i64 t551)) (fun _ hk => hk.2) (.int .i64 t552)) (fun _ hk => trivial)))⟩; have n1_ : Aside0 (w64.heap[gb521]? = some (.cells #[.int .i64 t516, .int .i64 t517, .int .i64 t518, .int .i64 t519, .int .i64 t520] 47 (0, 0))) := ⟨(by rw [hw]; exact (by (with_reducible repeat (first | refine blk_drewN ?_ _ | refine blk_drew ?_ | refine blk_alloc ?_ _)); refine blk_far ?_ NB521_554.out _; (with_reducible repeat (first | refine blk_drewN ?_ _ | refine blk_drew ?_ | refine blk_alloc ?_ _)); refine blk_far ?_ NB521_554.out _; (with_reducible repeat (first | refine blk_drewN ?_ _ | refine blk_drew ?_ | refine blk_alloc ?_ _)); refine blk_far ?_ NB521_554.out _; (with_reducible repeat (first | refine blk_drewN ?_ _ | refine blk_drew ?_ | refine blk_alloc ?_ _)); refine blk_far ?_ NB521_554.out _; (with_reducible repeat (first | refine blk_drewN ?_ _ | refine blk_drew ?_ | refine blk_alloc ?_ _)); refine blk_far ?_ NB521_554.out _; (with_reducible repeat (first | refine blk_drewN ?_ _ | refine blk_drew ?_ | refine blk_alloc ?_ _)); exact BK521.out))⟩; have n2_ : Aside0 (w64.heap[gb534]? = some (.cells #[.int .i64 t528, .int .i64 t529, .int .i64 t530, .int .i64 t531, .int .i64 t532] 47 (0, 0))) := ⟨(by rw [hw]; exact (by (with_reducible repeat (first | refine blk_drewN ?_ _ | refine blk_drew ?_ | refine blk_alloc ?_ _)); refine blk_far ?_ NB534_554.out _; (with_reducible repeat (first | refine blk_drewN ?_ _ | refine blk_drew ?_ | refine blk_alloc ?_ _)); refine blk_far ?_ NB534_554.out _; (with_reducible repeat (first | refine blk_drewN ?_ _ | refine blk_drew ?_ | refine blk_alloc ?_ _)); refine blk_far ?_ NB534_554.out _; (with_reducible repeat (first | refine blk_drewN ?_ _ | refine blk_drew ?_ | refine blk_alloc ?_ _)); refine blk_far ?_ NB534_554.out _; (with_reducible repeat (first | refine blk_drewN ?_ _ | refine blk_drew ?_ | refine blk_alloc ?_ _)); refine blk_far ?_ NB534_554.out _; (with_reducible repeat (first | refine blk_drewN ?_ _ | refine blk_drew ?_ | refine blk_alloc ?_ _)); exact BK534.out))⟩; have n3_ : Aside0 (w64.heap[gb541]? = some (.cells #[.int .i64 t535, .int .i64 t536, .int .i64 t537, .int .i64 t538, .int .i64 t539] 47 (0, 0))) := ⟨(by rw [hw]; exact (by (with_reducible repeat (first | refine blk_drewN ?_ _ | refine blk_drew ?_ | refine blk_alloc ?_ _)); refine blk_far ?_ NB541_554.out _; (with_reducible repeat (first | refine blk_drewN ?_ _ | refine blk_drew ?_ | refine blk_alloc ?_ _)); refine blk_far ?_ NB541_554.out _; (with_reducible repeat (first | refine blk_drewN ?_ _ | refine blk_drew ?_ | refine blk_alloc ?_ _)); refine blk_far ?_ NB541_554.out _; (with_reducible repeat (first | refine blk_drewN ?_ _ | refine blk_drew ?_ | refine blk_alloc ?_ _)); refine blk_far ?_ NB541_554.out _; (with_reducible repeat (first | refine blk_drewN ?_ _ | refine blk_drew ?_ | refine blk_alloc ?_ _)); refine blk_far ?_ NB541_554.out _; (with_reducible repeat (first | refine blk_drewN ?_ _ | refine blk_drew ?_ | refine blk_alloc ?_ _)); exact BK541.out))⟩; have n4_ : Aside0 (w64.heap[gb554]? = some (.cells #[.int .i64 t548, .int .i64 t549, .int .i64 t550, .int .i64 t551, .int .i64 t552] 47 (0, 0))) := ⟨(by rw [hw]; exact (by (with_reducible repeat (first | refine blk_drewN ?_ _ | refine blk_drew ?_ | refine blk_alloc ?_ _)); refine blk_put (cs := #[.int .i64 t548, .int .i64 t549, .int .i64 t550, .int .i64 t551, .int .i64 0]) ?_ 4 _ rfl; (with_reducible repeat (first | refine blk_drewN ?_ _ | refine blk_drew ?_ | refine blk_alloc ?_ _)); refine blk_put (cs := #[.int .i64 t548, .int .i64 t549, .int .i64 t550, .int .i64 0, .int .i64 0]) ?_ 3 _ rfl; (with_reducible repeat (first | refine blk_drewN ?_ _ | refine blk_drew ?_ | refine blk_alloc ?_ _)); refine blk_put (cs := #[.int .i64 t548, .int .i64 t549, .int .i64 0, .int .i64 0, .int .i64 0]) ?_ 2 _ rfl; (with_reducible repeat (first | refine blk_drewN ?_ _ | refine blk_drew ?_ | refine blk_alloc ?_ _)); refine blk_put (cs := #[.int .i64 t548, .int .i64 0, .int .i64 0, .int .i64 0, .int .i64 0]) ?_ 1 _ rfl; (with_reducible repeat (first | refine blk_drewN ?_ _ | refine blk_drew ?_ | refine blk_alloc ?_ _)); refine blk_put (cs := #[.int .i64 0, .int .i64 0, .int .i64 0, .int .i64 0, .int .i64 0]) ?_ 0 _ rfl; (with_reducible repeat (first | refine blk_drewN ?_ _ | refine blk_drew ?_ | refine blk_alloc ?_ _)); exact BK554.out))⟩; have n5_ : Aside0 (Below w.heap.size w w64) := ⟨(by rw [hw]; exact (bq4 HB.out GE521.out GE534.out GE541.out GE554.out))⟩; clear hw; clear HO_4; clear BK521; clear BK534; clear BK541; clear BK554; clear HB; have HO_4 := n0_; have BK521 := n1_; have BK534 := n2_; have BK541 := n3_; have BK554 := n4_; have HB := n5_; clear n0_ n1_ n2_ n3_ n4_ n5_; have hcz65_0 : w64.cell? ⟨gb554, 0, none⟩ = some (.int .i64 t548) := (blk_cell BK554.out 0).trans rfl; have hcz65_1 : w64.cell? ⟨gb554, 1, none⟩ = some (.int .i64 t549) := (blk_cell BK554.out 1).trans rfl; have hcz65_2 : w64.cell? ⟨gb554, 2, none⟩ = some (.int .i64 t550) := (blk_cell BK554.out 2).trans rfl; have hcz65_3 : w64.cell? ⟨gb554, 3, none⟩ = some (.int .i64 t551) := (blk_cell BK554.out 3).trans rfl; have hcz65_4 : w64.cell? ⟨gb554, 4, none⟩ = some (.int .i64 t552) := (blk_cell BK554.out 4).trans rfl; have hfz65_0 := blk_frozen BK554.out 0; have hfz65_1 := blk_frozen BK554.out 1; have hfz65_2 := blk_frozen BK554.out 2; have hfz65_3 := blk_frozen BK554.out 3; have hfz65_4 := blk_frozen BK554.out 4; have hcz66_0 : w64.cell? ⟨gb521, 0, none⟩ = some (.int .i64 t516) := (blk_cell BK521.out 0).trans rfl; have hcz66_1 : w64.cell? ⟨gb521, 1, none⟩ = some (.int .i64 t517) := (blk_cell BK521.out 1).trans rfl; have hcz66_2 : w64.cell? ⟨gb521, 2, none⟩ = some (.int .i64 t518) := (blk_cell BK521.out 2).trans rfl; have hcz66_3 : w64.cell? ⟨gb521, 3, none⟩ = some (.int .i64 t519) := (blk_cell BK521.out 3).trans rfl; have hcz66_4 : w64.cell? ⟨gb521, 4, none⟩ = some (.int .i64 t520) := (blk_cell BK521.out 4).trans rfl; have hfz66_0 := blk_frozen BK521.out 0; have hfz66_1 := blk_frozen BK521.out 1; have hfz66_2 := blk_frozen BK521.out 2; have hfz66_3 := blk_frozen BK521.out 3; have hfz66_4 := blk_frozen BK521.out 4) | (go_at_call 65; (with_reducible refine (impl_VecOk.calls t516 t517 t518 t519 t520 t555 _ A52.out).mono ?_); rintro e w67 ⟨rfl, hb⟩; have n_ := ak6 (Kd.R_below (kqR HO_4.out) hb) (blk_below (g := gb521) (o := .cells #[.int .i64 t516, .int .i64 t517, .int .i64 t518, .int .i64 t519, .int .i64 t520] 47 (0, 0)) (zq BK521.out) hb) (blk_below (g := gb534) (o := .cells #[.int .i64 t528, .int .i64 t529, .int .i64 t530, .int .i64 t531, .int .i64 t532] 47 (0, 0)) (zq BK534.out) hb) (blk_below (g := gb541) (o := .cells #[.int .i64 t535, .int .i64 t536, .int .i64 t537, .int .i64 t538, .int .i64 t539] 47 (0, 0)) (zq BK541.out) hb) (blk_below (g := gb554) (o := .cells #[.int .i64 t548, .int .i64 t549, .int .i64 t550, .int .i64 t551, .int .i64 t552] 47 (0, 0)) (zq BK554.out) hb) (below_step (bq4 HB.out GE521.out GE534.out GE541.out GE554.out) hb); clear HO_4 BK521 BK534 BK541 BK554 HB; obtain ⟨HO_4, BK521, BK534, BK541, BK554, HB⟩ := n_; (try clear hb)))
         go_ret
         exact ⟨rq, bq4 HB.out GE521.out GE534.out GE541.out GE554.out⟩
       rw [if_neg c51] at H
       have c51b0 : (t548 == t516 && (t549 == t517 && (t550 == t518 && (t551 == t519 && (t552 == t520))))) = false := by simpa using c51
       (try (have c51b1 : decide (t548 = t516 && (t549 == t517 && (t550 == t518 && (t551 == t519 && (t552 == t520))))) = false := by simpa using c51))
       (try (have c51b2 : (t548 == t516 && (t549 == t517 && (t550 == t518 && (t551 == t519 && (t552 == t520))))) = false := by simpa using c51))
       (try (have c51b3 : ¬ (t548 = t516 && (t549 == t517 && (t550 == t518 && (t551 == t519 && (t552 == t520))))) := by simpa using c51))
       clear c51
       exact absurd ((Option.some.inj H).trans HRT.out) (by decide)
     replace c50 := Bool.eq_false_iff.mpr c50
     subst c50
     have H1 : (some false) = some r := by rw [if_neg (show ¬ (false = true) by decide)] at H; exact H
     clear H
     have H := H1
     clear H1
     exact absurd ((Option.some.inj H).trans HRT.out) (by decide)
   replace c48 := Bool.eq_false_iff.mpr c48
   subst c48
   have H1 : (if (t522.length : Int) = 0 then ((impl_VecOk.f t516 t517 t518 t519 t520).bind fun t556 => (some (!t556))) else (some false)) = some r := by rw [if_neg (show ¬ (false = true) by decide)] at H; exact H
   clear H
   have H := H1
   clear H1
   by_cases c68 : (t522.length : Int) = 0
   · rw [if_pos c68] at H
     have c68b0 : ((t522.length : Int) == 0) = true := beq_iff_eq.mpr c68
     have c68b1 : ((t522.length : Int) != 0) = false := bne_eq_false_iff_eq.mpr c68
     clear c68
     replace H := Option.bind_eq_some_iff.mp H
     obtain ⟨t556, A690, H⟩ := H
     replace H : (some (!t556)) = some r := H
     have A69 := am A690
     clear A690
     obtain rfl := Option.some.inj H
     have hnb70 := NB521_534.out
     have hnc70 := NB534_521.out
     have hnb71 := NB521_541.out
     have hnc71 := NB541_521.out
     have hcz72_0 : wc.cell? ⟨gb521, 0, none⟩ = some (.int .i64 t516) := (blk_cell BK521.out 0).trans rfl
     have hcz72_1 : wc.cell? ⟨gb521, 1, none⟩ = some (.int .i64 t517) := (blk_cell BK521.out 1).trans rfl
     have hcz72_2 : wc.cell? ⟨gb521, 2, none⟩ = some (.int .i64 t518) := (blk_cell BK521.out 2).trans rfl
     have hcz72_3 : wc.cell? ⟨gb521, 3, none⟩ = some (.int .i64 t519) := (blk_cell BK521.out 3).trans rfl
     have hcz72_4 : wc.cell? ⟨gb521, 4, none⟩ = some (.int .i64 t520) := (blk_cell BK521.out 4).trans rfl
     have hfz72_0 := blk_frozen BK521.out 0
     have hfz72_1 := blk_frozen BK521.out 1
     have hfz72_2 := blk_frozen BK521.out 2
     have hfz72_3 := blk_frozen BK521.out 3
     have hfz72_4 := blk_frozen BK521.out 4
     go_wp2_with (first | ((with_reducible refine gate_callee (f := 67) rfl ?_); refine goesL_ (some 49) rfl rfl Try.func67 (by kernel_rfl) rfl #[.agg #[.int .i64 t516, .int .i64 t517, .int .i64 t518, .int .i64 t519, .int .i64 t520]] rfl ga ?_; (with_reducible refine (spec_VecOk.calls t516 t517 t518 t519 t520 false _ A47.out).mono ?_); rintro e w73 ⟨rfl, hb⟩; refine ⟨_, rfl, ?_⟩; have n_ := ak5 (Kd.R_below (kqR HO_4.out) hb) (blk_below (g := gb521) (o := .cells #[.int .i64 t516, .int .i64 t517, .int .i64 t518, .int .i64 t519, .int .i64 t520] 47 (0, 0)) (zq BK521.out) hb) (blk_below (g := gb534) (o := .cells #[.int .i64 t528, .int .i64 t529, .int .i64 t530, .int .i64 t531, .int .i64 t532] 47 (0, 0)) (zq BK534.out) hb) (blk_below (g := gb541) (o := .cells #[.int .i64 t535, .int .i64 t536, .int .i64 t537, .int .i64 t538, .int .i64 t539] 47 (0, 0)) (zq BK541.out) hb) (below_step (bq3 HB.out GE521.out GE534.out GE541.out) hb); clear HO_4 BK521 BK534 BK541 HB; obtain ⟨HO_4, BK521, BK534, BK541, HB⟩ := n_; (try clear hb); obtain ⟨Ao74, co74, eo74⟩ := Kd.R_slice HO_4.out; subst eo74; have hcz75_0 : w73.cell? ⟨gb521, 0, none⟩ = some (.int .i64 t516) := (blk_cell BK521.out 0).trans rfl; have hcz75_1 : w73.cell? ⟨gb521, 1, none⟩ = some (.int .i64 t517) := (blk_cell BK521.out 1).trans rfl; have hcz75_2 : w73.cell? ⟨gb521, 2, none⟩ = some (.int .i64 t518) := (blk_cell BK521.out 2).trans rfl; have hcz75_3 : w73.cell? ⟨gb521, 3, none⟩ = some (.int .i64 t519) := (blk_cell BK521.out 3).trans rfl; have hcz75_4 : w73.cell? ⟨gb521, 4, none⟩ = some (.int .i64 t520) := (blk_cell BK521.out 4).trans rfl; have hfz75_0 := blk_frozen BK521.out 0; have hfz75_1 := blk_frozen BK521.out 1; have hfz75_2 := blk_frozen BK521.out 2; have hfz75_3 := blk_frozen BK521.out 3; have hfz75_4 := blk_frozen BK521.out 4) | (go_at_call 65; (with_reducible refine (impl_VecOk.calls t516 t517 t518 t519 t520 t556 _ A69.out).mono ?_); rintro e w76 ⟨rfl, hb⟩; have n_ := ak5 (Kd.R_below (kqR HO_4.out) hb) (blk_below (g := gb521) (o := .cells #[.int .i64 t516, .int .i64 t517, .int .i64 t518, .int .i64 t519, .int .i64 t520] 47 (0, 0)) (zq BK521.out) hb) (blk_below (g := gb534) (o := .cells #[.int .i64 t528, .int .i64 t529, .int .i64 t530, .int .i64 t531, .int .i64 t532] 47 (0, 0)) (zq BK534.out) hb) (blk_below (g := gb541) (o := .cells #[.int .i64 t535, .int .i64 t536, .int .i64 t537, .int .i64 t538, .int .i64 t539] 47 (0, 0)) (zq BK541.out) hb) (below_step (bq3 HB.out GE521.out GE534.out GE541.out) hb); clear HO_4 BK521 BK534 BK541 HB; obtain ⟨HO_4, BK521, BK534, BK541, HB⟩ := n_; (try clear hb)))
     go_ret
     exact ⟨rq, bq3 HB.out GE521.out GE534.out GE541.out⟩
   rw [if_neg c68] at H
   have c68b0 : ((t522.length : Int) == 0) = false := beq_eq_false_iff_ne.mpr c68
   have c68b1 : ((t522.length : Int) != 0) = true := bne_iff_ne.mpr c68
   have c68b2 : ¬ (t522 = []) := fun h_ => c68 (by rw [h_]; rfl)
   exact absurd ((Option.some.inj H).trans HRT.out) (by decide)

/-- THE ONE PURE STATEMENT of laws_FnVecs. -/
def laws_FnVecs.Pure : Prop := ∀ (l0 : List Int), l0.length ≤ maxLen → (∀ y ∈ l0, (Lit.int .u8 y).wf = true) → ∃ k, laws_FnVecs.f k l0 = some true

end Go.Proofs.Ytebffdmkfkfoaaa.XFnVecs
