/- The functions that one law reaches, as Lean functions, with their walks: printed by a program of this seat (wip/tools) out of the translation. -/
import Derived.Test.YtgjhmbneikpiaaaDoorXFnOidsx0
import Derived.Test.YtgjhmbneikpiaaaDoorXFnOidsx1
import Derived.Test.YtgjhmbneikpiaaaDoorXFnOidsx2
import Derived.Test.YtgjhmbneikpiaaaDoorXFnOidsx3
import Derived.Test.YtgjhmbneikpiaaaDoorXFnOidsx4
import Derived.Test.YtgjhmbneikpiaaaDoorXFnOidsx5
namespace Go.Proofs.YtgjhmbneikpiaaaDoor.XFnOids
open Go.RowKit Go.Proofs.YtgjhmbneikpiaaaDoorW.PrintWords Go.Proofs.YtgjhmbneikpiaaaDoorW.PrintLast Go.Proofs.YtgjhmbneikpiaaaDoorW.PrintMore
attribute [local go_sem] max2_int min2_int max_two min_two max_three min_three max_four min_four   -- for this text's walks alone
set_option linter.unusedVariables false
set_option linter.unusedSimpArgs false

/-! ### impl_SameOid: function 21 -/
def impl_SameOid.l0 : Nat → List Int → List Int → Int → Int → Option (Bool)
 | 0, _, _, _, _ => none
 | k + 1, x0, x1, x12, x13 => if x13 < x12 then (if 0 ≤ x13 then (if x13 < (x0.length : Int) then (if x13 < (x1.length : Int) then (if (rd x0 x13) = (rd x1 x13) then (impl_SameOid.l0 k x0 x1 x12 (wrap64 (x13 + 1))) else (some false)) else (none)) else (none)) else (none)) else (some true)
def impl_SameOid.f (k : Nat) (l0 : List Int) (l1 : List Int) : Option (Bool) := if (l0.length : Int) = (l1.length : Int) then (impl_SameOid.l0 k l0 l1 (l0.length : Int) 0) else (some false)
theorem impl_SameOid.mono_l : ∀ k, (∀ y0 y1 y2 y3, LeO (impl_SameOid.l0 k y0 y1 y2 y3) (impl_SameOid.l0 (k + 1) y0 y1 y2 y3))
 | 0 => fun _ _ _ _ r h => by simp [impl_SameOid.l0] at h
 | k + 1 => by
  have ih0 := impl_SameOid.mono_l k
  intro y0 y1 y2 y3
  unfold impl_SameOid.l0
  repeat' first
  | (with_reducible exact ih0 _ _ _ _)
  | (with_reducible exact LeO.refl _)
  | (with_reducible exact LeO.none _)
  | (with_reducible refine LeO.ite ?_ ?_)
  | (with_reducible refine LeO.bind ?_ (fun _ => ?_))
  | exact ih0 _ _ _ _
  | exact LeO.none _
  | refine LeO.ite ?_ ?_
  | refine LeO.bind ?_ (fun _ => ?_)
theorem impl_SameOid.mono : ∀ a0 a1 k, LeO (impl_SameOid.f k a0 a1) (impl_SameOid.f (k + 1) a0 a1) := by
 intro a0 a1 k
 have ih0 := impl_SameOid.mono_l k
 unfold impl_SameOid.f
 repeat' first
  | (with_reducible exact ih0 _ _ _ _)
  | (with_reducible exact LeO.refl _)
  | (with_reducible exact LeO.none _)
  | (with_reducible refine LeO.ite ?_ ?_)
  | (with_reducible refine LeO.bind ?_ (fun _ => ?_))
  | exact ih0 _ _ _ _
  | exact LeO.none _
  | refine LeO.ite ?_ ?_
  | refine LeO.bind ?_ (fun _ => ?_)
set_option maxHeartbeats 8000000 in
set_option maxRecDepth 100000 in
theorem impl_SameOid.calls (k : Nat) (A0 : Option Addr) (c0 : Nat) (l0 : List Int) (A1 : Option Addr) (c1 : Nat) (l1 : List Int) (r : Bool) (w : World) (hr0 : Kd.C (Kd.int .i64) w A0 l0.length l0) (hc0 : l0.length ≤ c0) (hr1 : Kd.C (Kd.int .i64) w A1 l1.length l1) (hc1 : l1.length ≤ c1) (h : impl_SameOid.f k l0 l1 = some r) :
 Calls Tryd.prog 21 #[.slice A0 l0.length c0, .slice A1 l1.length c1] w fun e w' => e = .returned (.bool r) ∧ Drawn0 w w' := by
 have HR0 := am hr0
 have HC0 := am hc0
 clear hr0 hc0
 have HR1 := am hr1
 have HC1 := am hc1
 clear hr1 hc1
 have H : (if (l0.length : Int) = (l1.length : Int) then (impl_SameOid.l0 k l0 l1 (l0.length : Int) 0) else (some false)) = some r := h
 clear h
 by_cases c3 : (l0.length : Int) = (l1.length : Int)
 rotate_left
 · rw [if_neg c3] at H
   have c3b0 : ((l0.length : Int) == (l1.length : Int)) = false := beq_eq_false_iff_ne.mpr c3
   have c3b1 : ((l0.length : Int) != (l1.length : Int)) = true := bne_iff_ne.mpr c3
   have c3b2 : (l0.length == l1.length) = false := by first | simpa using c3 | (simp at c3 ⊢; omega)
   obtain rfl := Option.some.inj H
   go_enter Tryd.func21, Tryd.ntmps21
   go_wp2
   repeat (go_quiet (fail); try go_wp2)
   go_ret
   exact ⟨by first | rfl | (simp; done) | (simp [*]; done), by repeat (first | exact Drawn0.refl _ | apply Drawn0.step)⟩
 rw [if_pos c3] at H
 have c3b0 : ((l0.length : Int) == (l1.length : Int)) = true := beq_iff_eq.mpr c3
 have c3b1 : ((l0.length : Int) != (l1.length : Int)) = false := bne_eq_false_iff_eq.mpr c3
 have c3b2 : (l0.length == l1.length) = true := by first | simpa using c3 | (simp at c3 ⊢; omega)
 clear c3
 have H' := am H
 clear H
 go_enter Tryd.func21, Tryd.ntmps21
 go_wp2
 repeat (go_quiet (fail); try go_wp2)
 go_loopg [13] k (fun kq v13 w' => ∃ (x13_1 : Int), v13 = .int .i64 x13_1 ∧ Aside0 (impl_SameOid.l0 kq l0 l1 (l0.length : Int) x13_1 = some r) ∧ Aside0 (kq ≤ k) ∧ Drawn0 w w')
 case atStart => exact ⟨(0), sq, H', ⟨Nat.le_refl _⟩, by repeat (first | exact Drawn0.refl _ | apply Drawn0.step)⟩
 case round =>
  clear H'
  try clear c1
  try clear c2
  try clear p2
  try clear c3
  try clear c3b0
  try clear c3b1
  try clear c3b2
  obtain ⟨x13_1, rfl, HA, HK1, ⟨m1, rfl⟩⟩ := hrel
  cases gk with
  | zero => exact absurd HA.out (by simp [impl_SameOid.l0])
  | succ k1 =>
   have H := HA.out
   clear HA
   simp only [impl_SameOid.l0] at H
   by_cases c4 : x13_1 < (l0.length : Int)
   rotate_left
   · rw [if_neg c4] at H
     have c4b0 : decide (x13_1 < (l0.length : Int)) = false := decide_eq_false c4
     clear c4
     obtain rfl := Option.some.inj H
     go_wp2
     repeat (go_quiet (fail); try go_wp2)
     go_ret
     exact ⟨by first | rfl | (simp; done) | (simp [*]; done), by repeat (first | exact Drawn0.refl _ | apply Drawn0.step)⟩
   rw [if_pos c4] at H
   have c4b0 : decide (x13_1 < (l0.length : Int)) = true := decide_eq_true c4
   clear c4
   by_cases c5 : 0 ≤ x13_1
   rotate_left
   · rw [if_neg c5] at H
     exact absurd H (by simp)
   rw [if_pos c5] at H
   have c5b0 : decide (0 ≤ x13_1) = true := decide_eq_true c5
   clear c5
   by_cases c6 : x13_1 < (l0.length : Int)
   rotate_left
   · rw [if_neg c6] at H
     exact absurd H (by simp)
   rw [if_pos c6] at H
   have c6b0 : decide (x13_1 < (l0.length : Int)) = true := decide_eq_true c6
   clear c6
   by_cases c7 : x13_1 < (l1.length : Int)
   rotate_left
   · rw [if_neg c7] at H
     exact absurd H (by simp)
   rw [if_pos c7] at H
   have c7b0 : decide (x13_1 < (l1.length : Int)) = true := decide_eq_true c7
   clear c7
   by_cases c8 : (rd l0 x13_1) = (rd l1 x13_1)
   rotate_left
   · rw [if_neg c8] at H
     have c8b0 : ((rd l0 x13_1) == (rd l1 x13_1)) = false := beq_eq_false_iff_ne.mpr c8
     have c8b1 : ((rd l0 x13_1) != (rd l1 x13_1)) = true := bne_iff_ne.mpr c8
     obtain rfl := Option.some.inj H
     have p364 : 0 ≤ (x13_1 : Int) := oda
     have q364 : x13_1 < (l0.length : Int) := oda
     obtain ⟨ad364, e364, hx364_0⟩ := Kd.at_int HR0.out x13_1 p364 q364
     cases e364
     replace p364 := eq_true p364
     replace q364 := eq_true q364
     have p365 : 0 ≤ (x13_1 : Int) := oda
     have q365 : x13_1 < (l1.length : Int) := oda
     obtain ⟨ad365, e365, hx365_0⟩ := Kd.at_int HR1.out x13_1 p365 q365
     cases e365
     replace p365 := eq_true p365
     replace q365 := eq_true q365
     go_wp2
     repeat (go_quiet (fail); try go_wp2)
     go_ret
     exact ⟨by first | rfl | (simp; done) | (simp [*]; done), by repeat (first | exact Drawn0.refl _ | apply Drawn0.step)⟩
   rw [if_pos c8] at H
   have c8b0 : ((rd l0 x13_1) == (rd l1 x13_1)) = true := beq_iff_eq.mpr c8
   have c8b1 : ((rd l0 x13_1) != (rd l1 x13_1)) = false := bne_eq_false_iff_eq.mpr c8
   clear c8
   have H' := am H
   clear H
   have p364 : 0 ≤ (x13_1 : Int) := oda
   have q364 : x13_1 < (l0.length : Int) := oda
   obtain ⟨ad364, e364, hx364_0⟩ := Kd.at_int HR0.out x13_1 p364 q364
   cases e364
   replace p364 := eq_true p364
   replace q364 := eq_true q364
   have p365 : 0 ≤ (x13_1 : Int) := oda
   have q365 : x13_1 < (l1.length : Int) := oda
   obtain ⟨ad365, e365, hx365_0⟩ := Kd.at_int HR1.out x13_1 p365 q365
   cases e365
   replace p365 := eq_true p365
   replace q365 := eq_true q365
   go_wp2
   repeat (go_quiet (fail); try go_wp2)
   go_roundg k1
   case measure => have := HK1.out; omega
   case rel => exact ⟨(wrap64 (x13_1 + 1)), sq, H', ⟨by have := HK1.out; omega⟩, by repeat (first | exact Drawn0.refl _ | apply Drawn0.step)⟩

/-! ### laws_FnOids: function 4 -/
def laws_FnOids.j0 : Nat → List Int → List Int → ByteArray → Bool → Option (Bool)
 | 0, _, _, _, _ => none
 | k + 1, x3, x4, x5, x78 => if x78 = true then (some false) else ((spec_OidOk.f k x3).bind fun t400 => (if t400 = true then ((impl_GetOid.f k x4).bind fun bt402 => ((impl_ParseOid.f k x5).bind fun bt406 => (if bt402.2 = true then (if bt406.2 = true then ((impl_SameOid.f k bt402.1 x3).bind fun t410 => (if t410 = true then ((impl_SameOid.f k bt406.1 x3).bind fun t411 => (if t411 = true then ((impl_OidOk.f k x3).bind fun t412 => (some t412)) else (some false))) else (some false))) else (some false)) else (some false)))) else (if (x4.length : Int) = 0 then (if x5.toList = ([] : List UInt8) then ((impl_OidOk.f k x3).bind fun t401 => (some (!t401))) else (some false)) else (some false))))
def laws_FnOids.f (k : Nat) (l0 : List Int) : Option (Bool) := (laws_big.f l0).bind fun t366 => (if t366 = true then (some true) else ((spec_DrawPutOid.f k l0).bind fun t367 => ((impl_PutOid.f k t367).bind fun t370 => ((impl_OidText.f k t367).bind fun t373 => ((spec_DrawGetOid.f k l0).bind fun t374 => ((spec_DrawParseOid.f k l0).bind fun t377 => ((impl_GetOid.f k t374).bind fun bt378 => ((spec_GetOid.f k t374).bind fun bt382 => ((impl_ParseOid.f k t377).bind fun bt386 => ((spec_ParseOid.f k t377).bind fun bt390 => (if (bt378.2 != bt382.2) = true then (laws_FnOids.j0 k t367 t370 t373 true) else (if (bt386.2 != bt390.2) = true then (laws_FnOids.j0 k t367 t370 t373 true) else (if bt378.2 = true then ((impl_PutOid.f k bt378.1).bind fun t394 => ((laws_sameBytes.f k t394 t374).bind fun t397 => (if t397 = true then (if bt386.2 = true then ((impl_OidText.f k bt386.1).bind fun t398 => (laws_FnOids.j0 k t367 t370 t373 (t398.toList != t377.toList))) else (laws_FnOids.j0 k t367 t370 t373 false)) else (laws_FnOids.j0 k t367 t370 t373 true)))) else (if bt386.2 = true then ((impl_OidText.f k bt386.1).bind fun t399 => (laws_FnOids.j0 k t367 t370 t373 (t399.toList != t377.toList))) else (laws_FnOids.j0 k t367 t370 t373 false)))))))))))))))
theorem laws_FnOids.mono_l : ∀ k, (∀ y0 y1 y2 y3, LeO (laws_FnOids.j0 k y0 y1 y2 y3) (laws_FnOids.j0 (k + 1) y0 y1 y2 y3))
 | 0 => fun _ _ _ _ r h => by simp [laws_FnOids.j0] at h
 | k + 1 => by
  have ih0 := laws_FnOids.mono_l k
  intro y0 y1 y2 y3
  unfold laws_FnOids.j0
  repeat' first
  | (with_reducible exact ih0 _ _ _ _)
  | (with_reducible exact impl_GetOid.mono _ _)
  | (with_reducible exact impl_OidOk.mono _ _)
  | (with_reducible exact impl_OidText.mono _ _)
  | (with_reducible exact impl_ParseOid.mono _ _)
  | (with_reducible exact impl_PutOid.mono _ _)
  | (with_reducible exact impl_SameOid.mono _ _ _)
  | (with_reducible exact laws_sameBytes.mono _ _ _)
  | (with_reducible exact spec_DrawGetOid.mono _ _)
  | (with_reducible exact spec_DrawParseOid.mono _ _)
  | (with_reducible exact spec_DrawPutOid.mono _ _)
  | (with_reducible exact spec_GetOid.mono _ _)
  | (with_reducible exact spec_OidOk.mono _ _)
  | (with_reducible exact spec_ParseOid.mono _ _)
  | (with_reducible exact LeO.refl _)
  | (with_reducible exact LeO.none _)
  | (with_reducible refine LeO.ite ?_ ?_)
  | (with_reducible refine LeO.bind ?_ (fun _ => ?_))
  | exact ih0 _ _ _ _
  | exact impl_GetOid.mono _ _
  | exact impl_OidOk.mono _ _
  | exact impl_OidText.mono _ _
  | exact impl_ParseOid.mono _ _
  | exact impl_PutOid.mono _ _
  | exact impl_SameOid.mono _ _ _
  | exact laws_sameBytes.mono _ _ _
  | exact spec_DrawGetOid.mono _ _
  | exact spec_DrawParseOid.mono _ _
  | exact spec_DrawPutOid.mono _ _
  | exact spec_GetOid.mono _ _
  | exact spec_OidOk.mono _ _
  | exact spec_ParseOid.mono _ _
  | exact LeO.none _
  | refine LeO.ite ?_ ?_
  | refine LeO.bind ?_ (fun _ => ?_)
theorem laws_FnOids.mono : ∀ a0 k, LeO (laws_FnOids.f k a0) (laws_FnOids.f (k + 1) a0) := by
 intro a0 k
 have ih0 := laws_FnOids.mono_l k
 unfold laws_FnOids.f
 repeat' first
  | (with_reducible exact ih0 _ _ _ _)
  | (with_reducible exact impl_GetOid.mono _ _)
  | (with_reducible exact impl_OidOk.mono _ _)
  | (with_reducible exact impl_OidText.mono _ _)
  | (with_reducible exact impl_ParseOid.mono _ _)
  | (with_reducible exact impl_PutOid.mono _ _)
  | (with_reducible exact impl_SameOid.mono _ _ _)
  | (with_reducible exact laws_sameBytes.mono _ _ _)
  | (with_reducible exact spec_DrawGetOid.mono _ _)
  | (with_reducible exact spec_DrawParseOid.mono _ _)
  | (with_reducible exact spec_DrawPutOid.mono _ _)
  | (with_reducible exact spec_GetOid.mono _ _)
  | (with_reducible exact spec_OidOk.mono _ _)
  | (with_reducible exact spec_ParseOid.mono _ _)
  | (with_reducible exact LeO.refl _)
  | (with_reducible exact LeO.none _)
  | (with_reducible refine LeO.ite ?_ ?_)
  | (with_reducible refine LeO.bind ?_ (fun _ => ?_))
  | exact ih0 _ _ _ _
  | exact impl_GetOid.mono _ _
  | exact impl_OidOk.mono _ _
  | exact impl_OidText.mono _ _
  | exact impl_ParseOid.mono _ _
  | exact impl_PutOid.mono _ _
  | exact impl_SameOid.mono _ _ _
  | exact laws_sameBytes.mono _ _ _
  | exact spec_DrawGetOid.mono _ _
  | exact spec_DrawParseOid.mono _ _
  | exact spec_DrawPutOid.mono _ _
  | exact spec_GetOid.mono _ _
  | exact spec_OidOk.mono _ _
  | exact spec_ParseOid.mono _ _
  | exact LeO.none _
  | refine LeO.ite ?_ ?_
  | refine LeO.bind ?_ (fun _ => ?_)
set_option maxHeartbeats 8000000 in
set_option maxRecDepth 100000 in
theorem laws_FnOids.calls (k : Nat) (A0 : Option Addr) (c0 : Nat) (l0 : List Int) (r : Bool) (w : World) (hr0 : Kd.C (Kd.int .u8) w A0 l0.length l0) (hc0 : l0.length ≤ c0) (hr_ : r = true) (hT_ : HTab w) (h : laws_FnOids.f k l0 = some r) :
 Calls Tryd.prog 4 #[.slice A0 l0.length c0] w fun e w' => e = .returned (.bool r) ∧ Below w.heap.size w w' := by
 have HRT := am hr_
 clear hr_
 have HR0 := am hr0
 have HC0 := am hc0
 clear hr0 hc0
 have HB := am (Below.refl w.heap.size w)
 have H : ((laws_big.f l0).bind fun t366 => (if t366 = true then (some true) else ((spec_DrawPutOid.f k l0).bind fun t367 => ((impl_PutOid.f k t367).bind fun t370 => ((impl_OidText.f k t367).bind fun t373 => ((spec_DrawGetOid.f k l0).bind fun t374 => ((spec_DrawParseOid.f k l0).bind fun t377 => ((impl_GetOid.f k t374).bind fun bt378 => ((spec_GetOid.f k t374).bind fun bt382 => ((impl_ParseOid.f k t377).bind fun bt386 => ((spec_ParseOid.f k t377).bind fun bt390 => (if (bt378.2 != bt382.2) = true then (laws_FnOids.j0 k t367 t370 t373 true) else (if (bt386.2 != bt390.2) = true then (laws_FnOids.j0 k t367 t370 t373 true) else (if bt378.2 = true then ((impl_PutOid.f k bt378.1).bind fun t394 => ((laws_sameBytes.f k t394 t374).bind fun t397 => (if t397 = true then (if bt386.2 = true then ((impl_OidText.f k bt386.1).bind fun t398 => (laws_FnOids.j0 k t367 t370 t373 (t398.toList != t377.toList))) else (laws_FnOids.j0 k t367 t370 t373 false)) else (laws_FnOids.j0 k t367 t370 t373 true)))) else (if bt386.2 = true then ((impl_OidText.f k bt386.1).bind fun t399 => (laws_FnOids.j0 k t367 t370 t373 (t399.toList != t377.toList))) else (laws_FnOids.j0 k t367 t370 t373 false)))))))))))))))) = some r := h
 clear h
 replace H := Option.bind_eq_some_iff.mp H
 obtain ⟨t366, A20, H⟩ := H
 replace H : (if t366 = true then (some true) else ((spec_DrawPutOid.f k l0).bind fun t367 => ((impl_PutOid.f k t367).bind fun t370 => ((impl_OidText.f k t367).bind fun t373 => ((spec_DrawGetOid.f k l0).bind fun t374 => ((spec_DrawParseOid.f k l0).bind fun t377 => ((impl_GetOid.f k t374).bind fun bt378 => ((spec_GetOid.f k t374).bind fun bt382 => ((impl_ParseOid.f k t377).bind fun bt386 => ((spec_ParseOid.f k t377).bind fun bt390 => (if (bt378.2 != bt382.2) = true then (laws_FnOids.j0 k t367 t370 t373 true) else (if (bt386.2 != bt390.2) = true then (laws_FnOids.j0 k t367 t370 t373 true) else (if bt378.2 = true then ((impl_PutOid.f k bt378.1).bind fun t394 => ((laws_sameBytes.f k t394 t374).bind fun t397 => (if t397 = true then (if bt386.2 = true then ((impl_OidText.f k bt386.1).bind fun t398 => (laws_FnOids.j0 k t367 t370 t373 (t398.toList != t377.toList))) else (laws_FnOids.j0 k t367 t370 t373 false)) else (laws_FnOids.j0 k t367 t370 t373 true)))) else (if bt386.2 = true then ((impl_OidText.f k bt386.1).bind fun t399 => (laws_FnOids.j0 k t367 t370 t373 (t399.toList != t377.toList))) else (laws_FnOids.j0 k t367 t370 t373 false))))))))))))))) = some r := H
 have A2 := am A20
 clear A20
 by_cases c3 : t366 = true
 · subst c3
   replace H : (some true) = some r := by rw [if_pos rfl] at H; exact H
   obtain rfl := Option.some.inj H
   go_enter Tryd.func4, Tryd.ntmps4
   go_wp2_with (first | ((with_reducible refine gate_callee (f := 10) rfl ?_); refine goesL_ (some 21) rfl rfl Tryd.func10 (by kernel_rfl) rfl #[.slice A0 l0.length c0] rfl ga ?_; (with_reducible refine (laws_big.calls _ _ l0 true _ ?side1 ?side2 A2.out).mono ?_); (case side1 => exact cq HR0.out); (case side2 => exact HC0.out); rintro e w' ⟨rfl, ⟨nd, rfl⟩⟩; refine ⟨_, rfl, ?_⟩))
   go_ret
   exact ⟨rq, bq HB.out⟩
 replace c3 := Bool.eq_false_iff.mpr c3
 subst c3
 replace H : ((spec_DrawPutOid.f k l0).bind fun t367 => ((impl_PutOid.f k t367).bind fun t370 => ((impl_OidText.f k t367).bind fun t373 => ((spec_DrawGetOid.f k l0).bind fun t374 => ((spec_DrawParseOid.f k l0).bind fun t377 => ((impl_GetOid.f k t374).bind fun bt378 => ((spec_GetOid.f k t374).bind fun bt382 => ((impl_ParseOid.f k t377).bind fun bt386 => ((spec_ParseOid.f k t377).bind fun bt390 => (if (bt378.2 != bt382.2) = true then (laws_FnOids.j0 k t367 t370 t373 true) else (if (bt386.2 != bt390.2) = true then (laws_FnOids.j0 k t367 t370 t373 true) else (if bt378.2 = true then ((impl_PutOid.f k bt378.1).bind fun t394 => ((laws_sameBytes.f k t394 t374).bind fun t397 => (if t397 = true then (if bt386.2 = true then ((impl_OidText.f k bt386.1).bind fun t398 => (laws_FnOids.j0 k t367 t370 t373 (t398.toList != t377.toList))) else (laws_FnOids.j0 k t367 t370 t373 false)) else (laws_FnOids.j0 k t367 t370 t373 true)))) else (if bt386.2 = true then ((impl_OidText.f k bt386.1).bind fun t399 => (laws_FnOids.j0 k t367 t370 t373 (t399.toList != t377.toList))) else (laws_FnOids.j0 k t367 t370 t373 false)))))))))))))) = some r := by rw [if_neg (show ¬ (false = true) by decide)] at H; exact H
 replace H := Option.bind_eq_some_iff.mp H
 obtain ⟨t367, A40, H⟩ := H
 replace H : ((impl_PutOid.f k t367).bind fun t370 => ((impl_OidText.f k t367).bind fun t373 => ((spec_DrawGetOid.f k l0).bind fun t374 => ((spec_DrawParseOid.f k l0).bind fun t377 => ((impl_GetOid.f k t374).bind fun bt378 => ((spec_GetOid.f k t374).bind fun bt382 => ((impl_ParseOid.f k t377).bind fun bt386 => ((spec_ParseOid.f k t377).bind fun bt390 => (if (bt378.2 != bt382.2) = true then (laws_FnOids.j0 k t367 t370 t373 true) else (if (bt386.2 != bt390.2) = true then (laws_FnOids.j0 k t367 t370 t373 true) else (if bt378.2 = true then ((impl_PutOid.f k bt378.1).bind fun t394 => ((laws_sameBytes.f k t394 t374).bind fun t397 => (if t397 = true then (if bt386.2 = true then ((impl_OidText.f k bt386.1).bind fun t398 => (laws_FnOids.j0 k t367 t370 t373 (t398.toList != t377.toList))) else (laws_FnOids.j0 k t367 t370 t373 false)) else (laws_FnOids.j0 k t367 t370 t373 true)))) else (if bt386.2 = true then ((impl_OidText.f k bt386.1).bind fun t399 => (laws_FnOids.j0 k t367 t370 t373 (t399.toList != t377.toList))) else (laws_FnOids.j0 k t367 t370 t373 false))))))))))))) = some r := H
 have A4 := am A40
 clear A40
 replace H := Option.bind_eq_some_iff.mp H
 obtain ⟨t370, A50, H⟩ := H
 replace H : ((impl_OidText.f k t367).bind fun t373 => ((spec_DrawGetOid.f k l0).bind fun t374 => ((spec_DrawParseOid.f k l0).bind fun t377 => ((impl_GetOid.f k t374).bind fun bt378 => ((spec_GetOid.f k t374).bind fun bt382 => ((impl_ParseOid.f k t377).bind fun bt386 => ((spec_ParseOid.f k t377).bind fun bt390 => (if (bt378.2 != bt382.2) = true then (laws_FnOids.j0 k t367 t370 t373 true) else (if (bt386.2 != bt390.2) = true then (laws_FnOids.j0 k t367 t370 t373 true) else (if bt378.2 = true then ((impl_PutOid.f k bt378.1).bind fun t394 => ((laws_sameBytes.f k t394 t374).bind fun t397 => (if t397 = true then (if bt386.2 = true then ((impl_OidText.f k bt386.1).bind fun t398 => (laws_FnOids.j0 k t367 t370 t373 (t398.toList != t377.toList))) else (laws_FnOids.j0 k t367 t370 t373 false)) else (laws_FnOids.j0 k t367 t370 t373 true)))) else (if bt386.2 = true then ((impl_OidText.f k bt386.1).bind fun t399 => (laws_FnOids.j0 k t367 t370 t373 (t399.toList != t377.toList))) else (laws_FnOids.j0 k t367 t370 t373 false)))))))))))) = some r := H
 have A5 := am A50
 clear A50
 replace H := Option.bind_eq_some_iff.mp H
 obtain ⟨t373, A60, H⟩ := H
 replace H : ((spec_DrawGetOid.f k l0).bind fun t374 => ((spec_DrawParseOid.f k l0).bind fun t377 => ((impl_GetOid.f k t374).bind fun bt378 => ((spec_GetOid.f k t374).bind fun bt382 => ((impl_ParseOid.f k t377).bind fun bt386 => ((spec_ParseOid.f k t377).bind fun bt390 => (if (bt378.2 != bt382.2) = true then (laws_FnOids.j0 k t367 t370 t373 true) else (if (bt386.2 != bt390.2) = true then (laws_FnOids.j0 k t367 t370 t373 true) else (if bt378.2 = true then ((impl_PutOid.f k bt378.1).bind fun t394 => ((laws_sameBytes.f k t394 t374).bind fun t397 => (if t397 = true then (if bt386.2 = true then ((impl_OidText.f k bt386.1).bind fun t398 => (laws_FnOids.j0 k t367 t370 t373 (t398.toList != t377.toList))) else (laws_FnOids.j0 k t367 t370 t373 false)) else (laws_FnOids.j0 k t367 t370 t373 true)))) else (if bt386.2 = true then ((impl_OidText.f k bt386.1).bind fun t399 => (laws_FnOids.j0 k t367 t370 t373 (t399.toList != t377.toList))) else (laws_FnOids.j0 k t367 t370 t373 false))))))))))) = some r := H
 have A6 := am A60
 clear A60
 replace H := Option.bind_eq_some_iff.mp H
 obtain ⟨t374, A70, H⟩ := H
 replace H : ((spec_DrawParseOid.f k l0).bind fun t377 => ((impl_GetOid.f k t374).bind fun bt378 => ((spec_GetOid.f k t374).bind fun bt382 => ((impl_ParseOid.f k t377).bind fun bt386 => ((spec_ParseOid.f k t377).bind fun bt390 => (if (bt378.2 != bt382.2) = true then (laws_FnOids.j0 k t367 t370 t373 true) else (if (bt386.2 != bt390.2) = true then (laws_FnOids.j0 k t367 t370 t373 true) else (if bt378.2 = true then ((impl_PutOid.f k bt378.1).bind fun t394 => ((laws_sameBytes.f k t394 t374).bind fun t397 => (if t397 = true then (if bt386.2 = true then ((impl_OidText.f k bt386.1).bind fun t398 => (laws_FnOids.j0 k t367 t370 t373 (t398.toList != t377.toList))) else (laws_FnOids.j0 k t367 t370 t373 false)) else (laws_FnOids.j0 k t367 t370 t373 true)))) else (if bt386.2 = true then ((impl_OidText.f k bt386.1).bind fun t399 => (laws_FnOids.j0 k t367 t370 t373 (t399.toList != t377.toList))) else (laws_FnOids.j0 k t367 t370 t373 false)))))))))) = some r := H
 have A7 := am A70
 clear A70
 replace H := Option.bind_eq_some_iff.mp H
 obtain ⟨t377, A80, H⟩ := H
 replace H : ((impl_GetOid.f k t374).bind fun bt378 => ((spec_GetOid.f k t374).bind fun bt382 => ((impl_ParseOid.f k t377).bind fun bt386 => ((spec_ParseOid.f k t377).bind fun bt390 => (if (bt378.2 != bt382.2) = true then (laws_FnOids.j0 k t367 t370 t373 true) else (if (bt386.2 != bt390.2) = true then (laws_FnOids.j0 k t367 t370 t373 true) else (if bt378.2 = true then ((impl_PutOid.f k bt378.1).bind fun t394 => ((laws_sameBytes.f k t394 t374).bind fun t397 => (if t397 = true then (if bt386.2 = true then ((impl_OidText.f k bt386.1).bind fun t398 => (laws_FnOids.j0 k t367 t370 t373 (t398.toList != t377.toList))) else (laws_FnOids.j0 k t367 t370 t373 false)) else (laws_FnOids.j0 k t367 t370 t373 true)))) else (if bt386.2 = true then ((impl_OidText.f k bt386.1).bind fun t399 => (laws_FnOids.j0 k t367 t370 t373 (t399.toList != t377.toList))) else (laws_FnOids.j0 k t367 t370 t373 false))))))))) = some r := H
 have A8 := am A80
 clear A80
 replace H := Option.bind_eq_some_iff.mp H
 obtain ⟨⟨t378, t379⟩, A90, H⟩ := H
 replace H : ((spec_GetOid.f k t374).bind fun bt382 => ((impl_ParseOid.f k t377).bind fun bt386 => ((spec_ParseOid.f k t377).bind fun bt390 => (if (t379 != bt382.2) = true then (laws_FnOids.j0 k t367 t370 t373 true) else (if (bt386.2 != bt390.2) = true then (laws_FnOids.j0 k t367 t370 t373 true) else (if t379 = true then ((impl_PutOid.f k t378).bind fun t394 => ((laws_sameBytes.f k t394 t374).bind fun t397 => (if t397 = true then (if bt386.2 = true then ((impl_OidText.f k bt386.1).bind fun t398 => (laws_FnOids.j0 k t367 t370 t373 (t398.toList != t377.toList))) else (laws_FnOids.j0 k t367 t370 t373 false)) else (laws_FnOids.j0 k t367 t370 t373 true)))) else (if bt386.2 = true then ((impl_OidText.f k bt386.1).bind fun t399 => (laws_FnOids.j0 k t367 t370 t373 (t399.toList != t377.toList))) else (laws_FnOids.j0 k t367 t370 t373 false)))))))) = some r := H
 have A9 := am A90
 clear A90
 replace H := Option.bind_eq_some_iff.mp H
 obtain ⟨⟨t382, t383⟩, A100, H⟩ := H
 replace H : ((impl_ParseOid.f k t377).bind fun bt386 => ((spec_ParseOid.f k t377).bind fun bt390 => (if (t379 != t383) = true then (laws_FnOids.j0 k t367 t370 t373 true) else (if (bt386.2 != bt390.2) = true then (laws_FnOids.j0 k t367 t370 t373 true) else (if t379 = true then ((impl_PutOid.f k t378).bind fun t394 => ((laws_sameBytes.f k t394 t374).bind fun t397 => (if t397 = true then (if bt386.2 = true then ((impl_OidText.f k bt386.1).bind fun t398 => (laws_FnOids.j0 k t367 t370 t373 (t398.toList != t377.toList))) else (laws_FnOids.j0 k t367 t370 t373 false)) else (laws_FnOids.j0 k t367 t370 t373 true)))) else (if bt386.2 = true then ((impl_OidText.f k bt386.1).bind fun t399 => (laws_FnOids.j0 k t367 t370 t373 (t399.toList != t377.toList))) else (laws_FnOids.j0 k t367 t370 t373 false))))))) = some r := H
 have A10 := am A100
 clear A100
 replace H := Option.bind_eq_some_iff.mp H
 obtain ⟨⟨t386, t387⟩, A110, H⟩ := H
 replace H : ((spec_ParseOid.f k t377).bind fun bt390 => (if (t379 != t383) = true then (laws_FnOids.j0 k t367 t370 t373 true) else (if (t387 != bt390.2) = true then (laws_FnOids.j0 k t367 t370 t373 true) else (if t379 = true then ((impl_PutOid.f k t378).bind fun t394 => ((laws_sameBytes.f k t394 t374).bind fun t397 => (if t397 = true then (if t387 = true then ((impl_OidText.f k t386).bind fun t398 => (laws_FnOids.j0 k t367 t370 t373 (t398.toList != t377.toList))) else (laws_FnOids.j0 k t367 t370 t373 false)) else (laws_FnOids.j0 k t367 t370 t373 true)))) else (if t387 = true then ((impl_OidText.f k t386).bind fun t399 => (laws_FnOids.j0 k t367 t370 t373 (t399.toList != t377.toList))) else (laws_FnOids.j0 k t367 t370 t373 false)))))) = some r := H
 have A11 := am A110
 clear A110
 replace H := Option.bind_eq_some_iff.mp H
 obtain ⟨⟨t390, t391⟩, A120, H⟩ := H
 replace H : (if (t379 != t383) = true then (laws_FnOids.j0 k t367 t370 t373 true) else (if (t387 != t391) = true then (laws_FnOids.j0 k t367 t370 t373 true) else (if t379 = true then ((impl_PutOid.f k t378).bind fun t394 => ((laws_sameBytes.f k t394 t374).bind fun t397 => (if t397 = true then (if t387 = true then ((impl_OidText.f k t386).bind fun t398 => (laws_FnOids.j0 k t367 t370 t373 (t398.toList != t377.toList))) else (laws_FnOids.j0 k t367 t370 t373 false)) else (laws_FnOids.j0 k t367 t370 t373 true)))) else (if t387 = true then ((impl_OidText.f k t386).bind fun t399 => (laws_FnOids.j0 k t367 t370 t373 (t399.toList != t377.toList))) else (laws_FnOids.j0 k t367 t370 t373 false))))) = some r := H
 have A12 := am A120
 clear A120
 have HC13 := am H
 clear H
 go_enter Tryd.func4, Tryd.ntmps4
 go_upto_region 12 with (first | ((with_reducible refine gate_callee (f := 10) rfl ?_); refine goesL_ (some 21) rfl rfl Tryd.func10 (by kernel_rfl) rfl #[.slice A0 l0.length c0] rfl ga ?_; (with_reducible refine (laws_big.calls _ _ l0 false _ ?side1 ?side2 A2.out).mono ?_); (case side1 => exact cq HR0.out); (case side2 => exact HC0.out); rintro e w' ⟨rfl, ⟨nd, rfl⟩⟩; refine ⟨_, rfl, ?_⟩) | ((with_reducible refine gate_callee (f := 11) rfl ?_); refine goesL_ (some 23) rfl rfl Tryd.func11 (by kernel_rfl) rfl #[.slice A0 l0.length c0] rfl ga ?_; (with_reducible refine (spec_DrawPutOid.calls k _ _ l0 t367 _ ?side1 ?side2 A4.out).mono ?_); (case side1 => exact cq HR0.out); (case side2 => exact HC0.out); rintro e w14 ⟨v368, rfl, ho0, hb⟩; refine ⟨_, rfl, ?_⟩; have n_ := ak2 (Kd.R_lower ho0 (below_size (bq HB.out))) (below_step (bq HB.out) hb); clear HB; obtain ⟨HO369, HB⟩ := n_; (try clear hb ho0); obtain ⟨Ao15, co15, eo15⟩ := Kd.R_slice HO369.out; subst eo15) | ((with_reducible refine gate_callee (f := 12) rfl ?_); refine goesL_ (some 25) rfl rfl Tryd.func12 (by kernel_rfl) rfl #[.slice Ao15 t367.length co15] rfl ga ?_; (with_reducible refine (impl_PutOid.calls k _ _ t367 t370 _ ?side1 ?side2 A5.out).mono ?_); (case side1 => repeat (first | exact (Kd.R_reads' HO369.out).2.2 | (with_reducible refine Kd.C_alloc ?_ _) | (with_reducible refine Kd.C_drewN ?_ _) | (with_reducible refine Kd.C_drew ?_))); (case side2 => exact (Kd.R_reads' HO369.out).2.1); rintro e w16 ⟨v371, rfl, ho0, hb⟩; refine ⟨_, rfl, ?_⟩; have n_ := ak3 (Kd.R_below (kqR HO369.out) hb) (Kd.R_lower ho0 (below_size (bq HB.out))) (below_step (bq HB.out) hb); clear HO369 HB; obtain ⟨HO369, HO372, HB⟩ := n_; (try clear hb ho0)) | ((with_reducible refine gate_callee (f := 13) rfl ?_); refine goesL_ (some 27) rfl rfl Tryd.func13 (by kernel_rfl) rfl #[.slice Ao15 t367.length co15] rfl ga ?_; (with_reducible refine (impl_OidText.calls k _ _ t367 t373 _ ?side1 ?side2 (tab_below hT_ (bq HB.out)) A6.out).mono ?_); (case side1 => repeat (first | exact (Kd.R_reads' HO369.out).2.2 | (with_reducible refine Kd.C_alloc ?_ _) | (with_reducible refine Kd.C_drewN ?_ _) | (with_reducible refine Kd.C_drew ?_))); (case side2 => exact (Kd.R_reads' HO369.out).2.1); rintro e w17 ⟨rfl, hb⟩; refine ⟨_, rfl, ?_⟩; have n_ := ak3 (Kd.R_below (kqR HO369.out) hb) (Kd.R_below (kqR HO372.out) hb) (below_step (bq HB.out) hb); clear HO369 HO372 HB; obtain ⟨HO369, HO372, HB⟩ := n_; (try clear hb)) | ((with_reducible refine gate_callee (f := 14) rfl ?_); refine goesL_ (some 29) rfl rfl Tryd.func14 (by kernel_rfl) rfl #[.slice A0 l0.length c0] rfl ga ?_; (with_reducible refine (spec_DrawGetOid.calls k _ _ l0 t374 _ ?side1 ?side2 A7.out).mono ?_); (case side1 => exact cq (Kd.C_below HR0.out HB.out)); (case side2 => exact HC0.out); rintro e w18 ⟨v375, rfl, ho0, hb⟩; refine ⟨_, rfl, ?_⟩; have n_ := ak4 (Kd.R_below (kqR HO369.out) hb) (Kd.R_elder' (kqR HO372.out) (Kd.R_base ho0) hb) (Kd.R_lower (Kd.R_new' ho0 (Kd.R_lt (kqR HO372.out))) (below_size (bq HB.out))) (below_step (bq HB.out) hb); clear HO369 HO372 HB; obtain ⟨HO369, HO372, HO376, HB⟩ := n_; (try clear hb ho0)) | ((with_reducible refine gate_callee (f := 15) rfl ?_); refine goesL_ (some 31) rfl rfl Tryd.func15 (by kernel_rfl) rfl #[.slice A0 l0.length c0] rfl ga ?_; (with_reducible refine (spec_DrawParseOid.calls k _ _ l0 t377 _ ?side1 ?side2 A8.out).mono ?_); (case side1 => exact cq (Kd.C_below HR0.out HB.out)); (case side2 => exact HC0.out); rintro e w19 ⟨rfl, hb⟩; refine ⟨_, rfl, ?_⟩; have n_ := ak4 (Kd.R_below (kqR HO369.out) hb) (Kd.R_below (kqR HO372.out) hb) (Kd.R_below (kqR HO376.out) hb) (below_step (bq HB.out) hb); clear HO369 HO372 HO376 HB; obtain ⟨HO369, HO372, HO376, HB⟩ := n_; (try clear hb); obtain ⟨Ao20, co20, eo20⟩ := Kd.R_slice HO376.out; subst eo20) | ((with_reducible refine gate_callee (f := 16) rfl ?_); refine goesL_ (some 34) rfl rfl Tryd.func16 (by kernel_rfl) rfl #[.slice Ao20 t374.length co20] rfl ga ?_; (with_reducible refine (impl_GetOid.calls k _ _ t374 t378 t379 _ ?side1 ?side2 A9.out).mono ?_); (case side1 => repeat (first | exact (Kd.R_reads' HO376.out).2.2 | (with_reducible refine Kd.C_alloc ?_ _) | (with_reducible refine Kd.C_drewN ?_ _) | (with_reducible refine Kd.C_drew ?_))); (case side2 => exact (Kd.R_reads' HO376.out).2.1); rintro e w21 ⟨v380, rfl, ho0, hb⟩; refine ⟨_, rfl, ?_⟩; have n_ := ak5 (Kd.R_elder' (kqR HO369.out) (Kd.R_base ho0) hb) (Kd.R_below (kqR HO372.out) hb) (Kd.R_below (kqR HO376.out) hb) (Kd.R_lower (Kd.R_new' ho0 (Kd.R_lt (kqR HO369.out))) (below_size (bq HB.out))) (below_step (bq HB.out) hb); clear HO369 HO372 HO376 HB; obtain ⟨HO369, HO372, HO376, HO381, HB⟩ := n_; (try clear hb ho0)) | ((with_reducible refine gate_callee (f := 17) rfl ?_); refine goesL_ (some 39) rfl rfl Tryd.func17 (by kernel_rfl) rfl #[.slice Ao20 t374.length co20] rfl ga ?_; (with_reducible refine (spec_GetOid.calls k _ _ t374 t382 t383 _ ?side1 ?side2 A10.out).mono ?_); (case side1 => repeat (first | exact (Kd.R_reads' HO376.out).2.2 | (with_reducible refine Kd.C_alloc ?_ _) | (with_reducible refine Kd.C_drewN ?_ _) | (with_reducible refine Kd.C_drew ?_))); (case side2 => exact (Kd.R_reads' HO376.out).2.1); rintro e w22 ⟨v384, rfl, ho0, hb⟩; refine ⟨_, rfl, ?_⟩; have n_ := ak6 (Kd.R_elder' (kqR HO369.out) (Kd.R_base ho0) hb) (Kd.R_below (kqR HO372.out) hb) (Kd.R_below (kqR HO376.out) hb) (Kd.R_elder' (kqR HO381.out) (Kd.R_base ho0) hb) (Kd.R_lower (Kd.R_new' (Kd.R_new' ho0 (Kd.R_lt (kqR HO369.out))) (Kd.R_lt (kqR HO381.out))) (below_size (bq HB.out))) (below_step (bq HB.out) hb); clear HO369 HO372 HO376 HO381 HB; obtain ⟨HO369, HO372, HO376, HO381, HO385, HB⟩ := n_; (try clear hb ho0)) | ((with_reducible refine gate_callee (f := 6) rfl ?_); refine goesL_ (some 44) rfl rfl Tryd.func6 (by kernel_rfl) rfl #[.string t377] rfl ga ?_; (with_reducible refine (impl_ParseOid.calls k t377 t386 t387 _ (tab_below hT_ (bq HB.out)) A11.out).mono ?_); rintro e w23 ⟨v388, rfl, ho0, hb⟩; refine ⟨_, rfl, ?_⟩; have n_ := ak7 (Kd.R_elder' (kqR HO369.out) (Kd.R_base ho0) hb) (Kd.R_below (kqR HO372.out) hb) (Kd.R_below (kqR HO376.out) hb) (Kd.R_elder' (kqR HO381.out) (Kd.R_base ho0) hb) (Kd.R_elder' (kqR HO385.out) (Kd.R_base ho0) hb) (Kd.R_lower (Kd.R_new' (Kd.R_new' (Kd.R_new' ho0 (Kd.R_lt (kqR HO369.out))) (Kd.R_lt (kqR HO381.out))) (Kd.R_lt (kqR HO385.out))) (below_size (bq HB.out))) (below_step (bq HB.out) hb); clear HO369 HO372 HO376 HO381 HO385 HB; obtain ⟨HO369, HO372, HO376, HO381, HO385, HO389, HB⟩ := n_; (try clear hb ho0)) | ((with_reducible refine gate_callee (f := 5) rfl ?_); refine goesL_ (some 49) rfl rfl Tryd.func5 (by kernel_rfl) rfl #[.string t377] rfl ga ?_; (with_reducible refine (spec_ParseOid.calls k t377 t390 t391 _ A12.out).mono ?_); rintro e w24 ⟨v392, rfl, ho0, hb⟩; refine ⟨_, rfl, ?_⟩; have n_ := ak8 (Kd.R_elder' (kqR HO369.out) (Kd.R_base ho0) hb) (Kd.R_below (kqR HO372.out) hb) (Kd.R_below (kqR HO376.out) hb) (Kd.R_elder' (kqR HO381.out) (Kd.R_base ho0) hb) (Kd.R_elder' (kqR HO385.out) (Kd.R_base ho0) hb) (Kd.R_elder' (kqR HO389.out) (Kd.R_base ho0) hb) (Kd.R_lower (Kd.R_new' (Kd.R_new' (Kd.R_new' (Kd.R_new' ho0 (Kd.R_lt (kqR HO369.out))) (Kd.R_lt (kqR HO381.out))) (Kd.R_lt (kqR HO385.out))) (Kd.R_lt (kqR HO389.out))) (below_size (bq HB.out))) (below_step (bq HB.out) hb); clear HO369 HO372 HO376 HO381 HO385 HO389 HB; obtain ⟨HO369, HO372, HO376, HO381, HO385, HO389, HO393, HB⟩ := n_; (try clear hb ho0)))
 (try simp only [Act.put, List.setIfInBounds_toArray, List.set_cons_zero, List.set_cons_succ])
 go_cut [78] (fun v78 wc => ∃ (kq : Nat) (x78_12 : Bool), v78 = .bool x78_12 ∧ Aside0 (laws_FnOids.j0 kq t367 t370 t373 x78_12 = some r) ∧ Aside0 (kq ≤ k) ∧ Aside0 (Kd.R (Kd.int .i64) 3 wc w.heap.size (fun _ => True) (.slice Ao15 t367.length co15) t367) ∧ Aside0 (Kd.R (Kd.int .u8) 5 wc w.heap.size (fun _ => True) v371 t370) ∧ Aside0 (Below w.heap.size w wc))
 case first =>
  have H := HC13.out
  clear HC13
  by_cases c25 : (t379 != t383) = true
  · rw [if_pos c25] at H
    have c25b0 : (t379 != t383) = true := c25
    (try (have c25b1 : decide (t379 = t383) = false := by simpa using c25))
    (try (have c25b2 : (t379 == t383) = false := by simpa using c25))
    (try (have c25b3 : ¬ (t379 = t383) := by simpa using c25))
    clear c25
    (first | rw [c25b0] | (simp only [i64_w, i32_w]; rw [c25b0]) | skip)
    have H' := am H
    clear H
    go_wp2
    go_meet
    case rel => exact ⟨_, (true), sq, H', ⟨by first | omega | exact Nat.le_refl _⟩, ⟨by refine kr ?_; exact Kd.R_mono HO369.out (fun _ hk => trivial)⟩, ⟨by refine kr ?_; exact Kd.R_mono HO372.out (fun _ hk => trivial)⟩, ⟨bq HB.out⟩⟩
  rw [if_neg c25] at H
  have c25b0 : (t379 != t383) = false := by simpa using c25
  (try (have c25b1 : decide (t379 = t383) = true := by simpa using c25))
  (try (have c25b2 : (t379 == t383) = true := by simpa using c25))
  clear c25
  (first | rw [c25b0] | (simp only [i64_w, i32_w]; rw [c25b0]) | skip)
  by_cases c26 : (t387 != t391) = true
  · rw [if_pos c26] at H
    have c26b0 : (t387 != t391) = true := c26
    (try (have c26b1 : decide (t387 = t391) = false := by simpa using c26))
    (try (have c26b2 : (t387 == t391) = false := by simpa using c26))
    (try (have c26b3 : ¬ (t387 = t391) := by simpa using c26))
    clear c26
    have H' := am H
    clear H
    go_wp2
    go_meet
    case rel => exact ⟨_, (true), sq, H', ⟨by first | omega | exact Nat.le_refl _⟩, ⟨by refine kr ?_; exact Kd.R_mono HO369.out (fun _ hk => trivial)⟩, ⟨by refine kr ?_; exact Kd.R_mono HO372.out (fun _ hk => trivial)⟩, ⟨bq HB.out⟩⟩
  rw [if_neg c26] at H
  have c26b0 : (t387 != t391) = false := by simpa using c26
  (try (have c26b1 : decide (t387 = t391) = true := by simpa using c26))
  (try (have c26b2 : (t387 == t391) = true := by simpa using c26))
  clear c26
  by_cases c27 : t379 = true
  rotate_left
  · replace c27 := Bool.eq_false_iff.mpr c27
    subst c27
    replace H : (if t387 = true then ((impl_OidText.f k t386).bind fun t399 => (laws_FnOids.j0 k t367 t370 t373 (t399.toList != t377.toList))) else (laws_FnOids.j0 k t367 t370 t373 false)) = some r := by rw [if_neg (show ¬ (false = true) by decide)] at H; exact H
    by_cases c44 : t387 = true
    rotate_left
    · replace c44 := Bool.eq_false_iff.mpr c44
      subst c44
      replace H : (laws_FnOids.j0 k t367 t370 t373 false) = some r := by rw [if_neg (show ¬ (false = true) by decide)] at H; exact H
      have H' := am H
      clear H
      go_wp2
      go_meet
      case rel => exact ⟨_, (false), sq, H', ⟨by first | omega | exact Nat.le_refl _⟩, ⟨by refine kr ?_; exact Kd.R_mono HO369.out (fun _ hk => trivial)⟩, ⟨by refine kr ?_; exact Kd.R_mono HO372.out (fun _ hk => trivial)⟩, ⟨bq HB.out⟩⟩
    subst c44
    replace H : ((impl_OidText.f k t386).bind fun t399 => (laws_FnOids.j0 k t367 t370 t373 (t399.toList != t377.toList))) = some r := by rw [if_pos rfl] at H; exact H
    replace H := Option.bind_eq_some_iff.mp H
    obtain ⟨t399, A450, H⟩ := H
    replace H : (laws_FnOids.j0 k t367 t370 t373 (t399.toList != t377.toList)) = some r := H
    have A45 := am A450
    clear A450
    have H' := am H
    clear H
    obtain ⟨Ao46, co46, eo46⟩ := Kd.R_slice HO389.out
    subst eo46
    go_wp2_with (first | (go_at_call 13; (with_reducible refine (impl_OidText.calls k _ _ t386 t399 _ ?side1 ?side2 (tab_below hT_ (bq HB.out)) A45.out).mono ?_); (case side1 => repeat (first | exact (Kd.R_reads' HO389.out).2.2 | (with_reducible refine Kd.C_alloc ?_ _) | (with_reducible refine Kd.C_drewN ?_ _) | (with_reducible refine Kd.C_drew ?_))); (case side2 => exact (Kd.R_reads' HO389.out).2.1); rintro e w47 ⟨rfl, hb⟩; have n_ := ak8 (Kd.R_below (kqR HO369.out) hb) (Kd.R_below (kqR HO372.out) hb) (Kd.R_below (kqR HO376.out) hb) (Kd.R_below (kqR HO381.out) hb) (Kd.R_below (kqR HO385.out) hb) (Kd.R_below (kqR HO389.out) hb) (Kd.R_below (kqR HO393.out) hb) (below_step (bq HB.out) hb); clear HO369 HO372 HO376 HO381 HO385 HO389 HO393 HB; obtain ⟨HO369, HO372, HO376, HO381, HO385, HO389, HO393, HB⟩ := n_; (try clear hb)))
    go_meet
    case rel => exact ⟨_, ((t399.toList != t377.toList)), sq, H', ⟨by first | omega | exact Nat.le_refl _⟩, ⟨by refine kr ?_; exact Kd.R_mono HO369.out (fun _ hk => trivial)⟩, ⟨by refine kr ?_; exact Kd.R_mono HO372.out (fun _ hk => trivial)⟩, ⟨bq HB.out⟩⟩
  subst c27
  replace H : ((impl_PutOid.f k t378).bind fun t394 => ((laws_sameBytes.f k t394 t374).bind fun t397 => (if t397 = true then (if t387 = true then ((impl_OidText.f k t386).bind fun t398 => (laws_FnOids.j0 k t367 t370 t373 (t398.toList != t377.toList))) else (laws_FnOids.j0 k t367 t370 t373 false)) else (laws_FnOids.j0 k t367 t370 t373 true)))) = some r := by rw [if_pos rfl] at H; exact H
  replace H := Option.bind_eq_some_iff.mp H
  obtain ⟨t394, A280, H⟩ := H
  replace H : ((laws_sameBytes.f k t394 t374).bind fun t397 => (if t397 = true then (if t387 = true then ((impl_OidText.f k t386).bind fun t398 => (laws_FnOids.j0 k t367 t370 t373 (t398.toList != t377.toList))) else (laws_FnOids.j0 k t367 t370 t373 false)) else (laws_FnOids.j0 k t367 t370 t373 true))) = some r := H
  have A28 := am A280
  clear A280
  replace H := Option.bind_eq_some_iff.mp H
  obtain ⟨t397, A290, H⟩ := H
  replace H : (if t397 = true then (if t387 = true then ((impl_OidText.f k t386).bind fun t398 => (laws_FnOids.j0 k t367 t370 t373 (t398.toList != t377.toList))) else (laws_FnOids.j0 k t367 t370 t373 false)) else (laws_FnOids.j0 k t367 t370 t373 true)) = some r := H
  have A29 := am A290
  clear A290
  by_cases c30 : t397 = true
  rotate_left
  · replace c30 := Bool.eq_false_iff.mpr c30
    subst c30
    replace H : (laws_FnOids.j0 k t367 t370 t373 true) = some r := by rw [if_neg (show ¬ (false = true) by decide)] at H; exact H
    have H' := am H
    clear H
    obtain ⟨Ao41, co41, eo41⟩ := Kd.R_slice HO381.out
    subst eo41
    go_wp2_with (first | (go_at_call 12; (with_reducible refine (impl_PutOid.calls k _ _ t378 t394 _ ?side1 ?side2 A28.out).mono ?_); (case side1 => repeat (first | exact (Kd.R_reads' HO381.out).2.2 | (with_reducible refine Kd.C_alloc ?_ _) | (with_reducible refine Kd.C_drewN ?_ _) | (with_reducible refine Kd.C_drew ?_))); (case side2 => exact (Kd.R_reads' HO381.out).2.1); rintro e w42 ⟨v395, rfl, ho0, hb⟩; have n_ := ak9 (Kd.R_below (kqR HO369.out) hb) (Kd.R_elder' (kqR HO372.out) (Kd.R_base ho0) hb) (Kd.R_elder' (kqR HO376.out) (Kd.R_base ho0) hb) (Kd.R_below (kqR HO381.out) hb) (Kd.R_below (kqR HO385.out) hb) (Kd.R_below (kqR HO389.out) hb) (Kd.R_below (kqR HO393.out) hb) (Kd.R_lower (Kd.R_new' (Kd.R_new' ho0 (Kd.R_lt (kqR HO372.out))) (Kd.R_lt (kqR HO376.out))) (below_size (bq HB.out))) (below_step (bq HB.out) hb); clear HO369 HO372 HO376 HO381 HO385 HO389 HO393 HB; obtain ⟨HO369, HO372, HO376, HO381, HO385, HO389, HO393, HO396, HB⟩ := n_; (try clear hb ho0); obtain ⟨Ao43, co43, eo43⟩ := Kd.R_slice HO396.out; subst eo43) | (go_at_call 18; (with_reducible refine (laws_sameBytes.calls k _ _ t394 _ _ t374 false _ ?side1 ?side2 ?side3 ?side4 A29.out).mono ?_); (case side1 => repeat (first | exact (Kd.R_reads' HO396.out).2.2 | (with_reducible refine Kd.C_alloc ?_ _) | (with_reducible refine Kd.C_drewN ?_ _) | (with_reducible refine Kd.C_drew ?_))); (case side2 => exact (Kd.R_reads' HO396.out).2.1); (case side3 => repeat (first | exact (Kd.R_reads' HO376.out).2.2 | (with_reducible refine Kd.C_alloc ?_ _) | (with_reducible refine Kd.C_drewN ?_ _) | (with_reducible refine Kd.C_drew ?_))); (case side4 => exact (Kd.R_reads' HO376.out).2.1); rintro e w' ⟨rfl, ⟨nd, rfl⟩⟩))
    go_meet
    case rel => exact ⟨_, (true), sq, H', ⟨by first | omega | exact Nat.le_refl _⟩, ⟨by refine kr ?_; exact Kd.R_mono HO369.out (fun _ hk => trivial)⟩, ⟨by refine kr ?_; exact Kd.R_mono HO372.out (fun _ hk => trivial)⟩, ⟨bq HB.out⟩⟩
  subst c30
  replace H : (if t387 = true then ((impl_OidText.f k t386).bind fun t398 => (laws_FnOids.j0 k t367 t370 t373 (t398.toList != t377.toList))) else (laws_FnOids.j0 k t367 t370 t373 false)) = some r := by rw [if_pos rfl] at H; exact H
  by_cases c31 : t387 = true
  rotate_left
  · replace c31 := Bool.eq_false_iff.mpr c31
    subst c31
    replace H : (laws_FnOids.j0 k t367 t370 t373 false) = some r := by rw [if_neg (show ¬ (false = true) by decide)] at H; exact H
    have H' := am H
    clear H
    obtain ⟨Ao38, co38, eo38⟩ := Kd.R_slice HO381.out
    subst eo38
    go_wp2_with (first | (go_at_call 12; (with_reducible refine (impl_PutOid.calls k _ _ t378 t394 _ ?side1 ?side2 A28.out).mono ?_); (case side1 => repeat (first | exact (Kd.R_reads' HO381.out).2.2 | (with_reducible refine Kd.C_alloc ?_ _) | (with_reducible refine Kd.C_drewN ?_ _) | (with_reducible refine Kd.C_drew ?_))); (case side2 => exact (Kd.R_reads' HO381.out).2.1); rintro e w39 ⟨v395, rfl, ho0, hb⟩; have n_ := ak9 (Kd.R_below (kqR HO369.out) hb) (Kd.R_elder' (kqR HO372.out) (Kd.R_base ho0) hb) (Kd.R_elder' (kqR HO376.out) (Kd.R_base ho0) hb) (Kd.R_below (kqR HO381.out) hb) (Kd.R_below (kqR HO385.out) hb) (Kd.R_below (kqR HO389.out) hb) (Kd.R_below (kqR HO393.out) hb) (Kd.R_lower (Kd.R_new' (Kd.R_new' ho0 (Kd.R_lt (kqR HO372.out))) (Kd.R_lt (kqR HO376.out))) (below_size (bq HB.out))) (below_step (bq HB.out) hb); clear HO369 HO372 HO376 HO381 HO385 HO389 HO393 HB; obtain ⟨HO369, HO372, HO376, HO381, HO385, HO389, HO393, HO396, HB⟩ := n_; (try clear hb ho0); obtain ⟨Ao40, co40, eo40⟩ := Kd.R_slice HO396.out; subst eo40) | (go_at_call 18; (with_reducible refine (laws_sameBytes.calls k _ _ t394 _ _ t374 true _ ?side1 ?side2 ?side3 ?side4 A29.out).mono ?_); (case side1 => repeat (first | exact (Kd.R_reads' HO396.out).2.2 | (with_reducible refine Kd.C_alloc ?_ _) | (with_reducible refine Kd.C_drewN ?_ _) | (with_reducible refine Kd.C_drew ?_))); (case side2 => exact (Kd.R_reads' HO396.out).2.1); (case side3 => repeat (first | exact (Kd.R_reads' HO376.out).2.2 | (with_reducible refine Kd.C_alloc ?_ _) | (with_reducible refine Kd.C_drewN ?_ _) | (with_reducible refine Kd.C_drew ?_))); (case side4 => exact (Kd.R_reads' HO376.out).2.1); rintro e w' ⟨rfl, ⟨nd, rfl⟩⟩))
    go_meet
    case rel => exact ⟨_, (false), sq, H', ⟨by first | omega | exact Nat.le_refl _⟩, ⟨by refine kr ?_; exact Kd.R_mono HO369.out (fun _ hk => trivial)⟩, ⟨by refine kr ?_; exact Kd.R_mono HO372.out (fun _ hk => trivial)⟩, ⟨bq HB.out⟩⟩
  subst c31
  replace H : ((impl_OidText.f k t386).bind fun t398 => (laws_FnOids.j0 k t367 t370 t373 (t398.toList != t377.toList))) = some r := by rw [if_pos rfl] at H; exact H
  replace H := Option.bind_eq_some_iff.mp H
  obtain ⟨t398, A320, H⟩ := H
  replace H : (laws_FnOids.j0 k t367 t370 t373 (t398.toList != t377.toList)) = some r := H
  have A32 := am A320
  clear A320
  have H' := am H
  clear H
  obtain ⟨Ao33, co33, eo33⟩ := Kd.R_slice HO381.out
  subst eo33
  go_wp2_with (first | (go_at_call 12; (with_reducible refine (impl_PutOid.calls k _ _ t378 t394 _ ?side1 ?side2 A28.out).mono ?_); (case side1 => repeat (first | exact (Kd.R_reads' HO381.out).2.2 | (with_reducible refine Kd.C_alloc ?_ _) | (with_reducible refine Kd.C_drewN ?_ _) | (with_reducible refine Kd.C_drew ?_))); (case side2 => exact (Kd.R_reads' HO381.out).2.1); rintro e w34 ⟨v395, rfl, ho0, hb⟩; have n_ := ak9 (Kd.R_below (kqR HO369.out) hb) (Kd.R_elder' (kqR HO372.out) (Kd.R_base ho0) hb) (Kd.R_elder' (kqR HO376.out) (Kd.R_base ho0) hb) (Kd.R_below (kqR HO381.out) hb) (Kd.R_below (kqR HO385.out) hb) (Kd.R_below (kqR HO389.out) hb) (Kd.R_below (kqR HO393.out) hb) (Kd.R_lower (Kd.R_new' (Kd.R_new' ho0 (Kd.R_lt (kqR HO372.out))) (Kd.R_lt (kqR HO376.out))) (below_size (bq HB.out))) (below_step (bq HB.out) hb); clear HO369 HO372 HO376 HO381 HO385 HO389 HO393 HB; obtain ⟨HO369, HO372, HO376, HO381, HO385, HO389, HO393, HO396, HB⟩ := n_; (try clear hb ho0); obtain ⟨Ao35, co35, eo35⟩ := Kd.R_slice HO396.out; subst eo35) | (go_at_call 18; (with_reducible refine (laws_sameBytes.calls k _ _ t394 _ _ t374 true _ ?side1 ?side2 ?side3 ?side4 A29.out).mono ?_); (case side1 => repeat (first | exact (Kd.R_reads' HO396.out).2.2 | (with_reducible refine Kd.C_alloc ?_ _) | (with_reducible refine Kd.C_drewN ?_ _) | (with_reducible refine Kd.C_drew ?_))); (case side2 => exact (Kd.R_reads' HO396.out).2.1); (case side3 => repeat (first | exact (Kd.R_reads' HO376.out).2.2 | (with_reducible refine Kd.C_alloc ?_ _) | (with_reducible refine Kd.C_drewN ?_ _) | (with_reducible refine Kd.C_drew ?_))); (case side4 => exact (Kd.R_reads' HO376.out).2.1); rintro e w' ⟨rfl, ⟨nd, rfl⟩⟩; obtain ⟨Ao36, co36, eo36⟩ := Kd.R_slice HO389.out; subst eo36) | (go_at_call 13; (with_reducible refine (impl_OidText.calls k _ _ t386 t398 _ ?side1 ?side2 (tab_below hT_ (bq HB.out)) A32.out).mono ?_); (case side1 => repeat (first | exact (Kd.R_reads' HO389.out).2.2 | (with_reducible refine Kd.C_alloc ?_ _) | (with_reducible refine Kd.C_drewN ?_ _) | (with_reducible refine Kd.C_drew ?_))); (case side2 => exact (Kd.R_reads' HO389.out).2.1); rintro e w37 ⟨rfl, hb⟩; have n_ := ak9 (Kd.R_below (kqR HO369.out) hb) (Kd.R_below (kqR HO372.out) hb) (Kd.R_below (kqR HO376.out) hb) (Kd.R_below (kqR HO381.out) hb) (Kd.R_below (kqR HO385.out) hb) (Kd.R_below (kqR HO389.out) hb) (Kd.R_below (kqR HO393.out) hb) (Kd.R_below (kqR HO396.out) hb) (below_step (bq HB.out) hb); clear HO369 HO372 HO376 HO381 HO385 HO389 HO393 HO396 HB; obtain ⟨HO369, HO372, HO376, HO381, HO385, HO389, HO393, HO396, HB⟩ := n_; (try clear hb)))
  go_meet
  case rel => exact ⟨_, ((t398.toList != t377.toList)), sq, H', ⟨by first | omega | exact Nat.le_refl _⟩, ⟨by refine kr ?_; exact Kd.R_mono HO369.out (fun _ hk => trivial)⟩, ⟨by refine kr ?_; exact Kd.R_mono HO372.out (fun _ hk => trivial)⟩, ⟨bq HB.out⟩⟩
 case rest =>
  clear HC13
  try clear c1
  try clear c2
  try clear p2
  try clear c3
  try clear c4
  try clear c5
  try clear c6
  try clear c10
  try clear c11
  try clear c12
  try clear c13
  try clear c14
  try clear c15
  try clear c16
  try clear c17
  try clear c25
  try clear c25b0
  try clear c25b1
  try clear c25b2
  try clear c26
  try clear c26b0
  try clear c26b1
  try clear c26b2
  try clear c27
  try clear c30
  try clear c31
  try clear c44
  obtain ⟨kq, x78_12, rfl, HA, HJ12, HO_3, HO_4, HB⟩ := hcut
  cases kq with
  | zero => exact absurd HA.out (by simp [laws_FnOids.j0])
  | succ kj12 =>
   have H := HA.out
   clear HA
   simp only [laws_FnOids.j0] at H
   by_cases c48 : x78_12 = true
   · subst c48
     replace H : (some false) = some r := by rw [if_pos rfl] at H; exact H
     exact absurd ((Option.some.inj H).trans HRT.out) (by decide)
   replace c48 := Bool.eq_false_iff.mpr c48
   subst c48
   replace H : ((spec_OidOk.f kj12 t367).bind fun t400 => (if t400 = true then ((impl_GetOid.f kj12 t370).bind fun bt402 => ((impl_ParseOid.f kj12 t373).bind fun bt406 => (if bt402.2 = true then (if bt406.2 = true then ((impl_SameOid.f kj12 bt402.1 t367).bind fun t410 => (if t410 = true then ((impl_SameOid.f kj12 bt406.1 t367).bind fun t411 => (if t411 = true then ((impl_OidOk.f kj12 t367).bind fun t412 => (some t412)) else (some false))) else (some false))) else (some false)) else (some false)))) else (if (t370.length : Int) = 0 then (if t373.toList = ([] : List UInt8) then ((impl_OidOk.f kj12 t367).bind fun t401 => (some (!t401))) else (some false)) else (some false)))) = some r := by rw [if_neg (show ¬ (false = true) by decide)] at H; exact H
   replace H := Option.bind_eq_some_iff.mp H
   obtain ⟨t400, A490, H⟩ := H
   replace H : (if t400 = true then ((impl_GetOid.f kj12 t370).bind fun bt402 => ((impl_ParseOid.f kj12 t373).bind fun bt406 => (if bt402.2 = true then (if bt406.2 = true then ((impl_SameOid.f kj12 bt402.1 t367).bind fun t410 => (if t410 = true then ((impl_SameOid.f kj12 bt406.1 t367).bind fun t411 => (if t411 = true then ((impl_OidOk.f kj12 t367).bind fun t412 => (some t412)) else (some false))) else (some false))) else (some false)) else (some false)))) else (if (t370.length : Int) = 0 then (if t373.toList = ([] : List UInt8) then ((impl_OidOk.f kj12 t367).bind fun t401 => (some (!t401))) else (some false)) else (some false))) = some r := H
   have A49 := am A490
   clear A490
   by_cases c50 : t400 = true
   rotate_left
   · replace c50 := Bool.eq_false_iff.mpr c50
     subst c50
     replace H : (if (t370.length : Int) = 0 then (if t373.toList = ([] : List UInt8) then ((impl_OidOk.f kj12 t367).bind fun t401 => (some (!t401))) else (some false)) else (some false)) = some r := by rw [if_neg (show ¬ (false = true) by decide)] at H; exact H
     by_cases c65 : (t370.length : Int) = 0
     rotate_left
     · rw [if_neg c65] at H
       have c65b0 : ((t370.length : Int) == 0) = false := beq_eq_false_iff_ne.mpr c65
       have c65b1 : ((t370.length : Int) != 0) = true := bne_iff_ne.mpr c65
       have c65b2 : ¬ (t370 = []) := fun h_ => c65 (by rw [h_]; rfl)
       exact absurd ((Option.some.inj H).trans HRT.out) (by decide)
     rw [if_pos c65] at H
     have c65b0 : ((t370.length : Int) == 0) = true := beq_iff_eq.mpr c65
     have c65b1 : ((t370.length : Int) != 0) = false := bne_eq_false_iff_eq.mpr c65
     clear c65
     by_cases c66 : t373.toList = ([] : List UInt8)
     rotate_left
     · rw [if_neg c66] at H
       have c66b0 : (t373.toList == ([] : List UInt8)) = false := beq_eq_false_iff_ne.mpr c66
       have c66b1 : (t373.toList != ([] : List UInt8)) = true := bne_iff_ne.mpr c66
       exact absurd ((Option.some.inj H).trans HRT.out) (by decide)
     rw [if_pos c66] at H
     have c66b0 : (t373.toList == ([] : List UInt8)) = true := beq_iff_eq.mpr c66
     have c66b1 : (t373.toList != ([] : List UInt8)) = false := bne_eq_false_iff_eq.mpr c66
     clear c66
     replace H := Option.bind_eq_some_iff.mp H
     obtain ⟨t401, A670, H⟩ := H
     replace H : (some (!t401)) = some r := H
     have A67 := am A670
     clear A670
     obtain rfl := Option.some.inj H
     go_wp2_with (first | ((with_reducible refine gate_callee (f := 19) rfl ?_); refine goesL_ (some 80) rfl rfl Tryd.func19 (by kernel_rfl) rfl #[.slice Ao15 t367.length co15] rfl ga ?_; (with_reducible refine (spec_OidOk.calls kj12 _ _ t367 false _ ?side1 ?side2 A49.out).mono ?_); (case side1 => repeat (first | exact (Kd.R_reads' HO_3.out).2.2 | (with_reducible refine Kd.C_alloc ?_ _) | (with_reducible refine Kd.C_drewN ?_ _) | (with_reducible refine Kd.C_drew ?_))); (case side2 => exact (Kd.R_reads' HO_3.out).2.1); rintro e w' ⟨rfl, ⟨nd, rfl⟩⟩; refine ⟨_, rfl, ?_⟩; obtain ⟨Ao68, co68, eo68⟩ := Kd.R_slice HO_4.out; subst eo68) | (go_at_call 20; (with_reducible refine (impl_OidOk.calls kj12 _ _ t367 t401 _ ?side1 ?side2 A67.out).mono ?_); (case side1 => repeat (first | exact (Kd.R_reads' HO_3.out).2.2 | (with_reducible refine Kd.C_alloc ?_ _) | (with_reducible refine Kd.C_drewN ?_ _) | (with_reducible refine Kd.C_drew ?_))); (case side2 => exact (Kd.R_reads' HO_3.out).2.1); rintro e w' ⟨rfl, ⟨nd, rfl⟩⟩))
     go_ret
     exact ⟨rq, bq HB.out⟩
   subst c50
   replace H : ((impl_GetOid.f kj12 t370).bind fun bt402 => ((impl_ParseOid.f kj12 t373).bind fun bt406 => (if bt402.2 = true then (if bt406.2 = true then ((impl_SameOid.f kj12 bt402.1 t367).bind fun t410 => (if t410 = true then ((impl_SameOid.f kj12 bt406.1 t367).bind fun t411 => (if t411 = true then ((impl_OidOk.f kj12 t367).bind fun t412 => (some t412)) else (some false))) else (some false))) else (some false)) else (some false)))) = some r := by rw [if_pos rfl] at H; exact H
   replace H := Option.bind_eq_some_iff.mp H
   obtain ⟨⟨t402, t403⟩, A510, H⟩ := H
   replace H : ((impl_ParseOid.f kj12 t373).bind fun bt406 => (if t403 = true then (if bt406.2 = true then ((impl_SameOid.f kj12 t402 t367).bind fun t410 => (if t410 = true then ((impl_SameOid.f kj12 bt406.1 t367).bind fun t411 => (if t411 = true then ((impl_OidOk.f kj12 t367).bind fun t412 => (some t412)) else (some false))) else (some false))) else (some false)) else (some false))) = some r := H
   have A51 := am A510
   clear A510
   replace H := Option.bind_eq_some_iff.mp H
   obtain ⟨⟨t406, t407⟩, A520, H⟩ := H
   replace H : (if t403 = true then (if t407 = true then ((impl_SameOid.f kj12 t402 t367).bind fun t410 => (if t410 = true then ((impl_SameOid.f kj12 t406 t367).bind fun t411 => (if t411 = true then ((impl_OidOk.f kj12 t367).bind fun t412 => (some t412)) else (some false))) else (some false))) else (some false)) else (some false)) = some r := H
   have A52 := am A520
   clear A520
   by_cases c53 : t403 = true
   rotate_left
   · replace c53 := Bool.eq_false_iff.mpr c53
     subst c53
     replace H : (some false) = some r := by rw [if_neg (show ¬ (false = true) by decide)] at H; exact H
     exact absurd ((Option.some.inj H).trans HRT.out) (by decide)
   subst c53
   replace H : (if t407 = true then ((impl_SameOid.f kj12 t402 t367).bind fun t410 => (if t410 = true then ((impl_SameOid.f kj12 t406 t367).bind fun t411 => (if t411 = true then ((impl_OidOk.f kj12 t367).bind fun t412 => (some t412)) else (some false))) else (some false))) else (some false)) = some r := by rw [if_pos rfl] at H; exact H
   by_cases c54 : t407 = true
   rotate_left
   · replace c54 := Bool.eq_false_iff.mpr c54
     subst c54
     replace H : (some false) = some r := by rw [if_neg (show ¬ (false = true) by decide)] at H; exact H
     exact absurd ((Option.some.inj H).trans HRT.out) (by decide)
   subst c54
   replace H : ((impl_SameOid.f kj12 t402 t367).bind fun t410 => (if t410 = true then ((impl_SameOid.f kj12 t406 t367).bind fun t411 => (if t411 = true then ((impl_OidOk.f kj12 t367).bind fun t412 => (some t412)) else (some false))) else (some false))) = some r := by rw [if_pos rfl] at H; exact H
   replace H := Option.bind_eq_some_iff.mp H
   obtain ⟨t410, A550, H⟩ := H
   replace H : (if t410 = true then ((impl_SameOid.f kj12 t406 t367).bind fun t411 => (if t411 = true then ((impl_OidOk.f kj12 t367).bind fun t412 => (some t412)) else (some false))) else (some false)) = some r := H
   have A55 := am A550
   clear A550
   by_cases c56 : t410 = true
   rotate_left
   · replace c56 := Bool.eq_false_iff.mpr c56
     subst c56
     replace H : (some false) = some r := by rw [if_neg (show ¬ (false = true) by decide)] at H; exact H
     exact absurd ((Option.some.inj H).trans HRT.out) (by decide)
   subst c56
   replace H : ((impl_SameOid.f kj12 t406 t367).bind fun t411 => (if t411 = true then ((impl_OidOk.f kj12 t367).bind fun t412 => (some t412)) else (some false))) = some r := by rw [if_pos rfl] at H; exact H
   replace H := Option.bind_eq_some_iff.mp H
   obtain ⟨t411, A570, H⟩ := H
   replace H : (if t411 = true then ((impl_OidOk.f kj12 t367).bind fun t412 => (some t412)) else (some false)) = some r := H
   have A57 := am A570
   clear A570
   by_cases c58 : t411 = true
   rotate_left
   · replace c58 := Bool.eq_false_iff.mpr c58
     subst c58
     replace H : (some false) = some r := by rw [if_neg (show ¬ (false = true) by decide)] at H; exact H
     exact absurd ((Option.some.inj H).trans HRT.out) (by decide)
   subst c58
   replace H : ((impl_OidOk.f kj12 t367).bind fun t412 => (some t412)) = some r := by rw [if_pos rfl] at H; exact H
   replace H := Option.bind_eq_some_iff.mp H
   obtain ⟨t412, A590, H⟩ := H
   replace H : (some t412) = some r := H
   have A59 := am A590
   clear A590
   obtain rfl := Option.some.inj H
   go_wp2_with (first | ((with_reducible refine gate_callee (f := 19) rfl ?_); refine goesL_ (some 80) rfl rfl Tryd.func19 (by kernel_rfl) rfl #[.slice Ao15 t367.length co15] rfl ga ?_; (with_reducible refine (spec_OidOk.calls kj12 _ _ t367 true _ ?side1 ?side2 A49.out).mono ?_); (case side1 => repeat (first | exact (Kd.R_reads' HO_3.out).2.2 | (with_reducible refine Kd.C_alloc ?_ _) | (with_reducible refine Kd.C_drewN ?_ _) | (with_reducible refine Kd.C_drew ?_))); (case side2 => exact (Kd.R_reads' HO_3.out).2.1); rintro e w' ⟨rfl, ⟨nd, rfl⟩⟩; refine ⟨_, rfl, ?_⟩; obtain ⟨Ao60, co60, eo60⟩ := Kd.R_slice HO_4.out; subst eo60) | ((with_reducible refine gate_callee (f := 16) rfl ?_); refine goesL_ (some 96) rfl rfl Tryd.func16 (by kernel_rfl) rfl #[.slice Ao60 t370.length co60] rfl ga ?_; (with_reducible refine (impl_GetOid.calls kj12 _ _ t370 t402 true _ ?side1 ?side2 A51.out).mono ?_); (case side1 => repeat (first | exact (Kd.R_reads' HO_4.out).2.2 | (with_reducible refine Kd.C_alloc ?_ _) | (with_reducible refine Kd.C_drewN ?_ _) | (with_reducible refine Kd.C_drew ?_))); (case side2 => exact (Kd.R_reads' HO_4.out).2.1); rintro e w61 ⟨v404, rfl, ho0, hb⟩; refine ⟨_, rfl, ?_⟩; have n_ := ak4 (Kd.R_elder' (kqR HO_3.out) (Kd.R_base ho0) hb) (Kd.R_below (kqR HO_4.out) hb) (Kd.R_lower (Kd.R_new' ho0 (Kd.R_lt (kqR HO_3.out))) (below_size (bq HB.out))) (below_step (bq HB.out) hb); clear HO_3 HO_4 HB; obtain ⟨HO_3, HO_4, HO405, HB⟩ := n_; (try clear hb ho0)) | ((with_reducible refine gate_callee (f := 6) rfl ?_); refine goesL_ (some 101) rfl rfl Tryd.func6 (by kernel_rfl) rfl #[.string t373] rfl ga ?_; (with_reducible refine (impl_ParseOid.calls kj12 t373 t406 true _ (tab_below hT_ (bq HB.out)) A52.out).mono ?_); rintro e w62 ⟨v408, rfl, ho0, hb⟩; refine ⟨_, rfl, ?_⟩; have n_ := ak5 (Kd.R_elder' (kqR HO_3.out) (Kd.R_base ho0) hb) (Kd.R_below (kqR HO_4.out) hb) (Kd.R_elder' (kqR HO405.out) (Kd.R_base ho0) hb) (Kd.R_lower (Kd.R_new' (Kd.R_new' ho0 (Kd.R_lt (kqR HO_3.out))) (Kd.R_lt (kqR HO405.out))) (below_size (bq HB.out))) (below_step (bq HB.out) hb); clear HO_3 HO_4 HO405 HB; obtain ⟨HO_3, HO_4, HO405, HO409, HB⟩ := n_; (try clear hb ho0); obtain ⟨Ao63, co63, eo63⟩ := Kd.R_slice HO405.out; subst eo63) | (go_at_call 21; (with_reducible refine (impl_SameOid.calls kj12 _ _ t402 _ _ t367 true _ ?side1 ?side2 ?side3 ?side4 A55.out).mono ?_); (case side1 => repeat (first | exact (Kd.R_reads' HO405.out).2.2 | (with_reducible refine Kd.C_alloc ?_ _) | (with_reducible refine Kd.C_drewN ?_ _) | (with_reducible refine Kd.C_drew ?_))); (case side2 => exact (Kd.R_reads' HO405.out).2.1); (case side3 => repeat (first | exact (Kd.R_reads' HO_3.out).2.2 | (with_reducible refine Kd.C_alloc ?_ _) | (with_reducible refine Kd.C_drewN ?_ _) | (with_reducible refine Kd.C_drew ?_))); (case side4 => exact (Kd.R_reads' HO_3.out).2.1); rintro e w' ⟨rfl, ⟨nd, rfl⟩⟩; obtain ⟨Ao64, co64, eo64⟩ := Kd.R_slice HO409.out; subst eo64) | (go_at_call 21; (with_reducible refine (impl_SameOid.calls kj12 _ _ t406 _ _ t367 true _ ?side1 ?side2 ?side3 ?side4 A57.out).mono ?_); (case side1 => repeat (first | exact (Kd.R_reads' HO409.out).2.2 | (with_reducible refine Kd.C_alloc ?_ _) | (with_reducible refine Kd.C_drewN ?_ _) | (with_reducible refine Kd.C_drew ?_))); (case side2 => exact (Kd.R_reads' HO409.out).2.1); (case side3 => repeat (first | exact (Kd.R_reads' HO_3.out).2.2 | (with_reducible refine Kd.C_alloc ?_ _) | (with_reducible refine Kd.C_drewN ?_ _) | (with_reducible refine Kd.C_drew ?_))); (case side4 => exact (Kd.R_reads' HO_3.out).2.1); rintro e w' ⟨rfl, ⟨nd, rfl⟩⟩) | (go_at_call 20; (with_reducible refine (impl_OidOk.calls kj12 _ _ t367 t412 _ ?side1 ?side2 A59.out).mono ?_); (case side1 => repeat (first | exact (Kd.R_reads' HO_3.out).2.2 | (with_reducible refine Kd.C_alloc ?_ _) | (with_reducible refine Kd.C_drewN ?_ _) | (with_reducible refine Kd.C_drew ?_))); (case side2 => exact (Kd.R_reads' HO_3.out).2.1); rintro e w' ⟨rfl, ⟨nd, rfl⟩⟩))
   go_ret
   exact ⟨rq, bq HB.out⟩

/-- THE ONE PURE STATEMENT of laws_FnOids. -/
def laws_FnOids.Pure : Prop := ∀ (l0 : List Int), l0.length ≤ maxLen → (∀ y ∈ l0, (Lit.int .u8 y).wf = true) → ∃ k, laws_FnOids.f k l0 = some true

end Go.Proofs.YtgjhmbneikpiaaaDoor.XFnOids
