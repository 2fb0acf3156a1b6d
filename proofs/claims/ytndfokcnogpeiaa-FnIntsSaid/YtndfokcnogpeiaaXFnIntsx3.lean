/- The functions that one law reaches, as Lean functions, with their walks: printed by a program of this seat (wip/tools) out of the translation. -/
import Derived.Test.YtndfokcnogpeiaaXFnIntsx0
import Derived.Test.YtndfokcnogpeiaaXFnIntsx1
import Derived.Test.YtndfokcnogpeiaaXFnIntsx2
namespace Go.Proofs.Ytndfokcnogpeiaa.XFnInts
open Go.RowKit Go.Proofs.YtndfokcnogpeiaaW.PrintWords Go.Proofs.YtndfokcnogpeiaaW.PrintLast Go.Proofs.YtndfokcnogpeiaaW.PrintMore
attribute [local go_sem] max2_int min2_int max_two min_two max_three min_three max_four min_four   -- for this text's walks alone
set_option linter.unusedVariables false
set_option linter.unusedSimpArgs false

/-! ### laws_sameBytes: function 57 -/
def laws_sameBytes.l0 : Nat → List Int → List Int → Int → Option (Bool)
  | 0, _, _, _ => none
  | k + 1, x0, x1, x5 => if x5 < (x0.length : Int) then (if 0 ≤ x5 then (if x5 < (x1.length : Int) then (if (rd x0 x5) = (rd x1 x5) then (laws_sameBytes.l0 k x0 x1 (wrap64 (x5 + 1))) else (some false)) else (none)) else (none)) else (some true)
def laws_sameBytes.f (k : Nat) (l0 : List Int) (l1 : List Int) : Option (Bool) := if (l0.length : Int) = (l1.length : Int) then (laws_sameBytes.l0 k l0 l1 0) else (some false)
theorem laws_sameBytes.mono_l : ∀ k, (∀ y0 y1 y2, LeO (laws_sameBytes.l0 k y0 y1 y2) (laws_sameBytes.l0 (k + 1) y0 y1 y2))
  | 0 => fun _ _ _ r h => by simp [laws_sameBytes.l0] at h
  | k + 1 => by
    have ih0 := laws_sameBytes.mono_l k
    · intro y0 y1 y2
      unfold laws_sameBytes.l0
      repeat' first
      | (with_reducible exact ih0 _ _ _)
      | (with_reducible exact LeO.refl _)
      | (with_reducible exact LeO.none _)
      | (with_reducible refine LeO.ite ?_ ?_)
      | (with_reducible refine LeO.bind ?_ (fun _ => ?_))
      | exact ih0 _ _ _
      | exact LeO.none _
      | refine LeO.ite ?_ ?_
      | refine LeO.bind ?_ (fun _ => ?_)
theorem laws_sameBytes.mono : ∀ a0 a1 k, LeO (laws_sameBytes.f k a0 a1) (laws_sameBytes.f (k + 1) a0 a1) := by
  intro a0 a1 k
  have ih0 := laws_sameBytes.mono_l k
  unfold laws_sameBytes.f
  repeat' first
      | (with_reducible exact ih0 _ _ _)
      | (with_reducible exact LeO.refl _)
      | (with_reducible exact LeO.none _)
      | (with_reducible refine LeO.ite ?_ ?_)
      | (with_reducible refine LeO.bind ?_ (fun _ => ?_))
      | exact ih0 _ _ _
      | exact LeO.none _
      | refine LeO.ite ?_ ?_
      | refine LeO.bind ?_ (fun _ => ?_)
set_option maxHeartbeats 8000000 in
set_option maxRecDepth 100000 in
theorem laws_sameBytes.calls (k : Nat) (A0 : Option Addr) (c0 : Nat) (l0 : List Int) (A1 : Option Addr) (c1 : Nat) (l1 : List Int) (r : Bool) (w : World) (hr0 : Kd.C (Kd.int .u8) w A0 l0.length l0) (hc0 : l0.length ≤ c0) (hr1 : Kd.C (Kd.int .u8) w A1 l1.length l1) (hc1 : l1.length ≤ c1) (h : laws_sameBytes.f k l0 l1 = some r) :
    Calls Try.prog 57 #[.slice A0 l0.length c0, .slice A1 l1.length c1] w fun e w' => e = .returned (.bool r) ∧ Drawn0 w w' := by
  have HR0 := Aside0.mk hr0
  have HC0 := Aside0.mk hc0
  clear hr0 hc0
  have HR1 := Aside0.mk hr1
  have HC1 := Aside0.mk hc1
  clear hr1 hc1
  have H : (if (l0.length : Int) = (l1.length : Int) then (laws_sameBytes.l0 k l0 l1 0) else (some false)) = some r := h
  clear h
  by_cases c3 : (l0.length : Int) = (l1.length : Int)
  · rw [if_pos c3] at H
    have c3b0 : ((l0.length : Int) == (l1.length : Int)) = true := beq_iff_eq.mpr c3
    have c3b1 : ((l0.length : Int) != (l1.length : Int)) = false := bne_eq_false_iff_eq.mpr c3
    have c3b2 : (l0.length == l1.length) = true := by first | simpa using c3 | (simp at c3 ⊢; omega)
    clear c3
    have H' := Aside0.mk H
    clear H
    go_enter Try.func57, Try.ntmps57
    go_wp2
    repeat (go_quiet (fail); try go_wp2)
    go_loopg [5] k (fun kq v5 w' => ∃ (x5_1 : Int), v5 = .int .i64 x5_1 ∧ Aside0 (laws_sameBytes.l0 kq l0 l1 x5_1 = some r) ∧ Aside0 (kq ≤ k) ∧ Drawn0 w w')
    case atStart => exact ⟨(0), (by first | rfl | (simp; done) | (simp [*]; done)), H', ⟨Nat.le_refl _⟩, by repeat (first | exact Drawn0.refl _ | apply Drawn0.step)⟩
    case round =>
      clear H'
      try clear c1
      try clear p2
      try clear c3
      try clear c3b0
      try clear c3b1
      try clear c3b2
      obtain ⟨x5_1, rfl, HA, HK1, ⟨m1, rfl⟩⟩ := hrel
      cases gk with
      | zero => exact absurd HA.out (by simp [laws_sameBytes.l0])
      | succ k1 =>
        have H := HA.out
        clear HA
        simp only [laws_sameBytes.l0] at H
        by_cases c4 : x5_1 < (l0.length : Int)
        · rw [if_pos c4] at H
          have c4b0 : decide (x5_1 < (l0.length : Int)) = true := decide_eq_true c4
          clear c4
          by_cases c5 : 0 ≤ x5_1
          · rw [if_pos c5] at H
            have c5b0 : decide (0 ≤ x5_1) = true := decide_eq_true c5
            clear c5
            by_cases c6 : x5_1 < (l1.length : Int)
            · rw [if_pos c6] at H
              have c6b0 : decide (x5_1 < (l1.length : Int)) = true := decide_eq_true c6
              clear c6
              by_cases c7 : (rd l0 x5_1) = (rd l1 x5_1)
              · rw [if_pos c7] at H
                have c7b0 : ((rd l0 x5_1) == (rd l1 x5_1)) = true := beq_iff_eq.mpr c7
                have c7b1 : ((rd l0 x5_1) != (rd l1 x5_1)) = false := bne_eq_false_iff_eq.mpr c7
                clear c7
                have H' := Aside0.mk H
                clear H
                have p225 : 0 ≤ (x5_1 : Int) := of_decide_eq_true (by first | (with_reducible assumption) | assumption)
                have q225 : x5_1 < (l0.length : Int) := of_decide_eq_true (by first | (with_reducible assumption) | assumption)
                obtain ⟨ad225, e225, hx225_0⟩ := Kd.at_int HR0.out x5_1 p225 q225
                cases e225
                replace p225 := eq_true p225
                replace q225 := eq_true q225
                have p226 : 0 ≤ (x5_1 : Int) := of_decide_eq_true (by first | (with_reducible assumption) | assumption)
                have q226 : x5_1 < (l1.length : Int) := of_decide_eq_true (by first | (with_reducible assumption) | assumption)
                obtain ⟨ad226, e226, hx226_0⟩ := Kd.at_int HR1.out x5_1 p226 q226
                cases e226
                replace p226 := eq_true p226
                replace q226 := eq_true q226
                go_wp2
                repeat (go_quiet (fail); try go_wp2)
                go_roundg k1
                case measure => have := HK1.out; omega
                case rel => exact ⟨(wrap64 (x5_1 + 1)), (by first | rfl | (simp; done) | (simp [*]; done)), H', ⟨by have := HK1.out; omega⟩, by repeat (first | exact Drawn0.refl _ | apply Drawn0.step)⟩
              · rw [if_neg c7] at H
                have c7b0 : ((rd l0 x5_1) == (rd l1 x5_1)) = false := beq_eq_false_iff_ne.mpr c7
                have c7b1 : ((rd l0 x5_1) != (rd l1 x5_1)) = true := bne_iff_ne.mpr c7
                obtain rfl := Option.some.inj H
                have p225 : 0 ≤ (x5_1 : Int) := of_decide_eq_true (by first | (with_reducible assumption) | assumption)
                have q225 : x5_1 < (l0.length : Int) := of_decide_eq_true (by first | (with_reducible assumption) | assumption)
                obtain ⟨ad225, e225, hx225_0⟩ := Kd.at_int HR0.out x5_1 p225 q225
                cases e225
                replace p225 := eq_true p225
                replace q225 := eq_true q225
                have p226 : 0 ≤ (x5_1 : Int) := of_decide_eq_true (by first | (with_reducible assumption) | assumption)
                have q226 : x5_1 < (l1.length : Int) := of_decide_eq_true (by first | (with_reducible assumption) | assumption)
                obtain ⟨ad226, e226, hx226_0⟩ := Kd.at_int HR1.out x5_1 p226 q226
                cases e226
                replace p226 := eq_true p226
                replace q226 := eq_true q226
                go_wp2
                repeat (go_quiet (fail); try go_wp2)
                go_ret
                exact ⟨by first | rfl | (simp; done) | (simp [*]; done), by repeat (first | exact Drawn0.refl _ | apply Drawn0.step)⟩
            · rw [if_neg c6] at H
              exact absurd H (by simp)
          · rw [if_neg c5] at H
            exact absurd H (by simp)
        · rw [if_neg c4] at H
          have c4b0 : decide (x5_1 < (l0.length : Int)) = false := decide_eq_false c4
          clear c4
          obtain rfl := Option.some.inj H
          go_wp2
          repeat (go_quiet (fail); try go_wp2)
          go_ret
          exact ⟨by first | rfl | (simp; done) | (simp [*]; done), by repeat (first | exact Drawn0.refl _ | apply Drawn0.step)⟩
  · rw [if_neg c3] at H
    have c3b0 : ((l0.length : Int) == (l1.length : Int)) = false := beq_eq_false_iff_ne.mpr c3
    have c3b1 : ((l0.length : Int) != (l1.length : Int)) = true := bne_iff_ne.mpr c3
    have c3b2 : (l0.length == l1.length) = false := by first | simpa using c3 | (simp at c3 ⊢; omega)
    obtain rfl := Option.some.inj H
    go_enter Try.func57, Try.ntmps57
    go_wp2
    repeat (go_quiet (fail); try go_wp2)
    go_ret
    exact ⟨by first | rfl | (simp; done) | (simp [*]; done), by repeat (first | exact Drawn0.refl _ | apply Drawn0.step)⟩

/-! ### laws_FnInts: function 10 -/
def laws_FnInts.j0 : Nat → Int → List Int → Int → Bool → Bool → Option (Bool)
  | 0, _, _, _, _, _ => none
  | k + 1, x3, x4, x5, x6, x47 => if x47 = true then (some false) else (if x3 > 2147483647 then (if 2147483647 < (-2147483648) then (if x6 = true then (if x5 = (-2147483648) then (if (x4.length : Int) ≥ 1 then (if (x4.length : Int) ≤ 4 then (if (-2147483648) ≥ (-128) then (some (((x4.length : Int) == 1) == (decide ((-2147483648) ≤ 127)))) else (some (((x4.length : Int) == 1) == false))) else (some false)) else (some false)) else (some false)) else (some false)) else (if x6 = true then (if x5 = 2147483647 then (if (x4.length : Int) ≥ 1 then (if (x4.length : Int) ≤ 4 then (if 2147483647 ≥ (-128) then (some (((x4.length : Int) == 1) == (decide (2147483647 ≤ 127)))) else (some (((x4.length : Int) == 1) == false))) else (some false)) else (some false)) else (some false)) else (some false))) else (if x3 < (-2147483648) then (if x6 = true then (if x5 = (-2147483648) then (if (x4.length : Int) ≥ 1 then (if (x4.length : Int) ≤ 4 then (if (-2147483648) ≥ (-128) then (some (((x4.length : Int) == 1) == (decide ((-2147483648) ≤ 127)))) else (some (((x4.length : Int) == 1) == false))) else (some false)) else (some false)) else (some false)) else (some false)) else (if x6 = true then (if x5 = x3 then (if (x4.length : Int) ≥ 1 then (if (x4.length : Int) ≤ 4 then (if x3 ≥ (-128) then (some (((x4.length : Int) == 1) == (decide (x3 ≤ 127)))) else (some (((x4.length : Int) == 1) == false))) else (some false)) else (some false)) else (some false)) else (some false))))
def laws_FnInts.f (k : Nat) (l0 : List Int) : Option (Bool) := (laws_big.f l0).bind fun t227 => (if t227 = true then (some true) else ((spec_DrawPutInt.f k l0).bind fun t228 => ((impl_PutInt.f k t228).bind fun t229 => ((impl_GetInt.f k t229).bind fun bt232 => ((spec_DrawGetInt.f k l0).bind fun t234 => ((impl_GetInt.f k t234).bind fun bt237 => ((spec_GetInt.f k t234).bind fun bt239 => (if (bt237.2 != bt239.2) = true then (laws_FnInts.j0 k t228 t229 bt232.1 bt232.2 true) else (if bt237.2 = true then ((impl_PutInt.f k bt237.1).bind fun t241 => ((laws_sameBytes.f k t241 t234).bind fun t244 => (laws_FnInts.j0 k t228 t229 bt232.1 bt232.2 (!t244)))) else (laws_FnInts.j0 k t228 t229 bt232.1 bt232.2 false))))))))))
theorem laws_FnInts.mono_l : ∀ k, (∀ y0 y1 y2 y3 y4, LeO (laws_FnInts.j0 k y0 y1 y2 y3 y4) (laws_FnInts.j0 (k + 1) y0 y1 y2 y3 y4))
  | 0 => fun _ _ _ _ _ r h => by simp [laws_FnInts.j0] at h
  | k + 1 => by
    have ih0 := laws_FnInts.mono_l k
    · intro y0 y1 y2 y3 y4
      unfold laws_FnInts.j0
      repeat' first
      | (with_reducible exact ih0 _ _ _ _ _)
      | (with_reducible exact impl_GetInt.mono _ _)
      | (with_reducible exact impl_PutInt.mono _ _)
      | (with_reducible exact laws_sameBytes.mono _ _ _)
      | (with_reducible exact spec_DrawGetInt.mono _ _)
      | (with_reducible exact spec_DrawPutInt.mono _ _)
      | (with_reducible exact spec_GetInt.mono _ _)
      | (with_reducible exact LeO.refl _)
      | (with_reducible exact LeO.none _)
      | (with_reducible refine LeO.ite ?_ ?_)
      | (with_reducible refine LeO.bind ?_ (fun _ => ?_))
      | exact ih0 _ _ _ _ _
      | exact impl_GetInt.mono _ _
      | exact impl_PutInt.mono _ _
      | exact laws_sameBytes.mono _ _ _
      | exact spec_DrawGetInt.mono _ _
      | exact spec_DrawPutInt.mono _ _
      | exact spec_GetInt.mono _ _
      | exact LeO.none _
      | refine LeO.ite ?_ ?_
      | refine LeO.bind ?_ (fun _ => ?_)
theorem laws_FnInts.mono : ∀ a0 k, LeO (laws_FnInts.f k a0) (laws_FnInts.f (k + 1) a0) := by
  intro a0 k
  have ih0 := laws_FnInts.mono_l k
  unfold laws_FnInts.f
  repeat' first
      | (with_reducible exact ih0 _ _ _ _ _)
      | (with_reducible exact impl_GetInt.mono _ _)
      | (with_reducible exact impl_PutInt.mono _ _)
      | (with_reducible exact laws_sameBytes.mono _ _ _)
      | (with_reducible exact spec_DrawGetInt.mono _ _)
      | (with_reducible exact spec_DrawPutInt.mono _ _)
      | (with_reducible exact spec_GetInt.mono _ _)
      | (with_reducible exact LeO.refl _)
      | (with_reducible exact LeO.none _)
      | (with_reducible refine LeO.ite ?_ ?_)
      | (with_reducible refine LeO.bind ?_ (fun _ => ?_))
      | exact ih0 _ _ _ _ _
      | exact impl_GetInt.mono _ _
      | exact impl_PutInt.mono _ _
      | exact laws_sameBytes.mono _ _ _
      | exact spec_DrawGetInt.mono _ _
      | exact spec_DrawPutInt.mono _ _
      | exact spec_GetInt.mono _ _
      | exact LeO.none _
      | refine LeO.ite ?_ ?_
      | refine LeO.bind ?_ (fun _ => ?_)
set_option maxHeartbeats 8000000 in
set_option maxRecDepth 100000 in
theorem laws_FnInts.calls (k : Nat) (A0 : Option Addr) (c0 : Nat) (l0 : List Int) (r : Bool) (w : World) (hr0 : Kd.C (Kd.int .u8) w A0 l0.length l0) (hc0 : l0.length ≤ c0) (h : laws_FnInts.f k l0 = some r) :
    Calls Try.prog 10 #[.slice A0 l0.length c0] w fun e w' => e = .returned (.bool r) ∧ Below w.heap.size w w' := by
  have HR0 := Aside0.mk hr0
  have HC0 := Aside0.mk hc0
  clear hr0 hc0
  have HB := Aside0.mk (Below.refl w.heap.size w)
  have H : ((laws_big.f l0).bind fun t227 => (if t227 = true then (some true) else ((spec_DrawPutInt.f k l0).bind fun t228 => ((impl_PutInt.f k t228).bind fun t229 => ((impl_GetInt.f k t229).bind fun bt232 => ((spec_DrawGetInt.f k l0).bind fun t234 => ((impl_GetInt.f k t234).bind fun bt237 => ((spec_GetInt.f k t234).bind fun bt239 => (if (bt237.2 != bt239.2) = true then (laws_FnInts.j0 k t228 t229 bt232.1 bt232.2 true) else (if bt237.2 = true then ((impl_PutInt.f k bt237.1).bind fun t241 => ((laws_sameBytes.f k t241 t234).bind fun t244 => (laws_FnInts.j0 k t228 t229 bt232.1 bt232.2 (!t244)))) else (laws_FnInts.j0 k t228 t229 bt232.1 bt232.2 false))))))))))) = some r := h
  clear h
  replace H := Option.bind_eq_some_iff.mp H
  obtain ⟨t227, A20, H⟩ := H
  replace H : (if t227 = true then (some true) else ((spec_DrawPutInt.f k l0).bind fun t228 => ((impl_PutInt.f k t228).bind fun t229 => ((impl_GetInt.f k t229).bind fun bt232 => ((spec_DrawGetInt.f k l0).bind fun t234 => ((impl_GetInt.f k t234).bind fun bt237 => ((spec_GetInt.f k t234).bind fun bt239 => (if (bt237.2 != bt239.2) = true then (laws_FnInts.j0 k t228 t229 bt232.1 bt232.2 true) else (if bt237.2 = true then ((impl_PutInt.f k bt237.1).bind fun t241 => ((laws_sameBytes.f k t241 t234).bind fun t244 => (laws_FnInts.j0 k t228 t229 bt232.1 bt232.2 (!t244)))) else (laws_FnInts.j0 k t228 t229 bt232.1 bt232.2 false)))))))))) = some r := H
  have A2 := Aside0.mk A20
  clear A20
  by_cases c3 : t227 = true
  · subst c3
    have H1 : (some true) = some r := by rw [if_pos rfl] at H; exact H
    clear H
    have H := H1
    clear H1
    obtain rfl := Option.some.inj H
    go_enter Try.func10, Try.ntmps10
    go_wp2_with (first | ((with_reducible refine gate_callee (f := 29) rfl ?_); refine goesL_ (some 13) rfl rfl Try.func29 (by kernel_rfl) rfl #[.slice A0 l0.length c0] rfl (by (try simp only [List.map_toArray, List.map_cons, List.map_nil]); first | done | rfl | (simp only [List.length_drop, List.length_take]; rfl)) ?_; (with_reducible refine (laws_big.calls _ _ l0 true _ ?side1 ?side2 A2.out).mono ?_); (case side1 => repeat (first | exact HR0.out | (with_reducible refine Kd.C_alloc ?_ _) | (with_reducible refine Kd.C_drewN ?_ _) | (with_reducible refine Kd.C_drew ?_))); (case side2 => exact HC0.out); rintro e w' ⟨rfl, ⟨nd, rfl⟩⟩; refine ⟨_, rfl, ?_⟩))
    go_ret
    exact ⟨by first | rfl | (simp [errW_none, errW_some] <;> rfl) | (simp [*, errW_none, errW_some] <;> rfl), by repeat (first | (with_reducible first | exact HB.out | apply below_alloc | apply pw_below_drewN | apply below_drew1) | exact HB.out)⟩
  · replace c3 := Bool.eq_false_iff.mpr c3
    subst c3
    have H1 : ((spec_DrawPutInt.f k l0).bind fun t228 => ((impl_PutInt.f k t228).bind fun t229 => ((impl_GetInt.f k t229).bind fun bt232 => ((spec_DrawGetInt.f k l0).bind fun t234 => ((impl_GetInt.f k t234).bind fun bt237 => ((spec_GetInt.f k t234).bind fun bt239 => (if (bt237.2 != bt239.2) = true then (laws_FnInts.j0 k t228 t229 bt232.1 bt232.2 true) else (if bt237.2 = true then ((impl_PutInt.f k bt237.1).bind fun t241 => ((laws_sameBytes.f k t241 t234).bind fun t244 => (laws_FnInts.j0 k t228 t229 bt232.1 bt232.2 (!t244)))) else (laws_FnInts.j0 k t228 t229 bt232.1 bt232.2 false))))))))) = some r := by rw [if_neg (show ¬ (false = true) by decide)] at H; exact H
    clear H
    have H := H1
    clear H1
    replace H := Option.bind_eq_some_iff.mp H
    obtain ⟨t228, A40, H⟩ := H
    replace H : ((impl_PutInt.f k t228).bind fun t229 => ((impl_GetInt.f k t229).bind fun bt232 => ((spec_DrawGetInt.f k l0).bind fun t234 => ((impl_GetInt.f k t234).bind fun bt237 => ((spec_GetInt.f k t234).bind fun bt239 => (if (bt237.2 != bt239.2) = true then (laws_FnInts.j0 k t228 t229 bt232.1 bt232.2 true) else (if bt237.2 = true then ((impl_PutInt.f k bt237.1).bind fun t241 => ((laws_sameBytes.f k t241 t234).bind fun t244 => (laws_FnInts.j0 k t228 t229 bt232.1 bt232.2 (!t244)))) else (laws_FnInts.j0 k t228 t229 bt232.1 bt232.2 false)))))))) = some r := H
    have A4 := Aside0.mk A40
    clear A40
    replace H := Option.bind_eq_some_iff.mp H
    obtain ⟨t229, A50, H⟩ := H
    replace H : ((impl_GetInt.f k t229).bind fun bt232 => ((spec_DrawGetInt.f k l0).bind fun t234 => ((impl_GetInt.f k t234).bind fun bt237 => ((spec_GetInt.f k t234).bind fun bt239 => (if (bt237.2 != bt239.2) = true then (laws_FnInts.j0 k t228 t229 bt232.1 bt232.2 true) else (if bt237.2 = true then ((impl_PutInt.f k bt237.1).bind fun t241 => ((laws_sameBytes.f k t241 t234).bind fun t244 => (laws_FnInts.j0 k t228 t229 bt232.1 bt232.2 (!t244)))) else (laws_FnInts.j0 k t228 t229 bt232.1 bt232.2 false))))))) = some r := H
    have A5 := Aside0.mk A50
    clear A50
    replace H := Option.bind_eq_some_iff.mp H
    obtain ⟨⟨t232, t233⟩, A60, H⟩ := H
    replace H : ((spec_DrawGetInt.f k l0).bind fun t234 => ((impl_GetInt.f k t234).bind fun bt237 => ((spec_GetInt.f k t234).bind fun bt239 => (if (bt237.2 != bt239.2) = true then (laws_FnInts.j0 k t228 t229 t232 t233 true) else (if bt237.2 = true then ((impl_PutInt.f k bt237.1).bind fun t241 => ((laws_sameBytes.f k t241 t234).bind fun t244 => (laws_FnInts.j0 k t228 t229 t232 t233 (!t244)))) else (laws_FnInts.j0 k t228 t229 t232 t233 false)))))) = some r := H
    have A6 := Aside0.mk A60
    clear A60
    replace H := Option.bind_eq_some_iff.mp H
    obtain ⟨t234, A70, H⟩ := H
    replace H : ((impl_GetInt.f k t234).bind fun bt237 => ((spec_GetInt.f k t234).bind fun bt239 => (if (bt237.2 != bt239.2) = true then (laws_FnInts.j0 k t228 t229 t232 t233 true) else (if bt237.2 = true then ((impl_PutInt.f k bt237.1).bind fun t241 => ((laws_sameBytes.f k t241 t234).bind fun t244 => (laws_FnInts.j0 k t228 t229 t232 t233 (!t244)))) else (laws_FnInts.j0 k t228 t229 t232 t233 false))))) = some r := H
    have A7 := Aside0.mk A70
    clear A70
    replace H := Option.bind_eq_some_iff.mp H
    obtain ⟨⟨t237, t238⟩, A80, H⟩ := H
    replace H : ((spec_GetInt.f k t234).bind fun bt239 => (if (t238 != bt239.2) = true then (laws_FnInts.j0 k t228 t229 t232 t233 true) else (if t238 = true then ((impl_PutInt.f k t237).bind fun t241 => ((laws_sameBytes.f k t241 t234).bind fun t244 => (laws_FnInts.j0 k t228 t229 t232 t233 (!t244)))) else (laws_FnInts.j0 k t228 t229 t232 t233 false)))) = some r := H
    have A8 := Aside0.mk A80
    clear A80
    replace H := Option.bind_eq_some_iff.mp H
    obtain ⟨⟨t239, t240⟩, A90, H⟩ := H
    replace H : (if (t238 != t240) = true then (laws_FnInts.j0 k t228 t229 t232 t233 true) else (if t238 = true then ((impl_PutInt.f k t237).bind fun t241 => ((laws_sameBytes.f k t241 t234).bind fun t244 => (laws_FnInts.j0 k t228 t229 t232 t233 (!t244)))) else (laws_FnInts.j0 k t228 t229 t232 t233 false))) = some r := H
    have A9 := Aside0.mk A90
    clear A90
    have HC10 := Aside0.mk H
    clear H
    go_enter Try.func10, Try.ntmps10
    go_upto_region 9 with (first | ((with_reducible refine gate_callee (f := 29) rfl ?_); refine goesL_ (some 13) rfl rfl Try.func29 (by kernel_rfl) rfl #[.slice A0 l0.length c0] rfl (by (try simp only [List.map_toArray, List.map_cons, List.map_nil]); first | done | rfl | (simp only [List.length_drop, List.length_take]; rfl)) ?_; (with_reducible refine (laws_big.calls _ _ l0 false _ ?side1 ?side2 A2.out).mono ?_); (case side1 => repeat (first | exact HR0.out | (with_reducible refine Kd.C_alloc ?_ _) | (with_reducible refine Kd.C_drewN ?_ _) | (with_reducible refine Kd.C_drew ?_))); (case side2 => exact HC0.out); rintro e w' ⟨rfl, ⟨nd, rfl⟩⟩; refine ⟨_, rfl, ?_⟩) | ((with_reducible refine gate_callee (f := 52) rfl ?_); refine goesL_ (some 15) rfl rfl Try.func52 (by kernel_rfl) rfl #[.slice A0 l0.length c0] rfl (by (try simp only [List.map_toArray, List.map_cons, List.map_nil]); first | done | rfl | (simp only [List.length_drop, List.length_take]; rfl)) ?_; (with_reducible refine (spec_DrawPutInt.calls k _ _ l0 t228 _ ?side1 ?side2 A4.out).mono ?_); (case side1 => repeat (first | exact HR0.out | (with_reducible refine Kd.C_alloc ?_ _) | (with_reducible refine Kd.C_drewN ?_ _) | (with_reducible refine Kd.C_drew ?_))); (case side2 => exact HC0.out); rintro e w11 ⟨rfl, hb⟩; refine ⟨_, rfl, ?_⟩; have n0_ := Aside0.mk (below_step (by repeat (first | (with_reducible first | exact HB.out | apply below_alloc | apply pw_below_drewN | apply below_drew1) | exact HB.out)) hb); clear HB; have HB := n0_; clear n0_; (try clear hb); (try clear hb2); (try clear hk); (try clear hi)) | ((with_reducible refine gate_callee (f := 53) rfl ?_); refine goesL_ (some 17) rfl rfl Try.func53 (by kernel_rfl) rfl #[.int .i64 t228] rfl (by (try simp only [List.map_toArray, List.map_cons, List.map_nil]); first | done | rfl | (simp only [List.length_drop, List.length_take]; rfl)) ?_; (with_reducible refine (impl_PutInt.calls k t228 t229 _ A5.out).mono ?_); rintro e w12 ⟨v230, rfl, ho0, hb⟩; refine ⟨_, rfl, ?_⟩; have n0_ := Aside0.mk (Kd.R_lower ho0 (below_size (by repeat (first | (with_reducible first | exact HB.out | apply below_alloc | apply pw_below_drewN | apply below_drew1) | exact HB.out)))); have n1_ := Aside0.mk (below_step (by repeat (first | (with_reducible first | exact HB.out | apply below_alloc | apply pw_below_drewN | apply below_drew1) | exact HB.out)) hb); clear HB; have HO231 := n0_; have HB := n1_; clear n0_ n1_; (try clear hb); (try clear hb2); (try clear hk); (try clear hi); (try clear ho0); obtain ⟨Ao13, co13, eo13⟩ := Kd.R_slice HO231.out; subst eo13) | ((with_reducible refine gate_callee (f := 54) rfl ?_); refine goesL_ (some 20) rfl rfl Try.func54 (by kernel_rfl) rfl #[.slice Ao13 t229.length co13] rfl (by (try simp only [List.map_toArray, List.map_cons, List.map_nil]); first | done | rfl | (simp only [List.length_drop, List.length_take]; rfl)) ?_; (with_reducible refine (impl_GetInt.calls k _ _ t229 t232 t233 _ ?side1 ?side2 A6.out).mono ?_); (case side1 => repeat (first | exact (Kd.R_reads' HO231.out).2.2 | (with_reducible refine Kd.C_alloc ?_ _) | (with_reducible refine Kd.C_drewN ?_ _) | (with_reducible refine Kd.C_drew ?_))); (case side2 => exact (Kd.R_reads' HO231.out).2.1); rintro e w14 ⟨rfl, hb⟩; refine ⟨_, rfl, ?_⟩; have n0_ := Aside0.mk (Kd.R_below (by (with_reducible repeat (first | apply Kd.R_alloc | apply Kd.R_drewN | apply Kd.R_drew)); exact HO231.out) hb); have n1_ := Aside0.mk (below_step (by repeat (first | (with_reducible first | exact HB.out | apply below_alloc | apply pw_below_drewN | apply below_drew1) | exact HB.out)) hb); clear HO231; clear HB; have HO231 := n0_; have HB := n1_; clear n0_ n1_; (try clear hb); (try clear hb2); (try clear hk); (try clear hi)) | ((with_reducible refine gate_callee (f := 55) rfl ?_); refine goesL_ (some 24) rfl rfl Try.func55 (by kernel_rfl) rfl #[.slice A0 l0.length c0] rfl (by (try simp only [List.map_toArray, List.map_cons, List.map_nil]); first | done | rfl | (simp only [List.length_drop, List.length_take]; rfl)) ?_; (with_reducible refine (spec_DrawGetInt.calls k _ _ l0 t234 _ ?side1 ?side2 A7.out).mono ?_); (case side1 => repeat (first | exact (Kd.C_below HR0.out HB.out) | (with_reducible refine Kd.C_alloc ?_ _) | (with_reducible refine Kd.C_drewN ?_ _) | (with_reducible refine Kd.C_drew ?_))); (case side2 => exact HC0.out); rintro e w15 ⟨v235, rfl, ho0, hb⟩; refine ⟨_, rfl, ?_⟩; have n0_ := Aside0.mk (Kd.R_elder' (by (with_reducible repeat (first | apply Kd.R_alloc | apply Kd.R_drewN | apply Kd.R_drew)); exact HO231.out) (Kd.R_base ho0) hb); have n1_ := Aside0.mk (Kd.R_lower (Kd.R_new' ho0 (Kd.R_lt (by (with_reducible repeat (first | apply Kd.R_alloc | apply Kd.R_drewN | apply Kd.R_drew)); exact HO231.out))) (below_size (by repeat (first | (with_reducible first | exact HB.out | apply below_alloc | apply pw_below_drewN | apply below_drew1) | exact HB.out)))); have n2_ := Aside0.mk (below_step (by repeat (first | (with_reducible first | exact HB.out | apply below_alloc | apply pw_below_drewN | apply below_drew1) | exact HB.out)) hb); clear HO231; clear HB; have HO231 := n0_; have HO236 := n1_; have HB := n2_; clear n0_ n1_ n2_; (try clear hb); (try clear hb2); (try clear hk); (try clear hi); (try clear ho0); obtain ⟨Ao16, co16, eo16⟩ := Kd.R_slice HO236.out; subst eo16) | ((with_reducible refine gate_callee (f := 54) rfl ?_); refine goesL_ (some 27) rfl rfl Try.func54 (by kernel_rfl) rfl #[.slice Ao16 t234.length co16] rfl (by (try simp only [List.map_toArray, List.map_cons, List.map_nil]); first | done | rfl | (simp only [List.length_drop, List.length_take]; rfl)) ?_; (with_reducible refine (impl_GetInt.calls k _ _ t234 t237 t238 _ ?side1 ?side2 A8.out).mono ?_); (case side1 => repeat (first | exact (Kd.R_reads' HO236.out).2.2 | (with_reducible refine Kd.C_alloc ?_ _) | (with_reducible refine Kd.C_drewN ?_ _) | (with_reducible refine Kd.C_drew ?_))); (case side2 => exact (Kd.R_reads' HO236.out).2.1); rintro e w17 ⟨rfl, hb⟩; refine ⟨_, rfl, ?_⟩; have n0_ := Aside0.mk (Kd.R_below (by (with_reducible repeat (first | apply Kd.R_alloc | apply Kd.R_drewN | apply Kd.R_drew)); exact HO231.out) hb); have n1_ := Aside0.mk (Kd.R_below (by (with_reducible repeat (first | apply Kd.R_alloc | apply Kd.R_drewN | apply Kd.R_drew)); exact HO236.out) hb); have n2_ := Aside0.mk (below_step (by repeat (first | (with_reducible first | exact HB.out | apply below_alloc | apply pw_below_drewN | apply below_drew1) | exact HB.out)) hb); clear HO231; clear HO236; clear HB; have HO231 := n0_; have HO236 := n1_; have HB := n2_; clear n0_ n1_ n2_; (try clear hb); (try clear hb2); (try clear hk); (try clear hi)) | ((with_reducible refine gate_callee (f := 56) rfl ?_); refine goesL_ (some 32) rfl rfl Try.func56 (by kernel_rfl) rfl #[.slice Ao16 t234.length co16] rfl (by (try simp only [List.map_toArray, List.map_cons, List.map_nil]); first | done | rfl | (simp only [List.length_drop, List.length_take]; rfl)) ?_; (with_reducible refine (spec_GetInt.calls k _ _ t234 t239 t240 _ ?side1 ?side2 A9.out).mono ?_); (case side1 => repeat (first | exact (Kd.R_reads' HO236.out).2.2 | (with_reducible refine Kd.C_alloc ?_ _) | (with_reducible refine Kd.C_drewN ?_ _) | (with_reducible refine Kd.C_drew ?_))); (case side2 => exact (Kd.R_reads' HO236.out).2.1); rintro e w18 ⟨rfl, hb⟩; refine ⟨_, rfl, ?_⟩; have n0_ := Aside0.mk (Kd.R_below (by (with_reducible repeat (first | apply Kd.R_alloc | apply Kd.R_drewN | apply Kd.R_drew)); exact HO231.out) hb); have n1_ := Aside0.mk (Kd.R_below (by (with_reducible repeat (first | apply Kd.R_alloc | apply Kd.R_drewN | apply Kd.R_drew)); exact HO236.out) hb); have n2_ := Aside0.mk (below_step (by repeat (first | (with_reducible first | exact HB.out | apply below_alloc | apply pw_below_drewN | apply below_drew1) | exact HB.out)) hb); clear HO231; clear HO236; clear HB; have HO231 := n0_; have HO236 := n1_; have HB := n2_; clear n0_ n1_ n2_; (try clear hb); (try clear hb2); (try clear hk); (try clear hi)))
    (try simp only [Act.put, List.setIfInBounds_toArray, List.set_cons_zero, List.set_cons_succ])
    go_cut [47] (fun v47 wc => ∃ (kq : Nat) (x47_9 : Bool), v47 = .bool x47_9 ∧ Aside0 (laws_FnInts.j0 kq t228 t229 t232 t233 x47_9 = some r) ∧ Aside0 (kq ≤ k) ∧ Aside0 (Kd.R (Kd.int .u8) 5 wc w.heap.size (fun _ => True) (.slice Ao13 t229.length co13) t229) ∧ Aside0 (Below w.heap.size w wc))
    case first =>
      have H := HC10.out
      clear HC10
      by_cases c19 : (t238 != t240) = true
      · rw [if_pos c19] at H
        have c19b0 : (t238 != t240) = true := c19
        (try (have c19b1 : decide (t238 = t240) = false := by simpa using c19))
        (try (have c19b2 : (t238 == t240) = false := by simpa using c19))
        (try (have c19b3 : ¬ (t238 = t240) := by simpa using c19))
        clear c19
        (first | rw [c19b0] | (simp only [i64_w, i32_w]; rw [c19b0]) | skip)
        have H' := Aside0.mk H
        clear H
        go_wp2
        go_meet
        case rel => exact ⟨_, (true), (by first | rfl | (simp; done) | (simp [*]; done)), H', ⟨by first | omega | exact Nat.le_refl _⟩, ⟨by (with_reducible repeat (first | apply Kd.R_alloc | apply Kd.R_drewN | apply Kd.R_drew)); exact Kd.R_mono HO231.out (fun _ hk => trivial)⟩, ⟨by repeat (first | (with_reducible first | exact HB.out | apply below_alloc | apply pw_below_drewN | apply below_drew1) | exact HB.out)⟩⟩
      · rw [if_neg c19] at H
        have c19b0 : (t238 != t240) = false := by simpa using c19
        (try (have c19b1 : decide (t238 = t240) = true := by simpa using c19))
        (try (have c19b2 : (t238 == t240) = true := by simpa using c19))
        clear c19
        (first | rw [c19b0] | (simp only [i64_w, i32_w]; rw [c19b0]) | skip)
        by_cases c20 : t238 = true
        · subst c20
          have H1 : ((impl_PutInt.f k t237).bind fun t241 => ((laws_sameBytes.f k t241 t234).bind fun t244 => (laws_FnInts.j0 k t228 t229 t232 t233 (!t244)))) = some r := by rw [if_pos rfl] at H; exact H
          clear H
          have H := H1
          clear H1
          replace H := Option.bind_eq_some_iff.mp H
          obtain ⟨t241, A210, H⟩ := H
          replace H : ((laws_sameBytes.f k t241 t234).bind fun t244 => (laws_FnInts.j0 k t228 t229 t232 t233 (!t244))) = some r := H
          have A21 := Aside0.mk A210
          clear A210
          replace H := Option.bind_eq_some_iff.mp H
          obtain ⟨t244, A220, H⟩ := H
          replace H : (laws_FnInts.j0 k t228 t229 t232 t233 (!t244)) = some r := H
          have A22 := Aside0.mk A220
          clear A220
          have H' := Aside0.mk H
          clear H
          go_wp2_with (first | (go_at_call 53; (with_reducible refine (impl_PutInt.calls k t237 t241 _ A21.out).mono ?_); rintro e w23 ⟨v242, rfl, ho0, hb⟩; have n0_ := Aside0.mk (Kd.R_elder' (by (with_reducible repeat (first | apply Kd.R_alloc | apply Kd.R_drewN | apply Kd.R_drew)); exact HO231.out) (Kd.R_base ho0) hb); have n1_ := Aside0.mk (Kd.R_elder' (by (with_reducible repeat (first | apply Kd.R_alloc | apply Kd.R_drewN | apply Kd.R_drew)); exact HO236.out) (Kd.R_base ho0) hb); have n2_ := Aside0.mk (Kd.R_lower (Kd.R_new' (Kd.R_new' ho0 (Kd.R_lt (by (with_reducible repeat (first | apply Kd.R_alloc | apply Kd.R_drewN | apply Kd.R_drew)); exact HO231.out))) (Kd.R_lt (by (with_reducible repeat (first | apply Kd.R_alloc | apply Kd.R_drewN | apply Kd.R_drew)); exact HO236.out))) (below_size (by repeat (first | (with_reducible first | exact HB.out | apply below_alloc | apply pw_below_drewN | apply below_drew1) | exact HB.out)))); have n3_ := Aside0.mk (below_step (by repeat (first | (with_reducible first | exact HB.out | apply below_alloc | apply pw_below_drewN | apply below_drew1) | exact HB.out)) hb); clear HO231; clear HO236; clear HB; have HO231 := n0_; have HO236 := n1_; have HO243 := n2_; have HB := n3_; clear n0_ n1_ n2_ n3_; (try clear hb); (try clear hb2); (try clear hk); (try clear hi); (try clear ho0); obtain ⟨Ao24, co24, eo24⟩ := Kd.R_slice HO243.out; subst eo24) | (go_at_call 57; (with_reducible refine (laws_sameBytes.calls k _ _ t241 _ _ t234 t244 _ ?side1 ?side2 ?side3 ?side4 A22.out).mono ?_); (case side1 => repeat (first | exact (Kd.R_reads' HO243.out).2.2 | (with_reducible refine Kd.C_alloc ?_ _) | (with_reducible refine Kd.C_drewN ?_ _) | (with_reducible refine Kd.C_drew ?_))); (case side2 => exact (Kd.R_reads' HO243.out).2.1); (case side3 => repeat (first | exact (Kd.R_reads' HO236.out).2.2 | (with_reducible refine Kd.C_alloc ?_ _) | (with_reducible refine Kd.C_drewN ?_ _) | (with_reducible refine Kd.C_drew ?_))); (case side4 => exact (Kd.R_reads' HO236.out).2.1); rintro e w' ⟨rfl, ⟨nd, rfl⟩⟩))
          go_meet
          case rel => exact ⟨_, (!t244), (by first | rfl | (simp; done) | (simp [*]; done)), H', ⟨by first | omega | exact Nat.le_refl _⟩, ⟨by (with_reducible repeat (first | apply Kd.R_alloc | apply Kd.R_drewN | apply Kd.R_drew)); exact Kd.R_mono HO231.out (fun _ hk => trivial)⟩, ⟨by repeat (first | (with_reducible first | exact HB.out | apply below_alloc | apply pw_below_drewN | apply below_drew1) | exact HB.out)⟩⟩
        · replace c20 := Bool.eq_false_iff.mpr c20
          subst c20
          have H1 : (laws_FnInts.j0 k t228 t229 t232 t233 false) = some r := by rw [if_neg (show ¬ (false = true) by decide)] at H; exact H
          clear H
          have H := H1
          clear H1
          have H' := Aside0.mk H
          clear H
          go_wp2
          go_meet
          case rel => exact ⟨_, (false), (by first | rfl | (simp; done) | (simp [*]; done)), H', ⟨by first | omega | exact Nat.le_refl _⟩, ⟨by (with_reducible repeat (first | apply Kd.R_alloc | apply Kd.R_drewN | apply Kd.R_drew)); exact Kd.R_mono HO231.out (fun _ hk => trivial)⟩, ⟨by repeat (first | (with_reducible first | exact HB.out | apply below_alloc | apply pw_below_drewN | apply below_drew1) | exact HB.out)⟩⟩
    case rest =>
      clear HC10
      try clear c1
      try clear c2
      try clear p2
      try clear c3
      try clear c5
      try clear c10
      try clear c19
      try clear c19b0
      try clear c19b1
      try clear c19b2
      try clear c20
      obtain ⟨kq, x47_9, rfl, HA, HJ9, HO_4, HB⟩ := hcut
      cases kq with
      | zero => exact absurd HA.out (by simp [laws_FnInts.j0])
      | succ kj9 =>
        have H := HA.out
        clear HA
        simp only [laws_FnInts.j0] at H
        by_cases c25 : x47_9 = true
        · subst c25
          have H1 : (some false) = some r := by rw [if_pos rfl] at H; exact H
          clear H
          have H := H1
          clear H1
          obtain rfl := Option.some.inj H
          go_wp2
          go_ret
          exact ⟨by first | rfl | (simp [errW_none, errW_some] <;> rfl) | (simp [*, errW_none, errW_some] <;> rfl), by repeat (first | (with_reducible first | exact HB.out | apply below_alloc | apply pw_below_drewN | apply below_drew1) | exact HB.out)⟩
        · replace c25 := Bool.eq_false_iff.mpr c25
          subst c25
          have H1 : (if t228 > 2147483647 then (if 2147483647 < (-2147483648) then (if t233 = true then (if t232 = (-2147483648) then (if (t229.length : Int) ≥ 1 then (if (t229.length : Int) ≤ 4 then (if (-2147483648) ≥ (-128) then (some (((t229.length : Int) == 1) == (decide ((-2147483648) ≤ 127)))) else (some (((t229.length : Int) == 1) == false))) else (some false)) else (some false)) else (some false)) else (some false)) else (if t233 = true then (if t232 = 2147483647 then (if (t229.length : Int) ≥ 1 then (if (t229.length : Int) ≤ 4 then (if 2147483647 ≥ (-128) then (some (((t229.length : Int) == 1) == (decide (2147483647 ≤ 127)))) else (some (((t229.length : Int) == 1) == false))) else (some false)) else (some false)) else (some false)) else (some false))) else (if t228 < (-2147483648) then (if t233 = true then (if t232 = (-2147483648) then (if (t229.length : Int) ≥ 1 then (if (t229.length : Int) ≤ 4 then (if (-2147483648) ≥ (-128) then (some (((t229.length : Int) == 1) == (decide ((-2147483648) ≤ 127)))) else (some (((t229.length : Int) == 1) == false))) else (some false)) else (some false)) else (some false)) else (some false)) else (if t233 = true then (if t232 = t228 then (if (t229.length : Int) ≥ 1 then (if (t229.length : Int) ≤ 4 then (if t228 ≥ (-128) then (some (((t229.length : Int) == 1) == (decide (t228 ≤ 127)))) else (some (((t229.length : Int) == 1) == false))) else (some false)) else (some false)) else (some false)) else (some false)))) = some r := by rw [if_neg (show ¬ (false = true) by decide)] at H; exact H
          clear H
          have H := H1
          clear H1
          by_cases c26 : t228 > 2147483647
          · rw [if_pos c26] at H
            have c26b0 : decide (2147483647 < t228) = true := decide_eq_true c26
            clear c26
            by_cases c27 : 2147483647 < (-2147483648)
            · exact absurd c27 (by decide)
            · rw [if_neg c27] at H
              have c27b0 : decide (2147483647 < (-2147483648)) = false := decide_eq_false c27
              clear c27
              by_cases c33 : t233 = true
              · subst c33
                have H1 : (if t232 = 2147483647 then (if (t229.length : Int) ≥ 1 then (if (t229.length : Int) ≤ 4 then (if 2147483647 ≥ (-128) then (some (((t229.length : Int) == 1) == (decide (2147483647 ≤ 127)))) else (some (((t229.length : Int) == 1) == false))) else (some false)) else (some false)) else (some false)) = some r := by rw [if_pos rfl] at H; exact H
                clear H
                have H := H1
                clear H1
                by_cases c34 : t232 = 2147483647
                · rw [if_pos c34] at H
                  have c34b0 : (t232 == 2147483647) = true := beq_iff_eq.mpr c34
                  have c34b1 : (t232 != 2147483647) = false := bne_eq_false_iff_eq.mpr c34
                  clear c34
                  by_cases c35 : (t229.length : Int) ≥ 1
                  · rw [if_pos c35] at H
                    have c35b0 : decide (1 ≤ (t229.length : Int)) = true := decide_eq_true c35
                    have c35b1 : decide (1 ≤ t229.length) = true := decide_eq_true (by omega)
                    clear c35
                    by_cases c36 : (t229.length : Int) ≤ 4
                    · rw [if_pos c36] at H
                      have c36b0 : decide ((t229.length : Int) ≤ 4) = true := decide_eq_true c36
                      have c36b1 : decide (t229.length ≤ 4) = true := decide_eq_true (by omega)
                      clear c36
                      by_cases c37 : 2147483647 ≥ (-128)
                      · rw [if_pos c37] at H
                        have c37b0 : decide ((-128) ≤ 2147483647) = true := decide_eq_true c37
                        clear c37
                        obtain rfl := Option.some.inj H
                        go_wp2
                        go_ret
                        exact ⟨by first | rfl | (simp [errW_none, errW_some] <;> rfl) | (simp [*, errW_none, errW_some] <;> rfl), by repeat (first | (with_reducible first | exact HB.out | apply below_alloc | apply pw_below_drewN | apply below_drew1) | exact HB.out)⟩
                      · rw [if_neg c37] at H
                        have c37b0 : decide ((-128) ≤ 2147483647) = false := decide_eq_false c37
                        clear c37
                        obtain rfl := Option.some.inj H
                        go_wp2
                        go_ret
                        exact ⟨by first | rfl | (simp [errW_none, errW_some] <;> rfl) | (simp [*, errW_none, errW_some] <;> rfl), by repeat (first | (with_reducible first | exact HB.out | apply below_alloc | apply pw_below_drewN | apply below_drew1) | exact HB.out)⟩
                    · rw [if_neg c36] at H
                      have c36b0 : decide ((t229.length : Int) ≤ 4) = false := decide_eq_false c36
                      have c36b1 : decide (t229.length ≤ 4) = false := decide_eq_false (by omega)
                      clear c36
                      obtain rfl := Option.some.inj H
                      go_wp2
                      go_ret
                      exact ⟨by first | rfl | (simp [errW_none, errW_some] <;> rfl) | (simp [*, errW_none, errW_some] <;> rfl), by repeat (first | (with_reducible first | exact HB.out | apply below_alloc | apply pw_below_drewN | apply below_drew1) | exact HB.out)⟩
                  · rw [if_neg c35] at H
                    have c35b0 : decide (1 ≤ (t229.length : Int)) = false := decide_eq_false c35
                    have c35b1 : decide (1 ≤ t229.length) = false := decide_eq_false (by omega)
                    clear c35
                    obtain rfl := Option.some.inj H
                    go_wp2
                    go_ret
                    exact ⟨by first | rfl | (simp [errW_none, errW_some] <;> rfl) | (simp [*, errW_none, errW_some] <;> rfl), by repeat (first | (with_reducible first | exact HB.out | apply below_alloc | apply pw_below_drewN | apply below_drew1) | exact HB.out)⟩
                · rw [if_neg c34] at H
                  have c34b0 : (t232 == 2147483647) = false := beq_eq_false_iff_ne.mpr c34
                  have c34b1 : (t232 != 2147483647) = true := bne_iff_ne.mpr c34
                  obtain rfl := Option.some.inj H
                  go_wp2
                  go_ret
                  exact ⟨by first | rfl | (simp [errW_none, errW_some] <;> rfl) | (simp [*, errW_none, errW_some] <;> rfl), by repeat (first | (with_reducible first | exact HB.out | apply below_alloc | apply pw_below_drewN | apply below_drew1) | exact HB.out)⟩
              · replace c33 := Bool.eq_false_iff.mpr c33
                subst c33
                have H1 : (some false) = some r := by rw [if_neg (show ¬ (false = true) by decide)] at H; exact H
                clear H
                have H := H1
                clear H1
                obtain rfl := Option.some.inj H
                go_wp2
                go_ret
                exact ⟨by first | rfl | (simp [errW_none, errW_some] <;> rfl) | (simp [*, errW_none, errW_some] <;> rfl), by repeat (first | (with_reducible first | exact HB.out | apply below_alloc | apply pw_below_drewN | apply below_drew1) | exact HB.out)⟩
          · rw [if_neg c26] at H
            have c26b0 : decide (2147483647 < t228) = false := decide_eq_false c26
            clear c26
            by_cases c38 : t228 < (-2147483648)
            · rw [if_pos c38] at H
              have c38b0 : decide (t228 < (-2147483648)) = true := decide_eq_true c38
              clear c38
              by_cases c39 : t233 = true
              · subst c39
                have H1 : (if t232 = (-2147483648) then (if (t229.length : Int) ≥ 1 then (if (t229.length : Int) ≤ 4 then (if (-2147483648) ≥ (-128) then (some (((t229.length : Int) == 1) == (decide ((-2147483648) ≤ 127)))) else (some (((t229.length : Int) == 1) == false))) else (some false)) else (some false)) else (some false)) = some r := by rw [if_pos rfl] at H; exact H
                clear H
                have H := H1
                clear H1
                by_cases c40 : t232 = (-2147483648)
                · rw [if_pos c40] at H
                  have c40b0 : (t232 == (-2147483648)) = true := beq_iff_eq.mpr c40
                  have c40b1 : (t232 != (-2147483648)) = false := bne_eq_false_iff_eq.mpr c40
                  clear c40
                  by_cases c41 : (t229.length : Int) ≥ 1
                  · rw [if_pos c41] at H
                    have c41b0 : decide (1 ≤ (t229.length : Int)) = true := decide_eq_true c41
                    have c41b1 : decide (1 ≤ t229.length) = true := decide_eq_true (by omega)
                    clear c41
                    by_cases c42 : (t229.length : Int) ≤ 4
                    · rw [if_pos c42] at H
                      have c42b0 : decide ((t229.length : Int) ≤ 4) = true := decide_eq_true c42
                      have c42b1 : decide (t229.length ≤ 4) = true := decide_eq_true (by omega)
                      clear c42
                      by_cases c43 : (-2147483648) ≥ (-128)
                      · exact absurd c43 (by decide)
                      · rw [if_neg c43] at H
                        have c43b0 : decide ((-128) ≤ (-2147483648)) = false := decide_eq_false c43
                        clear c43
                        obtain rfl := Option.some.inj H
                        go_wp2
                        go_ret
                        exact ⟨by first | rfl | (simp [errW_none, errW_some] <;> rfl) | (simp [*, errW_none, errW_some] <;> rfl), by repeat (first | (with_reducible first | exact HB.out | apply below_alloc | apply pw_below_drewN | apply below_drew1) | exact HB.out)⟩
                    · rw [if_neg c42] at H
                      have c42b0 : decide ((t229.length : Int) ≤ 4) = false := decide_eq_false c42
                      have c42b1 : decide (t229.length ≤ 4) = false := decide_eq_false (by omega)
                      clear c42
                      obtain rfl := Option.some.inj H
                      go_wp2
                      go_ret
                      exact ⟨by first | rfl | (simp [errW_none, errW_some] <;> rfl) | (simp [*, errW_none, errW_some] <;> rfl), by repeat (first | (with_reducible first | exact HB.out | apply below_alloc | apply pw_below_drewN | apply below_drew1) | exact HB.out)⟩
                  · rw [if_neg c41] at H
                    have c41b0 : decide (1 ≤ (t229.length : Int)) = false := decide_eq_false c41
                    have c41b1 : decide (1 ≤ t229.length) = false := decide_eq_false (by omega)
                    clear c41
                    obtain rfl := Option.some.inj H
                    go_wp2
                    go_ret
                    exact ⟨by first | rfl | (simp [errW_none, errW_some] <;> rfl) | (simp [*, errW_none, errW_some] <;> rfl), by repeat (first | (with_reducible first | exact HB.out | apply below_alloc | apply pw_below_drewN | apply below_drew1) | exact HB.out)⟩
                · rw [if_neg c40] at H
                  have c40b0 : (t232 == (-2147483648)) = false := beq_eq_false_iff_ne.mpr c40
                  have c40b1 : (t232 != (-2147483648)) = true := bne_iff_ne.mpr c40
                  obtain rfl := Option.some.inj H
                  go_wp2
                  go_ret
                  exact ⟨by first | rfl | (simp [errW_none, errW_some] <;> rfl) | (simp [*, errW_none, errW_some] <;> rfl), by repeat (first | (with_reducible first | exact HB.out | apply below_alloc | apply pw_below_drewN | apply below_drew1) | exact HB.out)⟩
              · replace c39 := Bool.eq_false_iff.mpr c39
                subst c39
                have H1 : (some false) = some r := by rw [if_neg (show ¬ (false = true) by decide)] at H; exact H
                clear H
                have H := H1
                clear H1
                obtain rfl := Option.some.inj H
                go_wp2
                go_ret
                exact ⟨by first | rfl | (simp [errW_none, errW_some] <;> rfl) | (simp [*, errW_none, errW_some] <;> rfl), by repeat (first | (with_reducible first | exact HB.out | apply below_alloc | apply pw_below_drewN | apply below_drew1) | exact HB.out)⟩
            · rw [if_neg c38] at H
              have c38b0 : decide (t228 < (-2147483648)) = false := decide_eq_false c38
              clear c38
              by_cases c44 : t233 = true
              · subst c44
                have H1 : (if t232 = t228 then (if (t229.length : Int) ≥ 1 then (if (t229.length : Int) ≤ 4 then (if t228 ≥ (-128) then (some (((t229.length : Int) == 1) == (decide (t228 ≤ 127)))) else (some (((t229.length : Int) == 1) == false))) else (some false)) else (some false)) else (some false)) = some r := by rw [if_pos rfl] at H; exact H
                clear H
                have H := H1
                clear H1
                by_cases c45 : t232 = t228
                · rw [if_pos c45] at H
                  have c45b0 : (t232 == t228) = true := beq_iff_eq.mpr c45
                  have c45b1 : (t232 != t228) = false := bne_eq_false_iff_eq.mpr c45
                  clear c45
                  by_cases c46 : (t229.length : Int) ≥ 1
                  · rw [if_pos c46] at H
                    have c46b0 : decide (1 ≤ (t229.length : Int)) = true := decide_eq_true c46
                    have c46b1 : decide (1 ≤ t229.length) = true := decide_eq_true (by omega)
                    clear c46
                    by_cases c47 : (t229.length : Int) ≤ 4
                    · rw [if_pos c47] at H
                      have c47b0 : decide ((t229.length : Int) ≤ 4) = true := decide_eq_true c47
                      have c47b1 : decide (t229.length ≤ 4) = true := decide_eq_true (by omega)
                      clear c47
                      by_cases c48 : t228 ≥ (-128)
                      · rw [if_pos c48] at H
                        have c48b0 : decide ((-128) ≤ t228) = true := decide_eq_true c48
                        clear c48
                        obtain rfl := Option.some.inj H
                        go_wp2
                        go_ret
                        exact ⟨by first | rfl | (simp [errW_none, errW_some] <;> rfl) | (simp [*, errW_none, errW_some] <;> rfl), by repeat (first | (with_reducible first | exact HB.out | apply below_alloc | apply pw_below_drewN | apply below_drew1) | exact HB.out)⟩
                      · rw [if_neg c48] at H
                        have c48b0 : decide ((-128) ≤ t228) = false := decide_eq_false c48
                        clear c48
                        obtain rfl := Option.some.inj H
                        go_wp2
                        go_ret
                        exact ⟨by first | rfl | (simp [errW_none, errW_some] <;> rfl) | (simp [*, errW_none, errW_some] <;> rfl), by repeat (first | (with_reducible first | exact HB.out | apply below_alloc | apply pw_below_drewN | apply below_drew1) | exact HB.out)⟩
                    · rw [if_neg c47] at H
                      have c47b0 : decide ((t229.length : Int) ≤ 4) = false := decide_eq_false c47
                      have c47b1 : decide (t229.length ≤ 4) = false := decide_eq_false (by omega)
                      clear c47
                      obtain rfl := Option.some.inj H
                      go_wp2
                      go_ret
                      exact ⟨by first | rfl | (simp [errW_none, errW_some] <;> rfl) | (simp [*, errW_none, errW_some] <;> rfl), by repeat (first | (with_reducible first | exact HB.out | apply below_alloc | apply pw_below_drewN | apply below_drew1) | exact HB.out)⟩
                  · rw [if_neg c46] at H
                    have c46b0 : decide (1 ≤ (t229.length : Int)) = false := decide_eq_false c46
                    have c46b1 : decide (1 ≤ t229.length) = false := decide_eq_false (by omega)
                    clear c46
                    obtain rfl := Option.some.inj H
                    go_wp2
                    go_ret
                    exact ⟨by first | rfl | (simp [errW_none, errW_some] <;> rfl) | (simp [*, errW_none, errW_some] <;> rfl), by repeat (first | (with_reducible first | exact HB.out | apply below_alloc | apply pw_below_drewN | apply below_drew1) | exact HB.out)⟩
                · rw [if_neg c45] at H
                  have c45b0 : (t232 == t228) = false := beq_eq_false_iff_ne.mpr c45
                  have c45b1 : (t232 != t228) = true := bne_iff_ne.mpr c45
                  obtain rfl := Option.some.inj H
                  go_wp2
                  go_ret
                  exact ⟨by first | rfl | (simp [errW_none, errW_some] <;> rfl) | (simp [*, errW_none, errW_some] <;> rfl), by repeat (first | (with_reducible first | exact HB.out | apply below_alloc | apply pw_below_drewN | apply below_drew1) | exact HB.out)⟩
              · replace c44 := Bool.eq_false_iff.mpr c44
                subst c44
                have H1 : (some false) = some r := by rw [if_neg (show ¬ (false = true) by decide)] at H; exact H
                clear H
                have H := H1
                clear H1
                obtain rfl := Option.some.inj H
                go_wp2
                go_ret
                exact ⟨by first | rfl | (simp [errW_none, errW_some] <;> rfl) | (simp [*, errW_none, errW_some] <;> rfl), by repeat (first | (with_reducible first | exact HB.out | apply below_alloc | apply pw_below_drewN | apply below_drew1) | exact HB.out)⟩

/-- THE ONE PURE STATEMENT of laws_FnInts. -/
def laws_FnInts.Pure : Prop := ∀ (l0 : List Int), l0.length ≤ maxLen → (∀ y ∈ l0, (Lit.int .u8 y).wf = true) → ∃ k, laws_FnInts.f k l0 = some true

end Go.Proofs.Ytndfokcnogpeiaa.XFnInts
