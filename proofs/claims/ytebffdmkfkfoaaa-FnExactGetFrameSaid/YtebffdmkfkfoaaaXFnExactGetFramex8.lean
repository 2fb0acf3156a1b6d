/- The functions that one law reaches, as Lean functions, with their walks: printed by a program of this seat (wip/tools) out of the translation. -/
import Derived.Test.YtebffdmkfkfoaaaXFnExactGetFramex0
import Derived.Test.YtebffdmkfkfoaaaXFnExactGetFramex5
import Derived.Test.YtebffdmkfkfoaaaXFnExactGetFramex7
namespace Go.Proofs.Ytebffdmkfkfoaaa.XFnExactGetFrame
open Go.RowKit Go.Proofs.YtebffdmkfkfoaaaW.PrintWords Go.Proofs.YtebffdmkfkfoaaaW.PrintLast Go.Proofs.YtebffdmkfkfoaaaW.PrintMore
attribute [local go_sem] max2_int min2_int max_two min_two max_three min_three max_four min_four   -- for this text's walks alone
set_option linter.unusedVariables false
set_option linter.unusedSimpArgs false

/-! ### impl_in: function 105 -/
def impl_in.f (a0 : Int) (a1 : Int) (a2 : Int) : Option (Bool) := if a0 ≥ a1 then (some (decide (a0 ≤ a2))) else (some false)
set_option maxHeartbeats 8000000 in
set_option maxRecDepth 100000 in
theorem impl_in.calls (a0 : Int) (a1 : Int) (a2 : Int) (r : Bool) (w : World) (h : impl_in.f a0 a1 a2 = some r) :
 Calls Try.prog 105 #[.int .i64 a0, .int .i64 a1, .int .i64 a2] w fun e w' => e = .returned (.bool r) ∧ Drawn0 w w' := by
 have H : (if a0 ≥ a1 then (some (decide (a0 ≤ a2))) else (some false)) = some r := h
 clear h
 by_cases c4 : a0 ≥ a1
 · rw [if_pos c4] at H
   have c4b0 : decide (a1 ≤ a0) = true := decide_eq_true c4
   clear c4
   obtain rfl := Option.some.inj H
   go_enter Try.func105, Try.ntmps105
   go_wp2
   go_ret
   exact ⟨by first | rfl | (simp; done) | (simp [*]; done), by repeat (first | exact Drawn0.refl _ | apply Drawn0.step)⟩
 rw [if_neg c4] at H
 have c4b0 : decide (a1 ≤ a0) = false := decide_eq_false c4
 clear c4
 obtain rfl := Option.some.inj H
 go_enter Try.func105, Try.ntmps105
 go_wp2
 go_ret
 exact ⟨by first | rfl | (simp; done) | (simp [*]; done), by repeat (first | exact Drawn0.refl _ | apply Drawn0.step)⟩

/-! ### impl_PutInt: function 130 -/
mutual
def impl_PutInt.j1 : Nat → Int → Int → Option (List Int)
 | 0, _, _ => none
 | k + 1, x0, x3 => impl_PutInt.l1 k x0 ([] : List Int) (wrap64 (x3 - 1))
def impl_PutInt.l1 : Nat → Int → List Int → Int → Option (List Int)
 | 0, _, _, _ => none
 | k + 1, x0, x4, x5 => if x5 ≥ 0 then (if 0 ≤ (wrap64 (8 * x5)) then (if x4.length < 140737488355328 then (impl_PutInt.l1 k x0 (x4 ++ [(shr .i64 x0 (wrap64 (8 * x5))) % 256]) (wrap64 (x5 - 1))) else (none)) else (none)) else (some x4)
def impl_PutInt.l0 : Nat → Int → Int → Option (List Int)
 | 0, _, _ => none
 | k + 1, x0, x3 => if x3 < 4 then (if 0 ≤ (wrap64 ((wrap64 (8 * x3)) - 1)) then ((impl_in.f x0 (shl .i64 (-1) (wrap64 ((wrap64 (8 * x3)) - 1))) (wrap64 ((shl .i64 1 (wrap64 ((wrap64 (8 * x3)) - 1))) - 1))).bind fun t239 => (if t239 = true then (impl_PutInt.j1 k x0 x3) else (impl_PutInt.l0 k x0 (wrap64 (x3 + 1))))) else (none)) else (impl_PutInt.j1 k x0 x3)
end
def impl_PutInt.f (k : Nat) (a0 : Int) : Option (List Int) := impl_PutInt.l0 k (mx (-2147483648) (mn a0 2147483647)) 1
theorem impl_PutInt.mono_l : ∀ k, (∀ y0 y1, LeO (impl_PutInt.j1 k y0 y1) (impl_PutInt.j1 (k + 1) y0 y1)) ∧ (∀ y0 y1 y2, LeO (impl_PutInt.l1 k y0 y1 y2) (impl_PutInt.l1 (k + 1) y0 y1 y2)) ∧ (∀ y0 y1, LeO (impl_PutInt.l0 k y0 y1) (impl_PutInt.l0 (k + 1) y0 y1))
 | 0 => ⟨fun _ _ r h => by simp [impl_PutInt.j1] at h, fun _ _ _ r h => by simp [impl_PutInt.l1] at h, fun _ _ r h => by simp [impl_PutInt.l0] at h⟩
 | k + 1 => by
  obtain ⟨ih0, ih1, ih2⟩ := impl_PutInt.mono_l k
  refine ⟨?_, ?_, ?_⟩
  · intro y0 y1
    unfold impl_PutInt.j1
    repeat' first
    | (with_reducible exact ih0 _ _)
    | (with_reducible exact ih1 _ _ _)
    | (with_reducible exact ih2 _ _)
    | (with_reducible exact LeO.refl _)
    | (with_reducible exact LeO.none _)
    | (with_reducible refine LeO.ite ?_ ?_)
    | (with_reducible refine LeO.bind ?_ (fun _ => ?_))
    | exact ih0 _ _
    | exact ih1 _ _ _
    | exact ih2 _ _
    | exact LeO.none _
    | refine LeO.ite ?_ ?_
    | refine LeO.bind ?_ (fun _ => ?_)
  · intro y0 y1 y2
    unfold impl_PutInt.l1
    repeat' first
    | (with_reducible exact ih0 _ _)
    | (with_reducible exact ih1 _ _ _)
    | (with_reducible exact ih2 _ _)
    | (with_reducible exact LeO.refl _)
    | (with_reducible exact LeO.none _)
    | (with_reducible refine LeO.ite ?_ ?_)
    | (with_reducible refine LeO.bind ?_ (fun _ => ?_))
    | exact ih0 _ _
    | exact ih1 _ _ _
    | exact ih2 _ _
    | exact LeO.none _
    | refine LeO.ite ?_ ?_
    | refine LeO.bind ?_ (fun _ => ?_)
  intro y0 y1
  unfold impl_PutInt.l0
  repeat' first
  | (with_reducible exact ih0 _ _)
  | (with_reducible exact ih1 _ _ _)
  | (with_reducible exact ih2 _ _)
  | (with_reducible exact LeO.refl _)
  | (with_reducible exact LeO.none _)
  | (with_reducible refine LeO.ite ?_ ?_)
  | (with_reducible refine LeO.bind ?_ (fun _ => ?_))
  | exact ih0 _ _
  | exact ih1 _ _ _
  | exact ih2 _ _
  | exact LeO.none _
  | refine LeO.ite ?_ ?_
  | refine LeO.bind ?_ (fun _ => ?_)
theorem impl_PutInt.mono : ∀ a0 k, LeO (impl_PutInt.f k a0) (impl_PutInt.f (k + 1) a0) := by
 intro a0 k
 obtain ⟨ih0, ih1, ih2⟩ := impl_PutInt.mono_l k
 unfold impl_PutInt.f
 repeat' first
  | (with_reducible exact ih0 _ _)
  | (with_reducible exact ih1 _ _ _)
  | (with_reducible exact ih2 _ _)
  | (with_reducible exact LeO.refl _)
  | (with_reducible exact LeO.none _)
  | (with_reducible refine LeO.ite ?_ ?_)
  | (with_reducible refine LeO.bind ?_ (fun _ => ?_))
  | exact ih0 _ _
  | exact ih1 _ _ _
  | exact ih2 _ _
  | exact LeO.none _
  | refine LeO.ite ?_ ?_
  | refine LeO.bind ?_ (fun _ => ?_)
set_option maxHeartbeats 8000000 in
set_option maxRecDepth 100000 in
theorem impl_PutInt.calls (k : Nat) (a0 : Int) (r : List Int) (w : World) (h : impl_PutInt.f k a0 = some r) :
 Calls Try.prog 130 #[.int .i64 a0] w fun e w' => ∃ v0_ : Value, e = .returned (v0_) ∧ Kd.R (Kd.int .u8) 5 w' w.heap.size (fun _ => True) v0_ r ∧ Below w.heap.size w w' := by
 have HB := am (Below.refl w.heap.size w)
 have H : (impl_PutInt.l0 k (mx (-2147483648) (mn a0 2147483647)) 1) = some r := h
 clear h
 obtain ⟨ji2, hji2⟩ : ∃ j_ : Int, (mn a0 2147483647) = j_ := ⟨_, rfl⟩
 replace H : (impl_PutInt.l0 k (mx (-2147483648) (ji2)) 1) = some r := by first | (rw [hji2] at H; exact H) | (simp only [hji2] at H ⊢; exact H)
 (try (have hji2h : ji2 ≤ 2147483647 := by (rw [← hji2]; unfold mn; (repeat' split) <;> omega)))
 (try (have hji2g : ji2 ≤ 64 := by omega))
 have hji2_ : (if 2147483647 < a0 then 2147483647 else a0) = ji2 := hji2
 obtain ⟨ji3, hji3⟩ : ∃ j_ : Int, (mx (-2147483648) (ji2)) = j_ := ⟨_, rfl⟩
 replace H : (impl_PutInt.l0 k ji3 1) = some r := by first | (rw [hji3] at H; exact H) | (simp only [hji3] at H ⊢; exact H)
 have hji3_ : (if (-2147483648) < (ji2) then (ji2) else (-2147483648)) = ji3 := hji3
 have HC4 := am H
 clear H
 go_enter Try.func130, Try.ntmps130
 go_upto_block 0 with (fail)
 repeat (go_quiet (fail); go_upto_block 0 with (fail))
 go_cut [3] (fun v3 wc => ∃ (kq : Nat) (x3_3 : Int), v3 = .int .i64 x3_3 ∧ Aside0 (impl_PutInt.j1 kq ji3 x3_3 = some r) ∧ Aside0 (kq ≤ k) ∧ Aside0 (Below w.heap.size w wc))
 case first =>
  have H := HC4.out
  clear HC4
  have H' := am H
  clear H
  go_wp2
  repeat (go_quiet (fail); try go_wp2)
  go_loopg [3] k (fun kq v3 w' => ∃ (x3_1 : Int), v3 = .int .i64 x3_1 ∧ 1 ≤ x3_1 ∧ x3_1 ≤ 4 ∧ Aside0 (impl_PutInt.l0 kq ji3 x3_1 = some r) ∧ Aside0 (kq ≤ k) ∧ Aside0 (Below w.heap.size w w'))
  case atStart => exact ⟨(1), sq, by omega, by omega, H', ⟨Nat.le_refl _⟩, ⟨bq HB.out⟩⟩
  case round =>
   clear H'
   obtain ⟨x3_1, rfl, hb1, hb2, HA, HK1, HB⟩ := hrel
   cases gk with
   | zero => exact absurd HA.out (by simp [impl_PutInt.l0])
   | succ k1 =>
    have H := HA.out
    clear HA
    simp only [impl_PutInt.l0] at H
    have hx : x3_1 = 1 ∨ x3_1 = 2 ∨ x3_1 = 3 ∨ x3_1 = 4 := by omega
    clear hb1 hb2
    rcases hx with rfl | rfl | rfl | rfl
    · rw [if_pos (by decide), show wrap64 (wrap64 (8 * 1) - 1) = 7 by decide +kernel, if_pos (by decide), show shl .i64 (-1) 7 = -128 by decide +kernel, show wrap64 (shl .i64 1 7 - 1) = 127 by decide +kernel] at H
      replace H := Option.bind_eq_some_iff.mp H
      obtain ⟨t117, A110, H⟩ := H
      have A11 := am A110
      clear A110
      cases t117
      · have H' : Aside0 (impl_PutInt.l0 k1 ji3 2 = some r) := ⟨by rw [if_neg (by decide), show wrap64 (1 + 1) = 2 by decide +kernel] at H; exact H⟩
        clear H
        go_wp2_with (first | (go_at_call 105; (with_reducible refine (impl_in.calls ji3 (-128) 127 false _ A11.out).mono ?_); rintro e w' ⟨rfl, ⟨nd, rfl⟩⟩; (try first | exact ⟨rfl, _, World.drewN_drewN _ _ _⟩ | exact ⟨rfl, _, Eq.trans (World.drewN_drewN _ _ _) (congrArg (World.drewN _) (Nat.add_assoc _ _ _))⟩)))
        repeat (go_quiet (first | (go_at_call 105; (with_reducible refine (impl_in.calls ji3 (-128) 127 false _ A11.out).mono ?_); rintro e w' ⟨rfl, ⟨nd, rfl⟩⟩; (try first | exact ⟨rfl, _, World.drewN_drewN _ _ _⟩ | exact ⟨rfl, _, Eq.trans (World.drewN_drewN _ _ _) (congrArg (World.drewN _) (Nat.add_assoc _ _ _))⟩))); try go_wp2_with (first | (go_at_call 105; (with_reducible refine (impl_in.calls ji3 (-128) 127 false _ A11.out).mono ?_); rintro e w' ⟨rfl, ⟨nd, rfl⟩⟩; (try first | exact ⟨rfl, _, World.drewN_drewN _ _ _⟩ | exact ⟨rfl, _, Eq.trans (World.drewN_drewN _ _ _) (congrArg (World.drewN _) (Nat.add_assoc _ _ _))⟩))))
        go_roundg k1
        case measure => have := HK1.out; omega
        case rel => exact ⟨(2), sq, by omega, by omega, H', ⟨by have := HK1.out; omega⟩, ⟨bq HB.out⟩⟩
      have H' : Aside0 (impl_PutInt.j1 k1 ji3 1 = some r) := ⟨by rw [if_pos rfl] at H; exact H⟩
      clear H
      go_wp2_with (first | (go_at_call 105; (with_reducible refine (impl_in.calls ji3 (-128) 127 true _ A11.out).mono ?_); rintro e w' ⟨rfl, ⟨nd, rfl⟩⟩; (try first | exact ⟨rfl, _, World.drewN_drewN _ _ _⟩ | exact ⟨rfl, _, Eq.trans (World.drewN_drewN _ _ _) (congrArg (World.drewN _) (Nat.add_assoc _ _ _))⟩)))
      repeat (go_quiet (first | (go_at_call 105; (with_reducible refine (impl_in.calls ji3 (-128) 127 true _ A11.out).mono ?_); rintro e w' ⟨rfl, ⟨nd, rfl⟩⟩; (try first | exact ⟨rfl, _, World.drewN_drewN _ _ _⟩ | exact ⟨rfl, _, Eq.trans (World.drewN_drewN _ _ _) (congrArg (World.drewN _) (Nat.add_assoc _ _ _))⟩))); try go_wp2_with (first | (go_at_call 105; (with_reducible refine (impl_in.calls ji3 (-128) 127 true _ A11.out).mono ?_); rintro e w' ⟨rfl, ⟨nd, rfl⟩⟩; (try first | exact ⟨rfl, _, World.drewN_drewN _ _ _⟩ | exact ⟨rfl, _, Eq.trans (World.drewN_drewN _ _ _) (congrArg (World.drewN _) (Nat.add_assoc _ _ _))⟩))))
      go_meet
      case rel => exact ⟨_, (1), sq, H', ⟨by have := HK1.out; first | omega | exact Nat.le_refl _⟩, ⟨bq HB.out⟩⟩
    · rw [if_pos (by decide), show wrap64 (wrap64 (8 * 2) - 1) = 15 by decide +kernel, if_pos (by decide), show shl .i64 (-1) 15 = -32768 by decide +kernel, show wrap64 (shl .i64 1 15 - 1) = 32767 by decide +kernel] at H
      replace H := Option.bind_eq_some_iff.mp H
      obtain ⟨t117, A110, H⟩ := H
      have A11 := am A110
      clear A110
      cases t117
      · have H' : Aside0 (impl_PutInt.l0 k1 ji3 3 = some r) := ⟨by rw [if_neg (by decide), show wrap64 (2 + 1) = 3 by decide +kernel] at H; exact H⟩
        clear H
        go_wp2_with (first | (go_at_call 105; (with_reducible refine (impl_in.calls ji3 (-32768) 32767 false _ A11.out).mono ?_); rintro e w' ⟨rfl, ⟨nd, rfl⟩⟩; (try first | exact ⟨rfl, _, World.drewN_drewN _ _ _⟩ | exact ⟨rfl, _, Eq.trans (World.drewN_drewN _ _ _) (congrArg (World.drewN _) (Nat.add_assoc _ _ _))⟩)))
        repeat (go_quiet (first | (go_at_call 105; (with_reducible refine (impl_in.calls ji3 (-32768) 32767 false _ A11.out).mono ?_); rintro e w' ⟨rfl, ⟨nd, rfl⟩⟩; (try first | exact ⟨rfl, _, World.drewN_drewN _ _ _⟩ | exact ⟨rfl, _, Eq.trans (World.drewN_drewN _ _ _) (congrArg (World.drewN _) (Nat.add_assoc _ _ _))⟩))); try go_wp2_with (first | (go_at_call 105; (with_reducible refine (impl_in.calls ji3 (-32768) 32767 false _ A11.out).mono ?_); rintro e w' ⟨rfl, ⟨nd, rfl⟩⟩; (try first | exact ⟨rfl, _, World.drewN_drewN _ _ _⟩ | exact ⟨rfl, _, Eq.trans (World.drewN_drewN _ _ _) (congrArg (World.drewN _) (Nat.add_assoc _ _ _))⟩))))
        go_roundg k1
        case measure => have := HK1.out; omega
        case rel => exact ⟨(3), sq, by omega, by omega, H', ⟨by have := HK1.out; omega⟩, ⟨bq HB.out⟩⟩
      have H' : Aside0 (impl_PutInt.j1 k1 ji3 2 = some r) := ⟨by rw [if_pos rfl] at H; exact H⟩
      clear H
      go_wp2_with (first | (go_at_call 105; (with_reducible refine (impl_in.calls ji3 (-32768) 32767 true _ A11.out).mono ?_); rintro e w' ⟨rfl, ⟨nd, rfl⟩⟩; (try first | exact ⟨rfl, _, World.drewN_drewN _ _ _⟩ | exact ⟨rfl, _, Eq.trans (World.drewN_drewN _ _ _) (congrArg (World.drewN _) (Nat.add_assoc _ _ _))⟩)))
      repeat (go_quiet (first | (go_at_call 105; (with_reducible refine (impl_in.calls ji3 (-32768) 32767 true _ A11.out).mono ?_); rintro e w' ⟨rfl, ⟨nd, rfl⟩⟩; (try first | exact ⟨rfl, _, World.drewN_drewN _ _ _⟩ | exact ⟨rfl, _, Eq.trans (World.drewN_drewN _ _ _) (congrArg (World.drewN _) (Nat.add_assoc _ _ _))⟩))); try go_wp2_with (first | (go_at_call 105; (with_reducible refine (impl_in.calls ji3 (-32768) 32767 true _ A11.out).mono ?_); rintro e w' ⟨rfl, ⟨nd, rfl⟩⟩; (try first | exact ⟨rfl, _, World.drewN_drewN _ _ _⟩ | exact ⟨rfl, _, Eq.trans (World.drewN_drewN _ _ _) (congrArg (World.drewN _) (Nat.add_assoc _ _ _))⟩))))
      go_meet
      case rel => exact ⟨_, (2), sq, H', ⟨by have := HK1.out; first | omega | exact Nat.le_refl _⟩, ⟨bq HB.out⟩⟩
    · rw [if_pos (by decide), show wrap64 (wrap64 (8 * 3) - 1) = 23 by decide +kernel, if_pos (by decide), show shl .i64 (-1) 23 = -8388608 by decide +kernel, show wrap64 (shl .i64 1 23 - 1) = 8388607 by decide +kernel] at H
      replace H := Option.bind_eq_some_iff.mp H
      obtain ⟨t117, A110, H⟩ := H
      have A11 := am A110
      clear A110
      cases t117
      · have H' : Aside0 (impl_PutInt.l0 k1 ji3 4 = some r) := ⟨by rw [if_neg (by decide), show wrap64 (3 + 1) = 4 by decide +kernel] at H; exact H⟩
        clear H
        go_wp2_with (first | (go_at_call 105; (with_reducible refine (impl_in.calls ji3 (-8388608) 8388607 false _ A11.out).mono ?_); rintro e w' ⟨rfl, ⟨nd, rfl⟩⟩; (try first | exact ⟨rfl, _, World.drewN_drewN _ _ _⟩ | exact ⟨rfl, _, Eq.trans (World.drewN_drewN _ _ _) (congrArg (World.drewN _) (Nat.add_assoc _ _ _))⟩)))
        repeat (go_quiet (first | (go_at_call 105; (with_reducible refine (impl_in.calls ji3 (-8388608) 8388607 false _ A11.out).mono ?_); rintro e w' ⟨rfl, ⟨nd, rfl⟩⟩; (try first | exact ⟨rfl, _, World.drewN_drewN _ _ _⟩ | exact ⟨rfl, _, Eq.trans (World.drewN_drewN _ _ _) (congrArg (World.drewN _) (Nat.add_assoc _ _ _))⟩))); try go_wp2_with (first | (go_at_call 105; (with_reducible refine (impl_in.calls ji3 (-8388608) 8388607 false _ A11.out).mono ?_); rintro e w' ⟨rfl, ⟨nd, rfl⟩⟩; (try first | exact ⟨rfl, _, World.drewN_drewN _ _ _⟩ | exact ⟨rfl, _, Eq.trans (World.drewN_drewN _ _ _) (congrArg (World.drewN _) (Nat.add_assoc _ _ _))⟩))))
        go_roundg k1
        case measure => have := HK1.out; omega
        case rel => exact ⟨(4), sq, by omega, by omega, H', ⟨by have := HK1.out; omega⟩, ⟨bq HB.out⟩⟩
      have H' : Aside0 (impl_PutInt.j1 k1 ji3 3 = some r) := ⟨by rw [if_pos rfl] at H; exact H⟩
      clear H
      go_wp2_with (first | (go_at_call 105; (with_reducible refine (impl_in.calls ji3 (-8388608) 8388607 true _ A11.out).mono ?_); rintro e w' ⟨rfl, ⟨nd, rfl⟩⟩; (try first | exact ⟨rfl, _, World.drewN_drewN _ _ _⟩ | exact ⟨rfl, _, Eq.trans (World.drewN_drewN _ _ _) (congrArg (World.drewN _) (Nat.add_assoc _ _ _))⟩)))
      repeat (go_quiet (first | (go_at_call 105; (with_reducible refine (impl_in.calls ji3 (-8388608) 8388607 true _ A11.out).mono ?_); rintro e w' ⟨rfl, ⟨nd, rfl⟩⟩; (try first | exact ⟨rfl, _, World.drewN_drewN _ _ _⟩ | exact ⟨rfl, _, Eq.trans (World.drewN_drewN _ _ _) (congrArg (World.drewN _) (Nat.add_assoc _ _ _))⟩))); try go_wp2_with (first | (go_at_call 105; (with_reducible refine (impl_in.calls ji3 (-8388608) 8388607 true _ A11.out).mono ?_); rintro e w' ⟨rfl, ⟨nd, rfl⟩⟩; (try first | exact ⟨rfl, _, World.drewN_drewN _ _ _⟩ | exact ⟨rfl, _, Eq.trans (World.drewN_drewN _ _ _) (congrArg (World.drewN _) (Nat.add_assoc _ _ _))⟩))))
      go_meet
      case rel => exact ⟨_, (3), sq, H', ⟨by have := HK1.out; first | omega | exact Nat.le_refl _⟩, ⟨bq HB.out⟩⟩
    have H' : Aside0 (impl_PutInt.j1 k1 ji3 4 = some r) := ⟨by rw [if_neg (by decide)] at H; exact H⟩
    clear H
    go_wp2
    repeat (go_quiet (fail); try go_wp2)
    go_meet
    case rel => exact ⟨_, (4), sq, H', ⟨by have := HK1.out; first | omega | exact Nat.le_refl _⟩, ⟨bq HB.out⟩⟩
 case rest =>
  clear HC4
  try clear c1
  try clear p2
  try clear c5
  try clear c5b0
  try clear p6
  try clear c7
  try clear c7b0
  try clear c7b1
  try clear c9
  try clear c9b0
  try clear c12
  try clear p2
  obtain ⟨kq, x3_3, rfl, HA, HJ3, HB⟩ := hcut
  cases kq with
  | zero => exact absurd HA.out (by simp [impl_PutInt.j1])
  | succ kj3 =>
   have H := HA.out
   clear HA
   simp only [impl_PutInt.j1] at H
   have H' := am H
   clear H
   go_wp2
   repeat (go_quiet (fail); try go_wp2)
   go_loopg [4, 5] kj3 (fun kq v4 v5 w' => ∃ (x4_2 : List Int) (x5_2 : Int), v5 = .int .i64 x5_2 ∧ Aside0 (impl_PutInt.l1 kq ji3 x4_2 x5_2 = some r) ∧ Aside0 (kq ≤ kj3) ∧ Aside0 (Kd.R (Kd.int .u8) 5 w' w.heap.size (fun _ => True) v4 x4_2) ∧ Aside0 (Below w.heap.size w w'))
   case atStart => exact ⟨(([] : List Int)), (wrap64 (x3_3 - 1)), sq, H', ⟨Nat.le_refl _⟩, ⟨by first | exact Kd.R_nil _ _ _ _ _ | exact Kd.N_nil _ _ _ _ _ | exact Kd.V_nil _ _ _ _ _ | exact Kd.Q_nil _ _ _ _ _ | exact Kd.S_nil _ _ _ _ _⟩, ⟨bq HB.out⟩⟩
   case round =>
    clear H'
    try clear c1
    try clear p2
    try clear c5
    try clear c5b0
    try clear p6
    try clear c7
    try clear c7b0
    try clear c7b1
    try clear c9
    try clear c9b0
    try clear c12
    try clear p2
    try clear p6
    obtain ⟨x4_2, x5_2, rfl, HA, HK2, HO_4, HB⟩ := hrel
    cases gk with
    | zero => exact absurd HA.out (by simp [impl_PutInt.l1])
    | succ k2 =>
     have H := HA.out
     clear HA
     simp only [impl_PutInt.l1] at H
     by_cases c13 : x5_2 ≥ 0
     · rw [if_pos c13] at H
       have c13b0 : decide (0 ≤ x5_2) = true := decide_eq_true c13
       clear c13
       obtain ⟨ji14, hji14⟩ : ∃ j_ : Int, (wrap64 (8 * x5_2)) = j_ := ⟨_, rfl⟩
       replace H : (if 0 ≤ (ji14) then (if x4_2.length < 140737488355328 then (impl_PutInt.l1 k2 ji3 (x4_2 ++ [(shr .i64 ji3 (ji14)) % 256]) (wrap64 (x5_2 - 1))) else (none)) else (none)) = some r := by first | (rw [hji14] at H; exact H) | (simp only [hji14] at H ⊢; exact H)
       have hji14w : (IntKind.i64.wrap (8 * x5_2)) = ji14 := (i64_w _).trans hji14
       by_cases c15 : 0 ≤ (ji14)
       · rw [if_pos c15] at H
         have c15b0 := eq_true c15
         have c15b1 : decide (0 ≤ (ji14)) = true := decide_eq_true c15
         clear c15
         obtain ⟨ji16, hji16⟩ : ∃ j_ : Int, (shr .i64 ji3 (ji14)) = j_ := ⟨_, rfl⟩
         replace H : (if x4_2.length < 140737488355328 then (impl_PutInt.l1 k2 ji3 (x4_2 ++ [(ji16) % 256]) (wrap64 (x5_2 - 1))) else (none)) = some r := by first | (rw [hji16] at H; exact H) | (simp only [hji16] at H ⊢; exact H)
         have hji16_ : (ji3 / 2 ^ min (ji14).toNat 64) = ji16 := hji16
         have hji16z : (ji14) ≤ 64 → (ji3 / 2 ^ (ji14).toNat) = ji16 := shr_small hji16
         by_cases c17 : x4_2.length < 140737488355328
         · rw [if_pos c17] at H
           have LMc17 := am c17
           clear c17
           obtain ⟨y240, hy240⟩ : ∃ y_ : List Int, y_ = (x4_2 ++ [(ji16) % 256]) := ⟨_, rfl⟩
           replace H : (impl_PutInt.l1 k2 ji3 y240 (wrap64 (x5_2 - 1))) = some r := by first | (rw [hy240]; with_reducible exact H) | (have H2_ := (Option.bind_some _ _).symm.trans H; rw [hy240]; with_reducible exact H2_) | (have H2_ := (Option.bind_some _ _).symm.trans H; with_reducible exact H2_) | with_reducible exact H | (rw [hy240]; exact H) | exact H
           have Ny240 := am hy240
           clear hy240
           have H' := am H
           clear H
           go_wp2_with (first | ((with_reducible refine gate_builtin (b := .append) (xs := #[.tmp 33, .tmp 39]) rfl ?_); at_builtin; refine Kd.R_append (Kd.int .u8) (w0 := w) w.heap.size rfl (.tmp 33) (.tmp 39) 37 5 (.int .u8 0) 1 rfl Try.underlying37 info5 rfl (by decide) (by omega) u4 x4_2 ((ji16) % 256) [.int .u8 ((ji16) % 256)] (fun _ => True) (fun _ => False) rfl rfl ?aP (fun _ hk => hk.elim) ?aF ?aO ?aB ?aS ?aL ?_; (case aP => exact rfl); (case aB => exact (bq HB.out)); (case aF => exact (fun _ _ => trivial)); (case aO => exact (kqR HO_4.out)); (case aS => exact (below_size (bq HB.out))); (case aL => have := LMc17.out; omega); intro v241 w18 ho hb hg hat; rw [← Ny240.out] at ho; have n_ := ak2 hb ho; clear HB HO_4; obtain ⟨HB, HO242⟩ := n_; clear ho hb hg hat))
           repeat (go_quiet (first | ((with_reducible refine gate_builtin (b := .append) (xs := #[.tmp 33, .tmp 39]) rfl ?_); at_builtin; refine Kd.R_append (Kd.int .u8) (w0 := w) w.heap.size rfl (.tmp 33) (.tmp 39) 37 5 (.int .u8 0) 1 rfl Try.underlying37 info5 rfl (by decide) (by omega) u4 x4_2 ((ji16) % 256) [.int .u8 ((ji16) % 256)] (fun _ => True) (fun _ => False) rfl rfl ?aP (fun _ hk => hk.elim) ?aF ?aO ?aB ?aS ?aL ?_; (case aP => exact rfl); (case aB => exact (bq HB.out)); (case aF => exact (fun _ _ => trivial)); (case aO => exact (kqR HO_4.out)); (case aS => exact (below_size (bq HB.out))); (case aL => have := LMc17.out; omega); intro v241 w18 ho hb hg hat; rw [← Ny240.out] at ho; have n_ := ak2 hb ho; clear HB HO_4; obtain ⟨HB, HO242⟩ := n_; clear ho hb hg hat)); try go_wp2_with (first | ((with_reducible refine gate_builtin (b := .append) (xs := #[.tmp 33, .tmp 39]) rfl ?_); at_builtin; refine Kd.R_append (Kd.int .u8) (w0 := w) w.heap.size rfl (.tmp 33) (.tmp 39) 37 5 (.int .u8 0) 1 rfl Try.underlying37 info5 rfl (by decide) (by omega) u4 x4_2 ((ji16) % 256) [.int .u8 ((ji16) % 256)] (fun _ => True) (fun _ => False) rfl rfl ?aP (fun _ hk => hk.elim) ?aF ?aO ?aB ?aS ?aL ?_; (case aP => exact rfl); (case aB => exact (bq HB.out)); (case aF => exact (fun _ _ => trivial)); (case aO => exact (kqR HO_4.out)); (case aS => exact (below_size (bq HB.out))); (case aL => have := LMc17.out; omega); intro v241 w18 ho hb hg hat; rw [← Ny240.out] at ho; have n_ := ak2 hb ho; clear HB HO_4; obtain ⟨HB, HO242⟩ := n_; clear ho hb hg hat)))
           go_roundg k2
           case measure => have := HJ3.out; have := HK2.out; omega
           case rel => exact ⟨(y240), (wrap64 (x5_2 - 1)), sq, H', ⟨by have := HJ3.out; have := HK2.out; omega⟩, ⟨kqR HO242.out⟩, ⟨bq HB.out⟩⟩
         rw [if_neg c17] at H
         exact absurd H (by simp)
       rw [if_neg c15] at H
       exact absurd H (by simp)
     rw [if_neg c13] at H
     have c13b0 : decide (0 ≤ x5_2) = false := decide_eq_false c13
     clear c13
     obtain rfl := Option.some.inj H
     go_wp2
     repeat (go_quiet (fail); try go_wp2)
     go_ret
     exact ⟨_, by first | rfl | (simp [errW_none, errW_some] <;> rfl) | (simp only [← hji2, ← hji3]; first | rfl | (simp [errW_none, errW_some] <;> rfl)) | (simp [*, errW_none, errW_some] <;> rfl), kqR HO_4.out, bq HB.out⟩

/-! ### impl_GetInt: function 126 -/
def impl_GetInt.l0 : Nat → List Int → Int → List Int → Int → Int → Option (Int × Bool)
 | 0, _, _, _, _, _ => none
 | k + 1, x0, x4, x17, x18, x19 => if x19 < x18 then (if 0 ≤ x19 then (if x19 < (x17.length : Int) then (impl_GetInt.l0 k x0 (Go.bits .or .i64 (wrap64 (x4 * 256)) (wrap64 (rd x17 x19))) x17 x18 (wrap64 (x19 + 1))) else (none)) else (none)) else ((impl_PutInt.f k x4).bind fun t247 => (if (t247.length : Int) = (x0.length : Int) then (some (x4, true)) else (some (0, false))))
def impl_GetInt.f (k : Nat) (l0 : List Int) : Option (Int × Bool) := (impl_in.f (l0.length : Int) 1 4).bind fun t243 => (if t243 = true then (if 0 < (l0.length : Int) then (if 1 ≤ (l0.length : Int) then (impl_GetInt.l0 k l0 (wrap64 (IntKind.i8.wrap (rd l0 0))) (l0.drop 1) ((l0.drop 1).length : Int) 0) else (none)) else (none)) else (some (0, false)))
theorem impl_GetInt.mono_l : ∀ k, (∀ y0 y1 y2 y3 y4, LeO (impl_GetInt.l0 k y0 y1 y2 y3 y4) (impl_GetInt.l0 (k + 1) y0 y1 y2 y3 y4))
 | 0 => fun _ _ _ _ _ r h => by simp [impl_GetInt.l0] at h
 | k + 1 => by
  have ih0 := impl_GetInt.mono_l k
  intro y0 y1 y2 y3 y4
  unfold impl_GetInt.l0
  repeat' first
  | (with_reducible exact ih0 _ _ _ _ _)
  | (with_reducible exact impl_PutInt.mono _ _)
  | (with_reducible exact LeO.refl _)
  | (with_reducible exact LeO.none _)
  | (with_reducible refine LeO.ite ?_ ?_)
  | (with_reducible refine LeO.bind ?_ (fun _ => ?_))
  | exact ih0 _ _ _ _ _
  | exact impl_PutInt.mono _ _
  | exact LeO.none _
  | refine LeO.ite ?_ ?_
  | refine LeO.bind ?_ (fun _ => ?_)
theorem impl_GetInt.mono : ∀ a0 k, LeO (impl_GetInt.f k a0) (impl_GetInt.f (k + 1) a0) := by
 intro a0 k
 have ih0 := impl_GetInt.mono_l k
 unfold impl_GetInt.f
 repeat' first
  | (with_reducible exact ih0 _ _ _ _ _)
  | (with_reducible exact impl_PutInt.mono _ _)
  | (with_reducible exact LeO.refl _)
  | (with_reducible exact LeO.none _)
  | (with_reducible refine LeO.ite ?_ ?_)
  | (with_reducible refine LeO.bind ?_ (fun _ => ?_))
  | exact ih0 _ _ _ _ _
  | exact impl_PutInt.mono _ _
  | exact LeO.none _
  | refine LeO.ite ?_ ?_
  | refine LeO.bind ?_ (fun _ => ?_)
set_option maxHeartbeats 8000000 in
set_option maxRecDepth 100000 in
theorem impl_GetInt.calls (k : Nat) (A0 : Option Addr) (c0 : Nat) (l0 : List Int) (r1 : Int) (r2 : Bool) (w : World) (hr0 : Kd.C (Kd.int .u8) w A0 l0.length l0) (hc0 : l0.length ≤ c0) (h : impl_GetInt.f k l0 = some (r1, r2)) :
 Calls Try.prog 126 #[.slice A0 l0.length c0] w fun e w' => e = .returned (.tuple #[.int .i64 r1, .bool r2]) ∧ Below w.heap.size w w' := by
 have HR0 := am hr0
 have HC0 := am hc0
 clear hr0 hc0
 have HB := am (Below.refl w.heap.size w)
 have H : ((impl_in.f (l0.length : Int) 1 4).bind fun t243 => (if t243 = true then (if 0 < (l0.length : Int) then (if 1 ≤ (l0.length : Int) then (impl_GetInt.l0 k l0 (wrap64 (IntKind.i8.wrap (rd l0 0))) (l0.drop 1) ((l0.drop 1).length : Int) 0) else (none)) else (none)) else (some (0, false)))) = some (r1, r2) := h
 clear h
 replace H := Option.bind_eq_some_iff.mp H
 obtain ⟨t243, A20, H⟩ := H
 replace H : (if t243 = true then (if 0 < (l0.length : Int) then (if 1 ≤ (l0.length : Int) then (impl_GetInt.l0 k l0 (wrap64 (IntKind.i8.wrap (rd l0 0))) (l0.drop 1) ((l0.drop 1).length : Int) 0) else (none)) else (none)) else (some (0, false))) = some (r1, r2) := H
 have A2 := am A20
 clear A20
 by_cases c3 : t243 = true
 · subst c3
   have H1 : (if 0 < (l0.length : Int) then (if 1 ≤ (l0.length : Int) then (impl_GetInt.l0 k l0 (wrap64 (IntKind.i8.wrap (rd l0 0))) (l0.drop 1) ((l0.drop 1).length : Int) 0) else (none)) else (none)) = some (r1, r2) := by rw [if_pos rfl] at H; exact H
   clear H
   have H := H1
   clear H1
   by_cases c4 : 0 < (l0.length : Int)
   · rw [if_pos c4] at H
     have c4b0 : decide (0 < (l0.length : Int)) = true := decide_eq_true c4
     have c4b1 : decide (0 < l0.length) = true := decide_eq_true (by omega)
     clear c4
     by_cases c5 : 1 ≤ (l0.length : Int)
     · rw [if_pos c5] at H
       have c5b0 := eq_true c5
       have c5b1 : decide (1 ≤ (l0.length : Int)) = true := decide_eq_true c5
       clear c5
       have H' := am H
       clear H
       go_enter Try.func126, Try.ntmps126
       go_wp2_with (first | ((with_reducible refine gate_callee (f := 105) rfl ?_); refine goesL_ (some 9) rfl rfl Try.func105 (by kernel_rfl) rfl #[.int .i64 (l0.length : Int), .int .i64 1, .int .i64 4] rfl ga ?_; (with_reducible refine (impl_in.calls (l0.length : Int) 1 4 true _ A2.out).mono ?_); rintro e w' ⟨rfl, ⟨nd, rfl⟩⟩; refine ⟨_, rfl, ?_⟩; have p244 : 0 ≤ (0 : Int) := (by omega); have q244 : 0 < (l0.length : Int) := oda; obtain ⟨ad244, e244, hx244_0⟩ := Kd.at_int HR0.out 0 p244 q244; cases e244; have qi244 : (0 < l0.length) = True := eq_true (by omega); (try rw [show ((0 : Int)).toNat = 0 from rfl] at hx244_0); (try rw [Addr.add_zero'] at hx244_0); replace p244 := eq_true p244; replace q244 := eq_true q244; obtain ⟨i06, hi06, _, hsz6, _⟩ := info_parts info5; obtain ⟨A6, hcut6, hA6, hC6⟩ := print_drop_of (P := Try.prog) (Value.int .u8) 0 37 5 .i64 Try.underlying37 hi06 hsz6 (some ad244) c0 l0 1 (by omega) (oda) HC0.out; have HR245 := am (Kd.C_of_reads (h1 := fun _ => rfl) (hA6 _ (Kd.reads_of_C HR0.out))); have HC245 := am hC6; clear hA6 hC6 hi06 hsz6))
       go_loopg [4, 19] k (fun kq v4 v19 w' => ∃ (x4_1 : Int) (x19_1 : Int), v4 = .int .i64 x4_1 ∧ v19 = .int .i64 x19_1 ∧ Aside0 (impl_GetInt.l0 kq l0 x4_1 (l0.drop 1) ((l0.drop 1).length : Int) x19_1 = some (r1, r2)) ∧ Aside0 (kq ≤ k) ∧ Aside0 (Below w.heap.size w w'))
       case atStart => exact ⟨(wrap64 (IntKind.i8.wrap (rd l0 0))), (0), sq, sq, H', ⟨Nat.le_refl _⟩, ⟨bq HB.out⟩⟩
       case round =>
        clear H'
        try clear c1
        try clear p2
        try clear q2
        try clear hx2
        try clear qi2
        try clear c3
        try clear c4
        try clear c4b0
        try clear c4b1
        try clear c5
        try clear c5b0
        try clear c5b1
        try clear p6
        try clear hx244_0
        try clear p244
        try clear q244
        obtain ⟨x4_1, x19_1, rfl, rfl, HA, HK1, HB⟩ := hrel
        cases gk with
        | zero => exact absurd HA.out (by simp [impl_GetInt.l0])
        | succ k1 =>
         have H := HA.out
         clear HA
         simp only [impl_GetInt.l0] at H
         by_cases c7 : x19_1 < ((l0.drop 1).length : Int)
         · rw [if_pos c7] at H
           have c7b0 : decide (x19_1 < ((l0.drop 1).length : Int)) = true := decide_eq_true c7
           have c7b0z : decide (x19_1 < ((l0.length - 1 : Nat) : Int)) = true := by have h_ := c7b0; rw [List.length_drop] at h_; exact h_
           clear c7
           by_cases c8 : 0 ≤ x19_1
           · rw [if_pos c8] at H
             have c8b0 : decide (0 ≤ x19_1) = true := decide_eq_true c8
             clear c8
             by_cases c9 : x19_1 < ((l0.drop 1).length : Int)
             · rw [if_pos c9] at H
               have c9b0 : decide (x19_1 < ((l0.drop 1).length : Int)) = true := decide_eq_true c9
               have c9b0z : decide (x19_1 < ((l0.length - 1 : Nat) : Int)) = true := by have h_ := c9b0; rw [List.length_drop] at h_; exact h_
               clear c9
               have H' := am H
               clear H
               have p246 : 0 ≤ (x19_1 : Int) := oda
               have q246 : x19_1 < ((l0.drop 1).length : Int) := oda
               obtain ⟨ad246, e246, hx246_0⟩ := Kd.at_int HR245.out x19_1 p246 q246
               cases e246
               replace hx246_0 := (HB.out.cell (World.block_lt_of_cell? w _ hx246_0)).trans hx246_0
               replace p246 := eq_true p246
               replace q246 := eq_true q246
               have q246z : (x19_1 < ((l0.length - 1 : Nat) : Int)) = True := by have h_ := of_eq_true q246; rw [List.length_drop] at h_; exact eq_true h_
               go_wp2
               go_roundg k1
               case measure => have := HK1.out; omega
               case rel => exact ⟨(Go.bits .or .i64 (wrap64 (x4_1 * 256)) (wrap64 (rd (l0.drop 1) x19_1))), (wrap64 (x19_1 + 1)), sq, sq, H', ⟨by have := HK1.out; omega⟩, ⟨bq HB.out⟩⟩
             rw [if_neg c9] at H
             exact absurd H (by simp)
           rw [if_neg c8] at H
           exact absurd H (by simp)
         rw [if_neg c7] at H
         have c7b0 : decide (x19_1 < ((l0.drop 1).length : Int)) = false := decide_eq_false c7
         have c7b0z : decide (x19_1 < ((l0.length - 1 : Nat) : Int)) = false := by have h_ := c7b0; rw [List.length_drop] at h_; exact h_
         clear c7
         replace H := Option.bind_eq_some_iff.mp H
         obtain ⟨t247, A100, H⟩ := H
         replace H : (if (t247.length : Int) = (l0.length : Int) then (some (x4_1, true)) else (some (0, false))) = some (r1, r2) := H
         have A10 := am A100
         clear A100
         by_cases c11 : (t247.length : Int) = (l0.length : Int)
         · rw [if_pos c11] at H
           have c11b0 : ((t247.length : Int) == (l0.length : Int)) = true := beq_iff_eq.mpr c11
           have c11b1 : ((t247.length : Int) != (l0.length : Int)) = false := bne_eq_false_iff_eq.mpr c11
           have c11b2 : (t247.length == l0.length) = true := by first | simpa using c11 | (simp at c11 ⊢; omega)
           clear c11
           simp only [Option.some.injEq, Prod.mk.injEq] at H
           obtain ⟨rfl, rfl⟩ := H
           go_wp2_with (first | ((with_reducible refine gate_callee (f := 130) rfl ?_); refine goesL_ (some 30) rfl rfl Try.func130 (by kernel_rfl) rfl #[.int .i64 x4_1] rfl ga ?_; (with_reducible refine (impl_PutInt.calls k1 x4_1 t247 _ A10.out).mono ?_); rintro e w12 ⟨v248, rfl, ho0, hb⟩; refine ⟨_, rfl, ?_⟩; have n_ := ak2 (Kd.R_lower ho0 (below_size (bq HB.out))) (below_step (bq HB.out) hb); clear HB; obtain ⟨HO249, HB⟩ := n_; (try clear hb ho0); obtain ⟨Ao13, co13, eo13⟩ := Kd.R_slice HO249.out; subst eo13))
           go_ret2
           exact ⟨rq, bq HB.out⟩
         rw [if_neg c11] at H
         have c11b0 : ((t247.length : Int) == (l0.length : Int)) = false := beq_eq_false_iff_ne.mpr c11
         have c11b1 : ((t247.length : Int) != (l0.length : Int)) = true := bne_iff_ne.mpr c11
         have c11b2 : (t247.length == l0.length) = false := by first | simpa using c11 | (simp at c11 ⊢; omega)
         simp only [Option.some.injEq, Prod.mk.injEq] at H
         obtain ⟨rfl, rfl⟩ := H
         go_wp2_with (first | ((with_reducible refine gate_callee (f := 130) rfl ?_); refine goesL_ (some 30) rfl rfl Try.func130 (by kernel_rfl) rfl #[.int .i64 x4_1] rfl ga ?_; (with_reducible refine (impl_PutInt.calls k1 x4_1 t247 _ A10.out).mono ?_); rintro e w14 ⟨v248, rfl, ho0, hb⟩; refine ⟨_, rfl, ?_⟩; have n_ := ak2 (Kd.R_lower ho0 (below_size (bq HB.out))) (below_step (bq HB.out) hb); clear HB; obtain ⟨HO249, HB⟩ := n_; (try clear hb ho0); obtain ⟨Ao15, co15, eo15⟩ := Kd.R_slice HO249.out; subst eo15))
         go_ret2
         exact ⟨rq, bq HB.out⟩
     rw [if_neg c5] at H
     exact absurd H (by simp)
   rw [if_neg c4] at H
   exact absurd H (by simp)
 replace c3 := Bool.eq_false_iff.mpr c3
 subst c3
 have H1 : (some (0, false)) = some (r1, r2) := by rw [if_neg (show ¬ (false = true) by decide)] at H; exact H
 clear H
 have H := H1
 clear H1
 simp only [Option.some.injEq, Prod.mk.injEq] at H
 obtain ⟨rfl, rfl⟩ := H
 go_enter Try.func126, Try.ntmps126
 go_wp2_with (first | ((with_reducible refine gate_callee (f := 105) rfl ?_); refine goesL_ (some 9) rfl rfl Try.func105 (by kernel_rfl) rfl #[.int .i64 (l0.length : Int), .int .i64 1, .int .i64 4] rfl ga ?_; (with_reducible refine (impl_in.calls (l0.length : Int) 1 4 false _ A2.out).mono ?_); rintro e w' ⟨rfl, ⟨nd, rfl⟩⟩; refine ⟨_, rfl, ?_⟩))
 go_ret2
 exact ⟨rq, bq HB.out⟩

/-! ### impl_parts_num: function 91 -/
def impl_parts_num.f (k : Nat) (s0_0 : List Int) (s0_1 : Int) (s0_2 : Bool) (a1 : Int) : Option (Int × Int × Bool) := (impl_parts_part.f k s0_0 s0_1 s0_2 a1).bind fun bt250 => ((impl_GetInt.f k bt250.1).bind fun bt255 => (if bt250.2.2 = true then (some (bt255.1, bt250.2.1, true)) else (some (bt255.1, bt250.2.1, !bt255.2))))
theorem impl_parts_num.mono : ∀ a0 a1 a2 a3 k, LeO (impl_parts_num.f k a0 a1 a2 a3) (impl_parts_num.f (k + 1) a0 a1 a2 a3) := by
 intro a0 a1 a2 a3 k
 unfold impl_parts_num.f
 repeat' first
  | (with_reducible exact impl_GetInt.mono _ _)
  | (with_reducible exact impl_parts_part.mono _ _ _ _ _)
  | (with_reducible exact LeO.refl _)
  | (with_reducible exact LeO.none _)
  | (with_reducible refine LeO.ite ?_ ?_)
  | (with_reducible refine LeO.bind ?_ (fun _ => ?_))
  | exact impl_GetInt.mono _ _
  | exact impl_parts_part.mono _ _ _ _ _
  | exact LeO.none _
  | refine LeO.ite ?_ ?_
  | refine LeO.bind ?_ (fun _ => ?_)
set_option maxHeartbeats 8000000 in
set_option maxRecDepth 100000 in
theorem impl_parts_num.calls (k : Nat) (g : Nat) (s0_0 : List Int) (s0_1 : Int) (s0_2 : Bool) (a1 : Int) (r1 : Int) (r2 : Int) (r3 : Bool) (w0 w : World) (hI : IsS110 w0 w g s0_0 s0_1 s0_2) (hB : Below w0.heap.size w0 w) (h : impl_parts_num.f k s0_0 s0_1 s0_2 a1 = some (r1, r2, r3)) :
 Calls Try.prog 91 #[.pointer (some ⟨g, 0, none⟩), .int .i64 a1] w fun e w' => e = .returned (.int .i64 r1) ∧ IsS110 w0 w' g s0_0 r2 r3 ∧ Below w0.heap.size w0 w' ∧ KeepBut w w' g none := by
 have HI0 := am hI
 have HK := am (KeepBut.refl w g none)
 have HL := am hB.size
 clear hI
 have HW0 := am hB.size
 have HB := am hB
 clear hB
 have H : ((impl_parts_part.f k s0_0 s0_1 s0_2 a1).bind fun bt250 => ((impl_GetInt.f k bt250.1).bind fun bt255 => (if bt250.2.2 = true then (some (bt255.1, bt250.2.1, true)) else (some (bt255.1, bt250.2.1, !bt255.2))))) = some (r1, r2, r3) := h
 clear h
 replace H := Option.bind_eq_some_iff.mp H
 obtain ⟨⟨t250, t253, t254⟩, A30, H⟩ := H
 replace H : ((impl_GetInt.f k t250).bind fun bt255 => (if t254 = true then (some (bt255.1, t253, true)) else (some (bt255.1, t253, !bt255.2)))) = some (r1, r2, r3) := H
 have A3 := am A30
 clear A30
 replace H := Option.bind_eq_some_iff.mp H
 obtain ⟨⟨t255, t256⟩, A40, H⟩ := H
 replace H : (if t254 = true then (some (t255, t253, true)) else (some (t255, t253, !t256))) = some (r1, r2, r3) := H
 have A4 := am A40
 clear A40
 by_cases c5 : t254 = true
 · subst c5
   have H1 : (some (t255, t253, true)) = some (r1, r2, r3) := by rw [if_pos rfl] at H; exact H
   clear H
   have H := H1
   clear H1
   simp only [Option.some.injEq, Prod.mk.injEq] at H
   obtain ⟨rfl, rfl, rfl⟩ := H
   go_enter Try.func91, Try.ntmps91
   go_wp2_with (first | ((with_reducible refine gate_callee (f := 97) rfl ?_); refine goesL_ (some 10) rfl rfl Try.func97 (by kernel_rfl) rfl #[.pointer (some ⟨g, 0, none⟩), .int .i64 a1] rfl ga ?_; (with_reducible refine (impl_parts_part.calls k g s0_0 s0_1 s0_2 a1 t250 t253 true w0 _ ?side1 ?side2 A3.out).mono ?_); (case side1 => exact IsS110.q0 HI0.out); (case side2 => exact bq1 HB.out (IsS110.ge HI0.out)); rintro e w6 ⟨v251, rfl, ho0, hi, hb, hk⟩; refine ⟨_, rfl, ?_⟩; have n_ := ak4 (Kd.R_lower ho0 (keep_size (w := w) (g := g) (row := none) (kp0 HK.out))) (KeepBut.trans (kp0 HK.out) hk (.inl rfl)) hb hi; clear HK HB HI0; obtain ⟨HO252, HK, HB, HI0⟩ := n_; (try clear hb hk hi ho0); obtain ⟨Ao7, co7, eo7⟩ := Kd.R_slice HO252.out; subst eo7) | ((with_reducible refine gate_callee (f := 126) rfl ?_); refine goesL_ (some 11) rfl rfl Try.func126 (by kernel_rfl) rfl #[.slice Ao7 t250.length co7] rfl ga ?_; (with_reducible refine (impl_GetInt.calls k _ _ t250 t255 t256 _ ?side1 ?side2 A4.out).mono ?_); (case side1 => repeat (first | exact (Kd.R_reads' HO252.out).2.2 | (with_reducible refine Kd.C_alloc ?_ _) | (with_reducible refine Kd.C_drewN ?_ _) | (with_reducible refine Kd.C_drew ?_))); (case side2 => exact (Kd.R_reads' HO252.out).2.1); rintro e w8 ⟨rfl, hb⟩; refine ⟨_, rfl, ?_⟩; have n_ := ak4 (Kd.R_below (kqR HO252.out) hb) (IsS110.below (IsS110.q0 HI0.out) hb) (KeepBut.trans (kp0 HK.out) (KeepBut.of_below hb g none) (.inl rfl)) (below_step (bq1 HB.out (IsS110.ge HI0.out)) hb); clear HO252 HI0 HK HB; obtain ⟨HO252, HI0, HK, HB⟩ := n_; (try clear hb); obtain ⟨ASz9_0, cSz9_0, HGz9, hgz9, HSz9_0⟩ := HI0.out; have hcz9_0 := cellS110_0 HGz9; have hcz9_1 := cellS110_1 HGz9; have hcz9_2 := cellS110_2 HGz9; have hfz9_1 := blk_frozen HGz9 1; have hfz9_2 := blk_frozen HGz9 2; clear HGz9 hgz9))
   go_ret
   exact ⟨rq, IsS110.q0 HI0.out, bq1 HB.out (IsS110.ge HI0.out), kp0 HK.out⟩
 replace c5 := Bool.eq_false_iff.mpr c5
 subst c5
 have H1 : (some (t255, t253, !t256)) = some (r1, r2, r3) := by rw [if_neg (show ¬ (false = true) by decide)] at H; exact H
 clear H
 have H := H1
 clear H1
 simp only [Option.some.injEq, Prod.mk.injEq] at H
 obtain ⟨rfl, rfl, rfl⟩ := H
 go_enter Try.func91, Try.ntmps91
 go_wp2_with (first | ((with_reducible refine gate_callee (f := 97) rfl ?_); refine goesL_ (some 10) rfl rfl Try.func97 (by kernel_rfl) rfl #[.pointer (some ⟨g, 0, none⟩), .int .i64 a1] rfl ga ?_; (with_reducible refine (impl_parts_part.calls k g s0_0 s0_1 s0_2 a1 t250 t253 false w0 _ ?side1 ?side2 A3.out).mono ?_); (case side1 => exact IsS110.q0 HI0.out); (case side2 => exact bq1 HB.out (IsS110.ge HI0.out)); rintro e w10 ⟨v251, rfl, ho0, hi, hb, hk⟩; refine ⟨_, rfl, ?_⟩; have n_ := ak4 (Kd.R_lower ho0 (keep_size (w := w) (g := g) (row := none) (kp0 HK.out))) (KeepBut.trans (kp0 HK.out) hk (.inl rfl)) hb hi; clear HK HB HI0; obtain ⟨HO252, HK, HB, HI0⟩ := n_; (try clear hb hk hi ho0); obtain ⟨Ao11, co11, eo11⟩ := Kd.R_slice HO252.out; subst eo11) | ((with_reducible refine gate_callee (f := 126) rfl ?_); refine goesL_ (some 11) rfl rfl Try.func126 (by kernel_rfl) rfl #[.slice Ao11 t250.length co11] rfl ga ?_; (with_reducible refine (impl_GetInt.calls k _ _ t250 t255 t256 _ ?side1 ?side2 A4.out).mono ?_); (case side1 => repeat (first | exact (Kd.R_reads' HO252.out).2.2 | (with_reducible refine Kd.C_alloc ?_ _) | (with_reducible refine Kd.C_drewN ?_ _) | (with_reducible refine Kd.C_drew ?_))); (case side2 => exact (Kd.R_reads' HO252.out).2.1); rintro e w12 ⟨rfl, hb⟩; refine ⟨_, rfl, ?_⟩; have n_ := ak4 (Kd.R_below (kqR HO252.out) hb) (IsS110.below (IsS110.q0 HI0.out) hb) (KeepBut.trans (kp0 HK.out) (KeepBut.of_below hb g none) (.inl rfl)) (below_step (bq1 HB.out (IsS110.ge HI0.out)) hb); clear HO252 HI0 HK HB; obtain ⟨HO252, HI0, HK, HB⟩ := n_; (try clear hb); obtain ⟨ASz13_0, cSz13_0, HGz13, hgz13, HSz13_0⟩ := HI0.out; have hcz13_0 := cellS110_0 HGz13; have hcz13_1 := cellS110_1 HGz13; have hcz13_2 := cellS110_2 HGz13; have hfz13_1 := blk_frozen HGz13 1; have hfz13_2 := blk_frozen HGz13 2; clear HGz13 hgz13))
 go_ret
 exact ⟨rq, IsS110.q0 HI0.out, bq1 HB.out (IsS110.ge HI0.out), kp0 HK.out⟩

/-! ### impl_parts_done: function 92 -/
def impl_parts_done.f (s0_0 : List Int) (s0_1 : Int) (s0_2 : Bool) : Option (Bool × Int × Bool) := if s0_2 = true then (some (false, s0_1, s0_2)) else (some ((s0_1 == (s0_0.length : Int)), s0_1, s0_2))
set_option maxHeartbeats 8000000 in
set_option maxRecDepth 100000 in
theorem impl_parts_done.calls (g : Nat) (s0_0 : List Int) (s0_1 : Int) (s0_2 : Bool) (r1 : Bool) (r2 : Int) (r3 : Bool) (w0 w : World) (hI : IsS110 w0 w g s0_0 s0_1 s0_2) (hB : Below w0.heap.size w0 w) (h : impl_parts_done.f s0_0 s0_1 s0_2 = some (r1, r2, r3)) :
 Calls Try.prog 92 #[.pointer (some ⟨g, 0, none⟩)] w fun e w' => e = .returned (.bool r1) ∧ IsS110 w0 w' g s0_0 r2 r3 ∧ Below w0.heap.size w0 w' ∧ KeepBut w w' g none := by
 have HI0 := am hI
 have HK := am (KeepBut.refl w g none)
 have HL := am hB.size
 clear hI
 have HW0 := am hB.size
 have HB := am hB
 clear hB
 have H : (if s0_2 = true then (some (false, s0_1, s0_2)) else (some ((s0_1 == (s0_0.length : Int)), s0_1, s0_2))) = some (r1, r2, r3) := h
 clear h
 by_cases c2 : s0_2 = true
 · subst c2
   have H1 : (some (false, s0_1, true)) = some (r1, r2, r3) := by rw [if_pos rfl] at H; exact H
   clear H
   have H := H1
   clear H1
   simp only [Option.some.injEq, Prod.mk.injEq] at H
   obtain ⟨rfl, rfl, rfl⟩ := H
   obtain ⟨ASz3_0, cSz3_0, HGz3, hgz3, HSz3_0⟩ := HI0.out
   have hcz3_0 := cellS110_0 HGz3
   have hcz3_1 := cellS110_1 HGz3
   have hcz3_2 := cellS110_2 HGz3
   have hfz3_1 := blk_frozen HGz3 1
   have hfz3_2 := blk_frozen HGz3 2
   clear HGz3 hgz3
   go_enter Try.func92, Try.ntmps92
   go_wp2
   repeat (go_quiet (fail); try go_wp2)
   go_ret
   exact ⟨rq, IsS110.q0 HI0.out, bq1 HB.out (IsS110.ge HI0.out), kp0 HK.out⟩
 replace c2 := Bool.eq_false_iff.mpr c2
 subst c2
 have H1 : (some ((s0_1 == (s0_0.length : Int)), s0_1, false)) = some (r1, r2, r3) := by rw [if_neg (show ¬ (false = true) by decide)] at H; exact H
 clear H
 have H := H1
 clear H1
 simp only [Option.some.injEq, Prod.mk.injEq] at H
 obtain ⟨rfl, rfl, rfl⟩ := H
 obtain ⟨ASz4_0, cSz4_0, HGz4, hgz4, HSz4_0⟩ := HI0.out
 have hcz4_0 := cellS110_0 HGz4
 have hcz4_1 := cellS110_1 HGz4
 have hcz4_2 := cellS110_2 HGz4
 have hfz4_1 := blk_frozen HGz4 1
 have hfz4_2 := blk_frozen HGz4 2
 clear HGz4 hgz4
 go_enter Try.func92, Try.ntmps92
 go_wp2
 repeat (go_quiet (fail); try go_wp2)
 go_ret
 exact ⟨rq, IsS110.q0 HI0.out, bq1 HB.out (IsS110.ge HI0.out), kp0 HK.out⟩

/-! ### impl_tlv: function 134 -/
def impl_tlv.j0 : Nat → Int → List Int → Bool → Option (List Int × Bool)
 | 0, _, _, _ => none
 | k + 1, x0, x1, x14 => if x14 = true then (some (([] : List Int), false)) else ((some (([(x0) % 256] : List Int) : List Int)).bind fun y258 => (if (x1.length : Int) ≥ 128 then (if y258.length < 140737488355328 then ((some (y258 ++ [129] : List Int)).bind fun y261 => (if y261.length < 140737488355328 then ((some (y261 ++ [((x1.length : Int)) % 256] : List Int)).bind fun y264 => (if y264.length + x1.length < 140737488355328 then (some ((y264 ++ x1), true)) else (none))) else (none))) else (none)) else (if y258.length < 140737488355328 then ((some (y258 ++ [((x1.length : Int)) % 256] : List Int)).bind fun y270 => (if y270.length + x1.length < 140737488355328 then (some ((y270 ++ x1), true)) else (none))) else (none))))
def impl_tlv.f (k : Nat) (a0 : Int) (l1 : List Int) : Option (List Int × Bool) := (impl_in.f a0 0 255).bind fun t257 => (if t257 = true then (impl_tlv.j0 k a0 l1 (decide ((l1.length : Int) > 250))) else (impl_tlv.j0 k a0 l1 true))
theorem impl_tlv.mono_l : ∀ k, (∀ y0 y1 y2, LeO (impl_tlv.j0 k y0 y1 y2) (impl_tlv.j0 (k + 1) y0 y1 y2))
 | 0 => fun _ _ _ r h => by simp [impl_tlv.j0] at h
 | k + 1 => by
  have ih0 := impl_tlv.mono_l k
  intro y0 y1 y2
  unfold impl_tlv.j0
  repeat' first
  | (with_reducible exact ih0 _ _ _)
  | (with_reducible exact LeO.refl _)
  | (with_reducible exact LeO.none _)
  | (with_reducible refine LeO.ite ?_ ?_)
  | (with_reducible refine LeO.bind ?_ (fun _ => ?_))
  | exact ih0 _ _ _
  | exact LeO.none _
  | refine LeO.ite ?_ ?_
  | refine LeO.bind ?_ (fun _ => ?_)
theorem impl_tlv.mono : ∀ a0 a1 k, LeO (impl_tlv.f k a0 a1) (impl_tlv.f (k + 1) a0 a1) := by
 intro a0 a1 k
 have ih0 := impl_tlv.mono_l k
 unfold impl_tlv.f
 repeat' first
  | (with_reducible exact ih0 _ _ _)
  | (with_reducible exact LeO.refl _)
  | (with_reducible exact LeO.none _)
  | (with_reducible refine LeO.ite ?_ ?_)
  | (with_reducible refine LeO.bind ?_ (fun _ => ?_))
  | exact ih0 _ _ _
  | exact LeO.none _
  | refine LeO.ite ?_ ?_
  | refine LeO.bind ?_ (fun _ => ?_)
set_option maxHeartbeats 8000000 in
set_option maxRecDepth 100000 in
theorem impl_tlv.calls (k : Nat) (a0 : Int) (A1 : Option Addr) (c1 : Nat) (l1 : List Int) (r1 : List Int) (r2 : Bool) (w : World) (hr1 : Kd.C (Kd.int .u8) w A1 l1.length l1) (hc1 : l1.length ≤ c1) (h : impl_tlv.f k a0 l1 = some (r1, r2)) :
 Calls Try.prog 134 #[.int .i64 a0, .slice A1 l1.length c1] w fun e w' => ∃ v0_ : Value, e = .returned (.tuple #[v0_, .bool r2]) ∧ Kd.R (Kd.int .u8) 5 w' w.heap.size (fun _ => True) v0_ r1 ∧ Below w.heap.size w w' := by
 have HR1 := am hr1
 have HC1 := am hc1
 clear hr1 hc1
 have HB := am (Below.refl w.heap.size w)
 have H : ((impl_in.f a0 0 255).bind fun t257 => (if t257 = true then (impl_tlv.j0 k a0 l1 (decide ((l1.length : Int) > 250))) else (impl_tlv.j0 k a0 l1 true))) = some (r1, r2) := h
 clear h
 have HC3 := am H
 clear H
 go_enter Try.func134, Try.ntmps134
 go_upto_region 1 with (fail)
 go_cut [14] (fun v14 wc => ∃ (kq : Nat) (x14_2 : Bool), v14 = .bool x14_2 ∧ Aside0 (impl_tlv.j0 kq a0 l1 x14_2 = some (r1, r2)) ∧ Aside0 (kq ≤ k) ∧ Aside0 (Below w.heap.size w wc))
 case first =>
  have H := HC3.out
  clear HC3
  replace H := Option.bind_eq_some_iff.mp H
  obtain ⟨t257, A40, H⟩ := H
  replace H : (if t257 = true then (impl_tlv.j0 k a0 l1 (decide ((l1.length : Int) > 250))) else (impl_tlv.j0 k a0 l1 true)) = some (r1, r2) := H
  have A4 := am A40
  clear A40
  by_cases c5 : t257 = true
  · subst c5
    have H1 : (impl_tlv.j0 k a0 l1 (decide ((l1.length : Int) > 250))) = some (r1, r2) := by rw [if_pos rfl] at H; exact H
    clear H
    have H := H1
    clear H1
    have H' := am H
    clear H
    go_wp2_with (first | ((with_reducible refine gate_callee (f := 105) rfl ?_); refine goesL_ (some 8) rfl rfl Try.func105 (by kernel_rfl) rfl #[.int .i64 a0, .int .i64 0, .int .i64 255] rfl ga ?_; (with_reducible refine (impl_in.calls a0 0 255 true _ A4.out).mono ?_); rintro e w' ⟨rfl, ⟨nd, rfl⟩⟩; refine ⟨_, rfl, ?_⟩))
    go_meet
    case rel => exact ⟨_, (decide ((l1.length : Int) > 250)), sq, H', ⟨by first | omega | exact Nat.le_refl _⟩, ⟨bq HB.out⟩⟩
  replace c5 := Bool.eq_false_iff.mpr c5
  subst c5
  have H1 : (impl_tlv.j0 k a0 l1 true) = some (r1, r2) := by rw [if_neg (show ¬ (false = true) by decide)] at H; exact H
  clear H
  have H := H1
  clear H1
  have H' := am H
  clear H
  go_wp2_with (first | ((with_reducible refine gate_callee (f := 105) rfl ?_); refine goesL_ (some 8) rfl rfl Try.func105 (by kernel_rfl) rfl #[.int .i64 a0, .int .i64 0, .int .i64 255] rfl ga ?_; (with_reducible refine (impl_in.calls a0 0 255 false _ A4.out).mono ?_); rintro e w' ⟨rfl, ⟨nd, rfl⟩⟩; refine ⟨_, rfl, ?_⟩))
  go_meet
  case rel => exact ⟨_, (true), sq, H', ⟨by first | omega | exact Nat.le_refl _⟩, ⟨bq HB.out⟩⟩
 case rest =>
  clear HC3
  try clear c1
  try clear p2
  try clear c5
  obtain ⟨kq, x14_2, rfl, HA, HJ2, HB⟩ := hcut
  cases kq with
  | zero => exact absurd HA.out (by simp [impl_tlv.j0])
  | succ kj2 =>
   have H := HA.out
   clear HA
   simp only [impl_tlv.j0] at H
   by_cases c6 : x14_2 = true
   · subst c6
     have H1 : (some (([] : List Int), false)) = some (r1, r2) := by rw [if_pos rfl] at H; exact H
     clear H
     have H := H1
     clear H1
     simp only [Option.some.injEq, Prod.mk.injEq] at H
     obtain ⟨rfl, rfl⟩ := H
     go_wp2
     go_ret2
     exact ⟨_, rq, by first | exact Kd.R_nil _ _ _ _ _ | exact Kd.N_nil _ _ _ _ _ | exact Kd.V_nil _ _ _ _ _ | exact Kd.Q_nil _ _ _ _ _ | exact Kd.S_nil _ _ _ _ _, bq HB.out⟩
   replace c6 := Bool.eq_false_iff.mpr c6
   subst c6
   have H1 : ((some (([(a0) % 256] : List Int) : List Int)).bind fun y258 => (if (l1.length : Int) ≥ 128 then (if y258.length < 140737488355328 then ((some (y258 ++ [129] : List Int)).bind fun y261 => (if y261.length < 140737488355328 then ((some (y261 ++ [((l1.length : Int)) % 256] : List Int)).bind fun y264 => (if y264.length + l1.length < 140737488355328 then (some ((y264 ++ l1), true)) else (none))) else (none))) else (none)) else (if y258.length < 140737488355328 then ((some (y258 ++ [((l1.length : Int)) % 256] : List Int)).bind fun y270 => (if y270.length + l1.length < 140737488355328 then (some ((y270 ++ l1), true)) else (none))) else (none)))) = some (r1, r2) := by rw [if_neg (show ¬ (false = true) by decide)] at H; exact H
   clear H
   have H := H1
   clear H1
   obtain ⟨y258, hy258⟩ : ∃ y_ : List Int, y_ = (([(a0) % 256] : List Int)) := ⟨_, rfl⟩
   replace H : (if (l1.length : Int) ≥ 128 then (if y258.length < 140737488355328 then ((some (y258 ++ [129] : List Int)).bind fun y261 => (if y261.length < 140737488355328 then ((some (y261 ++ [((l1.length : Int)) % 256] : List Int)).bind fun y264 => (if y264.length + l1.length < 140737488355328 then (some ((y264 ++ l1), true)) else (none))) else (none))) else (none)) else (if y258.length < 140737488355328 then ((some (y258 ++ [((l1.length : Int)) % 256] : List Int)).bind fun y270 => (if y270.length + l1.length < 140737488355328 then (some ((y270 ++ l1), true)) else (none))) else (none))) = some (r1, r2) := by first | (rw [hy258]; with_reducible exact H) | (have H2_ := (Option.bind_some _ _).symm.trans H; rw [hy258]; with_reducible exact H2_) | (have H2_ := (Option.bind_some _ _).symm.trans H; with_reducible exact H2_) | with_reducible exact H | (rw [hy258]; exact H) | exact H
   have Ny258 := am hy258
   clear hy258
   by_cases c7 : (l1.length : Int) ≥ 128
   · rw [if_pos c7] at H
     have c7b0 : decide (128 ≤ (l1.length : Int)) = true := decide_eq_true c7
     have c7b1 : decide (128 ≤ l1.length) = true := decide_eq_true (by omega)
     clear c7
     by_cases c8 : y258.length < 140737488355328
     · rw [if_pos c8] at H
       have LMc8 := am c8
       clear c8
       obtain ⟨y261, hy261⟩ : ∃ y_ : List Int, y_ = (y258 ++ [129]) := ⟨_, rfl⟩
       replace H : (if y261.length < 140737488355328 then ((some (y261 ++ [((l1.length : Int)) % 256] : List Int)).bind fun y264 => (if y264.length + l1.length < 140737488355328 then (some ((y264 ++ l1), true)) else (none))) else (none)) = some (r1, r2) := by first | (rw [hy261]; with_reducible exact H) | (have H2_ := (Option.bind_some _ _).symm.trans H; rw [hy261]; with_reducible exact H2_) | (have H2_ := (Option.bind_some _ _).symm.trans H; with_reducible exact H2_) | with_reducible exact H | (rw [hy261]; exact H) | exact H
       have Ny261 := am hy261
       clear hy261
       by_cases c9 : y261.length < 140737488355328
       · rw [if_pos c9] at H
         have LMc9 := am c9
         clear c9
         obtain ⟨y264, hy264⟩ : ∃ y_ : List Int, y_ = (y261 ++ [((l1.length : Int)) % 256]) := ⟨_, rfl⟩
         replace H : (if y264.length + l1.length < 140737488355328 then (some ((y264 ++ l1), true)) else (none)) = some (r1, r2) := by first | (rw [hy264]; with_reducible exact H) | (have H2_ := (Option.bind_some _ _).symm.trans H; rw [hy264]; with_reducible exact H2_) | (have H2_ := (Option.bind_some _ _).symm.trans H; with_reducible exact H2_) | with_reducible exact H | (rw [hy264]; exact H) | exact H
         have Ny264 := am hy264
         clear hy264
         by_cases c10 : y264.length + l1.length < 140737488355328
         · rw [if_pos c10] at H
           have LMc10 := am c10
           clear c10
           obtain ⟨y267, hy267⟩ : ∃ y_ : List Int, y_ = (y264 ++ l1) := ⟨_, rfl⟩
           replace H : (some (y267, true)) = some (r1, r2) := by first | (rw [hy267]; with_reducible exact H) | (have H2_ := (Option.bind_some _ _).symm.trans H; rw [hy267]; with_reducible exact H2_) | (have H2_ := (Option.bind_some _ _).symm.trans H; with_reducible exact H2_) | with_reducible exact H | (rw [hy267]; exact H) | exact H
           have Ny267 := am hy267
           clear hy267
           simp only [Option.some.injEq, Prod.mk.injEq] at H
           obtain ⟨rfl, rfl⟩ := H
           go_wp2_with (first | ((with_reducible refine gate_dst (N := 17) rfl ?_); (try (refine gate_guard (by rfl) ?_; dsimp only)); refine Kd.R_lit (Kd.int .u8) _ 5 ?hg (N := 17) ?hd (xs := ([(a0) % 256] : List Int)) (inner := [.int .u8 ((a0) % 256)]) (ok := fun _ => True) (okp := fun _ => True) ?hr ?hp (fun _ hk => hk) trivial (Below.refl _ _) (Nat.le_refl _) (by simp) ?_; (case hd => rfl); (case hg => rfl); (case hr => exact gs); (case hp => exact (Reps.one (show Kd.M (Kd.int .u8) _ _ _ ((a0) % 256) [.int .u8 ((a0) % 256)] from rfl) (Reps.none _ _))); intro v259 w11 ho12 hb hg_ hnew_; clear hg_ hnew_; (first | rw [← Ny258.out] at ho12 | (simp only [Int.reduceToNat] at ho12; rw [← Ny258.out] at ho12)); have n_ := ak2 (Kd.R_lower ho12 (below_size (bq HB.out))) (below_step (bq HB.out) hb); clear HB; obtain ⟨HO260, HB⟩ := n_; clear hb ho12) | ((with_reducible refine gate_builtin (b := .append) (xs := #[.tmp 21, .tmp 22]) rfl ?_); (try (refine gate_guard (by rfl) ?_; dsimp only)); at_builtin; refine Kd.R_append (Kd.int .u8) (w0 := w) w.heap.size rfl (.tmp 21) (.tmp 22) 37 5 (.int .u8 0) 1 rfl Try.underlying37 info5 rfl (by decide) (by omega) v259 y258 129 [.int .u8 129] (fun _ => True) (fun _ => False) rfl rfl ?aP (fun _ hk => hk.elim) ?aF ?aO ?aB ?aS ?aL ?_; (case aP => exact rfl); (case aB => exact (bq HB.out)); (case aF => exact (fun _ _ => trivial)); (case aO => exact (kqR HO260.out)); (case aS => exact (below_size (bq HB.out))); (case aL => have := LMc8.out; omega); intro v262 w13 ho hb hg hat; rw [← Ny261.out] at ho; have n_ := ak2 hb ho; clear HB HO260; obtain ⟨HB, HO263⟩ := n_; clear ho hb hg hat) | ((with_reducible refine gate_builtin (b := .append) (xs := #[.tmp 24, .tmp 28]) rfl ?_); (try (refine gate_guard (by rfl) ?_; dsimp only)); at_builtin; refine Kd.R_append (Kd.int .u8) (w0 := w) w.heap.size rfl (.tmp 24) (.tmp 28) 37 5 (.int .u8 0) 1 rfl Try.underlying37 info5 rfl (by decide) (by omega) v262 y261 (((l1.length : Int)) % 256) [.int .u8 (((l1.length : Int)) % 256)] (fun _ => True) (fun _ => False) rfl rfl ?aP (fun _ hk => hk.elim) ?aF ?aO ?aB ?aS ?aL ?_; (case aP => exact rfl); (case aB => exact (bq HB.out)); (case aF => exact (fun _ _ => trivial)); (case aO => exact (kqR HO263.out)); (case aS => exact (below_size (bq HB.out))); (case aL => have := LMc9.out; omega); intro v265 w14 ho hb hg hat; rw [← Ny264.out] at ho; have n_ := ak2 hb ho; clear HB HO263; obtain ⟨HB, HO266⟩ := n_; clear ho hb hg hat) | ((with_reducible refine gate_builtin (b := .append) (xs := #[.tmp 29, .tmp 30]) rfl ?_); (try (refine gate_guard (by rfl) ?_; dsimp only)); at_builtin; refine Kd.R_append_rows (Kd.int .u8) (w0 := w) w.heap.size rfl (.tmp 29) (.tmp 30) 37 5 (.int .u8 0) 1 rfl Try.underlying37 info5 rfl (by decide) (by omega) v265 y264 l1 _ _ _ (fun _ => True) (fun _ => False) rfl rfl ?aO ?aR (fun _ _ h => h) (fun _ h => h.elim) ?aF ?aB ?aS ?aL ?_; (case aR => exact cq (Kd.C_below HR1.out HB.out)); (case aB => exact (bq HB.out)); (case aF => exact (fun _ _ => trivial)); (case aO => exact (kqR HO266.out)); (case aS => exact (below_size (bq HB.out))); (case aL => have := LMc10.out; omega); intro v268 w15 ho hb hg hat; rw [← Ny267.out] at ho; have n_ := ak2 hb ho; clear HB HO266; obtain ⟨HB, HO269⟩ := n_; clear ho hb hg hat))
           go_ret2
           exact ⟨_, rq, kqR HO269.out, bq HB.out⟩
         rw [if_neg c10] at H
         exact absurd H (by simp)
       rw [if_neg c9] at H
       exact absurd H (by simp)
     rw [if_neg c8] at H
     exact absurd H (by simp)
   rw [if_neg c7] at H
   have c7b0 : decide (128 ≤ (l1.length : Int)) = false := decide_eq_false c7
   have c7b1 : decide (128 ≤ l1.length) = false := decide_eq_false (by omega)
   clear c7
   by_cases c16 : y258.length < 140737488355328
   · rw [if_pos c16] at H
     have LMc16 := am c16
     clear c16
     obtain ⟨y270, hy270⟩ : ∃ y_ : List Int, y_ = (y258 ++ [((l1.length : Int)) % 256]) := ⟨_, rfl⟩
     replace H : (if y270.length + l1.length < 140737488355328 then (some ((y270 ++ l1), true)) else (none)) = some (r1, r2) := by first | (rw [hy270]; with_reducible exact H) | (have H2_ := (Option.bind_some _ _).symm.trans H; rw [hy270]; with_reducible exact H2_) | (have H2_ := (Option.bind_some _ _).symm.trans H; with_reducible exact H2_) | with_reducible exact H | (rw [hy270]; exact H) | exact H
     have Ny270 := am hy270
     clear hy270
     by_cases c17 : y270.length + l1.length < 140737488355328
     · rw [if_pos c17] at H
       have LMc17 := am c17
       clear c17
       obtain ⟨y273, hy273⟩ : ∃ y_ : List Int, y_ = (y270 ++ l1) := ⟨_, rfl⟩
       replace H : (some (y273, true)) = some (r1, r2) := by first | (rw [hy273]; with_reducible exact H) | (have H2_ := (Option.bind_some _ _).symm.trans H; rw [hy273]; with_reducible exact H2_) | (have H2_ := (Option.bind_some _ _).symm.trans H; with_reducible exact H2_) | with_reducible exact H | (rw [hy273]; exact H) | exact H
       have Ny273 := am hy273
       clear hy273
       simp only [Option.some.injEq, Prod.mk.injEq] at H
       obtain ⟨rfl, rfl⟩ := H
       go_wp2_with (first | ((with_reducible refine gate_dst (N := 17) rfl ?_); (try (refine gate_guard (by rfl) ?_; dsimp only)); refine Kd.R_lit (Kd.int .u8) _ 5 ?hg (N := 17) ?hd (xs := ([(a0) % 256] : List Int)) (inner := [.int .u8 ((a0) % 256)]) (ok := fun _ => True) (okp := fun _ => True) ?hr ?hp (fun _ hk => hk) trivial (Below.refl _ _) (Nat.le_refl _) (by simp) ?_; (case hd => rfl); (case hg => rfl); (case hr => exact gs); (case hp => exact (Reps.one (show Kd.M (Kd.int .u8) _ _ _ ((a0) % 256) [.int .u8 ((a0) % 256)] from rfl) (Reps.none _ _))); intro v259 w18 ho19 hb hg_ hnew_; clear hg_ hnew_; (first | rw [← Ny258.out] at ho19 | (simp only [Int.reduceToNat] at ho19; rw [← Ny258.out] at ho19)); have n_ := ak2 (Kd.R_lower ho19 (below_size (bq HB.out))) (below_step (bq HB.out) hb); clear HB; obtain ⟨HO260, HB⟩ := n_; clear hb ho19) | ((with_reducible refine gate_builtin (b := .append) (xs := #[.tmp 24, .tmp 28]) rfl ?_); (try (refine gate_guard (by rfl) ?_; dsimp only)); at_builtin; refine Kd.R_append (Kd.int .u8) (w0 := w) w.heap.size rfl (.tmp 24) (.tmp 28) 37 5 (.int .u8 0) 1 rfl Try.underlying37 info5 rfl (by decide) (by omega) v259 y258 (((l1.length : Int)) % 256) [.int .u8 (((l1.length : Int)) % 256)] (fun _ => True) (fun _ => False) rfl rfl ?aP (fun _ hk => hk.elim) ?aF ?aO ?aB ?aS ?aL ?_; (case aP => exact rfl); (case aB => exact (bq HB.out)); (case aF => exact (fun _ _ => trivial)); (case aO => exact (kqR HO260.out)); (case aS => exact (below_size (bq HB.out))); (case aL => have := LMc16.out; omega); intro v271 w20 ho hb hg hat; rw [← Ny270.out] at ho; have n_ := ak2 hb ho; clear HB HO260; obtain ⟨HB, HO272⟩ := n_; clear ho hb hg hat) | ((with_reducible refine gate_builtin (b := .append) (xs := #[.tmp 29, .tmp 30]) rfl ?_); (try (refine gate_guard (by rfl) ?_; dsimp only)); at_builtin; refine Kd.R_append_rows (Kd.int .u8) (w0 := w) w.heap.size rfl (.tmp 29) (.tmp 30) 37 5 (.int .u8 0) 1 rfl Try.underlying37 info5 rfl (by decide) (by omega) v271 y270 l1 _ _ _ (fun _ => True) (fun _ => False) rfl rfl ?aO ?aR (fun _ _ h => h) (fun _ h => h.elim) ?aF ?aB ?aS ?aL ?_; (case aR => exact cq (Kd.C_below HR1.out HB.out)); (case aB => exact (bq HB.out)); (case aF => exact (fun _ _ => trivial)); (case aO => exact (kqR HO272.out)); (case aS => exact (below_size (bq HB.out))); (case aL => have := LMc17.out; omega); intro v274 w21 ho hb hg hat; rw [← Ny273.out] at ho; have n_ := ak2 hb ho; clear HB HO272; obtain ⟨HB, HO275⟩ := n_; clear ho hb hg hat))
       go_ret2
       exact ⟨_, rq, kqR HO275.out, bq HB.out⟩
     rw [if_neg c17] at H
     exact absurd H (by simp)
   rw [if_neg c16] at H
   exact absurd H (by simp)

/-! ### impl_PutTlv: function 129 -/
def impl_PutTlv.f (k : Nat) (l0 : List Int) (a1 : Int) (l2 : List Int) : Option (List Int) := (impl_tlv.f k a1 l2).bind fun bt276 => ((impl_copyBytes.f l0).bind fun t280 => (if t280.length + bt276.1.length < 140737488355328 then (some (t280 ++ bt276.1)) else (none)))
theorem impl_PutTlv.mono : ∀ a0 a1 a2 k, LeO (impl_PutTlv.f k a0 a1 a2) (impl_PutTlv.f (k + 1) a0 a1 a2) := by
 intro a0 a1 a2 k
 unfold impl_PutTlv.f
 repeat' first
  | (with_reducible exact impl_tlv.mono _ _ _)
  | (with_reducible exact LeO.refl _)
  | (with_reducible exact LeO.none _)
  | (with_reducible refine LeO.ite ?_ ?_)
  | (with_reducible refine LeO.bind ?_ (fun _ => ?_))
  | exact impl_tlv.mono _ _ _
  | exact LeO.none _
  | refine LeO.ite ?_ ?_
  | refine LeO.bind ?_ (fun _ => ?_)
set_option maxHeartbeats 8000000 in
set_option maxRecDepth 100000 in
theorem impl_PutTlv.calls (k : Nat) (A0 : Option Addr) (c0 : Nat) (l0 : List Int) (a1 : Int) (A2 : Option Addr) (c2 : Nat) (l2 : List Int) (r : List Int) (w : World) (hr0 : Kd.C (Kd.int .u8) w A0 l0.length l0) (hc0 : l0.length ≤ c0) (hr2 : Kd.C (Kd.int .u8) w A2 l2.length l2) (hc2 : l2.length ≤ c2) (h : impl_PutTlv.f k l0 a1 l2 = some r) :
 Calls Try.prog 129 #[.slice A0 l0.length c0, .int .i64 a1, .slice A2 l2.length c2] w fun e w' => ∃ v0_ : Value, e = .returned (v0_) ∧ Kd.R (Kd.int .u8) 5 w' w.heap.size (fun _ => True) v0_ r ∧ Below w.heap.size w w' := by
 have HR0 := am hr0
 have HC0 := am hc0
 clear hr0 hc0
 have HR2 := am hr2
 have HC2 := am hc2
 clear hr2 hc2
 have HB := am (Below.refl w.heap.size w)
 have H : ((impl_tlv.f k a1 l2).bind fun bt276 => ((impl_copyBytes.f l0).bind fun t280 => (if t280.length + bt276.1.length < 140737488355328 then (some (t280 ++ bt276.1)) else (none)))) = some r := h
 clear h
 replace H := Option.bind_eq_some_iff.mp H
 obtain ⟨⟨t276, t277⟩, A40, H⟩ := H
 replace H : ((impl_copyBytes.f l0).bind fun t280 => (if t280.length + t276.length < 140737488355328 then (some (t280 ++ t276)) else (none))) = some r := H
 have A4 := am A40
 clear A40
 replace H := Option.bind_eq_some_iff.mp H
 obtain ⟨t280, A50, H⟩ := H
 replace H : (if t280.length + t276.length < 140737488355328 then (some (t280 ++ t276)) else (none)) = some r := H
 have A5 := am A50
 clear A50
 by_cases c6 : t280.length + t276.length < 140737488355328
 · rw [if_pos c6] at H
   have LMc6 := am c6
   clear c6
   obtain ⟨y283, hy283⟩ : ∃ y_ : List Int, y_ = (t280 ++ t276) := ⟨_, rfl⟩
   replace H : (some y283) = some r := by first | (rw [hy283]; with_reducible exact H) | (have H2_ := (Option.bind_some _ _).symm.trans H; rw [hy283]; with_reducible exact H2_) | (have H2_ := (Option.bind_some _ _).symm.trans H; with_reducible exact H2_) | with_reducible exact H | (rw [hy283]; exact H) | exact H
   have Ny283 := am hy283
   clear hy283
   obtain rfl := Option.some.inj H
   go_enter Try.func129, Try.ntmps129
   go_wp2_with (first | ((with_reducible refine gate_callee (f := 134) rfl ?_); refine goesL_ (some 12) rfl rfl Try.func134 (by kernel_rfl) rfl #[.int .i64 a1, .slice A2 l2.length c2] rfl ga ?_; (with_reducible refine (impl_tlv.calls k a1 _ _ l2 t276 t277 _ ?side1 ?side2 A4.out).mono ?_); (case side1 => exact cq HR2.out); (case side2 => exact HC2.out); rintro e w7 ⟨v278, rfl, ho0, hb⟩; refine ⟨_, rfl, ?_⟩; have n_ := ak2 (Kd.R_lower ho0 (below_size (bq HB.out))) (below_step (bq HB.out) hb); clear HB; obtain ⟨HO279, HB⟩ := n_; (try clear hb ho0)) | ((with_reducible refine gate_callee (f := 133) rfl ?_); refine goesL_ (some 16) rfl rfl Try.func133 (by kernel_rfl) rfl #[.slice A0 l0.length c0] rfl ga ?_; (with_reducible refine (impl_copyBytes.calls _ _ l0 t280 _ ?side1 ?side2 A5.out).mono ?_); (case side1 => exact cq (Kd.C_below HR0.out HB.out)); (case side2 => exact HC0.out); rintro e w8 ⟨v281, rfl, ho0, hb⟩; refine ⟨_, rfl, ?_⟩; have n_ := ak3 (Kd.R_elder' (kqR HO279.out) (Kd.R_base ho0) hb) (Kd.R_lower (Kd.R_new' ho0 (Kd.R_lt (kqR HO279.out))) (below_size (bq HB.out))) (below_step (bq HB.out) hb); clear HO279 HB; obtain ⟨HO279, HO282, HB⟩ := n_; (try clear hb ho0); obtain ⟨Ao10, co10, eo10⟩ := Kd.R_slice HO279.out; subst eo10) | ((with_reducible refine gate_builtin (b := .append) (xs := #[.tmp 16, .tmp 17]) rfl ?_); at_builtin; refine Kd.R_append_rows (Kd.int .u8) (w0 := w) w.heap.size rfl (.tmp 16) (.tmp 17) 37 5 (.int .u8 0) 1 rfl Try.underlying37 info5 rfl (by decide) (by omega) v281 t280 t276 _ _ _ (fun k_ => some k_ ≠ (.slice Ao10 t276.length co10 : Value).ownBlock) (fun _ => False) rfl rfl ?aO ?aR (fun _ _ h => h) (fun _ h => h.elim) ?aF ?aB ?aS ?aL ?_; (case aR => repeat (first | exact (Kd.R_reads' HO279.out).2.2 | (with_reducible refine Kd.C_alloc ?_ _) | (with_reducible refine Kd.C_drewN ?_ _) | (with_reducible refine Kd.C_drew ?_))); (case aB => exact (bq HB.out)); (case aF => exact (fun k_ hk => Kd.fresh' (Kd.R_lt (kqR HO279.out)) k_ hk)); (case aO => exact (by (with_reducible repeat (first | apply Kd.R_alloc | apply Kd.R_drewN | apply Kd.R_drew)); exact Kd.R_mono HO282.out (fun _ hk => hk.2))); (case aS => exact (below_size (bq HB.out))); (case aL => have := LMc6.out; omega); intro v284 w9 ho hb hg hat; rw [← Ny283.out] at ho; have n_ := ak3 (Kd.R_after (ok := (fun _ => True)) (kqR HO279.out) hg hat) hb ho; clear HO279 HB HO282; obtain ⟨HO279, HB, HO285⟩ := n_; clear ho hb hg hat))
   go_ret
   exact ⟨_, rq, by (with_reducible repeat (first | apply Kd.R_alloc | apply Kd.R_drewN | apply Kd.R_drew)); exact Kd.R_mono HO285.out (fun _ hk => trivial), bq HB.out⟩
 rw [if_neg c6] at H
 exact absurd H (by simp)

/-! ### impl_addNum: function 114 -/
def impl_addNum.f (k : Nat) (l0 : List Int) (a1 : Int) (a2 : Int) : Option (List Int) := (impl_PutInt.f k a2).bind fun t286 => ((impl_PutTlv.f k l0 a1 t286).bind fun t289 => (some t289))
theorem impl_addNum.mono : ∀ a0 a1 a2 k, LeO (impl_addNum.f k a0 a1 a2) (impl_addNum.f (k + 1) a0 a1 a2) := by
 intro a0 a1 a2 k
 unfold impl_addNum.f
 repeat' first
  | (with_reducible exact impl_PutInt.mono _ _)
  | (with_reducible exact impl_PutTlv.mono _ _ _ _)
  | (with_reducible exact LeO.refl _)
  | (with_reducible exact LeO.none _)
  | (with_reducible refine LeO.ite ?_ ?_)
  | (with_reducible refine LeO.bind ?_ (fun _ => ?_))
  | exact impl_PutInt.mono _ _
  | exact impl_PutTlv.mono _ _ _ _
  | exact LeO.none _
  | refine LeO.ite ?_ ?_
  | refine LeO.bind ?_ (fun _ => ?_)
set_option maxHeartbeats 8000000 in
set_option maxRecDepth 100000 in
theorem impl_addNum.calls (k : Nat) (A0 : Option Addr) (c0 : Nat) (l0 : List Int) (a1 : Int) (a2 : Int) (r : List Int) (w : World) (hr0 : Kd.C (Kd.int .u8) w A0 l0.length l0) (hc0 : l0.length ≤ c0) (h : impl_addNum.f k l0 a1 a2 = some r) :
 Calls Try.prog 114 #[.slice A0 l0.length c0, .int .i64 a1, .int .i64 a2] w fun e w' => ∃ v0_ : Value, e = .returned (v0_) ∧ Kd.R (Kd.int .u8) 5 w' w.heap.size (fun _ => True) v0_ r ∧ Below w.heap.size w w' := by
 have HR0 := am hr0
 have HC0 := am hc0
 clear hr0 hc0
 have HB := am (Below.refl w.heap.size w)
 have H : ((impl_PutInt.f k a2).bind fun t286 => ((impl_PutTlv.f k l0 a1 t286).bind fun t289 => (some t289))) = some r := h
 clear h
 replace H := Option.bind_eq_some_iff.mp H
 obtain ⟨t286, A40, H⟩ := H
 replace H : ((impl_PutTlv.f k l0 a1 t286).bind fun t289 => (some t289)) = some r := H
 have A4 := am A40
 clear A40
 replace H := Option.bind_eq_some_iff.mp H
 obtain ⟨t289, A50, H⟩ := H
 replace H : (some t289) = some r := H
 have A5 := am A50
 clear A50
 obtain rfl := Option.some.inj H
 go_enter Try.func114, Try.ntmps114
 go_wp2_with (first | ((with_reducible refine gate_callee (f := 130) rfl ?_); refine goesL_ (some 10) rfl rfl Try.func130 (by kernel_rfl) rfl #[.int .i64 a2] rfl ga ?_; (with_reducible refine (impl_PutInt.calls k a2 t286 _ A4.out).mono ?_); rintro e w6 ⟨v287, rfl, ho0, hb⟩; refine ⟨_, rfl, ?_⟩; have n_ := ak2 (Kd.R_lower ho0 (below_size (bq HB.out))) (below_step (bq HB.out) hb); clear HB; obtain ⟨HO288, HB⟩ := n_; (try clear hb ho0); obtain ⟨Ao7, co7, eo7⟩ := Kd.R_slice HO288.out; subst eo7) | ((with_reducible refine gate_callee (f := 129) rfl ?_); refine goesL_ (some 11) rfl rfl Try.func129 (by kernel_rfl) rfl #[.slice A0 l0.length c0, .int .i64 a1, .slice Ao7 t286.length co7] rfl ga ?_; (with_reducible refine (impl_PutTlv.calls k _ _ l0 a1 _ _ t286 t289 _ ?side1 ?side2 ?side3 ?side4 A5.out).mono ?_); (case side1 => exact cq (Kd.C_below HR0.out HB.out)); (case side2 => exact HC0.out); (case side3 => repeat (first | exact (Kd.R_reads' HO288.out).2.2 | (with_reducible refine Kd.C_alloc ?_ _) | (with_reducible refine Kd.C_drewN ?_ _) | (with_reducible refine Kd.C_drew ?_))); (case side4 => exact (Kd.R_reads' HO288.out).2.1); rintro e w8 ⟨v290, rfl, ho0, hb⟩; refine ⟨_, rfl, ?_⟩; have n_ := ak3 (Kd.R_elder' (kqR HO288.out) (Kd.R_base ho0) hb) (Kd.R_lower (Kd.R_new' ho0 (Kd.R_lt (kqR HO288.out))) (below_size (bq HB.out))) (below_step (bq HB.out) hb); clear HO288 HB; obtain ⟨HO288, HO291, HB⟩ := n_; (try clear hb ho0)))
 go_ret
 exact ⟨_, rq, by (with_reducible repeat (first | apply Kd.R_alloc | apply Kd.R_drewN | apply Kd.R_drew)); exact Kd.R_mono HO291.out (fun _ hk => trivial), bq HB.out⟩

end Go.Proofs.Ytebffdmkfkfoaaa.XFnExactGetFrame
