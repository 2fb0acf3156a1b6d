/- The functions that one law reaches, as Lean functions, with their walks: printed by a program of this seat (wip/tools) out of the translation. -/
import Derived.Test.YtebffdmkfkfoaaaXFnVecsx0
import Derived.Test.YtebffdmkfkfoaaaXFnVecsx5
import Derived.Test.YtebffdmkfkfoaaaXFnVecsx7
namespace Go.Proofs.Ytebffdmkfkfoaaa.XFnVecs
open Go.RowKit Go.Proofs.YtebffdmkfkfoaaaW.PrintWords Go.Proofs.YtebffdmkfkfoaaaW.PrintLast Go.Proofs.YtebffdmkfkfoaaaW.PrintMore
attribute [local go_sem] max2_int min2_int max_two min_two max_three min_three max_four min_four   -- for this text's walks alone
set_option linter.unusedVariables false
set_option linter.unusedSimpArgs false

/-! ### impl_PutInt: function 130 -/
mutual
def impl_PutInt.j1 : Nat → Int → Int → Option (List Int)
 | 0, _, _ => none
 | k + 1, x0, x3 => impl_PutInt.l1 k x0 ([] : List Int) (wrap64 (x3 - 1))
def impl_PutInt.l1 : Nat → Int → List Int → Int → Option (List Int)
 | 0, _, _, _ => none
 | k + 1, x0, x4, x5 => if x5 ≥ 0 then (if 0 ≤ (wrap64 (8 * x5)) then (if x4.length < 140737488355328 then (impl_PutInt.l1 k x0 (x4 ++ [(shr .i64 x0 (wrap64 (8 * x5))) % 256]) (wrap64 (x5 - 1))) else (none)) else (none)) else (some x4)
def impl_PutInt.l0 : Nat → Int → Int → Option (List Int)
 | 0, _, _ => none
 | k + 1, x0, x3 => if x3 < 4 then (if 0 ≤ (wrap64 ((wrap64 (8 * x3)) - 1)) then ((impl_in.f x0 (shl .i64 (-1) (wrap64 ((wrap64 (8 * x3)) - 1))) (wrap64 ((shl .i64 1 (wrap64 ((wrap64 (8 * x3)) - 1))) - 1))).bind fun t235 => (if t235 = true then (impl_PutInt.j1 k x0 x3) else (impl_PutInt.l0 k x0 (wrap64 (x3 + 1))))) else (none)) else (impl_PutInt.j1 k x0 x3)
end
def impl_PutInt.f (k : Nat) (a0 : Int) : Option (List Int) := impl_PutInt.l0 k (mx (-2147483648) (mn a0 2147483647)) 1
theorem impl_PutInt.mono_l : ∀ k, (∀ y0 y1, LeO (impl_PutInt.j1 k y0 y1) (impl_PutInt.j1 (k + 1) y0 y1)) ∧ (∀ y0 y1 y2, LeO (impl_PutInt.l1 k y0 y1 y2) (impl_PutInt.l1 (k + 1) y0 y1 y2)) ∧ (∀ y0 y1, LeO (impl_PutInt.l0 k y0 y1) (impl_PutInt.l0 (k + 1) y0 y1))
 | 0 => ⟨fun _ _ r h => by simp [impl_PutInt.j1] at h, fun _ _ _ r h => by simp [impl_PutInt.l1] at h, fun _ _ r h => by simp [impl_PutInt.l0] at h⟩
 | k + 1 => by
  obtain ⟨ih0, ih1, ih2⟩ := impl_PutInt.mono_l k
  refine ⟨?_, ?_, ?_⟩
  · intro y0 y1
    unfold impl_PutInt.j1
    repeat' first
    | (with_reducible exact ih0 _ _)
    | (with_reducible exact ih1 _ _ _)
    | (with_reducible exact ih2 _ _)
    | (with_reducible exact LeO.refl _)
    | (with_reducible exact LeO.none _)
    | (with_reducible refine LeO.ite ?_ ?_)
    | (with_reducible refine LeO.bind ?_ (fun _ => ?_))
    | exact ih0 _ _
    | exact ih1 _ _ _
    | exact ih2 _ _
    | exact LeO.none _
    | refine LeO.ite ?_ ?_
    | refine LeO.bind ?_ (fun _ => ?_)
  · intro y0 y1 y2
    unfold impl_PutInt.l1
    repeat' first
    | (with_reducible exact ih0 _ _)
    | (with_reducible exact ih1 _ _ _)
    | (with_reducible exact ih2 _ _)
    | (with_reducible exact LeO.refl _)
    | (with_reducible exact LeO.none _)
    | (with_reducible refine LeO.ite ?_ ?_)
    | (with_reducible refine LeO.bind ?_ (fun _ => ?_))
    | exact ih0 _ _
    | exact ih1 _ _ _
    | exact ih2 _ _
    | exact LeO.none _
    | refine LeO.ite ?_ ?_
    | refine LeO.bind ?_ (fun _ => ?_)
  intro y0 y1
  unfold impl_PutInt.l0
  repeat' first
  | (with_reducible exact ih0 _ _)
  | (with_reducible exact ih1 _ _ _)
  | (with_reducible exact ih2 _ _)
  | (with_reducible exact LeO.refl _)
  | (with_reducible exact LeO.none _)
  | (with_reducible refine LeO.ite ?_ ?_)
  | (with_reducible refine LeO.bind ?_ (fun _ => ?_))
  | exact ih0 _ _
  | exact ih1 _ _ _
  | exact ih2 _ _
  | exact LeO.none _
  | refine LeO.ite ?_ ?_
  | refine LeO.bind ?_ (fun _ => ?_)
theorem impl_PutInt.mono : ∀ a0 k, LeO (impl_PutInt.f k a0) (impl_PutInt.f (k + 1) a0) := by
 intro a0 k
 obtain ⟨ih0, ih1, ih2⟩ := impl_PutInt.mono_l k
 unfold impl_PutInt.f
 repeat' first
  | (with_reducible exact ih0 _ _)
  | (with_reducible exact ih1 _ _ _)
  | (with_reducible exact ih2 _ _)
  | (with_reducible exact LeO.refl _)
  | (with_reducible exact LeO.none _)
  | (with_reducible refine LeO.ite ?_ ?_)
  | (with_reducible refine LeO.bind ?_ (fun _ => ?_))
  | exact ih0 _ _
  | exact ih1 _ _ _
  | exact ih2 _ _
  | exact LeO.none _
  | refine LeO.ite ?_ ?_
  | refine LeO.bind ?_ (fun _ => ?_)
set_option maxHeartbeats 8000000 in
set_option maxRecDepth 100000 in
theorem impl_PutInt.calls (k : Nat) (a0 : Int) (r : List Int) (w : World) (h : impl_PutInt.f k a0 = some r) :
 Calls Try.prog 130 #[.int .i64 a0] w fun e w' => ∃ v0_ : Value, e = .returned (v0_) ∧ Kd.R (Kd.int .u8) 5 w' w.heap.size (fun _ => True) v0_ r ∧ Below w.heap.size w w' := by
 have HB := am (Below.refl w.heap.size w)
 have H : (impl_PutInt.l0 k (mx (-2147483648) (mn a0 2147483647)) 1) = some r := h
 clear h
 obtain ⟨ji2, hji2⟩ : ∃ j_ : Int, (mn a0 2147483647) = j_ := ⟨_, rfl⟩
 replace H : (impl_PutInt.l0 k (mx (-2147483648) (ji2)) 1) = some r := by first | (rw [hji2] at H; exact H) | (simp only [hji2] at H ⊢; exact H)
 (try (have hji2h : ji2 ≤ 2147483647 := by (rw [← hji2]; unfold mn; (repeat' split) <;> omega)))
 (try (have hji2g : ji2 ≤ 64 := by omega))
 have hji2_ : (if 2147483647 < a0 then 2147483647 else a0) = ji2 := hji2
 obtain ⟨ji3, hji3⟩ : ∃ j_ : Int, (mx (-2147483648) (ji2)) = j_ := ⟨_, rfl⟩
 replace H : (impl_PutInt.l0 k ji3 1) = some r := by first | (rw [hji3] at H; exact H) | (simp only [hji3] at H ⊢; exact H)
 have hji3_ : (if (-2147483648) < (ji2) then (ji2) else (-2147483648)) = ji3 := hji3
 have HC4 := am H
 clear H
 go_enter Try.func130, Try.ntmps130
 go_upto_block 0 with (fail)
 repeat (go_quiet (fail); go_upto_block 0 with (fail))
 go_cut [3] (fun v3 wc => ∃ (kq : Nat) (x3_3 : Int), v3 = .int .i64 x3_3 ∧ Aside0 (impl_PutInt.j1 kq ji3 x3_3 = some r) ∧ Aside0 (kq ≤ k) ∧ Aside0 (Below w.heap.size w wc))
 case first =>
  have H := HC4.out
  clear HC4
  have H' := am H
  clear H
  go_wp2
  repeat (go_quiet (fail); try go_wp2)
  go_loopg [3] k (fun kq v3 w' => ∃ (x3_1 : Int), v3 = .int .i64 x3_1 ∧ 1 ≤ x3_1 ∧ x3_1 ≤ 4 ∧ Aside0 (impl_PutInt.l0 kq ji3 x3_1 = some r) ∧ Aside0 (kq ≤ k) ∧ Aside0 (Below w.heap.size w w'))
  case atStart => exact ⟨(1), sq, by omega, by omega, H', ⟨Nat.le_refl _⟩, ⟨bq HB.out⟩⟩
  case round =>
   clear H'
   obtain ⟨x3_1, rfl, hb1, hb2, HA, HK1, HB⟩ := hrel
   cases gk with
   | zero => exact absurd HA.out (by simp [impl_PutInt.l0])
   | succ k1 =>
    have H := HA.out
    clear HA
    simp only [impl_PutInt.l0] at H
    have hx : x3_1 = 1 ∨ x3_1 = 2 ∨ x3_1 = 3 ∨ x3_1 = 4 := by omega
    clear hb1 hb2
    rcases hx with rfl | rfl | rfl | rfl
    · rw [if_pos (by decide), show wrap64 (wrap64 (8 * 1) - 1) = 7 by decide +kernel, if_pos (by decide), show shl .i64 (-1) 7 = -128 by decide +kernel, show wrap64 (shl .i64 1 7 - 1) = 127 by decide +kernel] at H
      replace H := Option.bind_eq_some_iff.mp H
      obtain ⟨t117, A110, H⟩ := H
      have A11 := am A110
      clear A110
      cases t117
      · have H' : Aside0 (impl_PutInt.l0 k1 ji3 2 = some r) := ⟨by rw [if_neg (by decide), show wrap64 (1 + 1) = 2 by decide +kernel] at H; exact H⟩
        clear H
        go_wp2_with (first | (go_at_call 105; (with_reducible refine (impl_in.calls ji3 (-128) 127 false _ A11.out).mono ?_); rintro e w' ⟨rfl, ⟨nd, rfl⟩⟩; (try first | exact ⟨rfl, _, World.drewN_drewN _ _ _⟩ | exact ⟨rfl, _, Eq.trans (World.drewN_drewN _ _ _) (congrArg (World.drewN _) (Nat.add_assoc _ _ _))⟩)))
        repeat (go_quiet (first | (go_at_call 105; (with_reducible refine (impl_in.calls ji3 (-128) 127 false _ A11.out).mono ?_); rintro e w' ⟨rfl, ⟨nd, rfl⟩⟩; (try first | exact ⟨rfl, _, World.drewN_drewN _ _ _⟩ | exact ⟨rfl, _, Eq.trans (World.drewN_drewN _ _ _) (congrArg (World.drewN _) (Nat.add_assoc _ _ _))⟩))); try go_wp2_with (first | (go_at_call 105; (with_reducible refine (impl_in.calls ji3 (-128) 127 false _ A11.out).mono ?_); rintro e w' ⟨rfl, ⟨nd, rfl⟩⟩; (try first | exact ⟨rfl, _, World.drewN_drewN _ _ _⟩ | exact ⟨rfl, _, Eq.trans (World.drewN_drewN _ _ _) (congrArg (World.drewN _) (Nat.add_assoc _ _ _))⟩))))
        go_roundg k1
        case measure => have := HK1.out; omega
        case rel => exact ⟨(2), sq, by omega, by omega, H', ⟨by have := HK1.out; omega⟩, ⟨bq HB.out⟩⟩
      have H' : Aside0 (impl_PutInt.j1 k1 ji3 1 = some r) := ⟨by rw [if_pos rfl] at H; exact H⟩
      clear H
      go_wp2_with (first | (go_at_call 105; (with_reducible refine (impl_in.calls ji3 (-128) 127 true _ A11.out).mono ?_); rintro e w' ⟨rfl, ⟨nd, rfl⟩⟩; (try first | exact ⟨rfl, _, World.drewN_drewN _ _ _⟩ | exact ⟨rfl, _, Eq.trans (World.drewN_drewN _ _ _) (congrArg (World.drewN _) (Nat.add_assoc _ _ _))⟩)))
      repeat (go_quiet (first | (go_at_call 105; (with_reducible refine (impl_in.calls ji3 (-128) 127 true _ A11.out).mono ?_); rintro e w' ⟨rfl, ⟨nd, rfl⟩⟩; (try first | exact ⟨rfl, _, World.drewN_drewN _ _ _⟩ | exact ⟨rfl, _, Eq.trans (World.drewN_drewN _ _ _) (congrArg (World.drewN _) (Nat.add_assoc _ _ _))⟩))); try go_wp2_with (first | (go_at_call 105; (with_reducible refine (impl_in.calls ji3 (-128) 127 true _ A11.out).mono ?_); rintro e w' ⟨rfl, ⟨nd, rfl⟩⟩; (try first | exact ⟨rfl, _, World.drewN_drewN _ _ _⟩ | exact ⟨rfl, _, Eq.trans (World.drewN_drewN _ _ _) (congrArg (World.drewN _) (Nat.add_assoc _ _ _))⟩))))
      go_meet
      case rel => exact ⟨_, (1), sq, H', ⟨by have := HK1.out; first | omega | exact Nat.le_refl _⟩, ⟨bq HB.out⟩⟩
    · rw [if_pos (by decide), show wrap64 (wrap64 (8 * 2) - 1) = 15 by decide +kernel, if_pos (by decide), show shl .i64 (-1) 15 = -32768 by decide +kernel, show wrap64 (shl .i64 1 15 - 1) = 32767 by decide +kernel] at H
      replace H := Option.bind_eq_some_iff.mp H
      obtain ⟨t117, A110, H⟩ := H
      have A11 := am A110
      clear A110
      cases t117
      · have H' : Aside0 (impl_PutInt.l0 k1 ji3 3 = some r) := ⟨by rw [if_neg (by decide), show wrap64 (2 + 1) = 3 by decide +kernel] at H; exact H⟩
        clear H
        go_wp2_with (first | (go_at_call 105; (with_reducible refine (impl_in.calls ji3 (-32768) 32767 false _ A11.out).mono ?_); rintro e w' ⟨rfl, ⟨nd, rfl⟩⟩; (try first | exact ⟨rfl, _, World.drewN_drewN _ _ _⟩ | exact ⟨rfl, _, Eq.trans (World.drewN_drewN _ _ _) (congrArg (World.drewN _) (Nat.add_assoc _ _ _))⟩)))
        repeat (go_quiet (first | (go_at_call 105; (with_reducible refine (impl_in.calls ji3 (-32768) 32767 false _ A11.out).mono ?_); rintro e w' ⟨rfl, ⟨nd, rfl⟩⟩; (try first | exact ⟨rfl, _, World.drewN_drewN _ _ _⟩ | exact ⟨rfl, _, Eq.trans (World.drewN_drewN _ _ _) (congrArg (World.drewN _) (Nat.add_assoc _ _ _))⟩))); try go_wp2_with (first | (go_at_call 105; (with_reducible refine (impl_in.calls ji3 (-32768) 32767 false _ A11.out).mono ?_); rintro e w' ⟨rfl, ⟨nd, rfl⟩⟩; (try first | exact ⟨rfl, _, World.drewN_drewN _ _ _⟩ | exact ⟨rfl, _, Eq.trans (World.drewN_drewN _ _ _) (congrArg (World.drewN _) (Nat.add_assoc _ _ _))⟩))))
        go_roundg k1
        case measure => have := HK1.out; omega
        case rel => exact ⟨(3), sq, by omega, by omega, H', ⟨by have := HK1.out; omega⟩, ⟨bq HB.out⟩⟩
      have H' : Aside0 (impl_PutInt.j1 k1 ji3 2 = some r) := ⟨by rw [if_pos rfl] at H; exact H⟩
      clear H
      go_wp2_with (first | (go_at_call 105; (with_reducible refine (impl_in.calls ji3 (-32768) 32767 true _ A11.out).mono ?_); rintro e w' ⟨rfl, ⟨nd, rfl⟩⟩; (try first | exact ⟨rfl, _, World.drewN_drewN _ _ _⟩ | exact ⟨rfl, _, Eq.trans (World.drewN_drewN _ _ _) (congrArg (World.drewN _) (Nat.add_assoc _ _ _))⟩)))
      repeat (go_quiet (first | (go_at_call 105; (with_reducible refine (impl_in.calls ji3 (-32768) 32767 true _ A11.out).mono ?_); rintro e w' ⟨rfl, ⟨nd, rfl⟩⟩; (try first | exact ⟨rfl, _, World.drewN_drewN _ _ _⟩ | exact ⟨rfl, _, Eq.trans (World.drewN_drewN _ _ _) (congrArg (World.drewN _) (Nat.add_assoc _ _ _))⟩))); try go_wp2_with (first | (go_at_call 105; (with_reducible refine (impl_in.calls ji3 (-32768) 32767 true _ A11.out).mono ?_); rintro e w' ⟨rfl, ⟨nd, rfl⟩⟩; (try first | exact ⟨rfl, _, World.drewN_drewN _ _ _⟩ | exact ⟨rfl, _, Eq.trans (World.drewN_drewN _ _ _) (congrArg (World.drewN _) (Nat.add_assoc _ _ _))⟩))))
      go_meet
      case rel => exact ⟨_, (2), sq, H', ⟨by have := HK1.out; first | omega | exact Nat.le_refl _⟩, ⟨bq HB.out⟩⟩
    · rw [if_pos (by decide), show wrap64 (wrap64 (8 * 3) - 1) = 23 by decide +kernel, if_pos (by decide), show shl .i64 (-1) 23 = -8388608 by decide +kernel, show wrap64 (shl .i64 1 23 - 1) = 8388607 by decide +kernel] at H
      replace H := Option.bind_eq_some_iff.mp H
      obtain ⟨t117, A110, H⟩ := H
      have A11 := am A110
      clear A110
      cases t117
      · have H' : Aside0 (impl_PutInt.l0 k1 ji3 4 = some r) := ⟨by rw [if_neg (by decide), show wrap64 (3 + 1) = 4 by decide +kernel] at H; exact H⟩
        clear H
        go_wp2_with (first | (go_at_call 105; (with_reducible refine (impl_in.calls ji3 (-8388608) 8388607 false _ A11.out).mono ?_); rintro e w' ⟨rfl, ⟨nd, rfl⟩⟩; (try first | exact ⟨rfl, _, World.drewN_drewN _ _ _⟩ | exact ⟨rfl, _, Eq.trans (World.drewN_drewN _ _ _) (congrArg (World.drewN _) (Nat.add_assoc _ _ _))⟩)))
        repeat (go_quiet (first | (go_at_call 105; (with_reducible refine (impl_in.calls ji3 (-8388608) 8388607 false _ A11.out).mono ?_); rintro e w' ⟨rfl, ⟨nd, rfl⟩⟩; (try first | exact ⟨rfl, _, World.drewN_drewN _ _ _⟩ | exact ⟨rfl, _, Eq.trans (World.drewN_drewN _ _ _) (congrArg (World.drewN _) (Nat.add_assoc _ _ _))⟩))); try go_wp2_with (first | (go_at_call 105; (with_reducible refine (impl_in.calls ji3 (-8388608) 8388607 false _ A11.out).mono ?_); rintro e w' ⟨rfl, ⟨nd, rfl⟩⟩; (try first | exact ⟨rfl, _, World.drewN_drewN _ _ _⟩ | exact ⟨rfl, _, Eq.trans (World.drewN_drewN _ _ _) (congrArg (World.drewN _) (Nat.add_assoc _ _ _))⟩))))
        go_roundg k1
        case measure => have := HK1.out; omega
        case rel => exact ⟨(4), sq, by omega, by omega, H', ⟨by have := HK1.out; omega⟩, ⟨bq HB.out⟩⟩
      have H' : Aside0 (impl_PutInt.j1 k1 ji3 3 = some r) := ⟨by rw [if_pos rfl] at H; exact H⟩
      clear H
      go_wp2_with (first | (go_at_call 105; (with_reducible refine (impl_in.calls ji3 (-8388608) 8388607 true _ A11.out).mono ?_); rintro e w' ⟨rfl, ⟨nd, rfl⟩⟩; (try first | exact ⟨rfl, _, World.drewN_drewN _ _ _⟩ | exact ⟨rfl, _, Eq.trans (World.drewN_drewN _ _ _) (congrArg (World.drewN _) (Nat.add_assoc _ _ _))⟩)))
      repeat (go_quiet (first | (go_at_call 105; (with_reducible refine (impl_in.calls ji3 (-8388608) 8388607 true _ A11.out).mono ?_); rintro e w' ⟨rfl, ⟨nd, rfl⟩⟩; (try first | exact ⟨rfl, _, World.drewN_drewN _ _ _⟩ | exact ⟨rfl, _, Eq.trans (World.drewN_drewN _ _ _) (congrArg (World.drewN _) (Nat.add_assoc _ _ _))⟩))); try go_wp2_with (first | (go_at_call 105; (with_reducible refine (impl_in.calls ji3 (-8388608) 8388607 true _ A11.out).mono ?_); rintro e w' ⟨rfl, ⟨nd, rfl⟩⟩; (try first | exact ⟨rfl, _, World.drewN_drewN _ _ _⟩ | exact ⟨rfl, _, Eq.trans (World.drewN_drewN _ _ _) (congrArg (World.drewN _) (Nat.add_assoc _ _ _))⟩))))
      go_meet
      case rel => exact ⟨_, (3), sq, H', ⟨by have := HK1.out; first | omega | exact Nat.le_refl _⟩, ⟨bq HB.out⟩⟩
    have H' : Aside0 (impl_PutInt.j1 k1 ji3 4 = some r) := ⟨by rw [if_neg (by decide)] at H; exact H⟩
    clear H
    go_wp2
    repeat (go_quiet (fail); try go_wp2)
    go_meet
    case rel => exact ⟨_, (4), sq, H', ⟨by have := HK1.out; first | omega | exact Nat.le_refl _⟩, ⟨bq HB.out⟩⟩
 case rest =>
  clear HC4
  try clear c1
  try clear p2
  try clear c5
  try clear c5b0
  try clear p6
  try clear c7
  try clear c7b0
  try clear c7b1
  try clear c9
  try clear c9b0
  try clear c12
  try clear p2
  obtain ⟨kq, x3_3, rfl, HA, HJ3, HB⟩ := hcut
  cases kq with
  | zero => exact absurd HA.out (by simp [impl_PutInt.j1])
  | succ kj3 =>
   have H := HA.out
   clear HA
   simp only [impl_PutInt.j1] at H
   have H' := am H
   clear H
   go_wp2
   repeat (go_quiet (fail); try go_wp2)
   go_loopg [4, 5] kj3 (fun kq v4 v5 w' => ∃ (x4_2 : List Int) (x5_2 : Int), v5 = .int .i64 x5_2 ∧ Aside0 (impl_PutInt.l1 kq ji3 x4_2 x5_2 = some r) ∧ Aside0 (kq ≤ kj3) ∧ Aside0 (Kd.R (Kd.int .u8) 5 w' w.heap.size (fun _ => True) v4 x4_2) ∧ Aside0 (Below w.heap.size w w'))
   case atStart => exact ⟨(([] : List Int)), (wrap64 (x3_3 - 1)), sq, H', ⟨Nat.le_refl _⟩, ⟨by first | exact Kd.R_nil _ _ _ _ _ | exact Kd.N_nil _ _ _ _ _ | exact Kd.V_nil _ _ _ _ _ | exact Kd.Q_nil _ _ _ _ _ | exact Kd.S_nil _ _ _ _ _⟩, ⟨bq HB.out⟩⟩
   case round =>
    clear H'
    try clear c1
    try clear p2
    try clear c5
    try clear c5b0
    try clear p6
    try clear c7
    try clear c7b0
    try clear c7b1
    try clear c9
    try clear c9b0
    try clear c12
    try clear p2
    try clear p6
    obtain ⟨x4_2, x5_2, rfl, HA, HK2, HO_4, HB⟩ := hrel
    cases gk with
    | zero => exact absurd HA.out (by simp [impl_PutInt.l1])
    | succ k2 =>
     have H := HA.out
     clear HA
     simp only [impl_PutInt.l1] at H
     by_cases c13 : x5_2 ≥ 0
     · rw [if_pos c13] at H
       have c13b0 : decide (0 ≤ x5_2) = true := decide_eq_true c13
       clear c13
       obtain ⟨ji14, hji14⟩ : ∃ j_ : Int, (wrap64 (8 * x5_2)) = j_ := ⟨_, rfl⟩
       replace H : (if 0 ≤ (ji14) then (if x4_2.length < 140737488355328 then (impl_PutInt.l1 k2 ji3 (x4_2 ++ [(shr .i64 ji3 (ji14)) % 256]) (wrap64 (x5_2 - 1))) else (none)) else (none)) = some r := by first | (rw [hji14] at H; exact H) | (simp only [hji14] at H ⊢; exact H)
       have hji14w : (IntKind.i64.wrap (8 * x5_2)) = ji14 := (i64_w _).trans hji14
       by_cases c15 : 0 ≤ (ji14)
       · rw [if_pos c15] at H
         have c15b0 := eq_true c15
         have c15b1 : decide (0 ≤ (ji14)) = true := decide_eq_true c15
         clear c15
         obtain ⟨ji16, hji16⟩ : ∃ j_ : Int, (shr .i64 ji3 (ji14)) = j_ := ⟨_, rfl⟩
         replace H : (if x4_2.length < 140737488355328 then (impl_PutInt.l1 k2 ji3 (x4_2 ++ [(ji16) % 256]) (wrap64 (x5_2 - 1))) else (none)) = some r := by first | (rw [hji16] at H; exact H) | (simp only [hji16] at H ⊢; exact H)
         have hji16_ : (ji3 / 2 ^ min (ji14).toNat 64) = ji16 := hji16
         have hji16z : (ji14) ≤ 64 → (ji3 / 2 ^ (ji14).toNat) = ji16 := shr_small hji16
         by_cases c17 : x4_2.length < 140737488355328
         · rw [if_pos c17] at H
           have LMc17 := am c17
           clear c17
           obtain ⟨y236, hy236⟩ : ∃ y_ : List Int, y_ = (x4_2 ++ [(ji16) % 256]) := ⟨_, rfl⟩
           replace H : (impl_PutInt.l1 k2 ji3 y236 (wrap64 (x5_2 - 1))) = some r := by first | (rw [hy236]; with_reducible exact H) | (have H2_ := (Option.bind_some _ _).symm.trans H; rw [hy236]; with_reducible exact H2_) | (have H2_ := (Option.bind_some _ _).symm.trans H; with_reducible exact H2_) | with_reducible exact H | (rw [hy236]; exact H) | exact H
           have Ny236 := am hy236
           clear hy236
           have H' := am H
           clear H
           go_wp2_with (first | ((with_reducible refine gate_builtin (b := .append) (xs := #[.tmp 33, .tmp 39]) rfl ?_); at_builtin; refine Kd.R_append (Kd.int .u8) (w0 := w) w.heap.size rfl (.tmp 33) (.tmp 39) 37 5 (.int .u8 0) 1 rfl Try.underlying37 info5 rfl (by decide) (by omega) u4 x4_2 ((ji16) % 256) [.int .u8 ((ji16) % 256)] (fun _ => True) (fun _ => False) rfl rfl ?aP (fun _ hk => hk.elim) ?aF ?aO ?aB ?aS ?aL ?_; (case aP => exact rfl); (case aB => exact (bq HB.out)); (case aF => exact (fun _ _ => trivial)); (case aO => exact (kqR HO_4.out)); (case aS => exact (below_size (bq HB.out))); (case aL => have := LMc17.out; omega); intro v237 w18 ho hb hg hat; rw [← Ny236.out] at ho; have n_ := ak2 hb ho; clear HB HO_4; obtain ⟨HB, HO238⟩ := n_; clear ho hb hg hat))
           repeat (go_quiet (first | ((with_reducible refine gate_builtin (b := .append) (xs := #[.tmp 33, .tmp 39]) rfl ?_); at_builtin; refine Kd.R_append (Kd.int .u8) (w0 := w) w.heap.size rfl (.tmp 33) (.tmp 39) 37 5 (.int .u8 0) 1 rfl Try.underlying37 info5 rfl (by decide) (by omega) u4 x4_2 ((ji16) % 256) [.int .u8 ((ji16) % 256)] (fun _ => True) (fun _ => False) rfl rfl ?aP (fun _ hk => hk.elim) ?aF ?aO ?aB ?aS ?aL ?_; (case aP => exact rfl); (case aB => exact (bq HB.out)); (case aF => exact (fun _ _ => trivial)); (case aO => exact (kqR HO_4.out)); (case aS => exact (below_size (bq HB.out))); (case aL => have := LMc17.out; omega); intro v237 w18 ho hb hg hat; rw [← Ny236.out] at ho; have n_ := ak2 hb ho; clear HB HO_4; obtain ⟨HB, HO238⟩ := n_; clear ho hb hg hat)); try go_wp2_with (first | ((with_reducible refine gate_builtin (b := .append) (xs := #[.tmp 33, .tmp 39]) rfl ?_); at_builtin; refine Kd.R_append (Kd.int .u8) (w0 := w) w.heap.size rfl (.tmp 33) (.tmp 39) 37 5 (.int .u8 0) 1 rfl Try.underlying37 info5 rfl (by decide) (by omega) u4 x4_2 ((ji16) % 256) [.int .u8 ((ji16) % 256)] (fun _ => True) (fun _ => False) rfl rfl ?aP (fun _ hk => hk.elim) ?aF ?aO ?aB ?aS ?aL ?_; (case aP => exact rfl); (case aB => exact (bq HB.out)); (case aF => exact (fun _ _ => trivial)); (case aO => exact (kqR HO_4.out)); (case aS => exact (below_size (bq HB.out))); (case aL => have := LMc17.out; omega); intro v237 w18 ho hb hg hat; rw [← Ny236.out] at ho; have n_ := ak2 hb ho; clear HB HO_4; obtain ⟨HB, HO238⟩ := n_; clear ho hb hg hat)))
           go_roundg k2
           case measure => have := HJ3.out; have := HK2.out; omega
           case rel => exact ⟨(y236), (wrap64 (x5_2 - 1)), sq, H', ⟨by have := HJ3.out; have := HK2.out; omega⟩, ⟨kqR HO238.out⟩, ⟨bq HB.out⟩⟩
         rw [if_neg c17] at H
         exact absurd H (by simp)
       rw [if_neg c15] at H
       exact absurd H (by simp)
     rw [if_neg c13] at H
     have c13b0 : decide (0 ≤ x5_2) = false := decide_eq_false c13
     clear c13
     obtain rfl := Option.some.inj H
     go_wp2
     repeat (go_quiet (fail); try go_wp2)
     go_ret
     exact ⟨_, by first | rfl | (simp [errW_none, errW_some] <;> rfl) | (simp only [← hji2, ← hji3]; first | rfl | (simp [errW_none, errW_some] <;> rfl)) | (simp [*, errW_none, errW_some] <;> rfl), kqR HO_4.out, bq HB.out⟩

/-! ### impl_GetInt: function 126 -/
def impl_GetInt.l0 : Nat → List Int → Int → List Int → Int → Int → Option (Int × Bool)
 | 0, _, _, _, _, _ => none
 | k + 1, x0, x4, x17, x18, x19 => if x19 < x18 then (if 0 ≤ x19 then (if x19 < (x17.length : Int) then (impl_GetInt.l0 k x0 (Go.bits .or .i64 (wrap64 (x4 * 256)) (wrap64 (rd x17 x19))) x17 x18 (wrap64 (x19 + 1))) else (none)) else (none)) else ((impl_PutInt.f k x4).bind fun t243 => (if (t243.length : Int) = (x0.length : Int) then (some (x4, true)) else (some (0, false))))
def impl_GetInt.f (k : Nat) (l0 : List Int) : Option (Int × Bool) := (impl_in.f (l0.length : Int) 1 4).bind fun t239 => (if t239 = true then (if 0 < (l0.length : Int) then (if 1 ≤ (l0.length : Int) then (impl_GetInt.l0 k l0 (wrap64 (IntKind.i8.wrap (rd l0 0))) (l0.drop 1) ((l0.drop 1).length : Int) 0) else (none)) else (none)) else (some (0, false)))
theorem impl_GetInt.mono_l : ∀ k, (∀ y0 y1 y2 y3 y4, LeO (impl_GetInt.l0 k y0 y1 y2 y3 y4) (impl_GetInt.l0 (k + 1) y0 y1 y2 y3 y4))
 | 0 => fun _ _ _ _ _ r h => by simp [impl_GetInt.l0] at h
 | k + 1 => by
  have ih0 := impl_GetInt.mono_l k
  intro y0 y1 y2 y3 y4
  unfold impl_GetInt.l0
  repeat' first
  | (with_reducible exact ih0 _ _ _ _ _)
  | (with_reducible exact impl_PutInt.mono _ _)
  | (with_reducible exact LeO.refl _)
  | (with_reducible exact LeO.none _)
  | (with_reducible refine LeO.ite ?_ ?_)
  | (with_reducible refine LeO.bind ?_ (fun _ => ?_))
  | exact ih0 _ _ _ _ _
  | exact impl_PutInt.mono _ _
  | exact LeO.none _
  | refine LeO.ite ?_ ?_
  | refine LeO.bind ?_ (fun _ => ?_)
theorem impl_GetInt.mono : ∀ a0 k, LeO (impl_GetInt.f k a0) (impl_GetInt.f (k + 1) a0) := by
 intro a0 k
 have ih0 := impl_GetInt.mono_l k
 unfold impl_GetInt.f
 repeat' first
  | (with_reducible exact ih0 _ _ _ _ _)
  | (with_reducible exact impl_PutInt.mono _ _)
  | (with_reducible exact LeO.refl _)
  | (with_reducible exact LeO.none _)
  | (with_reducible refine LeO.ite ?_ ?_)
  | (with_reducible refine LeO.bind ?_ (fun _ => ?_))
  | exact ih0 _ _ _ _ _
  | exact impl_PutInt.mono _ _
  | exact LeO.none _
  | refine LeO.ite ?_ ?_
  | refine LeO.bind ?_ (fun _ => ?_)
set_option maxHeartbeats 8000000 in
set_option maxRecDepth 100000 in
theorem impl_GetInt.calls (k : Nat) (A0 : Option Addr) (c0 : Nat) (l0 : List Int) (r1 : Int) (r2 : Bool) (w : World) (hr0 : Kd.C (Kd.int .u8) w A0 l0.length l0) (hc0 : l0.length ≤ c0) (h : impl_GetInt.f k l0 = some (r1, r2)) :
 Calls Try.prog 126 #[.slice A0 l0.length c0] w fun e w' => e = .returned (.tuple #[.int .i64 r1, .bool r2]) ∧ Below w.heap.size w w' := by
 have HR0 := am hr0
 have HC0 := am hc0
 clear hr0 hc0
 have HB := am (Below.refl w.heap.size w)
 have H : ((impl_in.f (l0.length : Int) 1 4).bind fun t239 => (if t239 = true then (if 0 < (l0.length : Int) then (if 1 ≤ (l0.length : Int) then (impl_GetInt.l0 k l0 (wrap64 (IntKind.i8.wrap (rd l0 0))) (l0.drop 1) ((l0.drop 1).length : Int) 0) else (none)) else (none)) else (some (0, false)))) = some (r1, r2) := h
 clear h
 replace H := Option.bind_eq_some_iff.mp H
 obtain ⟨t239, A20, H⟩ := H
 replace H : (if t239 = true then (if 0 < (l0.length : Int) then (if 1 ≤ (l0.length : Int) then (impl_GetInt.l0 k l0 (wrap64 (IntKind.i8.wrap (rd l0 0))) (l0.drop 1) ((l0.drop 1).length : Int) 0) else (none)) else (none)) else (some (0, false))) = some (r1, r2) := H
 have A2 := am A20
 clear A20
 by_cases c3 : t239 = true
 · subst c3
   have H1 : (if 0 < (l0.length : Int) then (if 1 ≤ (l0.length : Int) then (impl_GetInt.l0 k l0 (wrap64 (IntKind.i8.wrap (rd l0 0))) (l0.drop 1) ((l0.drop 1).length : Int) 0) else (none)) else (none)) = some (r1, r2) := by rw [if_pos rfl] at H; exact H
   clear H
   have H := H1
   clear H1
   by_cases c4 : 0 < (l0.length : Int)
   · rw [if_pos c4] at H
     have c4b0 : decide (0 < (l0.length : Int)) = true := decide_eq_true c4
     have c4b1 : decide (0 < l0.length) = true := decide_eq_true (by omega)
     clear c4
     by_cases c5 : 1 ≤ (l0.length : Int)
     · rw [if_pos c5] at H
       have c5b0 := eq_true c5
       have c5b1 : decide (1 ≤ (l0.length : Int)) = true := decide_eq_true c5
       clear c5
       have H' := am H
       clear H
       go_enter Try.func126, Try.ntmps126
       go_wp2_with (first | ((with_reducible refine gate_callee (f := 105) rfl ?_); refine goesL_ (some 9) rfl rfl Try.func105 (by kernel_rfl) rfl #[.int .i64 (l0.length : Int), .int .i64 1, .int .i64 4] rfl ga ?_; (with_reducible refine (impl_in.calls (l0.length : Int) 1 4 true _ A2.out).mono ?_); rintro e w' ⟨rfl, ⟨nd, rfl⟩⟩; refine ⟨_, rfl, ?_⟩; have p240 : 0 ≤ (0 : Int) := (by omega); have q240 : 0 < (l0.length : Int) := oda; obtain ⟨ad240, e240, hx240_0⟩ := Kd.at_int HR0.out 0 p240 q240; cases e240; have qi240 : (0 < l0.length) = True := eq_true (by omega); (try rw [show ((0 : Int)).toNat = 0 from rfl] at hx240_0); (try rw [Addr.add_zero'] at hx240_0); replace p240 := eq_true p240; replace q240 := eq_true q240; obtain ⟨i06, hi06, _, hsz6, _⟩ := info_parts info5; obtain ⟨A6, hcut6, hA6, hC6⟩ := print_drop_of (P := Try.prog) (Value.int .u8) 0 37 5 .i64 Try.underlying37 hi06 hsz6 (some ad240) c0 l0 1 (by omega) (oda) HC0.out; have HR241 := am (Kd.C_of_reads (h1 := fun _ => rfl) (hA6 _ (Kd.reads_of_C HR0.out))); have HC241 := am hC6; clear hA6 hC6 hi06 hsz6))
       go_loopg [4, 19] k (fun kq v4 v19 w' => ∃ (x4_1 : Int) (x19_1 : Int), v4 = .int .i64 x4_1 ∧ v19 = .int .i64 x19_1 ∧ Aside0 (impl_GetInt.l0 kq l0 x4_1 (l0.drop 1) ((l0.drop 1).length : Int) x19_1 = some (r1, r2)) ∧ Aside0 (kq ≤ k) ∧ Aside0 (Below w.heap.size w w'))
       case atStart => exact ⟨(wrap64 (IntKind.i8.wrap (rd l0 0))), (0), sq, sq, H', ⟨Nat.le_refl _⟩, ⟨bq HB.out⟩⟩
       case round =>
        clear H'
        try clear c1
        try clear p2
        try clear q2
        try clear hx2
        try clear qi2
        try clear c3
        try clear c4
        try clear c4b0
        try clear c4b1
        try clear c5
        try clear c5b0
        try clear c5b1
        try clear p6
        try clear hx240_0
        try clear p240
        try clear q240
        obtain ⟨x4_1, x19_1, rfl, rfl, HA, HK1, HB⟩ := hrel
        cases gk with
        | zero => exact absurd HA.out (by simp [impl_GetInt.l0])
        | succ k1 =>
         have H := HA.out
         clear HA
         simp only [impl_GetInt.l0] at H
         by_cases c7 : x19_1 < ((l0.drop 1).length : Int)
         · rw [if_pos c7] at H
           have c7b0 : decide (x19_1 < ((l0.drop 1).length : Int)) = true := decide_eq_true c7
           have c7b0z : decide (x19_1 < ((l0.length - 1 : Nat) : Int)) = true := by have h_ := c7b0; rw [List.length_drop] at h_; exact h_
           clear c7
           by_cases c8 : 0 ≤ x19_1
           · rw [if_pos c8] at H
             have c8b0 : decide (0 ≤ x19_1) = true := decide_eq_true c8
             clear c8
             by_cases c9 : x19_1 < ((l0.drop 1).length : Int)
             · rw [if_pos c9] at H
               have c9b0 : decide (x19_1 < ((l0.drop 1).length : Int)) = true := decide_eq_true c9
               have c9b0z : decide (x19_1 < ((l0.length - 1 : Nat) : Int)) = true := by have h_ := c9b0; rw [List.length_drop] at h_; exact h_
               clear c9
               have H' := am H
               clear H
               have p242 : 0 ≤ (x19_1 : Int) := oda
               have q242 : x19_1 < ((l0.drop 1).length : Int) := oda
               obtain ⟨ad242, e242, hx242_0⟩ := Kd.at_int HR241.out x19_1 p242 q242
               cases e242
               replace hx242_0 := (HB.out.cell (World.block_lt_of_cell? w _ hx242_0)).trans hx242_0
               replace p242 := eq_true p242
               replace q242 := eq_true q242
               have q242z : (x19_1 < ((l0.length - 1 : Nat) : Int)) = True := by have h_ := of_eq_true q242; rw [List.length_drop] at h_; exact eq_true h_
               go_wp2
               go_roundg k1
               case measure => have := HK1.out; omega
               case rel => exact ⟨(Go.bits .or .i64 (wrap64 (x4_1 * 256)) (wrap64 (rd (l0.drop 1) x19_1))), (wrap64 (x19_1 + 1)), sq, sq, H', ⟨by have := HK1.out; omega⟩, ⟨bq HB.out⟩⟩
             rw [if_neg c9] at H
             exact absurd H (by simp)
           rw [if_neg c8] at H
           exact absurd H (by simp)
         rw [if_neg c7] at H
         have c7b0 : decide (x19_1 < ((l0.drop 1).length : Int)) = false := decide_eq_false c7
         have c7b0z : decide (x19_1 < ((l0.length - 1 : Nat) : Int)) = false := by have h_ := c7b0; rw [List.length_drop] at h_; exact h_
         clear c7
         replace H := Option.bind_eq_some_iff.mp H
         obtain ⟨t243, A100, H⟩ := H
         replace H : (if (t243.length : Int) = (l0.length : Int) then (some (x4_1, true)) else (some (0, false))) = some (r1, r2) := H
         have A10 := am A100
         clear A100
         by_cases c11 : (t243.length : Int) = (l0.length : Int)
         · rw [if_pos c11] at H
           have c11b0 : ((t243.length : Int) == (l0.length : Int)) = true := beq_iff_eq.mpr c11
           have c11b1 : ((t243.length : Int) != (l0.length : Int)) = false := bne_eq_false_iff_eq.mpr c11
           have c11b2 : (t243.length == l0.length) = true := by first | simpa using c11 | (simp at c11 ⊢; omega)
           clear c11
           simp only [Option.some.injEq, Prod.mk.injEq] at H
           obtain ⟨rfl, rfl⟩ := H
           go_wp2_with (first | ((with_reducible refine gate_callee (f := 130) rfl ?_); refine goesL_ (some 30) rfl rfl Try.func130 (by kernel_rfl) rfl #[.int .i64 x4_1] rfl ga ?_; (with_reducible refine (impl_PutInt.calls k1 x4_1 t243 _ A10.out).mono ?_); rintro e w12 ⟨v244, rfl, ho0, hb⟩; refine ⟨_, rfl, ?_⟩; have n_ := ak2 (Kd.R_lower ho0 (below_size (bq HB.out))) (below_step (bq HB.out) hb); clear HB; obtain ⟨HO245, HB⟩ := n_; (try clear hb ho0); obtain ⟨Ao13, co13, eo13⟩ := Kd.R_slice HO245.out; subst eo13))
           go_ret2
           exact ⟨rq, bq HB.out⟩
         rw [if_neg c11] at H
         have c11b0 : ((t243.length : Int) == (l0.length : Int)) = false := beq_eq_false_iff_ne.mpr c11
         have c11b1 : ((t243.length : Int) != (l0.length : Int)) = true := bne_iff_ne.mpr c11
         have c11b2 : (t243.length == l0.length) = false := by first | simpa using c11 | (simp at c11 ⊢; omega)
         simp only [Option.some.injEq, Prod.mk.injEq] at H
         obtain ⟨rfl, rfl⟩ := H
         go_wp2_with (first | ((with_reducible refine gate_callee (f := 130) rfl ?_); refine goesL_ (some 30) rfl rfl Try.func130 (by kernel_rfl) rfl #[.int .i64 x4_1] rfl ga ?_; (with_reducible refine (impl_PutInt.calls k1 x4_1 t243 _ A10.out).mono ?_); rintro e w14 ⟨v244, rfl, ho0, hb⟩; refine ⟨_, rfl, ?_⟩; have n_ := ak2 (Kd.R_lower ho0 (below_size (bq HB.out))) (below_step (bq HB.out) hb); clear HB; obtain ⟨HO245, HB⟩ := n_; (try clear hb ho0); obtain ⟨Ao15, co15, eo15⟩ := Kd.R_slice HO245.out; subst eo15))
         go_ret2
         exact ⟨rq, bq HB.out⟩
     rw [if_neg c5] at H
     exact absurd H (by simp)
   rw [if_neg c4] at H
   exact absurd H (by simp)
 replace c3 := Bool.eq_false_iff.mpr c3
 subst c3
 have H1 : (some (0, false)) = some (r1, r2) := by rw [if_neg (show ¬ (false = true) by decide)] at H; exact H
 clear H
 have H := H1
 clear H1
 simp only [Option.some.injEq, Prod.mk.injEq] at H
 obtain ⟨rfl, rfl⟩ := H
 go_enter Try.func126, Try.ntmps126
 go_wp2_with (first | ((with_reducible refine gate_callee (f := 105) rfl ?_); refine goesL_ (some 9) rfl rfl Try.func105 (by kernel_rfl) rfl #[.int .i64 (l0.length : Int), .int .i64 1, .int .i64 4] rfl ga ?_; (with_reducible refine (impl_in.calls (l0.length : Int) 1 4 false _ A2.out).mono ?_); rintro e w' ⟨rfl, ⟨nd, rfl⟩⟩; refine ⟨_, rfl, ?_⟩))
 go_ret2
 exact ⟨rq, bq HB.out⟩

/-! ### impl_parts_num: function 91 -/
def impl_parts_num.f (k : Nat) (s0_0 : List Int) (s0_1 : Int) (s0_2 : Bool) (a1 : Int) : Option (Int × Int × Bool) := (impl_parts_part.f k s0_0 s0_1 s0_2 a1).bind fun bt246 => ((impl_GetInt.f k bt246.1).bind fun bt251 => (if bt246.2.2 = true then (some (bt251.1, bt246.2.1, true)) else (some (bt251.1, bt246.2.1, !bt251.2))))
theorem impl_parts_num.mono : ∀ a0 a1 a2 a3 k, LeO (impl_parts_num.f k a0 a1 a2 a3) (impl_parts_num.f (k + 1) a0 a1 a2 a3) := by
 intro a0 a1 a2 a3 k
 unfold impl_parts_num.f
 repeat' first
  | (with_reducible exact impl_GetInt.mono _ _)
  | (with_reducible exact impl_parts_part.mono _ _ _ _ _)
  | (with_reducible exact LeO.refl _)
  | (with_reducible exact LeO.none _)
  | (with_reducible refine LeO.ite ?_ ?_)
  | (with_reducible refine LeO.bind ?_ (fun _ => ?_))
  | exact impl_GetInt.mono _ _
  | exact impl_parts_part.mono _ _ _ _ _
  | exact LeO.none _
  | refine LeO.ite ?_ ?_
  | refine LeO.bind ?_ (fun _ => ?_)
set_option maxHeartbeats 8000000 in
set_option maxRecDepth 100000 in
theorem impl_parts_num.calls (k : Nat) (g : Nat) (s0_0 : List Int) (s0_1 : Int) (s0_2 : Bool) (a1 : Int) (r1 : Int) (r2 : Int) (r3 : Bool) (w0 w : World) (hI : IsS110 w0 w g s0_0 s0_1 s0_2) (hB : Below w0.heap.size w0 w) (h : impl_parts_num.f k s0_0 s0_1 s0_2 a1 = some (r1, r2, r3)) :
 Calls Try.prog 91 #[.pointer (some ⟨g, 0, none⟩), .int .i64 a1] w fun e w' => e = .returned (.int .i64 r1) ∧ IsS110 w0 w' g s0_0 r2 r3 ∧ Below w0.heap.size w0 w' ∧ KeepBut w w' g none := by
 have HI0 := am hI
 have HK := am (KeepBut.refl w g none)
 have HL := am hB.size
 clear hI
 have HW0 := am hB.size
 have HB := am hB
 clear hB
 have H : ((impl_parts_part.f k s0_0 s0_1 s0_2 a1).bind fun bt246 => ((impl_GetInt.f k bt246.1).bind fun bt251 => (if bt246.2.2 = true then (some (bt251.1, bt246.2.1, true)) else (some (bt251.1, bt246.2.1, !bt251.2))))) = some (r1, r2, r3) := h
 clear h
 replace H := Option.bind_eq_some_iff.mp H
 obtain ⟨⟨t246, t249, t250⟩, A30, H⟩ := H
 replace H : ((impl_GetInt.f k t246).bind fun bt251 => (if t250 = true then (some (bt251.1, t249, true)) else (some (bt251.1, t249, !bt251.2)))) = some (r1, r2, r3) := H
 have A3 := am A30
 clear A30
 replace H := Option.bind_eq_some_iff.mp H
 obtain ⟨⟨t251, t252⟩, A40, H⟩ := H
 replace H : (if t250 = true then (some (t251, t249, true)) else (some (t251, t249, !t252))) = some (r1, r2, r3) := H
 have A4 := am A40
 clear A40
 by_cases c5 : t250 = true
 · subst c5
   have H1 : (some (t251, t249, true)) = some (r1, r2, r3) := by rw [if_pos rfl] at H; exact H
   clear H
   have H := H1
   clear H1
   simp only [Option.some.injEq, Prod.mk.injEq] at H
   obtain ⟨rfl, rfl, rfl⟩ := H
   go_enter Try.func91, Try.ntmps91
   go_wp2_with (first | ((with_reducible refine gate_callee (f := 97) rfl ?_); refine goesL_ (some 10) rfl rfl Try.func97 (by kernel_rfl) rfl #[.pointer (some ⟨g, 0, none⟩), .int .i64 a1] rfl ga ?_; (with_reducible refine (impl_parts_part.calls k g s0_0 s0_1 s0_2 a1 t246 t249 true w0 _ ?side1 ?side2 A3.out).mono ?_); (case side1 => exact IsS110.q0 HI0.out); (case side2 => exact bq1 HB.out (IsS110.ge HI0.out)); rintro e w6 ⟨v247, rfl, ho0, hi, hb, hk⟩; refine ⟨_, rfl, ?_⟩; have n_ := ak4 (Kd.R_lower ho0 (keep_size (w := w) (g := g) (row := none) (kp0 HK.out))) (KeepBut.trans (kp0 HK.out) hk (.inl rfl)) hb hi; clear HK HB HI0; obtain ⟨HO248, HK, HB, HI0⟩ := n_; (try clear hb hk hi ho0); obtain ⟨Ao7, co7, eo7⟩ := Kd.R_slice HO248.out; subst eo7) | ((with_reducible refine gate_callee (f := 126) rfl ?_); refine goesL_ (some 11) rfl rfl Try.func126 (by kernel_rfl) rfl #[.slice Ao7 t246.length co7] rfl ga ?_; (with_reducible refine (impl_GetInt.calls k _ _ t246 t251 t252 _ ?side1 ?side2 A4.out).mono ?_); (case side1 => repeat (first | exact (Kd.R_reads' HO248.out).2.2 | (with_reducible refine Kd.C_alloc ?_ _) | (with_reducible refine Kd.C_drewN ?_ _) | (with_reducible refine Kd.C_drew ?_))); (case side2 => exact (Kd.R_reads' HO248.out).2.1); rintro e w8 ⟨rfl, hb⟩; refine ⟨_, rfl, ?_⟩; have n_ := ak4 (Kd.R_below (kqR HO248.out) hb) (IsS110.below (IsS110.q0 HI0.out) hb) (KeepBut.trans (kp0 HK.out) (KeepBut.of_below hb g none) (.inl rfl)) (below_step (bq1 HB.out (IsS110.ge HI0.out)) hb); clear HO248 HI0 HK HB; obtain ⟨HO248, HI0, HK, HB⟩ := n_; (try clear hb); obtain ⟨ASz9_0, cSz9_0, HGz9, hgz9, HSz9_0⟩ := HI0.out; have hcz9_0 := cellS110_0 HGz9; have hcz9_1 := cellS110_1 HGz9; have hcz9_2 := cellS110_2 HGz9; have hfz9_1 := blk_frozen HGz9 1; have hfz9_2 := blk_frozen HGz9 2; clear HGz9 hgz9))
   go_ret
   exact ⟨rq, IsS110.q0 HI0.out, bq1 HB.out (IsS110.ge HI0.out), kp0 HK.out⟩
 replace c5 := Bool.eq_false_iff.mpr c5
 subst c5
 have H1 : (some (t251, t249, !t252)) = some (r1, r2, r3) := by rw [if_neg (show ¬ (false = true) by decide)] at H; exact H
 clear H
 have H := H1
 clear H1
 simp only [Option.some.injEq, Prod.mk.injEq] at H
 obtain ⟨rfl, rfl, rfl⟩ := H
 go_enter Try.func91, Try.ntmps91
 go_wp2_with (first | ((with_reducible refine gate_callee (f := 97) rfl ?_); refine goesL_ (some 10) rfl rfl Try.func97 (by kernel_rfl) rfl #[.pointer (some ⟨g, 0, none⟩), .int .i64 a1] rfl ga ?_; (with_reducible refine (impl_parts_part.calls k g s0_0 s0_1 s0_2 a1 t246 t249 false w0 _ ?side1 ?side2 A3.out).mono ?_); (case side1 => exact IsS110.q0 HI0.out); (case side2 => exact bq1 HB.out (IsS110.ge HI0.out)); rintro e w10 ⟨v247, rfl, ho0, hi, hb, hk⟩; refine ⟨_, rfl, ?_⟩; have n_ := ak4 (Kd.R_lower ho0 (keep_size (w := w) (g := g) (row := none) (kp0 HK.out))) (KeepBut.trans (kp0 HK.out) hk (.inl rfl)) hb hi; clear HK HB HI0; obtain ⟨HO248, HK, HB, HI0⟩ := n_; (try clear hb hk hi ho0); obtain ⟨Ao11, co11, eo11⟩ := Kd.R_slice HO248.out; subst eo11) | ((with_reducible refine gate_callee (f := 126) rfl ?_); refine goesL_ (some 11) rfl rfl Try.func126 (by kernel_rfl) rfl #[.slice Ao11 t246.length co11] rfl ga ?_; (with_reducible refine (impl_GetInt.calls k _ _ t246 t251 t252 _ ?side1 ?side2 A4.out).mono ?_); (case side1 => repeat (first | exact (Kd.R_reads' HO248.out).2.2 | (with_reducible refine Kd.C_alloc ?_ _) | (with_reducible refine Kd.C_drewN ?_ _) | (with_reducible refine Kd.C_drew ?_))); (case side2 => exact (Kd.R_reads' HO248.out).2.1); rintro e w12 ⟨rfl, hb⟩; refine ⟨_, rfl, ?_⟩; have n_ := ak4 (Kd.R_below (kqR HO248.out) hb) (IsS110.below (IsS110.q0 HI0.out) hb) (KeepBut.trans (kp0 HK.out) (KeepBut.of_below hb g none) (.inl rfl)) (below_step (bq1 HB.out (IsS110.ge HI0.out)) hb); clear HO248 HI0 HK HB; obtain ⟨HO248, HI0, HK, HB⟩ := n_; (try clear hb); obtain ⟨ASz13_0, cSz13_0, HGz13, hgz13, HSz13_0⟩ := HI0.out; have hcz13_0 := cellS110_0 HGz13; have hcz13_1 := cellS110_1 HGz13; have hcz13_2 := cellS110_2 HGz13; have hfz13_1 := blk_frozen HGz13 1; have hfz13_2 := blk_frozen HGz13 2; clear HGz13 hgz13))
 go_ret
 exact ⟨rq, IsS110.q0 HI0.out, bq1 HB.out (IsS110.ge HI0.out), kp0 HK.out⟩

/-! ### impl_parts_done: function 92 -/
def impl_parts_done.f (s0_0 : List Int) (s0_1 : Int) (s0_2 : Bool) : Option (Bool × Int × Bool) := if s0_2 = true then (some (false, s0_1, s0_2)) else (some ((s0_1 == (s0_0.length : Int)), s0_1, s0_2))
set_option maxHeartbeats 8000000 in
set_option maxRecDepth 100000 in
theorem impl_parts_done.calls (g : Nat) (s0_0 : List Int) (s0_1 : Int) (s0_2 : Bool) (r1 : Bool) (r2 : Int) (r3 : Bool) (w0 w : World) (hI : IsS110 w0 w g s0_0 s0_1 s0_2) (hB : Below w0.heap.size w0 w) (h : impl_parts_done.f s0_0 s0_1 s0_2 = some (r1, r2, r3)) :
 Calls Try.prog 92 #[.pointer (some ⟨g, 0, none⟩)] w fun e w' => e = .returned (.bool r1) ∧ IsS110 w0 w' g s0_0 r2 r3 ∧ Below w0.heap.size w0 w' ∧ KeepBut w w' g none := by
 have HI0 := am hI
 have HK := am (KeepBut.refl w g none)
 have HL := am hB.size
 clear hI
 have HW0 := am hB.size
 have HB := am hB
 clear hB
 have H : (if s0_2 = true then (some (false, s0_1, s0_2)) else (some ((s0_1 == (s0_0.length : Int)), s0_1, s0_2))) = some (r1, r2, r3) := h
 clear h
 by_cases c2 : s0_2 = true
 · subst c2
   have H1 : (some (false, s0_1, true)) = some (r1, r2, r3) := by rw [if_pos rfl] at H; exact H
   clear H
   have H := H1
   clear H1
   simp only [Option.some.injEq, Prod.mk.injEq] at H
   obtain ⟨rfl, rfl, rfl⟩ := H
   obtain ⟨ASz3_0, cSz3_0, HGz3, hgz3, HSz3_0⟩ := HI0.out
   have hcz3_0 := cellS110_0 HGz3
   have hcz3_1 := cellS110_1 HGz3
   have hcz3_2 := cellS110_2 HGz3
   have hfz3_1 := blk_frozen HGz3 1
   have hfz3_2 := blk_frozen HGz3 2
   clear HGz3 hgz3
   go_enter Try.func92, Try.ntmps92
   go_wp2
   repeat (go_quiet (fail); try go_wp2)
   go_ret
   exact ⟨rq, IsS110.q0 HI0.out, bq1 HB.out (IsS110.ge HI0.out), kp0 HK.out⟩
 replace c2 := Bool.eq_false_iff.mpr c2
 subst c2
 have H1 : (some ((s0_1 == (s0_0.length : Int)), s0_1, false)) = some (r1, r2, r3) := by rw [if_neg (show ¬ (false = true) by decide)] at H; exact H
 clear H
 have H := H1
 clear H1
 simp only [Option.some.injEq, Prod.mk.injEq] at H
 obtain ⟨rfl, rfl, rfl⟩ := H
 obtain ⟨ASz4_0, cSz4_0, HGz4, hgz4, HSz4_0⟩ := HI0.out
 have hcz4_0 := cellS110_0 HGz4
 have hcz4_1 := cellS110_1 HGz4
 have hcz4_2 := cellS110_2 HGz4
 have hfz4_1 := blk_frozen HGz4 1
 have hfz4_2 := blk_frozen HGz4 2
 clear HGz4 hgz4
 go_enter Try.func92, Try.ntmps92
 go_wp2
 repeat (go_quiet (fail); try go_wp2)
 go_ret
 exact ⟨rq, IsS110.q0 HI0.out, bq1 HB.out (IsS110.ge HI0.out), kp0 HK.out⟩

/-! ### impl_GetVec: function 35 -/
def impl_GetVec.f (k : Nat) (l0 : List Int) : Option (Int × Int × Int × Int × Int × Bool) := (impl_parts_num.f k l0 0 false 2).bind fun bt256 => ((impl_parts_num.f k l0 bt256.2.1 bt256.2.2 2).bind fun bt259 => ((impl_parts_num.f k l0 bt259.2.1 bt259.2.2 2).bind fun bt262 => ((impl_parts_num.f k l0 bt262.2.1 bt262.2.2 2).bind fun bt265 => ((impl_parts_num.f k l0 bt265.2.1 bt265.2.2 2).bind fun bt268 => ((impl_parts_done.f l0 bt268.2.1 bt268.2.2).bind fun bt271 => (if bt271.1 = true then ((impl_VecOk.f bt256.1 bt259.1 bt262.1 bt265.1 bt268.1).bind fun t274 => (if t274 = true then (some (bt256.1, bt259.1, bt262.1, bt265.1, bt268.1, true)) else (some (0, 0, 0, 0, 0, false)))) else (some (0, 0, 0, 0, 0, false))))))))
theorem impl_GetVec.mono : ∀ a0 k, LeO (impl_GetVec.f k a0) (impl_GetVec.f (k + 1) a0) := by
 intro a0 k
 unfold impl_GetVec.f
 repeat' first
  | (with_reducible exact impl_parts_num.mono _ _ _ _ _)
  | (with_reducible exact LeO.refl _)
  | (with_reducible exact LeO.none _)
  | (with_reducible refine LeO.ite ?_ ?_)
  | (with_reducible refine LeO.bind ?_ (fun _ => ?_))
  | exact impl_parts_num.mono _ _ _ _ _
  | exact LeO.none _
  | refine LeO.ite ?_ ?_
  | refine LeO.bind ?_ (fun _ => ?_)
set_option maxHeartbeats 8000000 in
set_option maxRecDepth 100000 in
theorem impl_GetVec.calls (k : Nat) (A0 : Option Addr) (c0 : Nat) (l0 : List Int) (r1 : Int) (r2 : Int) (r3 : Int) (r4 : Int) (r5 : Int) (r6 : Bool) (w : World) (hr0 : Kd.C (Kd.int .u8) w A0 l0.length l0) (hc0 : l0.length ≤ c0) (h : impl_GetVec.f k l0 = some (r1, r2, r3, r4, r5, r6)) :
 Calls Try.prog 35 #[.slice A0 l0.length c0] w fun e w' => e = .returned (.tuple #[.agg #[.int .i64 r1, .int .i64 r2, .int .i64 r3, .int .i64 r4, .int .i64 r5], .bool r6]) ∧ Below w.heap.size w w' := by
 have hu47 := Try.underlying47
 have hu110 := Try.underlying110
 have HR0 := am hr0
 have HC0 := am hc0
 clear hr0 hc0
 have HB := am (Below.refl w.heap.size w)
 have H : ((impl_parts_num.f k l0 0 false 2).bind fun bt256 => ((impl_parts_num.f k l0 bt256.2.1 bt256.2.2 2).bind fun bt259 => ((impl_parts_num.f k l0 bt259.2.1 bt259.2.2 2).bind fun bt262 => ((impl_parts_num.f k l0 bt262.2.1 bt262.2.2 2).bind fun bt265 => ((impl_parts_num.f k l0 bt265.2.1 bt265.2.2 2).bind fun bt268 => ((impl_parts_done.f l0 bt268.2.1 bt268.2.2).bind fun bt271 => (if bt271.1 = true then ((impl_VecOk.f bt256.1 bt259.1 bt262.1 bt265.1 bt268.1).bind fun t274 => (if t274 = true then (some (bt256.1, bt259.1, bt262.1, bt265.1, bt268.1, true)) else (some (0, 0, 0, 0, 0, false)))) else (some (0, 0, 0, 0, 0, false))))))))) = some (r1, r2, r3, r4, r5, r6) := h
 clear h
 replace H := Option.bind_eq_some_iff.mp H
 obtain ⟨⟨t256, t257, t258⟩, A20, H⟩ := H
 replace H : ((impl_parts_num.f k l0 t257 t258 2).bind fun bt259 => ((impl_parts_num.f k l0 bt259.2.1 bt259.2.2 2).bind fun bt262 => ((impl_parts_num.f k l0 bt262.2.1 bt262.2.2 2).bind fun bt265 => ((impl_parts_num.f k l0 bt265.2.1 bt265.2.2 2).bind fun bt268 => ((impl_parts_done.f l0 bt268.2.1 bt268.2.2).bind fun bt271 => (if bt271.1 = true then ((impl_VecOk.f t256 bt259.1 bt262.1 bt265.1 bt268.1).bind fun t274 => (if t274 = true then (some (t256, bt259.1, bt262.1, bt265.1, bt268.1, true)) else (some (0, 0, 0, 0, 0, false)))) else (some (0, 0, 0, 0, 0, false)))))))) = some (r1, r2, r3, r4, r5, r6) := H
 have A2 := am A20
 clear A20
 replace H := Option.bind_eq_some_iff.mp H
 obtain ⟨⟨t259, t260, t261⟩, A30, H⟩ := H
 replace H : ((impl_parts_num.f k l0 t260 t261 2).bind fun bt262 => ((impl_parts_num.f k l0 bt262.2.1 bt262.2.2 2).bind fun bt265 => ((impl_parts_num.f k l0 bt265.2.1 bt265.2.2 2).bind fun bt268 => ((impl_parts_done.f l0 bt268.2.1 bt268.2.2).bind fun bt271 => (if bt271.1 = true then ((impl_VecOk.f t256 t259 bt262.1 bt265.1 bt268.1).bind fun t274 => (if t274 = true then (some (t256, t259, bt262.1, bt265.1, bt268.1, true)) else (some (0, 0, 0, 0, 0, false)))) else (some (0, 0, 0, 0, 0, false))))))) = some (r1, r2, r3, r4, r5, r6) := H
 have A3 := am A30
 clear A30
 replace H := Option.bind_eq_some_iff.mp H
 obtain ⟨⟨t262, t263, t264⟩, A40, H⟩ := H
 replace H : ((impl_parts_num.f k l0 t263 t264 2).bind fun bt265 => ((impl_parts_num.f k l0 bt265.2.1 bt265.2.2 2).bind fun bt268 => ((impl_parts_done.f l0 bt268.2.1 bt268.2.2).bind fun bt271 => (if bt271.1 = true then ((impl_VecOk.f t256 t259 t262 bt265.1 bt268.1).bind fun t274 => (if t274 = true then (some (t256, t259, t262, bt265.1, bt268.1, true)) else (some (0, 0, 0, 0, 0, false)))) else (some (0, 0, 0, 0, 0, false)))))) = some (r1, r2, r3, r4, r5, r6) := H
 have A4 := am A40
 clear A40
 replace H := Option.bind_eq_some_iff.mp H
 obtain ⟨⟨t265, t266, t267⟩, A50, H⟩ := H
 replace H : ((impl_parts_num.f k l0 t266 t267 2).bind fun bt268 => ((impl_parts_done.f l0 bt268.2.1 bt268.2.2).bind fun bt271 => (if bt271.1 = true then ((impl_VecOk.f t256 t259 t262 t265 bt268.1).bind fun t274 => (if t274 = true then (some (t256, t259, t262, t265, bt268.1, true)) else (some (0, 0, 0, 0, 0, false)))) else (some (0, 0, 0, 0, 0, false))))) = some (r1, r2, r3, r4, r5, r6) := H
 have A5 := am A50
 clear A50
 replace H := Option.bind_eq_some_iff.mp H
 obtain ⟨⟨t268, t269, t270⟩, A60, H⟩ := H
 replace H : ((impl_parts_done.f l0 t269 t270).bind fun bt271 => (if bt271.1 = true then ((impl_VecOk.f t256 t259 t262 t265 t268).bind fun t274 => (if t274 = true then (some (t256, t259, t262, t265, t268, true)) else (some (0, 0, 0, 0, 0, false)))) else (some (0, 0, 0, 0, 0, false)))) = some (r1, r2, r3, r4, r5, r6) := H
 have A6 := am A60
 clear A60
 replace H := Option.bind_eq_some_iff.mp H
 obtain ⟨⟨t271, t272, t273⟩, A70, H⟩ := H
 replace H : (if t271 = true then ((impl_VecOk.f t256 t259 t262 t265 t268).bind fun t274 => (if t274 = true then (some (t256, t259, t262, t265, t268, true)) else (some (0, 0, 0, 0, 0, false)))) else (some (0, 0, 0, 0, 0, false))) = some (r1, r2, r3, r4, r5, r6) := H
 have A7 := am A70
 clear A70
 by_cases c8 : t271 = true
 · subst c8
   have H1 : ((impl_VecOk.f t256 t259 t262 t265 t268).bind fun t274 => (if t274 = true then (some (t256, t259, t262, t265, t268, true)) else (some (0, 0, 0, 0, 0, false)))) = some (r1, r2, r3, r4, r5, r6) := by rw [if_pos rfl] at H; exact H
   clear H
   have H := H1
   clear H1
   replace H := Option.bind_eq_some_iff.mp H
   obtain ⟨t274, A90, H⟩ := H
   replace H : (if t274 = true then (some (t256, t259, t262, t265, t268, true)) else (some (0, 0, 0, 0, 0, false))) = some (r1, r2, r3, r4, r5, r6) := H
   have A9 := am A90
   clear A90
   by_cases c10 : t274 = true
   · subst c10
     have H1 : (some (t256, t259, t262, t265, t268, true)) = some (r1, r2, r3, r4, r5, r6) := by rw [if_pos rfl] at H; exact H
     clear H
     have H := H1
     clear H1
     simp only [Option.some.injEq, Prod.mk.injEq] at H
     obtain ⟨rfl, rfl, rfl, rfl, rfl, rfl⟩ := H
     go_enter Try.func35, Try.ntmps35
     go_wp2_with (first | ((with_reducible refine gate_dst (N := 2) rfl ?_); refine box_event ?hg (N := 2) ?hd (cs := #[.int .i64 0, .int .i64 0, .int .i64 0, .int .i64 0, .int .i64 0]) (t := 47) ?hr ?_; (case hd => rfl); (case hg => rfl); (case hr => exact gs); intro gb253 hg w11 hbox hb; have n_ := ak4 (below_step (bq HB.out) hb) hbox ((by rw [hg]; exact (below_size (bq HB.out)) : w.heap.size ≤ gb253)) ((by rw [hg]; exact (below_size (bq HB.out)) : w.heap.size ≤ gb253)); clear HB; obtain ⟨HB, BK253, GW253, GE253⟩ := n_; clear hb hbox hg) | ((with_reducible refine gate_dst (N := 8) rfl ?_); refine box_event ?hg (N := 8) ?hd (cs := #[.slice A0 l0.length c0, .int .i64 0, .bool false]) (t := 110) ?hr ?_; (case hd => rfl); (case hg => rfl); (case hr => exact gs); intro gb254 hg w12 hbox hb; have n_ := ak7 (blk_below (g := gb253) (o := .cells #[.int .i64 0, .int .i64 0, .int .i64 0, .int .i64 0, .int .i64 0] 47 (0, 0)) (zq BK253.out) hb) (below_step (bq1 HB.out GE253.out) hb) hbox ((by rw [hg]; exact (below_size (bq1 HB.out GE253.out)) : w.heap.size ≤ gb254)) ((by rw [hg]; exact (below_size (bq1 HB.out GE253.out)) : w.heap.size ≤ gb254)) ((by rw [hg]; exact Nat.ne_of_lt (blk_lt (g := gb253) (o := .cells #[.int .i64 0, .int .i64 0, .int .i64 0, .int .i64 0, .int .i64 0] 47 (0, 0)) (zq BK253.out)) : gb253 ≠ gb254)) ((by rw [hg]; exact Nat.ne_of_gt (blk_lt (g := gb253) (o := .cells #[.int .i64 0, .int .i64 0, .int .i64 0, .int .i64 0, .int .i64 0] 47 (0, 0)) (zq BK253.out)) : gb254 ≠ gb253)); clear BK253 HB; obtain ⟨BK253, HB, BK254, GW254, GE254, NB253_254, NB254_253⟩ := n_; clear hb hbox hg) | ((with_reducible refine gate_dst (N := 5) rfl ?_); refine box_event ?hg (N := 5) ?hd (cs := #[.int .i64 0, .int .i64 0, .int .i64 0, .int .i64 0, .int .i64 0]) (t := 47) ?hr ?_; (case hd => rfl); (case hg => rfl); (case hr => exact gs); intro gb255 hg w13 hbox hb; have n_ := ak10 (blk_below (g := gb253) (o := .cells #[.int .i64 0, .int .i64 0, .int .i64 0, .int .i64 0, .int .i64 0] 47 (0, 0)) (zq BK253.out) hb) (blk_below (g := gb254) (o := .cells #[.slice A0 l0.length c0, .int .i64 0, .bool false] 110 (0, 0)) (zq BK254.out) hb) (below_step (bq2 HB.out GE253.out GE254.out) hb) hbox ((by rw [hg]; exact (below_size (bq2 HB.out GE253.out GE254.out)) : w.heap.size ≤ gb255)) ((by rw [hg]; exact (below_size (bq2 HB.out GE253.out GE254.out)) : w.heap.size ≤ gb255)) ((by rw [hg]; exact Nat.ne_of_lt (blk_lt (g := gb253) (o := .cells #[.int .i64 0, .int .i64 0, .int .i64 0, .int .i64 0, .int .i64 0] 47 (0, 0)) (zq BK253.out)) : gb253 ≠ gb255)) ((by rw [hg]; exact Nat.ne_of_gt (blk_lt (g := gb253) (o := .cells #[.int .i64 0, .int .i64 0, .int .i64 0, .int .i64 0, .int .i64 0] 47 (0, 0)) (zq BK253.out)) : gb255 ≠ gb253)) ((by rw [hg]; exact Nat.ne_of_lt (blk_lt (g := gb254) (o := .cells #[.slice A0 l0.length c0, .int .i64 0, .bool false] 110 (0, 0)) (zq BK254.out)) : gb254 ≠ gb255)) ((by rw [hg]; exact Nat.ne_of_gt (blk_lt (g := gb254) (o := .cells #[.slice A0 l0.length c0, .int .i64 0, .bool false] 110 (0, 0)) (zq BK254.out)) : gb255 ≠ gb254)); clear BK253 BK254 HB; obtain ⟨BK253, BK254, HB, BK255, GW255, GE255, NB253_255, NB255_253, NB254_255, NB255_254⟩ := n_; clear hb hbox hg; have HI254 := am (show IsS110 w w13 gb254 l0 0 false from ⟨_, _, BK254.out, GE254.out, ⟨HR0.out, HC0.out⟩⟩); clear BK254) | ((with_reducible refine gate_callee (f := 91) rfl ?_); refine goesL_ (some 10) rfl rfl Try.func91 (by kernel_rfl) rfl #[.pointer (some ⟨gb254, 0, none⟩), .int .i64 2] rfl ga ?_; (with_reducible refine (impl_parts_num.calls k gb254 l0 0 false 2 t256 t257 t258 w _ ?side1 ?side2 A2.out).mono ?_); (case side1 => exact IsS110.q2 HI254.out NB254_253.out NB254_255.out); (case side2 => exact bq3 HB.out (IsS110.ge HI254.out) GE253.out GE255.out); rintro e w14 ⟨rfl, hi, hb, hk⟩; refine ⟨_, rfl, ?_⟩; have n_ := ak4 (KeepBut.blk hk (g' := gb253) (o := .cells #[.int .i64 0, .int .i64 0, .int .i64 0, .int .i64 0, .int .i64 0] 47 (0, 0)) (zq BK253.out) NB253_254.out (by simp)) (KeepBut.blk hk (g' := gb255) (o := .cells #[.int .i64 0, .int .i64 0, .int .i64 0, .int .i64 0, .int .i64 0] 47 (0, 0)) (zq BK255.out) NB255_254.out (by simp)) hb hi; clear BK253 BK255 HB HI254; obtain ⟨BK253, BK255, HB, HI254⟩ := n_; (try clear hb hk hi); have hnb15 := NB255_253.out; have hnc15 := NB253_255.out; have hnb16 := NB255_254.out; have hnc16 := NB254_255.out; have hcz17_0 : w14.cell? ⟨gb255, 0, none⟩ = some (.int .i64 0) := (blk_cell BK255.out 0).trans rfl; have hcz17_1 : w14.cell? ⟨gb255, 1, none⟩ = some (.int .i64 0) := (blk_cell BK255.out 1).trans rfl; have hcz17_2 : w14.cell? ⟨gb255, 2, none⟩ = some (.int .i64 0) := (blk_cell BK255.out 2).trans rfl; have hcz17_3 : w14.cell? ⟨gb255, 3, none⟩ = some (.int .i64 0) := (blk_cell BK255.out 3).trans rfl; have hcz17_4 : w14.cell? ⟨gb255, 4, none⟩ = some (.int .i64 0) := (blk_cell BK255.out 4).trans rfl; have hfz17_0 := blk_frozen BK255.out 0; have hfz17_1 := blk_frozen BK255.out 1; have hfz17_2 := blk_frozen BK255.out 2; have hfz17_3 := blk_frozen BK255.out 3; have hfz17_4 := blk_frozen BK255.out 4) | ((with_reducible refine gate_callee (f := 91) rfl ?_); refine goesL_ (some 13) rfl rfl Try.func91 (by kernel_rfl) rfl #[.pointer (some ⟨gb254, 0, none⟩), .int .i64 2] rfl ga ?_; (with_reducible refine (impl_parts_num.calls k gb254 l0 t257 t258 2 t259 t260 t261 w _ ?side1 ?side2 A3.out).mono ?_); (case side1 => exact IsS110.q2 HI254.out NB254_253.out NB254_255.out); (case side2 => exact bq3 HB.out (IsS110.ge HI254.out) GE253.out GE255.out); rintro e w18 ⟨rfl, hi, hb, hk⟩; refine ⟨_, rfl, ?_⟩; have n_ := ak4 (KeepBut.blk hk (g' := gb253) (o := .cells #[.int .i64 0, .int .i64 0, .int .i64 0, .int .i64 0, .int .i64 0] 47 (0, 0)) (by (with_reducible repeat (first | refine blk_drewN ?_ _ | refine blk_drew ?_ | refine blk_alloc ?_ _)); refine blk_far ?_ NB253_255.out _; (with_reducible repeat (first | refine blk_drewN ?_ _ | refine blk_drew ?_ | refine blk_alloc ?_ _)); exact BK253.out) NB253_254.out (by simp)) (KeepBut.blk hk (g' := gb255) (o := .cells #[.int .i64 t256, .int .i64 0, .int .i64 0, .int .i64 0, .int .i64 0] 47 (0, 0)) (by (with_reducible repeat (first | refine blk_drewN ?_ _ | refine blk_drew ?_ | refine blk_alloc ?_ _)); refine blk_put (cs := #[.int .i64 0, .int .i64 0, .int .i64 0, .int .i64 0, .int .i64 0]) ?_ 0 _ rfl; (with_reducible repeat (first | refine blk_drewN ?_ _ | refine blk_drew ?_ | refine blk_alloc ?_ _)); exact BK255.out) NB255_254.out (by simp)) hb hi; clear BK253 BK255 HB HI254; obtain ⟨BK253, BK255, HB, HI254⟩ := n_; (try clear hb hk hi); have hcz19_0 : w18.cell? ⟨gb255, 0, none⟩ = some (.int .i64 t256) := (blk_cell BK255.out 0).trans rfl; have hcz19_1 : w18.cell? ⟨gb255, 1, none⟩ = some (.int .i64 0) := (blk_cell BK255.out 1).trans rfl; have hcz19_2 : w18.cell? ⟨gb255, 2, none⟩ = some (.int .i64 0) := (blk_cell BK255.out 2).trans rfl; have hcz19_3 : w18.cell? ⟨gb255, 3, none⟩ = some (.int .i64 0) := (blk_cell BK255.out 3).trans rfl; have hcz19_4 : w18.cell? ⟨gb255, 4, none⟩ = some (.int .i64 0) := (blk_cell BK255.out 4).trans rfl; have hfz19_0 := blk_frozen BK255.out 0; have hfz19_1 := blk_frozen BK255.out 1; have hfz19_2 := blk_frozen BK255.out 2; have hfz19_3 := blk_frozen BK255.out 3; have hfz19_4 := blk_frozen BK255.out 4) | ((with_reducible refine gate_callee (f := 91) rfl ?_); refine goesL_ (some 16) rfl rfl Try.func91 (by kernel_rfl) rfl #[.pointer (some ⟨gb254, 0, none⟩), .int .i64 2] rfl ga ?_; (with_reducible refine (impl_parts_num.calls k gb254 l0 t260 t261 2 t262 t263 t264 w _ ?side1 ?side2 A4.out).mono ?_); (case side1 => exact IsS110.q2 HI254.out NB254_253.out NB254_255.out); (case side2 => exact bq3 HB.out (IsS110.ge HI254.out) GE253.out GE255.out); rintro e w20 ⟨rfl, hi, hb, hk⟩; refine ⟨_, rfl, ?_⟩; have n_ := ak4 (KeepBut.blk hk (g' := gb253) (o := .cells #[.int .i64 0, .int .i64 0, .int .i64 0, .int .i64 0, .int .i64 0] 47 (0, 0)) (by (with_reducible repeat (first | refine blk_drewN ?_ _ | refine blk_drew ?_ | refine blk_alloc ?_ _)); refine blk_far ?_ NB253_255.out _; (with_reducible repeat (first | refine blk_drewN ?_ _ | refine blk_drew ?_ | refine blk_alloc ?_ _)); exact BK253.out) NB253_254.out (by simp)) (KeepBut.blk hk (g' := gb255) (o := .cells #[.int .i64 t256, .int .i64 t259, .int .i64 0, .int .i64 0, .int .i64 0] 47 (0, 0)) (by (with_reducible repeat (first | refine blk_drewN ?_ _ | refine blk_drew ?_ | refine blk_alloc ?_ _)); refine blk_put (cs := #[.int .i64 t256, .int .i64 0, .int .i64 0, .int .i64 0, .int .i64 0]) ?_ 1 _ rfl; (with_reducible repeat (first | refine blk_drewN ?_ _ | refine blk_drew ?_ | refine blk_alloc ?_ _)); exact BK255.out) NB255_254.out (by simp)) hb hi; clear BK253 BK255 HB HI254; obtain ⟨BK253, BK255, HB, HI254⟩ := n_; (try clear hb hk hi); have hcz21_0 : w20.cell? ⟨gb255, 0, none⟩ = some (.int .i64 t256) := (blk_cell BK255.out 0).trans rfl; have hcz21_1 : w20.cell? ⟨gb255, 1, none⟩ = some (.int .i64 t259) := (blk_cell BK255.out 1).trans rfl; have hcz21_2 : w20.cell? ⟨gb255, 2, none⟩ = some (.int .i64 0) := (blk_cell BK255.out 2).trans rfl; have hcz21_3 : w20.cell? ⟨gb255, 3, none⟩ = some (.int .i64 0) := (blk_cell BK255.out 3).trans rfl; have hcz21_4 : w20.cell? ⟨gb255, 4, none⟩ = some (.int .i64 0) := (blk_cell BK255.out 4).trans rfl; have hfz21_0 := blk_frozen BK255.out 0; have hfz21_1 := blk_frozen BK255.out 1; have hfz21_2 := blk_frozen BK255.out 2; have hfz21_3 := blk_frozen BK255.out 3; have hfz21_4 := blk_frozen BK255.out 4) | ((with_reducible refine gate_callee (f := 91) rfl ?_); refine goesL_ (some 19) rfl rfl Try.func91 (by kernel_rfl) rfl #[.pointer (some ⟨gb254, 0, none⟩), .int .i64 2] rfl ga ?_; (with_reducible refine (impl_parts_num.calls k gb254 l0 t263 t264 2 t265 t266 t267 w _ ?side1 ?side2 A5.out).mono ?_); (case side1 => exact IsS110.q2 HI254.out NB254_253.out NB254_255.out); (case side2 => exact bq3 HB.out (IsS110.ge HI254.out) GE253.out GE255.out); rintro e w22 ⟨rfl, hi, hb, hk⟩; refine ⟨_, rfl, ?_⟩; have n_ := ak4 (KeepBut.blk hk (g' := gb253) (o := .cells #[.int .i64 0, .int .i64 0, .int .i64 0, .int .i64 0, .int .i64 0] 47 (0, 0)) (by (with_reducible repeat (first | refine blk_drewN ?_ _ | refine blk_drew ?_ | refine blk_alloc ?_ _)); refine blk_far ?_ NB253_255.out _; (with_reducible repeat (first | refine blk_drewN ?_ _ | refine blk_drew ?_ | refine blk_alloc ?_ _)); exact BK253.out) NB253_254.out (by simp)) (KeepBut.blk hk (g' := gb255) (o := .cells #[.int .i64 t256, .int .i64 t259, .int .i64 t262, .int .i64 0, .int .i64 0] 47 (0, 0)) (by (with_reducible repeat (first | refine blk_drewN ?_ _ | refine blk_drew ?_ | refine blk_alloc ?_ _)); refine blk_put (cs := #[.int .i64 t256, .int .i64 t259, .int .i64 0, .int .i64 0, .int .i64 0]) ?_ 2 _ rfl; (with_reducible repeat (first | refine blk_drewN ?_ _ | refine blk_drew ?_ | refine blk_alloc ?_ _)); exact BK255.out) NB255_254.out (by simp)) hb hi; clear BK253 BK255 HB HI254; obtain ⟨BK253, BK255, HB, HI254⟩ := n_; (try clear hb hk hi); have hcz23_0 : w22.cell? ⟨gb255, 0, none⟩ = some (.int .i64 t256) := (blk_cell BK255.out 0).trans rfl; have hcz23_1 : w22.cell? ⟨gb255, 1, none⟩ = some (.int .i64 t259) := (blk_cell BK255.out 1).trans rfl; have hcz23_2 : w22.cell? ⟨gb255, 2, none⟩ = some (.int .i64 t262) := (blk_cell BK255.out 2).trans rfl; have hcz23_3 : w22.cell? ⟨gb255, 3, none⟩ = some (.int .i64 0) := (blk_cell BK255.out 3).trans rfl; have hcz23_4 : w22.cell? ⟨gb255, 4, none⟩ = some (.int .i64 0) := (blk_cell BK255.out 4).trans rfl; have hfz23_0 := blk_frozen BK255.out 0; have hfz23_1 := blk_frozen BK255.out 1; have hfz23_2 := blk_frozen BK255.out 2; have hfz23_3 := blk_frozen BK255.out 3; have hfz23_4 := blk_frozen BK255.out 4) | ((with_reducible refine gate_callee (f := 91) rfl ?_); refine goesL_ (some 22) rfl rfl Try.func91 (by kernel_rfl) rfl #[.pointer (some ⟨gb254, 0, none⟩), .int .i64 2] rfl ga ?_; (with_reducible refine (impl_parts_num.calls k gb254 l0 t266 t267 2 t268 t269 t270 w _ ?side1 ?side2 A6.out).mono ?_); (case side1 => exact IsS110.q2 HI254.out NB254_253.out NB254_255.out); (case side2 => exact bq3 HB.out (IsS110.ge HI254.out) GE253.out GE255.out); rintro e w24 ⟨rfl, hi, hb, hk⟩; refine ⟨_, rfl, ?_⟩; have n_ := ak4 (KeepBut.blk hk (g' := gb253) (o := .cells #[.int .i64 0, .int .i64 0, .int .i64 0, .int .i64 0, .int .i64 0] 47 (0, 0)) (by (with_reducible repeat (first | refine blk_drewN ?_ _ | refine blk_drew ?_ | refine blk_alloc ?_ _)); refine blk_far ?_ NB253_255.out _; (with_reducible repeat (first | refine blk_drewN ?_ _ | refine blk_drew ?_ | refine blk_alloc ?_ _)); exact BK253.out) NB253_254.out (by simp)) (KeepBut.blk hk (g' := gb255) (o := .cells #[.int .i64 t256, .int .i64 t259, .int .i64 t262, .int .i64 t265, .int .i64 0] 47 (0, 0)) (by (with_reducible repeat (first | refine blk_drewN ?_ _ | refine blk_drew ?_ | refine blk_alloc ?_ _)); refine blk_put (cs := #[.int .i64 t256, .int .i64 t259, .int .i64 t262, .int .i64 0, .int .i64 0]) ?_ 3 _ rfl; (with_reducible repeat (first | refine blk_drewN ?_ _ | refine blk_drew ?_ | refine blk_alloc ?_ _)); exact BK255.out) NB255_254.out (by simp)) hb hi; clear BK253 BK255 HB HI254; obtain ⟨BK253, BK255, HB, HI254⟩ := n_; (try clear hb hk hi); have hcz25_0 : w24.cell? ⟨gb255, 0, none⟩ = some (.int .i64 t256) := (blk_cell BK255.out 0).trans rfl; have hcz25_1 : w24.cell? ⟨gb255, 1, none⟩ = some (.int .i64 t259) := (blk_cell BK255.out 1).trans rfl; have hcz25_2 : w24.cell? ⟨gb255, 2, none⟩ = some (.int .i64 t262) := (blk_cell BK255.out 2).trans rfl; have hcz25_3 : w24.cell? ⟨gb255, 3, none⟩ = some (.int .i64 t265) := (blk_cell BK255.out 3).trans rfl; have hcz25_4 : w24.cell? ⟨gb255, 4, none⟩ = some (.int .i64 0) := (blk_cell BK255.out 4).trans rfl; have hfz25_0 := blk_frozen BK255.out 0; have hfz25_1 := blk_frozen BK255.out 1; have hfz25_2 := blk_frozen BK255.out 2; have hfz25_3 := blk_frozen BK255.out 3; have hfz25_4 := blk_frozen BK255.out 4) | ((with_reducible refine gate_callee (f := 92) rfl ?_); refine goesL_ (some 25) rfl rfl Try.func92 (by kernel_rfl) rfl #[.pointer (some ⟨gb254, 0, none⟩)] rfl ga ?_; (with_reducible refine (impl_parts_done.calls gb254 l0 t269 t270 true t272 t273 w _ ?side1 ?side2 A7.out).mono ?_); (case side1 => exact IsS110.q2 HI254.out NB254_253.out NB254_255.out); (case side2 => exact bq3 HB.out (IsS110.ge HI254.out) GE253.out GE255.out); rintro e w26 ⟨rfl, hi, hb, hk⟩; refine ⟨_, rfl, ?_⟩; have n_ := ak4 (KeepBut.blk hk (g' := gb253) (o := .cells #[.int .i64 0, .int .i64 0, .int .i64 0, .int .i64 0, .int .i64 0] 47 (0, 0)) (by (with_reducible repeat (first | refine blk_drewN ?_ _ | refine blk_drew ?_ | refine blk_alloc ?_ _)); refine blk_far ?_ NB253_255.out _; (with_reducible repeat (first | refine blk_drewN ?_ _ | refine blk_drew ?_ | refine blk_alloc ?_ _)); exact BK253.out) NB253_254.out (by simp)) (KeepBut.blk hk (g' := gb255) (o := .cells #[.int .i64 t256, .int .i64 t259, .int .i64 t262, .int .i64 t265, .int .i64 t268] 47 (0, 0)) (by (with_reducible repeat (first | refine blk_drewN ?_ _ | refine blk_drew ?_ | refine blk_alloc ?_ _)); refine blk_put (cs := #[.int .i64 t256, .int .i64 t259, .int .i64 t262, .int .i64 t265, .int .i64 0]) ?_ 4 _ rfl; (with_reducible repeat (first | refine blk_drewN ?_ _ | refine blk_drew ?_ | refine blk_alloc ?_ _)); exact BK255.out) NB255_254.out (by simp)) hb hi; clear BK253 BK255 HB HI254; obtain ⟨BK253, BK255, HB, HI254⟩ := n_; (try clear hb hk hi); have hcz27_0 : w26.cell? ⟨gb255, 0, none⟩ = some (.int .i64 t256) := (blk_cell BK255.out 0).trans rfl; have hcz27_1 : w26.cell? ⟨gb255, 1, none⟩ = some (.int .i64 t259) := (blk_cell BK255.out 1).trans rfl; have hcz27_2 : w26.cell? ⟨gb255, 2, none⟩ = some (.int .i64 t262) := (blk_cell BK255.out 2).trans rfl; have hcz27_3 : w26.cell? ⟨gb255, 3, none⟩ = some (.int .i64 t265) := (blk_cell BK255.out 3).trans rfl; have hcz27_4 : w26.cell? ⟨gb255, 4, none⟩ = some (.int .i64 t268) := (blk_cell BK255.out 4).trans rfl; have hfz27_0 := blk_frozen BK255.out 0; have hfz27_1 := blk_frozen BK255.out 1; have hfz27_2 := blk_frozen BK255.out 2; have hfz27_3 := blk_frozen BK255.out 3; have hfz27_4 := blk_frozen BK255.out 4) | (go_at_call 65; (with_reducible refine (impl_VecOk.calls t256 t259 t262 t265 t268 true _ A9.out).mono ?_); rintro e w28 ⟨rfl, hb⟩; have n_ := ak4 (blk_below (g := gb253) (o := .cells #[.int .i64 0, .int .i64 0, .int .i64 0, .int .i64 0, .int .i64 0] 47 (0, 0)) (zq BK253.out) hb) (blk_below (g := gb255) (o := .cells #[.int .i64 t256, .int .i64 t259, .int .i64 t262, .int .i64 t265, .int .i64 t268] 47 (0, 0)) (zq BK255.out) hb) (IsS110.below (IsS110.q2 HI254.out NB254_253.out NB254_255.out) hb) (below_step (bq3 HB.out (IsS110.ge HI254.out) GE253.out GE255.out) hb); clear BK253 BK255 HI254 HB; obtain ⟨BK253, BK255, HI254, HB⟩ := n_; (try clear hb); have hcz29_0 : w28.cell? ⟨gb255, 0, none⟩ = some (.int .i64 t256) := (blk_cell BK255.out 0).trans rfl; have hcz29_1 : w28.cell? ⟨gb255, 1, none⟩ = some (.int .i64 t259) := (blk_cell BK255.out 1).trans rfl; have hcz29_2 : w28.cell? ⟨gb255, 2, none⟩ = some (.int .i64 t262) := (blk_cell BK255.out 2).trans rfl; have hcz29_3 : w28.cell? ⟨gb255, 3, none⟩ = some (.int .i64 t265) := (blk_cell BK255.out 3).trans rfl; have hcz29_4 : w28.cell? ⟨gb255, 4, none⟩ = some (.int .i64 t268) := (blk_cell BK255.out 4).trans rfl; have hfz29_0 := blk_frozen BK255.out 0; have hfz29_1 := blk_frozen BK255.out 1; have hfz29_2 := blk_frozen BK255.out 2; have hfz29_3 := blk_frozen BK255.out 3; have hfz29_4 := blk_frozen BK255.out 4; have hnb30 := NB253_254.out; have hnc30 := NB254_253.out; have hcz31_0 : w28.cell? ⟨gb253, 0, none⟩ = some (.int .i64 0) := (blk_cell BK253.out 0).trans rfl; have hcz31_1 : w28.cell? ⟨gb253, 1, none⟩ = some (.int .i64 0) := (blk_cell BK253.out 1).trans rfl; have hcz31_2 : w28.cell? ⟨gb253, 2, none⟩ = some (.int .i64 0) := (blk_cell BK253.out 2).trans rfl; have hcz31_3 : w28.cell? ⟨gb253, 3, none⟩ = some (.int .i64 0) := (blk_cell BK253.out 3).trans rfl; have hcz31_4 : w28.cell? ⟨gb253, 4, none⟩ = some (.int .i64 0) := (blk_cell BK253.out 4).trans rfl; have hfz31_0 := blk_frozen BK253.out 0; have hfz31_1 := blk_frozen BK253.out 1; have hfz31_2 := blk_frozen BK253.out 2; have hfz31_3 := blk_frozen BK253.out 3; have hfz31_4 := blk_frozen BK253.out 4) | ((with_reducible refine gate_store (t := 47) (p := 2) rfl ?_); refine store_event (t := 47) (p := 2) (v := ?vo_w32) (w1 := (((((w28.setCell ⟨gb253, 0, none⟩ (.int .i64 t256)).setCell ⟨gb253, 1, none⟩ (.int .i64 t259)).setCell ⟨gb253, 2, none⟩ (.int .i64 t262)).setCell ⟨gb253, 3, none⟩ (.int .i64 t265)).setCell ⟨gb253, 4, none⟩ (.int .i64 t268))) ?hg ?ho ?hn ?hr ?_; (case ho => rfl); (case hg => rfl); (case hn => rfl); (case hr => exact gs); intro w32 hw; have n0_ : Aside0 (w32.heap[gb253]? = some (.cells #[.int .i64 t256, .int .i64 t259, .int .i64 t262, .int .i64 t265, .int .i64 t268] 47 (0, 0))) := ⟨(by rw [hw]; exact (by (with_reducible repeat (first | refine blk_drewN ?_ _ | refine blk_drew ?_ | refine blk_alloc ?_ _)); refine blk_put (cs := #[.int .i64 t256, .int .i64 t259, .int .i64 t262, .int .i64 t265, .int .i64 0]) ?_ 4 _ rfl; (with_reducible repeat (first | refine blk_drewN ?_ _ | refine blk_drew ?_ | refine blk_alloc ?_ _)); refine blk_put (cs := #[.int .i64 t256, .int .i64 t259, .int .i64 t262, .int .i64 0, .int .i64 0]) ?_ 3 _ rfl; (with_reducible repeat (first | refine blk_drewN ?_ _ | refine blk_drew ?_ | refine blk_alloc ?_ _)); refine blk_put (cs := #[.int .i64 t256, .int .i64 t259, .int .i64 0, .int .i64 0, .int .i64 0]) ?_ 2 _ rfl; (with_reducible repeat (first | refine blk_drewN ?_ _ | refine blk_drew ?_ | refine blk_alloc ?_ _)); refine blk_put (cs := #[.int .i64 t256, .int .i64 0, .int .i64 0, .int .i64 0, .int .i64 0]) ?_ 1 _ rfl; (with_reducible repeat (first | refine blk_drewN ?_ _ | refine blk_drew ?_ | refine blk_alloc ?_ _)); refine blk_put (cs := #[.int .i64 0, .int .i64 0, .int .i64 0, .int .i64 0, .int .i64 0]) ?_ 0 _ rfl; (with_reducible repeat (first | refine blk_drewN ?_ _ | refine blk_drew ?_ | refine blk_alloc ?_ _)); exact BK253.out))⟩; have n1_ : Aside0 (w32.heap[gb255]? = some (.cells #[.int .i64 t256, .int .i64 t259, .int .i64 t262, .int .i64 t265, .int .i64 t268] 47 (0, 0))) := ⟨(by rw [hw]; exact (by (with_reducible repeat (first | refine blk_drewN ?_ _ | refine blk_drew ?_ | refine blk_alloc ?_ _)); refine blk_far ?_ NB255_253.out _; (with_reducible repeat (first | refine blk_drewN ?_ _ | refine blk_drew ?_ | refine blk_alloc ?_ _)); refine blk_far ?_ NB255_253.out _; (with_reducible repeat (first | refine blk_drewN ?_ _ | refine blk_drew ?_ | refine blk_alloc ?_ _)); refine blk_far ?_ NB255_253.out _; (with_reducible repeat (first | refine blk_drewN ?_ _ | refine blk_drew ?_ | refine blk_alloc ?_ _)); refine blk_far ?_ NB255_253.out _; (with_reducible repeat (first | refine blk_drewN ?_ _ | refine blk_drew ?_ | refine blk_alloc ?_ _)); refine blk_far ?_ NB255_253.out _; (with_reducible repeat (first | refine blk_drewN ?_ _ | refine blk_drew ?_ | refine blk_alloc ?_ _)); exact BK255.out))⟩; have n2_ : Aside0 (IsS110 w w32 gb254 l0 t272 t273) := ⟨(by rw [hw]; exact (IsS110.q2 HI254.out NB254_253.out NB254_255.out))⟩; have n3_ : Aside0 (Below w.heap.size w w32) := ⟨(by rw [hw]; exact (bq3 HB.out (IsS110.ge HI254.out) GE253.out GE255.out))⟩; clear hw; clear BK253; clear BK255; clear HI254; clear HB; have BK253 := n0_; have BK255 := n1_; have HI254 := n2_; have HB := n3_; clear n0_ n1_ n2_ n3_))
     refine bodyPost_ret (results_ct rfl _ _ gb253 47 #[.int .i64 t256, .int .i64 t259, .int .i64 t262, .int .i64 t265, .int .i64 t268] (0, 0) _ rfl (zq BK253.out) Try.underlying47 rfl (by kernel_rfl)) rfl ?_
     exact ⟨rq, bq3 HB.out (IsS110.ge HI254.out) GE253.out GE255.out⟩
   replace c10 := Bool.eq_false_iff.mpr c10
   subst c10
   have H1 : (some (0, 0, 0, 0, 0, false)) = some (r1, r2, r3, r4, r5, r6) := by rw [if_neg (show ¬ (false = true) by decide)] at H; exact H
   clear H
   have H := H1
   clear H1
   simp only [Option.some.injEq, Prod.mk.injEq] at H
   obtain ⟨rfl, rfl, rfl, rfl, rfl, rfl⟩ := H
   go_enter Try.func35, Try.ntmps35
   go_wp2_with (first | ((with_reducible refine gate_dst (N := 2) rfl ?_); refine box_event ?hg (N := 2) ?hd (cs := #[.int .i64 0, .int .i64 0, .int .i64 0, .int .i64 0, .int .i64 0]) (t := 47) ?hr ?_; (case hd => rfl); (case hg => rfl); (case hr => exact gs); intro gb253 hg w33 hbox hb; have n_ := ak4 (below_step (bq HB.out) hb) hbox ((by rw [hg]; exact (below_size (bq HB.out)) : w.heap.size ≤ gb253)) ((by rw [hg]; exact (below_size (bq HB.out)) : w.heap.size ≤ gb253)); clear HB; obtain ⟨HB, BK253, GW253, GE253⟩ := n_; clear hb hbox hg) | ((with_reducible refine gate_dst (N := 8) rfl ?_); refine box_event ?hg (N := 8) ?hd (cs := #[.slice A0 l0.length c0, .int .i64 0, .bool false]) (t := 110) ?hr ?_; (case hd => rfl); (case hg => rfl); (case hr => exact gs); intro gb254 hg w34 hbox hb; have n_ := ak7 (blk_below (g := gb253) (o := .cells #[.int .i64 0, .int .i64 0, .int .i64 0, .int .i64 0, .int .i64 0] 47 (0, 0)) (zq BK253.out) hb) (below_step (bq1 HB.out GE253.out) hb) hbox ((by rw [hg]; exact (below_size (bq1 HB.out GE253.out)) : w.heap.size ≤ gb254)) ((by rw [hg]; exact (below_size (bq1 HB.out GE253.out)) : w.heap.size ≤ gb254)) ((by rw [hg]; exact Nat.ne_of_lt (blk_lt (g := gb253) (o := .cells #[.int .i64 0, .int .i64 0, .int .i64 0, .int .i64 0, .int .i64 0] 47 (0, 0)) (zq BK253.out)) : gb253 ≠ gb254)) ((by rw [hg]; exact Nat.ne_of_gt (blk_lt (g := gb253) (o := .cells #[.int .i64 0, .int .i64 0, .int .i64 0, .int .i64 0, .int .i64 0] 47 (0, 0)) (zq BK253.out)) : gb254 ≠ gb253)); clear BK253 HB; obtain ⟨BK253, HB, BK254, GW254, GE254, NB253_254, NB254_253⟩ := n_; clear hb hbox hg) | ((with_reducible refine gate_dst (N := 5) rfl ?_); refine box_event ?hg (N := 5) ?hd (cs := #[.int .i64 0, .int .i64 0, .int .i64 0, .int .i64 0, .int .i64 0]) (t := 47) ?hr ?_; (case hd => rfl); (case hg => rfl); (case hr => exact gs); intro gb255 hg w35 hbox hb; have n_ := ak10 (blk_below (g := gb253) (o := .cells #[.int .i64 0, .int .i64 0, .int .i64 0, .int .i64 0, .int .i64 0] 47 (0, 0)) (zq BK253.out) hb) (blk_below (g := gb254) (o := .cells #[.slice A0 l0.length c0, .int .i64 0, .bool false] 110 (0, 0)) (zq BK254.out) hb) (below_step (bq2 HB.out GE253.out GE254.out) hb) hbox ((by rw [hg]; exact (below_size (bq2 HB.out GE253.out GE254.out)) : w.heap.size ≤ gb255)) ((by rw [hg]; exact (below_size (bq2 HB.out GE253.out GE254.out)) : w.heap.size ≤ gb255)) ((by rw [hg]; exact Nat.ne_of_lt (blk_lt (g := gb253) (o := .cells #[.int .i64 0, .int .i64 0, .int .i64 0, .int .i64 0, .int .i64 0] 47 (0, 0)) (zq BK253.out)) : gb253 ≠ gb255)) ((by rw [hg]; exact Nat.ne_of_gt (blk_lt (g := gb253) (o := .cells #[.int .i64 0, .int .i64 0, .int .i64 0, .int .i64 0, .int .i64 0] 47 (0, 0)) (zq BK253.out)) : gb255 ≠ gb253)) ((by rw [hg]; exact Nat.ne_of_lt (blk_lt (g := gb254) (o := .cells #[.slice A0 l0.length c0, .int .i64 0, .bool false] 110 (0, 0)) (zq BK254.out)) : gb254 ≠ gb255)) ((by rw [hg]; exact Nat.ne_of_gt (blk_lt (g := gb254) (o := .cells #[.slice A0 l0.length c0, .int .i64 0, .bool false] 110 (0, 0)) (zq BK254.out)) : gb255 ≠ gb254)); clear BK253 BK254 HB; obtain ⟨BK253, BK254, HB, BK255, GW255, GE255, NB253_255, NB255_253, NB254_255, NB255_254⟩ := n_; clear hb hbox hg; have HI254 := am (show IsS110 w w35 gb254 l0 0 false from ⟨_, _, BK254.out, GE254.out, ⟨HR0.out, HC0.out⟩⟩); clear BK254) | ((with_reducible refine gate_callee (f := 91) rfl ?_); refine goesL_ (some 10) rfl rfl Try.func91 (by kernel_rfl) rfl #[.pointer (some ⟨gb254, 0, none⟩), .int .i64 2] rfl ga ?_; (with_reducible refine (impl_parts_num.calls k gb254 l0 0 false 2 t256 t257 t258 w _ ?side1 ?side2 A2.out).mono ?_); (case side1 => exact IsS110.q2 HI254.out NB254_253.out NB254_255.out); (case side2 => exact bq3 HB.out (IsS110.ge HI254.out) GE253.out GE255.out); rintro e w36 ⟨rfl, hi, hb, hk⟩; refine ⟨_, rfl, ?_⟩; have n_ := ak4 (KeepBut.blk hk (g' := gb253) (o := .cells #[.int .i64 0, .int .i64 0, .int .i64 0, .int .i64 0, .int .i64 0] 47 (0, 0)) (zq BK253.out) NB253_254.out (by simp)) (KeepBut.blk hk (g' := gb255) (o := .cells #[.int .i64 0, .int .i64 0, .int .i64 0, .int .i64 0, .int .i64 0] 47 (0, 0)) (zq BK255.out) NB255_254.out (by simp)) hb hi; clear BK253 BK255 HB HI254; obtain ⟨BK253, BK255, HB, HI254⟩ := n_; (try clear hb hk hi); have hnb37 := NB255_253.out; have hnc37 := NB253_255.out; have hnb38 := NB255_254.out; have hnc38 := NB254_255.out; have hcz39_0 : w36.cell? ⟨gb255, 0, none⟩ = some (.int .i64 0) := (blk_cell BK255.out 0).trans rfl; have hcz39_1 : w36.cell? ⟨gb255, 1, none⟩ = some (.int .i64 0) := (blk_cell BK255.out 1).trans rfl; have hcz39_2 : w36.cell? ⟨gb255, 2, none⟩ = some (.int .i64 0) := (blk_cell BK255.out 2).trans rfl; have hcz39_3 : w36.cell? ⟨gb255, 3, none⟩ = some (.int .i64 0) := (blk_cell BK255.out 3).trans rfl; have hcz39_4 : w36.cell? ⟨gb255, 4, none⟩ = some (.int .i64 0) := (blk_cell BK255.out 4).trans rfl; have hfz39_0 := blk_frozen BK255.out 0; have hfz39_1 := blk_frozen BK255.out 1; have hfz39_2 := blk_frozen BK255.out 2; have hfz39_3 := blk_frozen BK255.out 3; have hfz39_4 := blk_frozen BK255.out 4) | ((with_reducible refine gate_callee (f := 91) rfl ?_); refine goesL_ (some 13) rfl rfl Try.func91 (by kernel_rfl) rfl #[.pointer (some ⟨gb254, 0, none⟩), .int .i64 2] rfl ga ?_; (with_reducible refine (impl_parts_num.calls k gb254 l0 t257 t258 2 t259 t260 t261 w _ ?side1 ?side2 A3.out).mono ?_); (case side1 => exact IsS110.q2 HI254.out NB254_253.out NB254_255.out); (case side2 => exact bq3 HB.out (IsS110.ge HI254.out) GE253.out GE255.out); rintro e w40 ⟨rfl, hi, hb, hk⟩; refine ⟨_, rfl, ?_⟩; have n_ := ak4 (KeepBut.blk hk (g' := gb253) (o := .cells #[.int .i64 0, .int .i64 0, .int .i64 0, .int .i64 0, .int .i64 0] 47 (0, 0)) (by (with_reducible repeat (first | refine blk_drewN ?_ _ | refine blk_drew ?_ | refine blk_alloc ?_ _)); refine blk_far ?_ NB253_255.out _; (with_reducible repeat (first | refine blk_drewN ?_ _ | refine blk_drew ?_ | refine blk_alloc ?_ _)); exact BK253.out) NB253_254.out (by simp)) (KeepBut.blk hk (g' := gb255) (o := .cells #[.int .i64 t256, .int .i64 0, .int .i64 0, .int .i64 0, .int .i64 0] 47 (0, 0)) (by (with_reducible repeat (first | refine blk_drewN ?_ _ | refine blk_drew ?_ | refine blk_alloc ?_ _)); refine blk_put (cs := #[.int .i64 0, .int .i64 0, .int .i64 0, .int .i64 0, .int .i64 0]) ?_ 0 _ rfl; (with_reducible repeat (first | refine blk_drewN ?_ _ | refine blk_drew ?_ | refine blk_alloc ?_ _)); exact BK255.out) NB255_254.out (by simp)) hb hi; clear BK253 BK255 HB HI254; obtain ⟨BK253, BK255, HB, HI254⟩ := n_; (try clear hb hk hi); have hcz41_0 : w40.cell? ⟨gb255, 0, none⟩ = some (.int .i64 t256) := (blk_cell BK255.out 0).trans rfl; have hcz41_1 : w40.cell? ⟨gb255, 1, none⟩ = some (.int .i64 0) := (blk_cell BK255.out 1).trans rfl; have hcz41_2 : w40.cell? ⟨gb255, 2, none⟩ = some (.int .i64 0) := (blk_cell BK255.out 2).trans rfl; have hcz41_3 : w40.cell? ⟨gb255, 3, none⟩ = some (.int .i64 0) := (blk_cell BK255.out 3).trans rfl; have hcz41_4 : w40.cell? ⟨gb255, 4, none⟩ = some (.int .i64 0) := (blk_cell BK255.out 4).trans rfl; have hfz41_0 := blk_frozen BK255.out 0; have hfz41_1 := blk_frozen BK255.out 1; have hfz41_2 := blk_frozen BK255.out 2; have hfz41_3 := blk_frozen BK255.out 3; have hfz41_4 := blk_frozen BK255.out 4) | ((with_reducible refine gate_callee (f := 91) rfl ?_); refine goesL_ (some 16) rfl rfl Try.func91 (by kernel_rfl) rfl #[.pointer (some ⟨gb254, 0, none⟩), .int .i64 2] rfl ga ?_; (with_reducible refine (impl_parts_num.calls k gb254 l0 t260 t261 2 t262 t263 t264 w _ ?side1 ?side2 A4.out).mono ?_); (case side1 => exact IsS110.q2 HI254.out NB254_253.out NB254_255.out); (case side2 => exact bq3 HB.out (IsS110.ge HI254.out) GE253.out GE255.out); rintro e w42 ⟨rfl, hi, hb, hk⟩; refine ⟨_, rfl, ?_⟩; have n_ := ak4 (KeepBut.blk hk (g' := gb253) (o := .cells #[.int .i64 0, .int .i64 0, .int .i64 0, .int .i64 0, .int .i64 0] 47 (0, 0)) (by (with_reducible repeat (first | refine blk_drewN ?_ _ | refine blk_drew ?_ | refine blk_alloc ?_ _)); refine blk_far ?_ NB253_255.out _; (with_reducible repeat (first | refine blk_drewN ?_ _ | refine blk_drew ?_ | refine blk_alloc ?_ _)); exact BK253.out) NB253_254.out (by simp)) (KeepBut.blk hk (g' := gb255) (o := .cells #[.int .i64 t256, .int .i64 t259, .int .i64 0, .int .i64 0, .int .i64 0] 47 (0, 0)) (by (with_reducible repeat (first | refine blk_drewN ?_ _ | refine blk_drew ?_ | refine blk_alloc ?_ _)); refine blk_put (cs := #[.int .i64 t256, .int .i64 0, .int .i64 0, .int .i64 0, .int .i64 0]) ?_ 1 _ rfl; (with_reducible repeat (first | refine blk_drewN ?_ _ | refine blk_drew ?_ | refine blk_alloc ?_ _)); exact BK255.out) NB255_254.out (by simp)) hb hi; clear BK253 BK255 HB HI254; obtain ⟨BK253, BK255, HB, HI254⟩ := n_; (try clear hb hk hi); have hcz43_0 : w42.cell? ⟨gb255, 0, none⟩ = some (.int .i64 t256) := (blk_cell BK255.out 0).trans rfl; have hcz43_1 : w42.cell? ⟨gb255, 1, none⟩ = some (.int .i64 t259) := (blk_cell BK255.out 1).trans rfl; have hcz43_2 : w42.cell? ⟨gb255, 2, none⟩ = some (.int .i64 0) := (blk_cell BK255.out 2).trans rfl; have hcz43_3 : w42.cell? ⟨gb255, 3, none⟩ = some (.int .i64 0) := (blk_cell BK255.out 3).trans rfl; have hcz43_4 : w42.cell? ⟨gb255, 4, none⟩ = some (.int .i64 0) := (blk_cell BK255.out 4).trans rfl; have hfz43_0 := blk_frozen BK255.out 0; have hfz43_1 := blk_frozen BK255.out 1; have hfz43_2 := blk_frozen BK255.out 2; have hfz43_3 := blk_frozen BK255.out 3; have hfz43_4 := blk_frozen BK255.out 4) | ((with_reducible refine gate_callee (f := 91) rfl ?_); refine goesL_ (some 19) rfl rfl Try.func91 (by kernel_rfl) rfl #[.pointer (some ⟨gb254, 0, none⟩), .int .i64 2] rfl ga ?_; (with_reducible refine (impl_parts_num.calls k gb254 l0 t263 t264 2 t265 t266 t267 w _ ?side1 ?side2 A5.out).mono ?_); (case side1 => exact IsS110.q2 HI254.out NB254_253.out NB254_255.out); (case side2 => exact bq3 HB.out (IsS110.ge HI254.out) GE253.out GE255.out); rintro e w44 ⟨rfl, hi, hb, hk⟩; refine ⟨_, rfl, ?_⟩; have n_ := ak4 (KeepBut.blk hk (g' := gb253) (o := .cells #[.int .i64 0, .int .i64 0, .int .i64 0, .int .i64 0, .int .i64 0] 47 (0, 0)) (by (with_reducible repeat (first | refine blk_drewN ?_ _ | refine blk_drew ?_ | refine blk_alloc ?_ _)); refine blk_far ?_ NB253_255.out _; (with_reducible repeat (first | refine blk_drewN ?_ _ | refine blk_drew ?_ | refine blk_alloc ?_ _)); exact BK253.out) NB253_254.out (by simp)) (KeepBut.blk hk (g' := gb255) (o := .cells #[.int .i64 t256, .int .i64 t259, .int .i64 t262, .int .i64 0, .int .i64 0] 47 (0, 0)) (by (with_reducible repeat (first | refine blk_drewN ?_ _ | refine blk_drew ?_ | refine blk_alloc ?_ _)); refine blk_put (cs := #[.int .i64 t256, .int .i64 t259, .int .i64 0, .int .i64 0, .int .i64 0]) ?_ 2 _ rfl; (with_reducible repeat (first | refine blk_drewN ?_ _ | refine blk_drew ?_ | refine blk_alloc ?_ _)); exact BK255.out) NB255_254.out (by simp)) hb hi; clear BK253 BK255 HB HI254; obtain ⟨BK253, BK255, HB, HI254⟩ := n_; (try clear hb hk hi); have hcz45_0 : w44.cell? ⟨gb255, 0, none⟩ = some (.int .i64 t256) := (blk_cell BK255.out 0).trans rfl; have hcz45_1 : w44.cell? ⟨gb255, 1, none⟩ = some (.int .i64 t259) := (blk_cell BK255.out 1).trans rfl; have hcz45_2 : w44.cell? ⟨gb255, 2, none⟩ = some (.int .i64 t262) := (blk_cell BK255.out 2).trans rfl; have hcz45_3 : w44.cell? ⟨gb255, 3, none⟩ = some (.int .i64 0) := (blk_cell BK255.out 3).trans rfl; have hcz45_4 : w44.cell? ⟨gb255, 4, none⟩ = some (.int .i64 0) := (blk_cell BK255.out 4).trans rfl; have hfz45_0 := blk_frozen BK255.out 0; have hfz45_1 := blk_frozen BK255.out 1; have hfz45_2 := blk_frozen BK255.out 2; have hfz45_3 := blk_frozen BK255.out 3; have hfz45_4 := blk_frozen BK255.out 4) | ((with_reducible refine gate_callee (f := 91) rfl ?_); refine goesL_ (some 22) rfl rfl Try.func91 (by kernel_rfl) rfl #[.pointer (some ⟨gb254, 0, none⟩), .int .i64 2] rfl ga ?_; (with_reducible refine (impl_parts_num.calls k gb254 l0 t266 t267 2 t268 t269 t270 w _ ?side1 ?side2 A6.out).mono ?_); (case side1 => exact IsS110.q2 HI254.out NB254_253.out NB254_255.out); (case side2 => exact bq3 HB.out (IsS110.ge HI254.out) GE253.out GE255.out); rintro e w46 ⟨rfl, hi, hb, hk⟩; refine ⟨_, rfl, ?_⟩; have n_ := ak4 (KeepBut.blk hk (g' := gb253) (o := .cells #[.int .i64 0, .int .i64 0, .int .i64 0, .int .i64 0, .int .i64 0] 47 (0, 0)) (by (with_reducible repeat (first | refine blk_drewN ?_ _ | refine blk_drew ?_ | refine blk_alloc ?_ _)); refine blk_far ?_ NB253_255.out _; (with_reducible repeat (first | refine blk_drewN ?_ _ | refine blk_drew ?_ | refine blk_alloc ?_ _)); exact BK253.out) NB253_254.out (by simp)) (KeepBut.blk hk (g' := gb255) (o := .cells #[.int .i64 t256, .int .i64 t259, .int .i64 t262, .int .i64 t265, .int .i64 0] 47 (0, 0)) (by (with_reducible repeat (first | refine blk_drewN ?_ _ | refine blk_drew ?_ | refine blk_alloc ?_ _)); refine blk_put (cs := #[.int .i64 t256, .int .i64 t259, .int .i64 t262, .int .i64 0, .int .i64 0]) ?_ 3 _ rfl; (with_reducible repeat (first | refine blk_drewN ?_ _ | refine blk_drew ?_ | refine blk_alloc ?_ _)); exact BK255.out) NB255_254.out (by simp)) hb hi; clear BK253 BK255 HB HI254; obtain ⟨BK253, BK255, HB, HI254⟩ := n_; (try clear hb hk hi); have hcz47_0 : w46.cell? ⟨gb255, 0, none⟩ = some (.int .i64 t256) := (blk_cell BK255.out 0).trans rfl; have hcz47_1 : w46.cell? ⟨gb255, 1, none⟩ = some (.int .i64 t259) := (blk_cell BK255.out 1).trans rfl; have hcz47_2 : w46.cell? ⟨gb255, 2, none⟩ = some (.int .i64 t262) := (blk_cell BK255.out 2).trans rfl; have hcz47_3 : w46.cell? ⟨gb255, 3, none⟩ = some (.int .i64 t265) := (blk_cell BK255.out 3).trans rfl; have hcz47_4 : w46.cell? ⟨gb255, 4, none⟩ = some (.int .i64 0) := (blk_cell BK255.out 4).trans rfl; have hfz47_0 := blk_frozen BK255.out 0; have hfz47_1 := blk_frozen BK255.out 1; have hfz47_2 := blk_frozen BK255.out 2; have hfz47_3 := blk_frozen BK255.out 3; have hfz47_4 := blk_frozen BK255.out 4) | ((with_reducible refine gate_callee (f := 92) rfl ?_); refine goesL_ (some 25) rfl rfl Try.func92 (by kernel_rfl) rfl #[.pointer (some ⟨gb254, 0, none⟩)] rfl ga ?_; (with_reducible refine (impl_parts_done.calls gb254 l0 t269 t270 true t272 t273 w _ ?side1 ?side2 A7.out).mono ?_); (case side1 => exact IsS110.q2 HI254.out NB254_253.out NB254_255.out); (case side2 => exact bq3 HB.out (IsS110.ge HI254.out) GE253.out GE255.out); rintro e w48 ⟨rfl, hi, hb, hk⟩; refine ⟨_, rfl, ?_⟩; have n_ := ak4 (KeepBut.blk hk (g' := gb253) (o := .cells #[.int .i64 0, .int .i64 0, .int .i64 0, .int .i64 0, .int .i64 0] 47 (0, 0)) (by (with_reducible repeat (first | refine blk_drewN ?_ _ | refine blk_drew ?_ | refine blk_alloc ?_ _)); refine blk_far ?_ NB253_255.out _; (with_reducible repeat (first | refine blk_drewN ?_ _ | refine blk_drew ?_ | refine blk_alloc ?_ _)); exact BK253.out) NB253_254.out (by simp)) (KeepBut.blk hk (g' := gb255) (o := .cells #[.int .i64 t256, .int .i64 t259, .int .i64 t262, .int .i64 t265, .int .i64 t268] 47 (0, 0)) (by (with_reducible repeat (first | refine blk_drewN ?_ _ | refine blk_drew ?_ | refine blk_alloc ?_ _)); refine blk_put (cs := #[.int .i64 t256, .int .i64 t259, .int .i64 t262, .int .i64 t265, .int .i64 0]) ?_ 4 _ rfl; (with_reducible repeat (first | refine blk_drewN ?_ _ | refine blk_drew ?_ | refine blk_alloc ?_ _)); exact BK255.out) NB255_254.out (by simp)) hb hi; clear BK253 BK255 HB HI254; obtain ⟨BK253, BK255, HB, HI254⟩ := n_; (try clear hb hk hi); have hcz49_0 : w48.cell? ⟨gb255, 0, none⟩ = some (.int .i64 t256) := (blk_cell BK255.out 0).trans rfl; have hcz49_1 : w48.cell? ⟨gb255, 1, none⟩ = some (.int .i64 t259) := (blk_cell BK255.out 1).trans rfl; have hcz49_2 : w48.cell? ⟨gb255, 2, none⟩ = some (.int .i64 t262) := (blk_cell BK255.out 2).trans rfl; have hcz49_3 : w48.cell? ⟨gb255, 3, none⟩ = some (.int .i64 t265) := (blk_cell BK255.out 3).trans rfl; have hcz49_4 : w48.cell? ⟨gb255, 4, none⟩ = some (.int .i64 t268) := (blk_cell BK255.out 4).trans rfl; have hfz49_0 := blk_frozen BK255.out 0; have hfz49_1 := blk_frozen BK255.out 1; have hfz49_2 := blk_frozen BK255.out 2; have hfz49_3 := blk_frozen BK255.out 3; have hfz49_4 := blk_frozen BK255.out 4) | (go_at_call 65; (with_reducible refine (impl_VecOk.calls t256 t259 t262 t265 t268 false _ A9.out).mono ?_); rintro e w50 ⟨rfl, hb⟩; have n_ := ak4 (blk_below (g := gb253) (o := .cells #[.int .i64 0, .int .i64 0, .int .i64 0, .int .i64 0, .int .i64 0] 47 (0, 0)) (zq BK253.out) hb) (blk_below (g := gb255) (o := .cells #[.int .i64 t256, .int .i64 t259, .int .i64 t262, .int .i64 t265, .int .i64 t268] 47 (0, 0)) (zq BK255.out) hb) (IsS110.below (IsS110.q2 HI254.out NB254_253.out NB254_255.out) hb) (below_step (bq3 HB.out (IsS110.ge HI254.out) GE253.out GE255.out) hb); clear BK253 BK255 HI254 HB; obtain ⟨BK253, BK255, HI254, HB⟩ := n_; (try clear hb); have hnb51 := NB253_254.out; have hnc51 := NB254_253.out; have hcz52_0 : w50.cell? ⟨gb253, 0, none⟩ = some (.int .i64 0) := (blk_cell BK253.out 0).trans rfl; have hcz52_1 : w50.cell? ⟨gb253, 1, none⟩ = some (.int .i64 0) := (blk_cell BK253.out 1).trans rfl; have hcz52_2 : w50.cell? ⟨gb253, 2, none⟩ = some (.int .i64 0) := (blk_cell BK253.out 2).trans rfl; have hcz52_3 : w50.cell? ⟨gb253, 3, none⟩ = some (.int .i64 0) := (blk_cell BK253.out 3).trans rfl; have hcz52_4 : w50.cell? ⟨gb253, 4, none⟩ = some (.int .i64 0) := (blk_cell BK253.out 4).trans rfl; have hfz52_0 := blk_frozen BK253.out 0; have hfz52_1 := blk_frozen BK253.out 1; have hfz52_2 := blk_frozen BK253.out 2; have hfz52_3 := blk_frozen BK253.out 3; have hfz52_4 := blk_frozen BK253.out 4) | ((with_reducible refine gate_store (t := 47) (p := 2) rfl ?_); refine store_event (t := 47) (p := 2) (v := ?vo_w53) (w1 := (((((w50.setCell ⟨gb253, 0, none⟩ (.int .i64 0)).setCell ⟨gb253, 1, none⟩ (.int .i64 0)).setCell ⟨gb253, 2, none⟩ (.int .i64 0)).setCell ⟨gb253, 3, none⟩ (.int .i64 0)).setCell ⟨gb253, 4, none⟩ (.int .i64 0))) ?hg ?ho ?hn ?hr ?_; (case ho => rfl); (case hg => rfl); (case hn => rfl); (case hr => exact gs); intro w53 hw; have n0_ : Aside0 (w53.heap[gb253]? = some (.cells #[.int .i64 0, .int .i64 0, .int .i64 0, .int .i64 0, .int .i64 0] 47 (0, 0))) := ⟨(by rw [hw]; exact (by (with_reducible repeat (first | refine blk_drewN ?_ _ | refine blk_drew ?_ | refine blk_alloc ?_ _)); refine blk_put (cs := #[.int .i64 0, .int .i64 0, .int .i64 0, .int .i64 0, .int .i64 0]) ?_ 4 _ rfl; (with_reducible repeat (first | refine blk_drewN ?_ _ | refine blk_drew ?_ | refine blk_alloc ?_ _)); refine blk_put (cs := #[.int .i64 0, .int .i64 0, .int .i64 0, .int .i64 0, .int .i64 0]) ?_ 3 _ rfl; (with_reducible repeat (first | refine blk_drewN ?_ _ | refine blk_drew ?_ | refine blk_alloc ?_ _)); refine blk_put (cs := #[.int .i64 0, .int .i64 0, .int .i64 0, .int .i64 0, .int .i64 0]) ?_ 2 _ rfl; (with_reducible repeat (first | refine blk_drewN ?_ _ | refine blk_drew ?_ | refine blk_alloc ?_ _)); refine blk_put (cs := #[.int .i64 0, .int .i64 0, .int .i64 0, .int .i64 0, .int .i64 0]) ?_ 1 _ rfl; (with_reducible repeat (first | refine blk_drewN ?_ _ | refine blk_drew ?_ | refine blk_alloc ?_ _)); refine blk_put (cs := #[.int .i64 0, .int .i64 0, .int .i64 0, .int .i64 0, .int .i64 0]) ?_ 0 _ rfl; (with_reducible repeat (first | refine blk_drewN ?_ _ | refine blk_drew ?_ | refine blk_alloc ?_ _)); exact BK253.out))⟩; have n1_ : Aside0 (w53.heap[gb255]? = some (.cells #[.int .i64 t256, .int .i64 t259, .int .i64 t262, .int .i64 t265, .int .i64 t268] 47 (0, 0))) := ⟨(by rw [hw]; exact (by (with_reducible repeat (first | refine blk_drewN ?_ _ | refine blk_drew ?_ | refine blk_alloc ?_ _)); refine blk_far ?_ NB255_253.out _; (with_reducible repeat (first | refine blk_drewN ?_ _ | refine blk_drew ?_ | refine blk_alloc ?_ _)); refine blk_far ?_ NB255_253.out _; (with_reducible repeat (first | refine blk_drewN ?_ _ | refine blk_drew ?_ | refine blk_alloc ?_ _)); refine blk_far ?_ NB255_253.out _; (with_reducible repeat (first | refine blk_drewN ?_ _ | refine blk_drew ?_ | refine blk_alloc ?_ _)); refine blk_far ?_ NB255_253.out _; (with_reducible repeat (first | refine blk_drewN ?_ _ | refine blk_drew ?_ | refine blk_alloc ?_ _)); refine blk_far ?_ NB255_253.out _; (with_reducible repeat (first | refine blk_drewN ?_ _ | refine blk_drew ?_ | refine blk_alloc ?_ _)); exact BK255.out))⟩; have n2_ : Aside0 (IsS110 w w53 gb254 l0 t272 t273) := ⟨(by rw [hw]; exact (IsS110.q2 HI254.out NB254_253.out NB254_255.out))⟩; have n3_ : Aside0 (Below w.heap.size w w53) := ⟨(by rw [hw]; exact (bq3 HB.out (IsS110.ge HI254.out) GE253.out GE255.out))⟩; clear hw; clear BK253; clear BK255; clear HI254; clear HB; have BK253 := n0_; have BK255 := n1_; have HI254 := n2_; have HB := n3_; clear n0_ n1_ n2_ n3_))
   refine bodyPost_ret (results_ct rfl _ _ gb253 47 #[.int .i64 0, .int .i64 0, .int .i64 0, .int .i64 0, .int .i64 0] (0, 0) _ rfl (zq BK253.out) Try.underlying47 rfl (by kernel_rfl)) rfl ?_
   exact ⟨rq, bq3 HB.out (IsS110.ge HI254.out) GE253.out GE255.out⟩
 replace c8 := Bool.eq_false_iff.mpr c8
 subst c8
 have H1 : (some (0, 0, 0, 0, 0, false)) = some (r1, r2, r3, r4, r5, r6) := by rw [if_neg (show ¬ (false = true) by decide)] at H; exact H
 clear H
 have H := H1
 clear H1
 simp only [Option.some.injEq, Prod.mk.injEq] at H
 obtain ⟨rfl, rfl, rfl, rfl, rfl, rfl⟩ := H
 go_enter Try.func35, Try.ntmps35
 go_wp2_with (first | ((with_reducible refine gate_dst (N := 2) rfl ?_); refine box_event ?hg (N := 2) ?hd (cs := #[.int .i64 0, .int .i64 0, .int .i64 0, .int .i64 0, .int .i64 0]) (t := 47) ?hr ?_; (case hd => rfl); (case hg => rfl); (case hr => exact gs); intro gb253 hg w54 hbox hb; have n_ := ak4 (below_step (bq HB.out) hb) hbox ((by rw [hg]; exact (below_size (bq HB.out)) : w.heap.size ≤ gb253)) ((by rw [hg]; exact (below_size (bq HB.out)) : w.heap.size ≤ gb253)); clear HB; obtain ⟨HB, BK253, GW253, GE253⟩ := n_; clear hb hbox hg) | ((with_reducible refine gate_dst (N := 8) rfl ?_); refine box_event ?hg (N := 8) ?hd (cs := #[.slice A0 l0.length c0, .int .i64 0, .bool false]) (t := 110) ?hr ?_; (case hd => rfl); (case hg => rfl); (case hr => exact gs); intro gb254 hg w55 hbox hb; have n_ := ak7 (blk_below (g := gb253) (o := .cells #[.int .i64 0, .int .i64 0, .int .i64 0, .int .i64 0, .int .i64 0] 47 (0, 0)) (zq BK253.out) hb) (below_step (bq1 HB.out GE253.out) hb) hbox ((by rw [hg]; exact (below_size (bq1 HB.out GE253.out)) : w.heap.size ≤ gb254)) ((by rw [hg]; exact (below_size (bq1 HB.out GE253.out)) : w.heap.size ≤ gb254)) ((by rw [hg]; exact Nat.ne_of_lt (blk_lt (g := gb253) (o := .cells #[.int .i64 0, .int .i64 0, .int .i64 0, .int .i64 0, .int .i64 0] 47 (0, 0)) (zq BK253.out)) : gb253 ≠ gb254)) ((by rw [hg]; exact Nat.ne_of_gt (blk_lt (g := gb253) (o := .cells #[.int .i64 0, .int .i64 0, .int .i64 0, .int .i64 0, .int .i64 0] 47 (0, 0)) (zq BK253.out)) : gb254 ≠ gb253)); clear BK253 HB; obtain ⟨BK253, HB, BK254, GW254, GE254, NB253_254, NB254_253⟩ := n_; clear hb hbox hg) | ((with_reducible refine gate_dst (N := 5) rfl ?_); refine box_event ?hg (N := 5) ?hd (cs := #[.int .i64 0, .int .i64 0, .int .i64 0, .int .i64 0, .int .i64 0]) (t := 47) ?hr ?_; (case hd => rfl); (case hg => rfl); (case hr => exact gs); intro gb255 hg w56 hbox hb; have n_ := ak10 (blk_below (g := gb253) (o := .cells #[.int .i64 0, .int .i64 0, .int .i64 0, .int .i64 0, .int .i64 0] 47 (0, 0)) (zq BK253.out) hb) (blk_below (g := gb254) (o := .cells #[.slice A0 l0.length c0, .int .i64 0, .bool false] 110 (0, 0)) (zq BK254.out) hb) (below_step (bq2 HB.out GE253.out GE254.out) hb) hbox ((by rw [hg]; exact (below_size (bq2 HB.out GE253.out GE254.out)) : w.heap.size ≤ gb255)) ((by rw [hg]; exact (below_size (bq2 HB.out GE253.out GE254.out)) : w.heap.size ≤ gb255)) ((by rw [hg]; exact Nat.ne_of_lt (blk_lt (g := gb253) (o := .cells #[.int .i64 0, .int .i64 0, .int .i64 0, .int .i64 0, .int .i64 0] 47 (0, 0)) (zq BK253.out)) : gb253 ≠ gb255)) ((by rw [hg]; exact Nat.ne_of_gt (blk_lt (g := gb253) (o := .cells #[.int .i64 0, .int .i64 0, .int .i64 0, .int .i64 0, .int .i64 0] 47 (0, 0)) (zq BK253.out)) : gb255 ≠ gb253)) ((by rw [hg]; exact Nat.ne_of_lt (blk_lt (g := gb254) (o := .cells #[.slice A0 l0.length c0, .int .i64 0, .bool false] 110 (0, 0)) (zq BK254.out)) : gb254 ≠ gb255)) ((by rw [hg]; exact Nat.ne_of_gt (blk_lt (g := gb254) (o := .cells #[.slice A0 l0.length c0, .int .i64 0, .bool false] 110 (0, 0)) (zq BK254.out)) : gb255 ≠ gb254)); clear BK253 BK254 HB; obtain ⟨BK253, BK254, HB, BK255, GW255, GE255, NB253_255, NB255_253, NB254_255, NB255_254⟩ := n_; clear hb hbox hg; have HI254 := am (show IsS110 w w56 gb254 l0 0 false from ⟨_, _, BK254.out, GE254.out, ⟨HR0.out, HC0.out⟩⟩); clear BK254) | ((with_reducible refine gate_callee (f := 91) rfl ?_); refine goesL_ (some 10) rfl rfl Try.func91 (by kernel_rfl) rfl #[.pointer (some ⟨gb254, 0, none⟩), .int .i64 2] rfl ga ?_; (with_reducible refine (impl_parts_num.calls k gb254 l0 0 false 2 t256 t257 t258 w _ ?side1 ?side2 A2.out).mono ?_); (case side1 => exact IsS110.q2 HI254.out NB254_253.out NB254_255.out); (case side2 => exact bq3 HB.out (IsS110.ge HI254.out) GE253.out GE255.out); rintro e w57 ⟨rfl, hi, hb, hk⟩; refine ⟨_, rfl, ?_⟩; have n_ := ak4 (KeepBut.blk hk (g' := gb253) (o := .cells #[.int .i64 0, .int .i64 0, .int .i64 0, .int .i64 0, .int .i64 0] 47 (0, 0)) (zq BK253.out) NB253_254.out (by simp)) (KeepBut.blk hk (g' := gb255) (o := .cells #[.int .i64 0, .int .i64 0, .int .i64 0, .int .i64 0, .int .i64 0] 47 (0, 0)) (zq BK255.out) NB255_254.out (by simp)) hb hi; clear BK253 BK255 HB HI254; obtain ⟨BK253, BK255, HB, HI254⟩ := n_; (try clear hb hk hi); have hnb58 := NB255_253.out; have hnc58 := NB253_255.out; have hnb59 := NB255_254.out; have hnc59 := NB254_255.out; have hcz60_0 : w57.cell? ⟨gb255, 0, none⟩ = some (.int .i64 0) := (blk_cell BK255.out 0).trans rfl; have hcz60_1 : w57.cell? ⟨gb255, 1, none⟩ = some (.int .i64 0) := (blk_cell BK255.out 1).trans rfl; have hcz60_2 : w57.cell? ⟨gb255, 2, none⟩ = some (.int .i64 0) := (blk_cell BK255.out 2).trans rfl; have hcz60_3 : w57.cell? ⟨gb255, 3, none⟩ = some (.int .i64 0) := (blk_cell BK255.out 3).trans rfl; have hcz60_4 : w57.cell? ⟨gb255, 4, none⟩ = some (.int .i64 0) := (blk_cell BK255.out 4).trans rfl; have hfz60_0 := blk_frozen BK255.out 0; have hfz60_1 := blk_frozen BK255.out 1; have hfz60_2 := blk_frozen BK255.out 2; have hfz60_3 := blk_frozen BK255.out 3; have hfz60_4 := blk_frozen BK255.out 4) | ((with_reducible refine gate_callee (f := 91) rfl ?_); refine goesL_ (some 13) rfl rfl Try.func91 (by kernel_rfl) rfl #[.pointer (some ⟨gb254, 0, none⟩), .int .i64 2] rfl ga ?_; (with_reducible refine (impl_parts_num.calls k gb254 l0 t257 t258 2 t259 t260 t261 w _ ?side1 ?side2 A3.out).mono ?_); (case side1 => exact IsS110.q2 HI254.out NB254_253.out NB254_255.out); (case side2 => exact bq3 HB.out (IsS110.ge HI254.out) GE253.out GE255.out); rintro e w61 ⟨rfl, hi, hb, hk⟩; refine ⟨_, rfl, ?_⟩; have n_ := ak4 (KeepBut.blk hk (g' := gb253) (o := .cells #[.int .i64 0, .int .i64 0, .int .i64 0, .int .i64 0, .int .i64 0] 47 (0, 0)) (by (with_reducible repeat (first | refine blk_drewN ?_ _ | refine blk_drew ?_ | refine blk_alloc ?_ _)); refine blk_far ?_ NB253_255.out _; (with_reducible repeat (first | refine blk_drewN ?_ _ | refine blk_drew ?_ | refine blk_alloc ?_ _)); exact BK253.out) NB253_254.out (by simp)) (KeepBut.blk hk (g' := gb255) (o := .cells #[.int .i64 t256, .int .i64 0, .int .i64 0, .int .i64 0, .int .i64 0] 47 (0, 0)) (by (with_reducible repeat (first | refine blk_drewN ?_ _ | refine blk_drew ?_ | refine blk_alloc ?_ _)); refine blk_put (cs := #[.int .i64 0, .int .i64 0, .int .i64 0, .int .i64 0, .int .i64 0]) ?_ 0 _ rfl; (with_reducible repeat (first | refine blk_drewN ?_ _ | refine blk_drew ?_ | refine blk_alloc ?_ _)); exact BK255.out) NB255_254.out (by simp)) hb hi; clear BK253 BK255 HB HI254; obtain ⟨BK253, BK255, HB, HI254⟩ := n_; (try clear hb hk hi); have hcz62_0 : w61.cell? ⟨gb255, 0, none⟩ = some (.int .i64 t256) := (blk_cell BK255.out 0).trans rfl; have hcz62_1 : w61.cell? ⟨gb255, 1, none⟩ = some (.int .i64 0) := (blk_cell BK255.out 1).trans rfl; have hcz62_2 : w61.cell? ⟨gb255, 2, none⟩ = some (.int .i64 0) := (blk_cell BK255.out 2).trans rfl; have hcz62_3 : w61.cell? ⟨gb255, 3, none⟩ = some (.int .i64 0) := (blk_cell BK255.out 3).trans rfl; have hcz62_4 : w61.cell? ⟨gb255, 4, none⟩ = some (.int .i64 0) := (blk_cell BK255.out 4).trans rfl; have hfz62_0 := blk_frozen BK255.out 0; have hfz62_1 := blk_frozen BK255.out 1; have hfz62_2 := blk_frozen BK255.out 2; have hfz62_3 := blk_frozen BK255.out 3; have hfz62_4 := blk_frozen BK255.out 4) | ((with_reducible refine gate_callee (f := 91) rfl ?_); refine goesL_ (some 16) rfl rfl Try.func91 (by kernel_rfl) rfl #[.pointer (some ⟨gb254, 0, none⟩), .int .i64 2] rfl ga ?_; (with_reducible refine (impl_parts_num.calls k gb254 l0 t260 t261 2 t262 t263 t264 w _ ?side1 ?side2 A4.out).mono ?_); (case side1 => exact IsS110.q2 HI254.out NB254_253.out NB254_255.out); (case side2 => exact bq3 HB.out (IsS110.ge HI254.out) GE253.out GE255.out); rintro e w63 ⟨rfl, hi, hb, hk⟩; refine ⟨_, rfl, ?_⟩; have n_ := ak4 (KeepBut.blk hk (g' := gb253) (o := .cells #[.int .i64 0, .int .i64 0, .int .i64 0, .int .i64 0, .int .i64 0] 47 (0, 0)) (by (with_reducible repeat (first | refine blk_drewN ?_ _ | refine blk_drew ?_ | refine blk_alloc ?_ _)); refine blk_far ?_ NB253_255.out _; (with_reducible repeat (first | refine blk_drewN ?_ _ | refine blk_drew ?_ | refine blk_alloc ?_ _)); exact BK253.out) NB253_254.out (by simp)) (KeepBut.blk hk (g' := gb255) (o := .cells #[.int .i64 t256, .int .i64 t259, .int .i64 0, .int .i64 0, .int .i64 0] 47 (0, 0)) (by (with_reducible repeat (first | refine blk_drewN ?_ _ | refine blk_drew ?_ | refine blk_alloc ?_ _)); refine blk_put (cs := #[.int .i64 t256, .int .i64 0, .int .i64 0, .int .i64 0, .int .i64 0]) ?_ 1 _ rfl; (with_reducible repeat (first | refine blk_drewN ?_ _ | refine blk_drew ?_ | refine blk_alloc ?_ _)); exact BK255.out) NB255_254.out (by simp)) hb hi; clear BK253 BK255 HB HI254; obtain ⟨BK253, BK255, HB, HI254⟩ := n_; (try clear hb hk hi); have hcz64_0 : w63.cell? ⟨gb255, 0, none⟩ = some (.int .i64 t256) := (blk_cell BK255.out 0).trans rfl; have hcz64_1 : w63.cell? ⟨gb255, 1, none⟩ = some (.int .i64 t259) := (blk_cell BK255.out 1).trans rfl; have hcz64_2 : w63.cell? ⟨gb255, 2, none⟩ = some (.int .i64 0) := (blk_cell BK255.out 2).trans rfl; have hcz64_3 : w63.cell? ⟨gb255, 3, none⟩ = some (.int .i64 0) := (blk_cell BK255.out 3).trans rfl; have hcz64_4 : w63.cell? ⟨gb255, 4, none⟩ = some (.int .i64 0) := (blk_cell BK255.out 4).trans rfl; have hfz64_0 := blk_frozen BK255.out 0; have hfz64_1 := blk_frozen BK255.out 1; have hfz64_2 := blk_frozen BK255.out 2; have hfz64_3 := blk_frozen BK255.out 3; have hfz64_4 := blk_frozen BK255.out 4) | ((with_reducible refine gate_callee (f := 91) rfl ?_); refine goesL_ (some 19) rfl rfl Try.func91 (by kernel_rfl) rfl #[.pointer (some ⟨gb254, 0, none⟩), .int .i64 2] rfl ga ?_; (with_reducible refine (impl_parts_num.calls k gb254 l0 t263 t264 2 t265 t266 t267 w _ ?side1 ?side2 A5.out).mono ?_); (case side1 => exact IsS110.q2 HI254.out NB254_253.out NB254_255.out); (case side2 => exact bq3 HB.out (IsS110.ge HI254.out) GE253.out GE255.out); rintro e w65 ⟨rfl, hi, hb, hk⟩; refine ⟨_, rfl, ?_⟩; have n_ := ak4 (KeepBut.blk hk (g' := gb253) (o := .cells #[.int .i64 0, .int .i64 0, .int .i64 0, .int .i64 0, .int .i64 0] 47 (0, 0)) (by (with_reducible repeat (first | refine blk_drewN ?_ _ | refine blk_drew ?_ | refine blk_alloc ?_ _)); refine blk_far ?_ NB253_255.out _; (with_reducible repeat (first | refine blk_drewN ?_ _ | refine blk_drew ?_ | refine blk_alloc ?_ _)); exact BK253.out) NB253_254.out (by simp)) (KeepBut.blk hk (g' := gb255) (o := .cells #[.int .i64 t256, .int .i64 t259, .int .i64 t262, .int .i64 0, .int .i64 0] 47 (0, 0)) (by (with_reducible repeat (first | refine blk_drewN ?_ _ | refine blk_drew ?_ | refine blk_alloc ?_ _)); refine blk_put (cs := #[.int .i64 t256, .int .i64 t259, .int .i64 0, .int .i64 0, .int .i64 0]) ?_ 2 _ rfl; (with_reducible repeat (first | refine blk_drewN ?_ _ | refine blk_drew ?_ | refine blk_alloc ?_ _)); exact BK255.out) NB255_254.out (by simp)) hb hi; clear BK253 BK255 HB HI254; obtain ⟨BK253, BK255, HB, HI254⟩ := n_; (try clear hb hk hi); have hcz66_0 : w65.cell? ⟨gb255, 0, none⟩ = some (.int .i64 t256) := (blk_cell BK255.out 0).trans rfl; have hcz66_1 : w65.cell? ⟨gb255, 1, none⟩ = some (.int .i64 t259) := (blk_cell BK255.out 1).trans rfl; have hcz66_2 : w65.cell? ⟨gb255, 2, none⟩ = some (.int .i64 t262) := (blk_cell BK255.out 2).trans rfl; have hcz66_3 : w65.cell? ⟨gb255, 3, none⟩ = some (.int .i64 0) := (blk_cell BK255.out 3).trans rfl; have hcz66_4 : w65.cell? ⟨gb255, 4, none⟩ = some (.int .i64 0) := (blk_cell BK255.out 4).trans rfl; have hfz66_0 := blk_frozen BK255.out 0; have hfz66_1 := blk_frozen BK255.out 1; have hfz66_2 := blk_frozen BK255.out 2; have hfz66_3 := blk_frozen BK255.out 3; have hfz66_4 := blk_frozen BK255.out 4) | ((with_reducible refine gate_callee (f := 91) rfl ?_); refine goesL_ (some 22) rfl rfl Try.func91 (by kernel_rfl) rfl #[.pointer (some ⟨gb254, 0, none⟩), .int .i64 2] rfl ga ?_; (with_reducible refine (impl_parts_num.calls k gb254 l0 t266 t267 2 t268 t269 t270 w _ ?side1 ?side2 A6.out).mono ?_); (case side1 => exact IsS110.q2 HI254.out NB254_253.out NB254_255.out); (case side2 => exact bq3 HB.out (IsS110.ge HI254.out) GE253.out GE255.out); rintro e w67 ⟨rfl, hi, hb, hk⟩; refine ⟨_, rfl, ?_⟩; have n_ := ak4 (KeepBut.blk hk (g' := gb253) (o := .cells #[.int .i64 0, .int .i64 0, .int .i64 0, .int .i64 0, .int .i64 0] 47 (0, 0)) (by (with_reducible repeat (first | refine blk_drewN ?_ _ | refine blk_drew ?_ | refine blk_alloc ?_ _)); refine blk_far ?_ NB253_255.out _; (with_reducible repeat (first | refine blk_drewN ?_ _ | refine blk_drew ?_ | refine blk_alloc ?_ _)); exact BK253.out) NB253_254.out (by simp)) (KeepBut.blk hk (g' := gb255) (o := .cells #[.int .i64 t256, .int .i64 t259, .int .i64 t262, .int .i64 t265, .int .i64 0] 47 (0, 0)) (by (with_reducible repeat (first | refine blk_drewN ?_ _ | refine blk_drew ?_ | refine blk_alloc ?_ _)); refine blk_put (cs := #[.int .i64 t256, .int .i64 t259, .int .i64 t262, .int .i64 0, .int .i64 0]) ?_ 3 _ rfl; (with_reducible repeat (first | refine blk_drewN ?_ _ | refine blk_drew ?_ | refine blk_alloc ?_ _)); exact BK255.out) NB255_254.out (by simp)) hb hi; clear BK253 BK255 HB HI254; obtain ⟨BK253, BK255, HB, HI254⟩ := n_; (try clear hb hk hi); have hcz68_0 : w67.cell? ⟨gb255, 0, none⟩ = some (.int .i64 t256) := (blk_cell BK255.out 0).trans rfl; have hcz68_1 : w67.cell? ⟨gb255, 1, none⟩ = some (.int .i64 t259) := (blk_cell BK255.out 1).trans rfl; have hcz68_2 : w67.cell? ⟨gb255, 2, none⟩ = some (.int .i64 t262) := (blk_cell BK255.out 2).trans rfl; have hcz68_3 : w67.cell? ⟨gb255, 3, none⟩ = some (.int .i64 t265) := (blk_cell BK255.out 3).trans rfl; have hcz68_4 : w67.cell? ⟨gb255, 4, none⟩ = some (.int .i64 0) := (blk_cell BK255.out 4).trans rfl; have hfz68_0 := blk_frozen BK255.out 0; have hfz68_1 := blk_frozen BK255.out 1; have hfz68_2 := blk_frozen BK255.out 2; have hfz68_3 := blk_frozen BK255.out 3; have hfz68_4 := blk_frozen BK255.out 4) | ((with_reducible refine gate_callee (f := 92) rfl ?_); refine goesL_ (some 25) rfl rfl Try.func92 (by kernel_rfl) rfl #[.pointer (some ⟨gb254, 0, none⟩)] rfl ga ?_; (with_reducible refine (impl_parts_done.calls gb254 l0 t269 t270 false t272 t273 w _ ?side1 ?side2 A7.out).mono ?_); (case side1 => exact IsS110.q2 HI254.out NB254_253.out NB254_255.out); (case side2 => exact bq3 HB.out (IsS110.ge HI254.out) GE253.out GE255.out); rintro e w69 ⟨rfl, hi, hb, hk⟩; refine ⟨_, rfl, ?_⟩; have n_ := ak4 (KeepBut.blk hk (g' := gb253) (o := .cells #[.int .i64 0, .int .i64 0, .int .i64 0, .int .i64 0, .int .i64 0] 47 (0, 0)) (by (with_reducible repeat (first | refine blk_drewN ?_ _ | refine blk_drew ?_ | refine blk_alloc ?_ _)); refine blk_far ?_ NB253_255.out _; (with_reducible repeat (first | refine blk_drewN ?_ _ | refine blk_drew ?_ | refine blk_alloc ?_ _)); exact BK253.out) NB253_254.out (by simp)) (KeepBut.blk hk (g' := gb255) (o := .cells #[.int .i64 t256, .int .i64 t259, .int .i64 t262, .int .i64 t265, .int .i64 t268] 47 (0, 0)) (by (with_reducible repeat (first | refine blk_drewN ?_ _ | refine blk_drew ?_ | refine blk_alloc ?_ _)); refine blk_put (cs := #[.int .i64 t256, .int .i64 t259, .int .i64 t262, .int .i64 t265, .int .i64 0]) ?_ 4 _ rfl; (with_reducible repeat (first | refine blk_drewN ?_ _ | refine blk_drew ?_ | refine blk_alloc ?_ _)); exact BK255.out) NB255_254.out (by simp)) hb hi; clear BK253 BK255 HB HI254; obtain ⟨BK253, BK255, HB, HI254⟩ := n_; (try clear hb hk hi); have hnb70 := NB253_254.out; have hnc70 := NB254_253.out; have hcz71_0 : w69.cell? ⟨gb253, 0, none⟩ = some (.int .i64 0) := (blk_cell BK253.out 0).trans rfl; have hcz71_1 : w69.cell? ⟨gb253, 1, none⟩ = some (.int .i64 0) := (blk_cell BK253.out 1).trans rfl; have hcz71_2 : w69.cell? ⟨gb253, 2, none⟩ = some (.int .i64 0) := (blk_cell BK253.out 2).trans rfl; have hcz71_3 : w69.cell? ⟨gb253, 3, none⟩ = some (.int .i64 0) := (blk_cell BK253.out 3).trans rfl; have hcz71_4 : w69.cell? ⟨gb253, 4, none⟩ = some (.int .i64 0) := (blk_cell BK253.out 4).trans rfl; have hfz71_0 := blk_frozen BK253.out 0; have hfz71_1 := blk_frozen BK253.out 1; have hfz71_2 := blk_frozen BK253.out 2; have hfz71_3 := blk_frozen BK253.out 3; have hfz71_4 := blk_frozen BK253.out 4) | ((with_reducible refine gate_store (t := 47) (p := 2) rfl ?_); refine store_event (t := 47) (p := 2) (v := ?vo_w72) (w1 := (((((w69.setCell ⟨gb253, 0, none⟩ (.int .i64 0)).setCell ⟨gb253, 1, none⟩ (.int .i64 0)).setCell ⟨gb253, 2, none⟩ (.int .i64 0)).setCell ⟨gb253, 3, none⟩ (.int .i64 0)).setCell ⟨gb253, 4, none⟩ (.int .i64 0))) ?hg ?ho ?hn ?hr ?_; (case ho => rfl); (case hg => rfl); (case hn => rfl); (case hr => exact gs); intro w72 hw; have n0_ : Aside0 (w72.heap[gb253]? = some (.cells #[.int .i64 0, .int .i64 0, .int .i64 0, .int .i64 0, .int .i64 0] 47 (0, 0))) := ⟨(by rw [hw]; exact (by (with_reducible repeat (first | refine blk_drewN ?_ _ | refine blk_drew ?_ | refine blk_alloc ?_ _)); refine blk_put (cs := #[.int .i64 0, .int .i64 0, .int .i64 0, .int .i64 0, .int .i64 0]) ?_ 4 _ rfl; (with_reducible repeat (first | refine blk_drewN ?_ _ | refine blk_drew ?_ | refine blk_alloc ?_ _)); refine blk_put (cs := #[.int .i64 0, .int .i64 0, .int .i64 0, .int .i64 0, .int .i64 0]) ?_ 3 _ rfl; (with_reducible repeat (first | refine blk_drewN ?_ _ | refine blk_drew ?_ | refine blk_alloc ?_ _)); refine blk_put (cs := #[.int .i64 0, .int .i64 0, .int .i64 0, .int .i64 0, .int .i64 0]) ?_ 2 _ rfl; (with_reducible repeat (first | refine blk_drewN ?_ _ | refine blk_drew ?_ | refine blk_alloc ?_ _)); refine blk_put (cs := #[.int .i64 0, .int .i64 0, .int .i64 0, .int .i64 0, .int .i64 0]) ?_ 1 _ rfl; (with_reducible repeat (first | refine blk_drewN ?_ _ | refine blk_drew ?_ | refine blk_alloc ?_ _)); refine blk_put (cs := #[.int .i64 0, .int .i64 0, .int .i64 0, .int .i64 0, .int .i64 0]) ?_ 0 _ rfl; (with_reducible repeat (first | refine blk_drewN ?_ _ | refine blk_drew ?_ | refine blk_alloc ?_ _)); exact BK253.out))⟩; have n1_ : Aside0 (w72.heap[gb255]? = some (.cells #[.int .i64 t256, .int .i64 t259, .int .i64 t262, .int .i64 t265, .int .i64 t268] 47 (0, 0))) := ⟨(by rw [hw]; exact (by (with_reducible repeat (first | refine blk_drewN ?_ _ | refine blk_drew ?_ | refine blk_alloc ?_ _)); refine blk_far ?_ NB255_253.out _; (with_reducible repeat (first | refine blk_drewN ?_ _ | refine blk_drew ?_ | refine blk_alloc ?_ _)); refine blk_far ?_ NB255_253.out _; (with_reducible repeat (first | refine blk_drewN ?_ _ | refine blk_drew ?_ | refine blk_alloc ?_ _)); refine blk_far ?_ NB255_253.out _; (with_reducible repeat (first | refine blk_drewN ?_ _ | refine blk_drew ?_ | refine blk_alloc ?_ _)); refine blk_far ?_ NB255_253.out _; (with_reducible repeat (first | refine blk_drewN ?_ _ | refine blk_drew ?_ | refine blk_alloc ?_ _)); refine blk_far ?_ NB255_253.out _; (with_reducible repeat (first | refine blk_drewN ?_ _ | refine blk_drew ?_ | refine blk_alloc ?_ _)); exact BK255.out))⟩; have n2_ : Aside0 (IsS110 w w72 gb254 l0 t272 t273) := ⟨(by rw [hw]; exact (IsS110.q2 HI254.out NB254_253.out NB254_255.out))⟩; have n3_ : Aside0 (Below w.heap.size w w72) := ⟨(by rw [hw]; exact (bq3 HB.out (IsS110.ge HI254.out) GE253.out GE255.out))⟩; clear hw; clear BK253; clear BK255; clear HI254; clear HB; have BK253 := n0_; have BK255 := n1_; have HI254 := n2_; have HB := n3_; clear n0_ n1_ n2_ n3_))
 refine bodyPost_ret (results_ct rfl _ _ gb253 47 #[.int .i64 0, .int .i64 0, .int .i64 0, .int .i64 0, .int .i64 0] (0, 0) _ rfl (zq BK253.out) Try.underlying47 rfl (by kernel_rfl)) rfl ?_
 exact ⟨rq, bq3 HB.out (IsS110.ge HI254.out) GE253.out GE255.out⟩

/-- A state of type 133 at block g of W; what its slices lead to came in by w0. -/
def IsS133 (w0 W : World) (g : Nat) (f0 : List Int) (f1 : Int) (f2 : Int) : Prop := ∃ A0 c0, W.heap[g]? = some (.cells #[.slice A0 f0.length c0, .int .i64 f1, .int .i64 f2] 133 (0, 0)) ∧ w0.heap.size ≤ g ∧ (Kd.C (Kd.int .u8) w0 A0 f0.length f0 ∧ f0.length ≤ c0)
theorem IsS133.grown {w0 W : World} {g : Nat} {f0 : List Int} {f1 : Int} {f2 : Int} {W1 : World} {row : Option Nat} (h : IsS133 w0 W g f0 f1 f2) (hw : W.grownBy W1 row) (hne : some g ≠ row) : IsS133 w0 W1 g f0 f1 f2 := by
 obtain ⟨A0, c0, hb, hg, hr0⟩ := h
 exact ⟨A0, c0, blk_grown hb hw hne, hg, hr0⟩
theorem IsS133.own_neN {w0 W : World} {g : Nat} {f0 : List Int} {f1 : Int} {f2 : Int} {α : Type} {d : Kd α} {e : Nat} {base : Nat} {ok : Nat → Prop} {v : Value} {xs : List α} (h : IsS133 w0 W g f0 f1 f2) (ho : Kd.N d e W base ok v xs) (ht : e ≠ 133) : some g ≠ v.ownBlock := by
 obtain ⟨A0, c0, hb, hg, hr0⟩ := h
 exact Kd.N_ne ho hb ht
theorem IsS133.fresh {w0 W : World} {g : Nat} {f0 : List Int} {f1 : Int} {f2 : Int} (h : IsS133 w0 W g f0 f1 f2) : ∀ k, W.heap.size ≤ k → k ≠ g := by
 obtain ⟨A0, c0, hb, hg, hr0⟩ := h
 exact Kd.freshB hb
theorem IsS133.kept {w0 W : World} {g : Nat} {f0 : List Int} {f1 : Int} {f2 : Int} {W1 : World} {S : Nat → Prop} (h : IsS133 w0 W g f0 f1 f2) (hk : Kept W W1 S) (hne : ¬ S g) : IsS133 w0 W1 g f0 f1 f2 := by
 obtain ⟨A0, c0, hb, hg, hr0⟩ := h
 exact ⟨A0, c0, blk_kept hb hk hne, hg, hr0⟩
theorem IsS133.below {w0 W : World} {g : Nat} {f0 : List Int} {f1 : Int} {f2 : Int} {W1 : World} (h : IsS133 w0 W g f0 f1 f2) (hw : Below W.heap.size W W1) : IsS133 w0 W1 g f0 f1 f2 := h.grown (grown_of_below hw none) (by simp)
theorem IsS133.alloc {w0 W : World} {g : Nat} {f0 : List Int} {f1 : Int} {f2 : Int} (h : IsS133 w0 W g f0 f1 f2) (o : Obj) : IsS133 w0 (W.alloc o) g f0 f1 f2 := h.below (below_alloc (Below.refl _ _) o)
theorem IsS133.drewN {w0 W : World} {g : Nat} {f0 : List Int} {f1 : Int} {f2 : Int} (h : IsS133 w0 W g f0 f1 f2) (m : Nat) : IsS133 w0 (W.drewN m) g f0 f1 f2 := h
theorem IsS133.drew {w0 W : World} {g : Nat} {f0 : List Int} {f1 : Int} {f2 : Int} (h : IsS133 w0 W g f0 f1 f2) : IsS133 w0 W.drew g f0 f1 f2 := h
theorem IsS133.at_ {w0 W : World} {g : Nat} {f0 : List Int} {f1 : Int} {f2 : Int} {w' : World} {m : Nat} (hq : W.drewN m = w') (h : IsS133 w0 W g f0 f1 f2) : IsS133 w0 w' g f0 f1 f2 := by subst hq; exact IsS133.drewN h m
theorem IsS133.apart {w0 W : World} {g : Nat} {f0 : List Int} {f1 : Int} {f2 : Int} {α : Type} {d : Kd α} {e : Nat} {base : Nat} {ok : Nat → Prop} {v : Value} {xs : List α} (h : IsS133 w0 W g f0 f1 f2) (ho : d.R e W base ok v xs) (ht : ∀ q, q ∈ e :: d.E → q ≠ 133) : d.R e W base (fun k => ok k ∧ k ≠ g) v xs := by
 obtain ⟨A0, c0, hb, hg, hr0⟩ := h
 exact Kd.R_types ho hb ht
theorem IsS133.own_ne {w0 W : World} {g : Nat} {f0 : List Int} {f1 : Int} {f2 : Int} {α : Type} {d : Kd α} {e : Nat} {base : Nat} {ok : Nat → Prop} {v : Value} {xs : List α} (h : IsS133 w0 W g f0 f1 f2) (ho : d.R e W base ok v xs) (ht : e ≠ 133) : some g ≠ v.ownBlock := by
 obtain ⟨A0, c0, hb, hg, hr0⟩ := h
 exact Kd.R_ne ho hb ht
theorem IsS133.apartQ {w0 W : World} {g : Nat} {f0 : List Int} {f1 : Int} {f2 : Int} {α : Type} {d : Kd α} {e : Nat} {base : Nat} {ok : Nat → Prop} {v : Value} {xs : List α} (h : IsS133 w0 W g f0 f1 f2) (ho : d.Q e W base ok v xs) (ht : ∀ q, q ∈ e :: d.E → q ≠ 133) : d.Q e W base (fun k => ok k ∧ k ≠ g) v xs := by
 obtain ⟨A0, c0, hb, hg, hr0⟩ := h
 exact Kd.Q_types ho hb ht
theorem IsS133.own_neQ {w0 W : World} {g : Nat} {f0 : List Int} {f1 : Int} {f2 : Int} {α : Type} {d : Kd α} {e : Nat} {base : Nat} {ok : Nat → Prop} {v : Value} {xs : List α} (h : IsS133 w0 W g f0 f1 f2) (ho : d.Q e W base ok v xs) (ht : e ≠ 133) : some g ≠ v.ownBlock := by
 obtain ⟨A0, c0, hb, hg, hr0⟩ := h
 exact Kd.Q_ne ho hb ht
theorem IsS133.apartS {w0 W : World} {g : Nat} {f0 : List Int} {f1 : Int} {f2 : Int} {α : Type} {d : Kd α} {e : Nat} {base : Nat} {ok : Nat → Prop} {v : Value} {xs : List α} (h : IsS133 w0 W g f0 f1 f2) (ho : d.S e W base ok v xs) (ht : ∀ q, q ∈ e :: d.E → q ≠ 133) : d.S e W base (fun k => ok k ∧ k ≠ g) v xs := by
 obtain ⟨A0, c0, hb, hg, hr0⟩ := h
 exact Kd.S_types ho hb ht
theorem IsS133.own_neS {w0 W : World} {g : Nat} {f0 : List Int} {f1 : Int} {f2 : Int} {α : Type} {d : Kd α} {e : Nat} {base : Nat} {ok : Nat → Prop} {v : Value} {xs : List α} (h : IsS133 w0 W g f0 f1 f2) (ho : d.S e W base ok v xs) (ht : e ≠ 133) : some g ≠ v.ownBlock := by
 obtain ⟨A0, c0, hb, hg, hr0⟩ := h
 exact Kd.S_ne ho hb ht
theorem IsS133.lt {w0 W : World} {g : Nat} {f0 : List Int} {f1 : Int} {f2 : Int} (h : IsS133 w0 W g f0 f1 f2) : g < W.heap.size := by
 obtain ⟨A0, c0, hb, hg, hr0⟩ := h
 exact blk_lt hb
theorem IsS133.ge {w0 W : World} {g : Nat} {f0 : List Int} {f1 : Int} {f2 : Int} (h : IsS133 w0 W g f0 f1 f2) : w0.heap.size ≤ g := by
 obtain ⟨A0, c0, hb, hg, hr0⟩ := h
 exact hg
theorem IsS133.ne_blk {w0 W : World} {g : Nat} {f0 : List Int} {f1 : Int} {f2 : Int} {a : Nat} {cs : Array Value} {t : TypeId} {fr : Nat × Nat} (h : IsS133 w0 W g f0 f1 f2) (hb2 : W.heap[a]? = some (.cells cs t fr)) (ht : t ≠ 133) : g ≠ a := by
 obtain ⟨A0, c0, hb, hg, hr0⟩ := h
 rintro rfl
 rw [hb] at hb2
 injection hb2 with hb2
 injection hb2 with _ ht2
 exact ht ht2.symm
theorem IsS133.far {w0 W : World} {g : Nat} {f0 : List Int} {f1 : Int} {f2 : Int} {p : Addr} (h : IsS133 w0 W g f0 f1 f2) (hne : g ≠ p.block) (u : Value) : IsS133 w0 (W.setCell p u) g f0 f1 f2 := by
 obtain ⟨A0, c0, hb, hg, hr0⟩ := h
 exact ⟨A0, c0, blk_far hb hne u, hg, hr0⟩
theorem cellS133_0 {W : World} {g : Nat} {A0 : Option Addr} {c0 : Nat} {f0 : List Int} {f1 : Int} {f2 : Int} (h : W.heap[g]? = some (.cells #[.slice A0 f0.length c0, .int .i64 f1, .int .i64 f2] 133 (0, 0))) : W.cell? ⟨g, 0, none⟩ = some (.slice A0 f0.length c0) := (blk_cell h 0).trans rfl
theorem cellS133_1 {W : World} {g : Nat} {A0 : Option Addr} {c0 : Nat} {f0 : List Int} {f1 : Int} {f2 : Int} (h : W.heap[g]? = some (.cells #[.slice A0 f0.length c0, .int .i64 f1, .int .i64 f2] 133 (0, 0))) : W.cell? ⟨g, 1, none⟩ = some (.int .i64 f1) := (blk_cell h 1).trans rfl
theorem IsS133.set_1 {w0 W : World} {g : Nat} {f0 : List Int} {f1 : Int} {f2 : Int} (h : IsS133 w0 W g f0 f1 f2) (x : Int) : IsS133 w0 (W.setCell ⟨g, 1, none⟩ (.int .i64 x)) g f0 x f2 := by
 obtain ⟨A0, c0, hb, hg, hr0⟩ := h
 exact ⟨A0, c0, by simpa using blk_set hb 1 (.int .i64 x), hg, hr0⟩
theorem cellS133_2 {W : World} {g : Nat} {A0 : Option Addr} {c0 : Nat} {f0 : List Int} {f1 : Int} {f2 : Int} (h : W.heap[g]? = some (.cells #[.slice A0 f0.length c0, .int .i64 f1, .int .i64 f2] 133 (0, 0))) : W.cell? ⟨g, 2, none⟩ = some (.int .i64 f2) := (blk_cell h 2).trans rfl
theorem IsS133.set_2 {w0 W : World} {g : Nat} {f0 : List Int} {f1 : Int} {f2 : Int} (h : IsS133 w0 W g f0 f1 f2) (x : Int) : IsS133 w0 (W.setCell ⟨g, 2, none⟩ (.int .i64 x)) g f0 f1 x := by
 obtain ⟨A0, c0, hb, hg, hr0⟩ := h
 exact ⟨A0, c0, by simpa using blk_set hb 2 (.int .i64 x), hg, hr0⟩
theorem IsS133.new (w0 W : World) (A0 : Option Addr) (c0 : Nat) (f0 : List Int) (f1 : Int) (f2 : Int) (hB : Below w0.heap.size w0 W) (hr0 : Kd.C (Kd.int .u8) w0 A0 f0.length f0 ∧ f0.length ≤ c0) : IsS133 w0 (W.alloc (.cells #[.slice A0 f0.length c0, .int .i64 f1, .int .i64 f2] 133)) W.heap.size f0 f1 f2 := ⟨A0, c0, by simpa using heap_alloc_new W _, hB.size, hr0⟩
theorem IsS133.q0 {a b : Prop} (h : a) (g : a → b := by intro h_; repeat (first | (with_reducible first | exact h_ | apply IsS133.alloc | apply IsS133.drewN | apply IsS133.drew | apply IsS133.set_1 | apply IsS133.set_2) | exact h_)) : b := g h
theorem IsS133.q1 {a b : Prop} {c0 : Prop} (h : a) (h0 : c0) (g : a → c0 → b := by intro h_ h0_; repeat (first | (with_reducible first | exact h_ | apply IsS133.alloc | apply IsS133.drewN | apply IsS133.drew | apply IsS133.set_1 | apply IsS133.set_2 | refine IsS133.far ?_ h0_ _) | exact h_)) : b := g h h0
theorem IsS133.q2 {a b : Prop} {c0 : Prop} {c1 : Prop} (h : a) (h0 : c0) (h1 : c1) (g : a → c0 → c1 → b := by intro h_ h0_ h1_; repeat (first | (with_reducible first | exact h_ | apply IsS133.alloc | apply IsS133.drewN | apply IsS133.drew | apply IsS133.set_1 | apply IsS133.set_2 | refine IsS133.far ?_ h0_ _ | refine IsS133.far ?_ h1_ _) | exact h_)) : b := g h h0 h1
theorem IsS133.q3 {a b : Prop} {c0 : Prop} {c1 : Prop} {c2 : Prop} (h : a) (h0 : c0) (h1 : c1) (h2 : c2) (g : a → c0 → c1 → c2 → b := by intro h_ h0_ h1_ h2_; repeat (first | (with_reducible first | exact h_ | apply IsS133.alloc | apply IsS133.drewN | apply IsS133.drew | apply IsS133.set_1 | apply IsS133.set_2 | refine IsS133.far ?_ h0_ _ | refine IsS133.far ?_ h1_ _ | refine IsS133.far ?_ h2_ _) | exact h_)) : b := g h h0 h1 h2

/-! ### spec_l1New: function 84 -/
def spec_l1New.l0 : Nat → List Int → Int → Int → Option (List Int × Int × Int)
 | 0, _, _, _ => none
 | k + 1, x0, x3, x4 => if x4 < (x0.length : Int) then (if x4 < 4000 then (if 0 ≤ x4 then (spec_l1New.l0 k x0 (Go.bits .and .i64 (wrap64 ((wrap64 ((wrap64 (x3 * 137)) + (wrap64 (rd x0 x4)))) + 11)) 1073741823) (wrap64 (x4 + 1))) else (none)) else (some (x0, 0, x3))) else (some (x0, 0, x3))
def spec_l1New.f (k : Nat) (l0 : List Int) : Option (List Int × Int × Int) := spec_l1New.l0 k l0 (wrap64 (762762 + (l0.length : Int))) 0
theorem spec_l1New.mono_l : ∀ k, (∀ y0 y1 y2, LeO (spec_l1New.l0 k y0 y1 y2) (spec_l1New.l0 (k + 1) y0 y1 y2))
 | 0 => fun _ _ _ r h => by simp [spec_l1New.l0] at h
 | k + 1 => by
  have ih0 := spec_l1New.mono_l k
  intro y0 y1 y2
  unfold spec_l1New.l0
  repeat' first
  | (with_reducible exact ih0 _ _ _)
  | (with_reducible exact LeO.refl _)
  | (with_reducible exact LeO.none _)
  | (with_reducible refine LeO.ite ?_ ?_)
  | (with_reducible refine LeO.bind ?_ (fun _ => ?_))
  | exact ih0 _ _ _
  | exact LeO.none _
  | refine LeO.ite ?_ ?_
  | refine LeO.bind ?_ (fun _ => ?_)
theorem spec_l1New.mono : ∀ a0 k, LeO (spec_l1New.f k a0) (spec_l1New.f (k + 1) a0) := by
 intro a0 k
 have ih0 := spec_l1New.mono_l k
 unfold spec_l1New.f
 repeat' first
  | (with_reducible exact ih0 _ _ _)
  | (with_reducible exact LeO.refl _)
  | (with_reducible exact LeO.none _)
  | (with_reducible refine LeO.ite ?_ ?_)
  | (with_reducible refine LeO.bind ?_ (fun _ => ?_))
  | exact ih0 _ _ _
  | exact LeO.none _
  | refine LeO.ite ?_ ?_
  | refine LeO.bind ?_ (fun _ => ?_)
set_option maxHeartbeats 8000000 in
set_option maxRecDepth 100000 in
theorem spec_l1New.calls (k : Nat) (A0 : Option Addr) (c0 : Nat) (l0 : List Int) (r1 : List Int) (r2 : Int) (r3 : Int) (w0 w : World) (hB : Below w0.heap.size w0 w) (hr0 : Kd.C (Kd.int .u8) w0 A0 l0.length l0) (hc0 : l0.length ≤ c0) (h : spec_l1New.f k l0 = some (r1, r2, r3)) :
 Calls Try.prog 84 #[.slice A0 l0.length c0] w fun e w' => ∃ g_ : Nat, e = .returned (.pointer (some ⟨g_, 0, none⟩)) ∧ IsS133 w0 w' g_ r1 r2 r3 ∧ Below w0.heap.size w0 w' ∧ Below w.heap.size w w' := by
 have hu133 := Try.underlying133
 have HR0 := am hr0
 have HC0 := am hc0
 clear hr0 hc0
 have HBW := am (Below.refl w.heap.size w)
 have HW0 := am hB.size
 have HB := am hB
 clear hB
 have H : (spec_l1New.l0 k l0 (wrap64 (762762 + (l0.length : Int))) 0) = some (r1, r2, r3) := h
 clear h
 have H' := am H
 clear H
 go_enter Try.func84, Try.ntmps84
 go_wp2
 go_loopg [3, 4] k (fun kq v3 v4 w' => ∃ (x3_1 : Int) (x4_1 : Int), v3 = .int .i64 x3_1 ∧ v4 = .int .i64 x4_1 ∧ Aside0 (spec_l1New.l0 kq l0 x3_1 x4_1 = some (r1, r2, r3)) ∧ Aside0 (kq ≤ k) ∧ Aside0 (Below w0.heap.size w0 w') ∧ Aside0 (Below w.heap.size w w'))
 case atStart => exact ⟨(wrap64 (762762 + (l0.length : Int))), (0), sq, sq, H', ⟨Nat.le_refl _⟩, ⟨bq HB.out⟩, ⟨bq HBW.out⟩⟩
 case round =>
  clear H' HBW
  obtain ⟨x3_1, x4_1, rfl, rfl, HA, HK1, HB, HBW⟩ := hrel
  cases gk with
  | zero => exact absurd HA.out (by simp [spec_l1New.l0])
  | succ k1 =>
   have H := HA.out
   clear HA
   simp only [spec_l1New.l0] at H
   by_cases c2 : x4_1 < (l0.length : Int)
   · rw [if_pos c2] at H
     have c2b0 : decide (x4_1 < (l0.length : Int)) = true := decide_eq_true c2
     clear c2
     by_cases c3 : x4_1 < 4000
     · rw [if_pos c3] at H
       have c3b0 : decide (x4_1 < 4000) = true := decide_eq_true c3
       clear c3
       by_cases c4 : 0 ≤ x4_1
       · rw [if_pos c4] at H
         have c4b0 : decide (0 ≤ x4_1) = true := decide_eq_true c4
         clear c4
         have H' := am H
         clear H
         have p275 : 0 ≤ (x4_1 : Int) := oda
         have q275 : x4_1 < (l0.length : Int) := oda
         obtain ⟨ad275, e275, hx275_0⟩ := Kd.at_int HR0.out x4_1 p275 q275
         cases e275
         replace hx275_0 := pw_cell_below HB.out hx275_0
         replace p275 := eq_true p275
         replace q275 := eq_true q275
         go_wp2
         go_roundg k1
         case measure => have := HK1.out; omega
         case rel => exact ⟨(Go.bits .and .i64 (wrap64 ((wrap64 ((wrap64 (x3_1 * 137)) + (wrap64 (rd l0 x4_1)))) + 11)) 1073741823), (wrap64 (x4_1 + 1)), sq, sq, H', ⟨by have := HK1.out; omega⟩, ⟨bq HB.out⟩, ⟨bq HBW.out⟩⟩
       rw [if_neg c4] at H
       exact absurd H (by simp)
     rw [if_neg c3] at H
     have c3b0 : decide (x4_1 < 4000) = false := decide_eq_false c3
     clear c3
     simp only [Option.some.injEq, Prod.mk.injEq] at H
     obtain ⟨rfl, rfl, rfl⟩ := H
     go_wp2_with (first | ((with_reducible refine gate_dst (N := 31) rfl ?_); refine box_event ?hg (N := 31) ?hd (cs := #[.slice A0 l0.length c0, .int .i64 0, .int .i64 x3_1]) (t := 133) ?hr ?_; (case hd => rfl); (case hg => rfl); (case hr => exact gs); intro gb276 hg w5 hbox hb; have n_ := ak5 (below_step HBW.out hb) (below_step (bq HB.out) hb) hbox ((by rw [hg]; exact (below_size (bq HBW.out)) : w.heap.size ≤ gb276)) ((Nat.le_trans HW0.out (by rw [hg]; exact (below_size (bq HBW.out)) : w.heap.size ≤ gb276) : w0.heap.size ≤ gb276)); clear HBW HB; obtain ⟨HBW, HB, BK276, GW276, GE276⟩ := n_; clear hb hbox hg))
     go_ret
     exact ⟨_, rfl, (show IsS133 w0 _ gb276 l0 0 x3_1 from ⟨_, _, zq BK276.out, GE276.out, ⟨HR0.out, HC0.out⟩⟩), bq1 HB.out GE276.out, bq1 HBW.out GW276.out⟩
   rw [if_neg c2] at H
   have c2b0 : decide (x4_1 < (l0.length : Int)) = false := decide_eq_false c2
   clear c2
   simp only [Option.some.injEq, Prod.mk.injEq] at H
   obtain ⟨rfl, rfl, rfl⟩ := H
   go_wp2_with (first | ((with_reducible refine gate_dst (N := 31) rfl ?_); refine box_event ?hg (N := 31) ?hd (cs := #[.slice A0 l0.length c0, .int .i64 0, .int .i64 x3_1]) (t := 133) ?hr ?_; (case hd => rfl); (case hg => rfl); (case hr => exact gs); intro gb277 hg w6 hbox hb; have n_ := ak5 (below_step HBW.out hb) (below_step (bq HB.out) hb) hbox ((by rw [hg]; exact (below_size (bq HBW.out)) : w.heap.size ≤ gb277)) ((Nat.le_trans HW0.out (by rw [hg]; exact (below_size (bq HBW.out)) : w.heap.size ≤ gb277) : w0.heap.size ≤ gb277)); clear HBW HB; obtain ⟨HBW, HB, BK277, GW277, GE277⟩ := n_; clear hb hbox hg))
   go_ret
   exact ⟨_, rfl, (show IsS133 w0 _ gb277 l0 0 x3_1 from ⟨_, _, zq BK277.out, GE277.out, ⟨HR0.out, HC0.out⟩⟩), bq1 HB.out GE277.out, bq1 HBW.out GW277.out⟩

end Go.Proofs.Ytebffdmkfkfoaaa.XFnVecs
