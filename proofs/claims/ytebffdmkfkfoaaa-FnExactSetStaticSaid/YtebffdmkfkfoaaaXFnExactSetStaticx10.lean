/- The functions that one law reaches, as Lean functions, with their walks: printed by a program of this seat (wip/tools) out of the translation. -/
import Derived.Test.YtebffdmkfkfoaaaXFnExactSetStaticx0
import Derived.Test.YtebffdmkfkfoaaaXFnExactSetStaticx1
import Derived.Test.YtebffdmkfkfoaaaXFnExactSetStaticx5
import Derived.Test.YtebffdmkfkfoaaaXFnExactSetStaticx9
namespace Go.Proofs.Ytebffdmkfkfoaaa.XFnExactSetStatic
open Go.RowKit Go.Proofs.YtebffdmkfkfoaaaW.PrintWords Go.Proofs.YtebffdmkfkfoaaaW.PrintLast Go.Proofs.YtebffdmkfkfoaaaW.PrintMore
attribute [local go_sem] max2_int min2_int max_two min_two max_three min_three max_four min_four   -- for this text's walks alone
set_option linter.unusedVariables false
set_option linter.unusedSimpArgs false

/-! ### laws_heldFentS: function 25 -/
def laws_heldFentS.l0 : Nat → List (S44) → Int → Int → Option (Int)
  | 0, _, _, _ => none
  | k + 1, x0, x1, x5 => if x5 < (x0.length : Int) then (if 0 ≤ x5 then (if ((rd_T44 x0 x5).f0) = x1 then (if ((rd_T44 x0 x5).f1) = (wrap64 (x1 + 1)) then (if ((rd_T44 x0 x5).f2) = (wrap64 ((wrap64 (x1 + 1)) + 1)) then (if ((rd_T44 x0 x5).f3) = (wrap64 ((wrap64 ((wrap64 (x1 + 1)) + 1)) + 1)) then (if (((rd_T44 x0 x5).f4) != ((Int.tmod (wrap64 ((wrap64 ((wrap64 ((wrap64 (x1 + 1)) + 1)) + 1)) + 1)) 3) == 0)) = true then (some (-1)) else (laws_heldFentS.l0 k x0 (wrap64 ((wrap64 ((wrap64 ((wrap64 ((wrap64 (x1 + 1)) + 1)) + 1)) + 1)) + 1)) (wrap64 (x5 + 1)))) else (some (-1))) else (some (-1))) else (some (-1))) else (some (-1))) else (none)) else (some x1)
def laws_heldFentS.f (k : Nat) (l0 : List (S44)) (a1 : Int) : Option (Int) := laws_heldFentS.l0 k l0 a1 0
theorem laws_heldFentS.mono_l : ∀ k, (∀ y0 y1 y2, LeO (laws_heldFentS.l0 k y0 y1 y2) (laws_heldFentS.l0 (k + 1) y0 y1 y2))
  | 0 => fun _ _ _ r h => by simp [laws_heldFentS.l0] at h
  | k + 1 => by
    have ih0 := laws_heldFentS.mono_l k
    · intro y0 y1 y2
      unfold laws_heldFentS.l0
      repeat' first
      | (with_reducible exact ih0 _ _ _)
      | (with_reducible exact LeO.refl _)
      | (with_reducible exact LeO.none _)
      | (with_reducible refine LeO.ite ?_ ?_)
      | (with_reducible refine LeO.bind ?_ (fun _ => ?_))
      | exact ih0 _ _ _
      | exact LeO.none _
      | refine LeO.ite ?_ ?_
      | refine LeO.bind ?_ (fun _ => ?_)
theorem laws_heldFentS.mono : ∀ a0 a1 k, LeO (laws_heldFentS.f k a0 a1) (laws_heldFentS.f (k + 1) a0 a1) := by
  intro a0 a1 k
  have ih0 := laws_heldFentS.mono_l k
  unfold laws_heldFentS.f
  repeat' first
      | (with_reducible exact ih0 _ _ _)
      | (with_reducible exact LeO.refl _)
      | (with_reducible exact LeO.none _)
      | (with_reducible refine LeO.ite ?_ ?_)
      | (with_reducible refine LeO.bind ?_ (fun _ => ?_))
      | exact ih0 _ _ _
      | exact LeO.none _
      | refine LeO.ite ?_ ?_
      | refine LeO.bind ?_ (fun _ => ?_)
set_option maxHeartbeats 8000000 in
set_option maxRecDepth 100000 in
theorem laws_heldFentS.calls (k : Nat) (A0 : Option Addr) (c0 : Nat) (l0 : List (S44)) (a1 : Int) (r : Int) (w : World) (hr0 : Kd.C k44 w A0 l0.length l0) (hc0 : l0.length ≤ c0) (h : laws_heldFentS.f k l0 a1 = some r) :
    Calls Try.prog 25 #[.slice A0 l0.length c0, .int .i64 a1] w fun e w' => e = .returned (.int .i64 r) ∧ Drawn0 w w' := by
  have HR0 := am hr0
  have HC0 := am hc0
  clear hr0 hc0
  have H : (laws_heldFentS.l0 k l0 a1 0) = some r := h
  clear h
  have H' := am H
  clear H
  go_enter Try.func25, Try.ntmps25
  go_wp2
  go_loopg [1, 5] k (fun kq v1 v5 w' => ∃ (x1_1 : Int) (x5_1 : Int), v1 = .int .i64 x1_1 ∧ v5 = .int .i64 x5_1 ∧ Aside0 (laws_heldFentS.l0 kq l0 x1_1 x5_1 = some r) ∧ Aside0 (kq ≤ k) ∧ Drawn0 w w')
  case atStart => exact ⟨(a1), (0), (by first | rfl | (simp; done) | (simp [*]; done)), (by first | rfl | (simp; done) | (simp [*]; done)), H', ⟨Nat.le_refl _⟩, by repeat (first | exact Drawn0.refl _ | apply Drawn0.step)⟩
  case round =>
    clear H'
    try clear c2
    try clear p2
    obtain ⟨x1_1, x5_1, rfl, rfl, HA, HK1, ⟨m1, rfl⟩⟩ := hrel
    cases gk with
    | zero => exact absurd HA.out (by simp [laws_heldFentS.l0])
    | succ k1 =>
      have H := HA.out
      clear HA
      simp only [laws_heldFentS.l0] at H
      by_cases c3 : x5_1 < (l0.length : Int)
      · rw [if_pos c3] at H
        have c3b0 : decide (x5_1 < (l0.length : Int)) = true := decide_eq_true c3
        clear c3
        by_cases c4 : 0 ≤ x5_1
        · rw [if_pos c4] at H
          have c4b0 : decide (0 ≤ x5_1) = true := decide_eq_true c4
          clear c4
          by_cases c5 : ((rd_T44 l0 x5_1).f0) = x1_1
          · rw [if_pos c5] at H
            have c5b0 : (((rd_T44 l0 x5_1).f0) == x1_1) = true := beq_iff_eq.mpr c5
            have c5b1 : (((rd_T44 l0 x5_1).f0) != x1_1) = false := bne_eq_false_iff_eq.mpr c5
            clear c5
            by_cases c6 : ((rd_T44 l0 x5_1).f1) = (wrap64 (x1_1 + 1))
            · rw [if_pos c6] at H
              have c6b0 : (((rd_T44 l0 x5_1).f1) == (wrap64 (x1_1 + 1))) = true := beq_iff_eq.mpr c6
              have c6b1 : (((rd_T44 l0 x5_1).f1) != (wrap64 (x1_1 + 1))) = false := bne_eq_false_iff_eq.mpr c6
              clear c6
              by_cases c7 : ((rd_T44 l0 x5_1).f2) = (wrap64 ((wrap64 (x1_1 + 1)) + 1))
              · rw [if_pos c7] at H
                have c7b0 : (((rd_T44 l0 x5_1).f2) == (wrap64 ((wrap64 (x1_1 + 1)) + 1))) = true := beq_iff_eq.mpr c7
                have c7b1 : (((rd_T44 l0 x5_1).f2) != (wrap64 ((wrap64 (x1_1 + 1)) + 1))) = false := bne_eq_false_iff_eq.mpr c7
                clear c7
                by_cases c8 : ((rd_T44 l0 x5_1).f3) = (wrap64 ((wrap64 ((wrap64 (x1_1 + 1)) + 1)) + 1))
                · rw [if_pos c8] at H
                  have c8b0 : (((rd_T44 l0 x5_1).f3) == (wrap64 ((wrap64 ((wrap64 (x1_1 + 1)) + 1)) + 1))) = true := beq_iff_eq.mpr c8
                  have c8b1 : (((rd_T44 l0 x5_1).f3) != (wrap64 ((wrap64 ((wrap64 (x1_1 + 1)) + 1)) + 1))) = false := bne_eq_false_iff_eq.mpr c8
                  clear c8
                  by_cases c9 : (((rd_T44 l0 x5_1).f4) != ((Int.tmod (wrap64 ((wrap64 ((wrap64 ((wrap64 (x1_1 + 1)) + 1)) + 1)) + 1)) 3) == 0)) = true
                  · rw [if_pos c9] at H
                    have c9b0 : (((rd_T44 l0 x5_1).f4) != ((Int.tmod (wrap64 ((wrap64 ((wrap64 ((wrap64 (x1_1 + 1)) + 1)) + 1)) + 1)) 3) == 0)) = true := c9
                    (try (have c9b1 : decide (((rd_T44 l0 x5_1).f4) = ((Int.tmod (wrap64 ((wrap64 ((wrap64 ((wrap64 (x1_1 + 1)) + 1)) + 1)) + 1)) 3) == 0)) = false := by simpa using c9))
                    (try (have c9b2 : (((rd_T44 l0 x5_1).f4) == ((Int.tmod (wrap64 ((wrap64 ((wrap64 ((wrap64 (x1_1 + 1)) + 1)) + 1)) + 1)) 3) == 0)) = false := by simpa using c9))
                    (try (have c9b3 : ¬ (((rd_T44 l0 x5_1).f4) = ((Int.tmod (wrap64 ((wrap64 ((wrap64 ((wrap64 (x1_1 + 1)) + 1)) + 1)) + 1)) 3) == 0)) := by simpa using c9))
                    clear c9
                    obtain rfl := Option.some.inj H
                    have p261 : 0 ≤ (x5_1 : Int) := oda
                    have q261 : x5_1 < (l0.length : Int) := oda
                    obtain ⟨ad261, e261, hx261_0, hx261_1, hx261_2, hx261_3, hx261_4⟩ := at_T44 HR0.out x5_1 p261 q261
                    cases e261
                    replace p261 := eq_true p261
                    replace q261 := eq_true q261
                    have p262 : 0 ≤ (x5_1 : Int) := oda
                    have q262 : x5_1 < (l0.length : Int) := oda
                    obtain ⟨ad262, e262, hx262_0, hx262_1, hx262_2, hx262_3, hx262_4⟩ := at_T44 HR0.out x5_1 p262 q262
                    obtain rfl : ad261 = ad262 := (by injection e262)
                    replace p262 := eq_true p262
                    replace q262 := eq_true q262
                    have p263 : 0 ≤ (x5_1 : Int) := oda
                    have q263 : x5_1 < (l0.length : Int) := oda
                    obtain ⟨ad263, e263, hx263_0, hx263_1, hx263_2, hx263_3, hx263_4⟩ := at_T44 HR0.out x5_1 p263 q263
                    obtain rfl : ad261 = ad263 := (by injection e263)
                    replace p263 := eq_true p263
                    replace q263 := eq_true q263
                    have p264 : 0 ≤ (x5_1 : Int) := oda
                    have q264 : x5_1 < (l0.length : Int) := oda
                    obtain ⟨ad264, e264, hx264_0, hx264_1, hx264_2, hx264_3, hx264_4⟩ := at_T44 HR0.out x5_1 p264 q264
                    obtain rfl : ad261 = ad264 := (by injection e264)
                    replace p264 := eq_true p264
                    replace q264 := eq_true q264
                    have p265 : 0 ≤ (x5_1 : Int) := oda
                    have q265 : x5_1 < (l0.length : Int) := oda
                    obtain ⟨ad265, e265, hx265_0, hx265_1, hx265_2, hx265_3, hx265_4⟩ := at_T44 HR0.out x5_1 p265 q265
                    obtain rfl : ad261 = ad265 := (by injection e265)
                    replace p265 := eq_true p265
                    replace q265 := eq_true q265
                    go_wp2
                    go_ret
                    exact ⟨by first | rfl | (simp; done) | (simp [*]; done), by repeat (first | exact Drawn0.refl _ | apply Drawn0.step)⟩
                  · rw [if_neg c9] at H
                    have c9b0 : (((rd_T44 l0 x5_1).f4) != ((Int.tmod (wrap64 ((wrap64 ((wrap64 ((wrap64 (x1_1 + 1)) + 1)) + 1)) + 1)) 3) == 0)) = false := by simpa using c9
                    (try (have c9b1 : decide (((rd_T44 l0 x5_1).f4) = ((Int.tmod (wrap64 ((wrap64 ((wrap64 ((wrap64 (x1_1 + 1)) + 1)) + 1)) + 1)) 3) == 0)) = true := by simpa using c9))
                    (try (have c9b2 : (((rd_T44 l0 x5_1).f4) == ((Int.tmod (wrap64 ((wrap64 ((wrap64 ((wrap64 (x1_1 + 1)) + 1)) + 1)) + 1)) 3) == 0)) = true := by simpa using c9))
                    clear c9
                    have H' := am H
                    clear H
                    have p261 : 0 ≤ (x5_1 : Int) := oda
                    have q261 : x5_1 < (l0.length : Int) := oda
                    obtain ⟨ad261, e261, hx261_0, hx261_1, hx261_2, hx261_3, hx261_4⟩ := at_T44 HR0.out x5_1 p261 q261
                    cases e261
                    replace p261 := eq_true p261
                    replace q261 := eq_true q261
                    have p262 : 0 ≤ (x5_1 : Int) := oda
                    have q262 : x5_1 < (l0.length : Int) := oda
                    obtain ⟨ad262, e262, hx262_0, hx262_1, hx262_2, hx262_3, hx262_4⟩ := at_T44 HR0.out x5_1 p262 q262
                    obtain rfl : ad261 = ad262 := (by injection e262)
                    replace p262 := eq_true p262
                    replace q262 := eq_true q262
                    have p263 : 0 ≤ (x5_1 : Int) := oda
                    have q263 : x5_1 < (l0.length : Int) := oda
                    obtain ⟨ad263, e263, hx263_0, hx263_1, hx263_2, hx263_3, hx263_4⟩ := at_T44 HR0.out x5_1 p263 q263
                    obtain rfl : ad261 = ad263 := (by injection e263)
                    replace p263 := eq_true p263
                    replace q263 := eq_true q263
                    have p264 : 0 ≤ (x5_1 : Int) := oda
                    have q264 : x5_1 < (l0.length : Int) := oda
                    obtain ⟨ad264, e264, hx264_0, hx264_1, hx264_2, hx264_3, hx264_4⟩ := at_T44 HR0.out x5_1 p264 q264
                    obtain rfl : ad261 = ad264 := (by injection e264)
                    replace p264 := eq_true p264
                    replace q264 := eq_true q264
                    have p265 : 0 ≤ (x5_1 : Int) := oda
                    have q265 : x5_1 < (l0.length : Int) := oda
                    obtain ⟨ad265, e265, hx265_0, hx265_1, hx265_2, hx265_3, hx265_4⟩ := at_T44 HR0.out x5_1 p265 q265
                    obtain rfl : ad261 = ad265 := (by injection e265)
                    replace p265 := eq_true p265
                    replace q265 := eq_true q265
                    go_wp2
                    go_roundg k1
                    case measure => have := HK1.out; omega
                    case rel => exact ⟨(wrap64 ((wrap64 ((wrap64 ((wrap64 ((wrap64 (x1_1 + 1)) + 1)) + 1)) + 1)) + 1)), (wrap64 (x5_1 + 1)), (by first | rfl | (simp; done) | (simp [*]; done)), (by first | rfl | (simp; done) | (simp [*]; done)), H', ⟨by have := HK1.out; omega⟩, by repeat (first | exact Drawn0.refl _ | apply Drawn0.step)⟩
                · rw [if_neg c8] at H
                  have c8b0 : (((rd_T44 l0 x5_1).f3) == (wrap64 ((wrap64 ((wrap64 (x1_1 + 1)) + 1)) + 1))) = false := beq_eq_false_iff_ne.mpr c8
                  have c8b1 : (((rd_T44 l0 x5_1).f3) != (wrap64 ((wrap64 ((wrap64 (x1_1 + 1)) + 1)) + 1))) = true := bne_iff_ne.mpr c8
                  obtain rfl := Option.some.inj H
                  have p261 : 0 ≤ (x5_1 : Int) := oda
                  have q261 : x5_1 < (l0.length : Int) := oda
                  obtain ⟨ad261, e261, hx261_0, hx261_1, hx261_2, hx261_3, hx261_4⟩ := at_T44 HR0.out x5_1 p261 q261
                  cases e261
                  replace p261 := eq_true p261
                  replace q261 := eq_true q261
                  have p262 : 0 ≤ (x5_1 : Int) := oda
                  have q262 : x5_1 < (l0.length : Int) := oda
                  obtain ⟨ad262, e262, hx262_0, hx262_1, hx262_2, hx262_3, hx262_4⟩ := at_T44 HR0.out x5_1 p262 q262
                  obtain rfl : ad261 = ad262 := (by injection e262)
                  replace p262 := eq_true p262
                  replace q262 := eq_true q262
                  have p263 : 0 ≤ (x5_1 : Int) := oda
                  have q263 : x5_1 < (l0.length : Int) := oda
                  obtain ⟨ad263, e263, hx263_0, hx263_1, hx263_2, hx263_3, hx263_4⟩ := at_T44 HR0.out x5_1 p263 q263
                  obtain rfl : ad261 = ad263 := (by injection e263)
                  replace p263 := eq_true p263
                  replace q263 := eq_true q263
                  have p264 : 0 ≤ (x5_1 : Int) := oda
                  have q264 : x5_1 < (l0.length : Int) := oda
                  obtain ⟨ad264, e264, hx264_0, hx264_1, hx264_2, hx264_3, hx264_4⟩ := at_T44 HR0.out x5_1 p264 q264
                  obtain rfl : ad261 = ad264 := (by injection e264)
                  replace p264 := eq_true p264
                  replace q264 := eq_true q264
                  go_wp2
                  go_ret
                  exact ⟨by first | rfl | (simp; done) | (simp [*]; done), by repeat (first | exact Drawn0.refl _ | apply Drawn0.step)⟩
              · rw [if_neg c7] at H
                have c7b0 : (((rd_T44 l0 x5_1).f2) == (wrap64 ((wrap64 (x1_1 + 1)) + 1))) = false := beq_eq_false_iff_ne.mpr c7
                have c7b1 : (((rd_T44 l0 x5_1).f2) != (wrap64 ((wrap64 (x1_1 + 1)) + 1))) = true := bne_iff_ne.mpr c7
                obtain rfl := Option.some.inj H
                have p261 : 0 ≤ (x5_1 : Int) := oda
                have q261 : x5_1 < (l0.length : Int) := oda
                obtain ⟨ad261, e261, hx261_0, hx261_1, hx261_2, hx261_3, hx261_4⟩ := at_T44 HR0.out x5_1 p261 q261
                cases e261
                replace p261 := eq_true p261
                replace q261 := eq_true q261
                have p262 : 0 ≤ (x5_1 : Int) := oda
                have q262 : x5_1 < (l0.length : Int) := oda
                obtain ⟨ad262, e262, hx262_0, hx262_1, hx262_2, hx262_3, hx262_4⟩ := at_T44 HR0.out x5_1 p262 q262
                obtain rfl : ad261 = ad262 := (by injection e262)
                replace p262 := eq_true p262
                replace q262 := eq_true q262
                have p263 : 0 ≤ (x5_1 : Int) := oda
                have q263 : x5_1 < (l0.length : Int) := oda
                obtain ⟨ad263, e263, hx263_0, hx263_1, hx263_2, hx263_3, hx263_4⟩ := at_T44 HR0.out x5_1 p263 q263
                obtain rfl : ad261 = ad263 := (by injection e263)
                replace p263 := eq_true p263
                replace q263 := eq_true q263
                go_wp2
                go_ret
                exact ⟨by first | rfl | (simp; done) | (simp [*]; done), by repeat (first | exact Drawn0.refl _ | apply Drawn0.step)⟩
            · rw [if_neg c6] at H
              have c6b0 : (((rd_T44 l0 x5_1).f1) == (wrap64 (x1_1 + 1))) = false := beq_eq_false_iff_ne.mpr c6
              have c6b1 : (((rd_T44 l0 x5_1).f1) != (wrap64 (x1_1 + 1))) = true := bne_iff_ne.mpr c6
              obtain rfl := Option.some.inj H
              have p261 : 0 ≤ (x5_1 : Int) := oda
              have q261 : x5_1 < (l0.length : Int) := oda
              obtain ⟨ad261, e261, hx261_0, hx261_1, hx261_2, hx261_3, hx261_4⟩ := at_T44 HR0.out x5_1 p261 q261
              cases e261
              replace p261 := eq_true p261
              replace q261 := eq_true q261
              have p262 : 0 ≤ (x5_1 : Int) := oda
              have q262 : x5_1 < (l0.length : Int) := oda
              obtain ⟨ad262, e262, hx262_0, hx262_1, hx262_2, hx262_3, hx262_4⟩ := at_T44 HR0.out x5_1 p262 q262
              obtain rfl : ad261 = ad262 := (by injection e262)
              replace p262 := eq_true p262
              replace q262 := eq_true q262
              go_wp2
              go_ret
              exact ⟨by first | rfl | (simp; done) | (simp [*]; done), by repeat (first | exact Drawn0.refl _ | apply Drawn0.step)⟩
          · rw [if_neg c5] at H
            have c5b0 : (((rd_T44 l0 x5_1).f0) == x1_1) = false := beq_eq_false_iff_ne.mpr c5
            have c5b1 : (((rd_T44 l0 x5_1).f0) != x1_1) = true := bne_iff_ne.mpr c5
            obtain rfl := Option.some.inj H
            have p261 : 0 ≤ (x5_1 : Int) := oda
            have q261 : x5_1 < (l0.length : Int) := oda
            obtain ⟨ad261, e261, hx261_0, hx261_1, hx261_2, hx261_3, hx261_4⟩ := at_T44 HR0.out x5_1 p261 q261
            cases e261
            replace p261 := eq_true p261
            replace q261 := eq_true q261
            go_wp2
            go_ret
            exact ⟨by first | rfl | (simp; done) | (simp [*]; done), by repeat (first | exact Drawn0.refl _ | apply Drawn0.step)⟩
        · rw [if_neg c4] at H
          exact absurd H (by simp)
      · rw [if_neg c3] at H
        have c3b0 : decide (x5_1 < (l0.length : Int)) = false := decide_eq_false c3
        clear c3
        obtain rfl := Option.some.inj H
        go_wp2
        go_ret
        exact ⟨by first | rfl | (simp; done) | (simp [*]; done), by repeat (first | exact Drawn0.refl _ | apply Drawn0.step)⟩

/-! ### laws_FnExactSetStatic: function 4 -/
mutual
def laws_FnExactSetStatic.j0 : Nat → List (S95) → Int → Int → Int → List (S44) → Bool → List (S44) → List (S44) → Bool → Bool → Option (Bool)
  | 0, _, _, _, _, _, _, _, _, _, _ => none
  | k + 1, x0, x1, x2, x3, x10, x11, x12, x13, x14, x52 => if x52 = true then (some false) else ((laws_toFentS.f k x0).bind fun t282 => ((laws_eqFentS.f k x12 t282).bind fun t285 => (if t285 = true then ((laws_markFentS.f k x12 1).bind fun bt286 => (if bt286.1 < 0 then (laws_FnExactSetStatic.j1 k x0 x1 x2 x3 x10 x11 x13 true) else ((laws_eqFentS.f k x13 x10).bind fun t288 => (if t288 = true then (laws_FnExactSetStatic.j1 k x0 x1 x2 x3 x10 x11 x13 (x14 != x11)) else (laws_FnExactSetStatic.j1 k x0 x1 x2 x3 x10 x11 x13 true))))) else (some false))))
def laws_FnExactSetStatic.j1 : Nat → List (S95) → Int → Int → Int → List (S44) → Bool → List (S44) → Bool → Option (Bool)
  | 0, _, _, _, _, _, _, _, _ => none
  | k + 1, x0, x1, x2, x3, x10, x11, x13, x73 => if x73 = true then (some false) else ((laws_markFentS.f k x13 1).bind fun bt289 => ((laws_heldFentS.f k bt289.2 1).bind fun t291 => (if t291 < 0 then (some false) else (if t291 = bt289.1 then ((laws_toFentS.f k x0).bind fun t292 => ((impl_SetStatic.f k t292 x1 x2 x3).bind fun bt295 => ((laws_eqFentS.f k bt295.1 x10).bind fun t299 => (if t299 = true then (laws_FnExactSetStatic.j2 k bt289.2 bt289.1 (bt295.2 != x11)) else (laws_FnExactSetStatic.j2 k bt289.2 bt289.1 true))))) else (some false)))))
def laws_FnExactSetStatic.j2 : Nat → List (S44) → Int → Bool → Option (Bool)
  | 0, _, _, _ => none
  | k + 1, x13, x16, x102 => if x102 = true then (some false) else ((laws_heldFentS.f k x13 1).bind fun t300 => (if t300 < 0 then (some false) else (if t300 = x16 then (some true) else (some false))))
end
def laws_FnExactSetStatic.f (k : Nat) (l0 : List (S95)) (a1 : Int) (a2 : Int) (a3 : Int) : Option (Bool) := (laws_szFentS.f l0 1048576).bind fun t266 => (if t266 < 0 then (some true) else ((laws_toFentS.f k l0).bind fun t267 => ((spec_SetStatic.f k t267 a1 a2 a3).bind fun bt270 => ((laws_toFentS.f k l0).bind fun t274 => ((impl_SetStatic.f k t274 a1 a2 a3).bind fun bt277 => ((laws_eqFentS.f k bt277.1 bt270.1).bind fun t281 => (if t281 = true then (laws_FnExactSetStatic.j0 k l0 a1 a2 a3 bt270.1 bt270.2 t274 bt277.1 bt277.2 (bt277.2 != bt270.2)) else (laws_FnExactSetStatic.j0 k l0 a1 a2 a3 bt270.1 bt270.2 t274 bt277.1 bt277.2 true))))))))
theorem laws_FnExactSetStatic.mono_l : ∀ k, (∀ y0 y1 y2 y3 y4 y5 y6 y7 y8 y9, LeO (laws_FnExactSetStatic.j0 k y0 y1 y2 y3 y4 y5 y6 y7 y8 y9) (laws_FnExactSetStatic.j0 (k + 1) y0 y1 y2 y3 y4 y5 y6 y7 y8 y9)) ∧ (∀ y0 y1 y2 y3 y4 y5 y6 y7, LeO (laws_FnExactSetStatic.j1 k y0 y1 y2 y3 y4 y5 y6 y7) (laws_FnExactSetStatic.j1 (k + 1) y0 y1 y2 y3 y4 y5 y6 y7)) ∧ (∀ y0 y1 y2, LeO (laws_FnExactSetStatic.j2 k y0 y1 y2) (laws_FnExactSetStatic.j2 (k + 1) y0 y1 y2))
  | 0 => ⟨fun _ _ _ _ _ _ _ _ _ _ r h => by simp [laws_FnExactSetStatic.j0] at h, fun _ _ _ _ _ _ _ _ r h => by simp [laws_FnExactSetStatic.j1] at h, fun _ _ _ r h => by simp [laws_FnExactSetStatic.j2] at h⟩
  | k + 1 => by
    obtain ⟨ih0, ih1, ih2⟩ := laws_FnExactSetStatic.mono_l k
    refine ⟨?_, ?_, ?_⟩
    · intro y0 y1 y2 y3 y4 y5 y6 y7 y8 y9
      unfold laws_FnExactSetStatic.j0
      repeat' first
      | (with_reducible exact ih0 _ _ _ _ _ _ _ _ _ _)
      | (with_reducible exact ih1 _ _ _ _ _ _ _ _)
      | (with_reducible exact ih2 _ _ _)
      | (with_reducible exact impl_SetStatic.mono _ _ _ _ _)
      | (with_reducible exact laws_eqFentS.mono _ _ _)
      | (with_reducible exact laws_heldFentS.mono _ _ _)
      | (with_reducible exact laws_markFentS.mono _ _ _)
      | (with_reducible exact laws_toFentS.mono _ _)
      | (with_reducible exact spec_SetStatic.mono _ _ _ _ _)
      | (with_reducible exact LeO.refl _)
      | (with_reducible exact LeO.none _)
      | (with_reducible refine LeO.ite ?_ ?_)
      | (with_reducible refine LeO.bind ?_ (fun _ => ?_))
      | exact ih0 _ _ _ _ _ _ _ _ _ _
      | exact ih1 _ _ _ _ _ _ _ _
      | exact ih2 _ _ _
      | exact impl_SetStatic.mono _ _ _ _ _
      | exact laws_eqFentS.mono _ _ _
      | exact laws_heldFentS.mono _ _ _
      | exact laws_markFentS.mono _ _ _
      | exact laws_toFentS.mono _ _
      | exact spec_SetStatic.mono _ _ _ _ _
      | exact LeO.none _
      | refine LeO.ite ?_ ?_
      | refine LeO.bind ?_ (fun _ => ?_)
    · intro y0 y1 y2 y3 y4 y5 y6 y7
      unfold laws_FnExactSetStatic.j1
      repeat' first
      | (with_reducible exact ih0 _ _ _ _ _ _ _ _ _ _)
      | (with_reducible exact ih1 _ _ _ _ _ _ _ _)
      | (with_reducible exact ih2 _ _ _)
      | (with_reducible exact impl_SetStatic.mono _ _ _ _ _)
      | (with_reducible exact laws_eqFentS.mono _ _ _)
      | (with_reducible exact laws_heldFentS.mono _ _ _)
      | (with_reducible exact laws_markFentS.mono _ _ _)
      | (with_reducible exact laws_toFentS.mono _ _)
      | (with_reducible exact spec_SetStatic.mono _ _ _ _ _)
      | (with_reducible exact LeO.refl _)
      | (with_reducible exact LeO.none _)
      | (with_reducible refine LeO.ite ?_ ?_)
      | (with_reducible refine LeO.bind ?_ (fun _ => ?_))
      | exact ih0 _ _ _ _ _ _ _ _ _ _
      | exact ih1 _ _ _ _ _ _ _ _
      | exact ih2 _ _ _
      | exact impl_SetStatic.mono _ _ _ _ _
      | exact laws_eqFentS.mono _ _ _
      | exact laws_heldFentS.mono _ _ _
      | exact laws_markFentS.mono _ _ _
      | exact laws_toFentS.mono _ _
      | exact spec_SetStatic.mono _ _ _ _ _
      | exact LeO.none _
      | refine LeO.ite ?_ ?_
      | refine LeO.bind ?_ (fun _ => ?_)
    · intro y0 y1 y2
      unfold laws_FnExactSetStatic.j2
      repeat' first
      | (with_reducible exact ih0 _ _ _ _ _ _ _ _ _ _)
      | (with_reducible exact ih1 _ _ _ _ _ _ _ _)
      | (with_reducible exact ih2 _ _ _)
      | (with_reducible exact impl_SetStatic.mono _ _ _ _ _)
      | (with_reducible exact laws_eqFentS.mono _ _ _)
      | (with_reducible exact laws_heldFentS.mono _ _ _)
      | (with_reducible exact laws_markFentS.mono _ _ _)
      | (with_reducible exact laws_toFentS.mono _ _)
      | (with_reducible exact spec_SetStatic.mono _ _ _ _ _)
      | (with_reducible exact LeO.refl _)
      | (with_reducible exact LeO.none _)
      | (with_reducible refine LeO.ite ?_ ?_)
      | (with_reducible refine LeO.bind ?_ (fun _ => ?_))
      | exact ih0 _ _ _ _ _ _ _ _ _ _
      | exact ih1 _ _ _ _ _ _ _ _
      | exact ih2 _ _ _
      | exact impl_SetStatic.mono _ _ _ _ _
      | exact laws_eqFentS.mono _ _ _
      | exact laws_heldFentS.mono _ _ _
      | exact laws_markFentS.mono _ _ _
      | exact laws_toFentS.mono _ _
      | exact spec_SetStatic.mono _ _ _ _ _
      | exact LeO.none _
      | refine LeO.ite ?_ ?_
      | refine LeO.bind ?_ (fun _ => ?_)
theorem laws_FnExactSetStatic.mono : ∀ a0 a1 a2 a3 k, LeO (laws_FnExactSetStatic.f k a0 a1 a2 a3) (laws_FnExactSetStatic.f (k + 1) a0 a1 a2 a3) := by
  intro a0 a1 a2 a3 k
  obtain ⟨ih0, ih1, ih2⟩ := laws_FnExactSetStatic.mono_l k
  unfold laws_FnExactSetStatic.f
  repeat' first
      | (with_reducible exact ih0 _ _ _ _ _ _ _ _ _ _)
      | (with_reducible exact ih1 _ _ _ _ _ _ _ _)
      | (with_reducible exact ih2 _ _ _)
      | (with_reducible exact impl_SetStatic.mono _ _ _ _ _)
      | (with_reducible exact laws_eqFentS.mono _ _ _)
      | (with_reducible exact laws_heldFentS.mono _ _ _)
      | (with_reducible exact laws_markFentS.mono _ _ _)
      | (with_reducible exact laws_toFentS.mono _ _)
      | (with_reducible exact spec_SetStatic.mono _ _ _ _ _)
      | (with_reducible exact LeO.refl _)
      | (with_reducible exact LeO.none _)
      | (with_reducible refine LeO.ite ?_ ?_)
      | (with_reducible refine LeO.bind ?_ (fun _ => ?_))
      | exact ih0 _ _ _ _ _ _ _ _ _ _
      | exact ih1 _ _ _ _ _ _ _ _
      | exact ih2 _ _ _
      | exact impl_SetStatic.mono _ _ _ _ _
      | exact laws_eqFentS.mono _ _ _
      | exact laws_heldFentS.mono _ _ _
      | exact laws_markFentS.mono _ _ _
      | exact laws_toFentS.mono _ _
      | exact spec_SetStatic.mono _ _ _ _ _
      | exact LeO.none _
      | refine LeO.ite ?_ ?_
      | refine LeO.bind ?_ (fun _ => ?_)
set_option maxHeartbeats 8000000 in
set_option maxRecDepth 100000 in
theorem laws_FnExactSetStatic.calls (k : Nat) (A0 : Option Addr) (c0 : Nat) (l0 : List (S95)) (a1 : Int) (a2 : Int) (a3 : Int) (r : Bool) (w : World) (hr0 : Kd.C k95 w A0 l0.length l0) (hc0 : l0.length ≤ c0) (hr_ : r = true) (h : laws_FnExactSetStatic.f k l0 a1 a2 a3 = some r) :
    Calls Try.prog 4 #[.slice A0 l0.length c0, .int .i64 a1, .int .i64 a2, .int .i64 a3] w fun e w' => e = .returned (.bool r) ∧ Below w.heap.size w w' := by
  have HRT := am hr_
  clear hr_
  have HR0 := am hr0
  have HC0 := am hc0
  clear hr0 hc0
  have HB := am (Below.refl w.heap.size w)
  have H : ((laws_szFentS.f l0 1048576).bind fun t266 => (if t266 < 0 then (some true) else ((laws_toFentS.f k l0).bind fun t267 => ((spec_SetStatic.f k t267 a1 a2 a3).bind fun bt270 => ((laws_toFentS.f k l0).bind fun t274 => ((impl_SetStatic.f k t274 a1 a2 a3).bind fun bt277 => ((laws_eqFentS.f k bt277.1 bt270.1).bind fun t281 => (if t281 = true then (laws_FnExactSetStatic.j0 k l0 a1 a2 a3 bt270.1 bt270.2 t274 bt277.1 bt277.2 (bt277.2 != bt270.2)) else (laws_FnExactSetStatic.j0 k l0 a1 a2 a3 bt270.1 bt270.2 t274 bt277.1 bt277.2 true))))))))) = some r := h
  clear h
  replace H := Option.bind_eq_some_iff.mp H
  obtain ⟨t266, A50, H⟩ := H
  replace H : (if t266 < 0 then (some true) else ((laws_toFentS.f k l0).bind fun t267 => ((spec_SetStatic.f k t267 a1 a2 a3).bind fun bt270 => ((laws_toFentS.f k l0).bind fun t274 => ((impl_SetStatic.f k t274 a1 a2 a3).bind fun bt277 => ((laws_eqFentS.f k bt277.1 bt270.1).bind fun t281 => (if t281 = true then (laws_FnExactSetStatic.j0 k l0 a1 a2 a3 bt270.1 bt270.2 t274 bt277.1 bt277.2 (bt277.2 != bt270.2)) else (laws_FnExactSetStatic.j0 k l0 a1 a2 a3 bt270.1 bt270.2 t274 bt277.1 bt277.2 true)))))))) = some r := H
  have A5 := am A50
  clear A50
  by_cases c6 : t266 < 0
  · rw [if_pos c6] at H
    have c6b0 : decide (t266 < 0) = true := decide_eq_true c6
    clear c6
    obtain rfl := Option.some.inj H
    go_enter Try.func4, Try.ntmps4
    go_wp2_with (first | ((with_reducible refine gate_callee (f := 19) rfl ?_); refine goesL_ (some 22) rfl rfl Try.func19 (by kernel_rfl) rfl #[.slice A0 l0.length c0, .int .i64 1048576] rfl (by (try simp only [List.map_toArray, List.map_cons, List.map_nil]); first | done | rfl | (simp only [List.length_drop, List.length_take]; rfl)) ?_; (with_reducible refine (laws_szFentS.calls _ _ l0 1048576 t266 _ ?side1 ?side2 A5.out).mono ?_); (case side1 => exact cq HR0.out); (case side2 => exact HC0.out); rintro e w' ⟨rfl, ⟨nd, rfl⟩⟩; refine ⟨_, rfl, ?_⟩))
    go_ret
    exact ⟨by first | rfl | (simp [errW_none, errW_some] <;> rfl) | (simp [*, errW_none, errW_some] <;> rfl), bq HB.out⟩
  · rw [if_neg c6] at H
    have c6b0 : decide (t266 < 0) = false := decide_eq_false c6
    clear c6
    replace H := Option.bind_eq_some_iff.mp H
    obtain ⟨t267, A70, H⟩ := H
    replace H : ((spec_SetStatic.f k t267 a1 a2 a3).bind fun bt270 => ((laws_toFentS.f k l0).bind fun t274 => ((impl_SetStatic.f k t274 a1 a2 a3).bind fun bt277 => ((laws_eqFentS.f k bt277.1 bt270.1).bind fun t281 => (if t281 = true then (laws_FnExactSetStatic.j0 k l0 a1 a2 a3 bt270.1 bt270.2 t274 bt277.1 bt277.2 (bt277.2 != bt270.2)) else (laws_FnExactSetStatic.j0 k l0 a1 a2 a3 bt270.1 bt270.2 t274 bt277.1 bt277.2 true)))))) = some r := H
    have A7 := am A70
    clear A70
    replace H := Option.bind_eq_some_iff.mp H
    obtain ⟨⟨t270, t271⟩, A80, H⟩ := H
    replace H : ((laws_toFentS.f k l0).bind fun t274 => ((impl_SetStatic.f k t274 a1 a2 a3).bind fun bt277 => ((laws_eqFentS.f k bt277.1 t270).bind fun t281 => (if t281 = true then (laws_FnExactSetStatic.j0 k l0 a1 a2 a3 t270 t271 t274 bt277.1 bt277.2 (bt277.2 != t271)) else (laws_FnExactSetStatic.j0 k l0 a1 a2 a3 t270 t271 t274 bt277.1 bt277.2 true))))) = some r := H
    have A8 := am A80
    clear A80
    replace H := Option.bind_eq_some_iff.mp H
    obtain ⟨t274, A90, H⟩ := H
    replace H : ((impl_SetStatic.f k t274 a1 a2 a3).bind fun bt277 => ((laws_eqFentS.f k bt277.1 t270).bind fun t281 => (if t281 = true then (laws_FnExactSetStatic.j0 k l0 a1 a2 a3 t270 t271 t274 bt277.1 bt277.2 (bt277.2 != t271)) else (laws_FnExactSetStatic.j0 k l0 a1 a2 a3 t270 t271 t274 bt277.1 bt277.2 true)))) = some r := H
    have A9 := am A90
    clear A90
    replace H := Option.bind_eq_some_iff.mp H
    obtain ⟨⟨t277, t278⟩, A100, H⟩ := H
    replace H : ((laws_eqFentS.f k t277 t270).bind fun t281 => (if t281 = true then (laws_FnExactSetStatic.j0 k l0 a1 a2 a3 t270 t271 t274 t277 t278 (t278 != t271)) else (laws_FnExactSetStatic.j0 k l0 a1 a2 a3 t270 t271 t274 t277 t278 true))) = some r := H
    have A10 := am A100
    clear A100
    have HC11 := am H
    clear H
    go_enter Try.func4, Try.ntmps4
    go_upto_region 8 with (first | ((with_reducible refine gate_callee (f := 19) rfl ?_); refine goesL_ (some 22) rfl rfl Try.func19 (by kernel_rfl) rfl #[.slice A0 l0.length c0, .int .i64 1048576] rfl (by (try simp only [List.map_toArray, List.map_cons, List.map_nil]); first | done | rfl | (simp only [List.length_drop, List.length_take]; rfl)) ?_; (with_reducible refine (laws_szFentS.calls _ _ l0 1048576 t266 _ ?side1 ?side2 A5.out).mono ?_); (case side1 => exact cq HR0.out); (case side2 => exact HC0.out); rintro e w' ⟨rfl, ⟨nd, rfl⟩⟩; refine ⟨_, rfl, ?_⟩) | ((with_reducible refine gate_callee (f := 21) rfl ?_); refine goesL_ (some 27) rfl rfl Try.func21 (by kernel_rfl) rfl #[.slice A0 l0.length c0] rfl (by (try simp only [List.map_toArray, List.map_cons, List.map_nil]); first | done | rfl | (simp only [List.length_drop, List.length_take]; rfl)) ?_; (with_reducible refine (laws_toFentS.calls k _ _ l0 t267 _ ?side1 ?side2 A7.out).mono ?_); (case side1 => exact cq HR0.out); (case side2 => exact HC0.out); rintro e w12 ⟨v268, rfl, ho0, hb⟩; refine ⟨_, rfl, ?_⟩; have n0_ := am (Kd.R_lower ho0 (below_size (bq HB.out))); have n1_ := am (below_step (bq HB.out) hb); clear HB; have HO269 := n0_; have HB := n1_; clear n0_ n1_; (try clear hb); (try clear hb2); (try clear hk); (try clear hi); (try clear ho0); obtain ⟨Ao13, co13, eo13⟩ := Kd.R_slice HO269.out; subst eo13) | ((with_reducible refine gate_callee (f := 20) rfl ?_); refine goesL_ (some 31) rfl rfl Try.func20 (by kernel_rfl) rfl #[.slice Ao13 t267.length co13, .int .i64 a1, .int .i64 a2, .int .i64 a3] rfl (by (try simp only [List.map_toArray, List.map_cons, List.map_nil]); first | done | rfl | (simp only [List.length_drop, List.length_take]; rfl)) ?_; (with_reducible refine (spec_SetStatic.calls k _ _ t267 a1 a2 a3 t270 t271 _ ?side1 ?side2 A8.out).mono ?_); (case side1 => repeat (first | exact (Kd.R_reads' HO269.out).2.2 | (with_reducible refine Kd.C_alloc ?_ _) | (with_reducible refine Kd.C_drewN ?_ _) | (with_reducible refine Kd.C_drew ?_))); (case side2 => exact (Kd.R_reads' HO269.out).2.1); rintro e w14 ⟨v272, rfl, ho0, hb⟩; refine ⟨_, rfl, ?_⟩; have n0_ := am (Kd.R_elder' (kqR HO269.out) (Kd.R_base ho0) hb); have n1_ := am (Kd.R_lower (Kd.R_new' ho0 (Kd.R_lt (kqR HO269.out))) (below_size (bq HB.out))); have n2_ := am (below_step (bq HB.out) hb); clear HO269; clear HB; have HO269 := n0_; have HO273 := n1_; have HB := n2_; clear n0_ n1_ n2_; (try clear hb); (try clear hb2); (try clear hk); (try clear hi); (try clear ho0)) | ((with_reducible refine gate_callee (f := 21) rfl ?_); refine goesL_ (some 35) rfl rfl Try.func21 (by kernel_rfl) rfl #[.slice A0 l0.length c0] rfl (by (try simp only [List.map_toArray, List.map_cons, List.map_nil]); first | done | rfl | (simp only [List.length_drop, List.length_take]; rfl)) ?_; (with_reducible refine (laws_toFentS.calls k _ _ l0 t274 _ ?side1 ?side2 A9.out).mono ?_); (case side1 => exact cq (Kd.C_below HR0.out HB.out)); (case side2 => exact HC0.out); rintro e w15 ⟨v275, rfl, ho0, hb⟩; refine ⟨_, rfl, ?_⟩; have n0_ := am (Kd.R_elder' (kqR HO269.out) (Kd.R_base ho0) hb); have n1_ := am (Kd.R_elder' (kqR HO273.out) (Kd.R_base ho0) hb); have n2_ := am (Kd.R_lower (Kd.R_new' (Kd.R_new' ho0 (Kd.R_lt (kqR HO269.out))) (Kd.R_lt (kqR HO273.out))) (below_size (bq HB.out))); have n3_ := am (below_step (bq HB.out) hb); clear HO269; clear HO273; clear HB; have HO269 := n0_; have HO273 := n1_; have HO276 := n2_; have HB := n3_; clear n0_ n1_ n2_ n3_; (try clear hb); (try clear hb2); (try clear hk); (try clear hi); (try clear ho0); obtain ⟨Ao16, co16, eo16⟩ := Kd.R_slice HO276.out; subst eo16) | ((with_reducible refine gate_callee (f := 22) rfl ?_); refine goesL_ (some 41) rfl rfl Try.func22 (by kernel_rfl) rfl #[.slice Ao16 t274.length co16, .int .i64 a1, .int .i64 a2, .int .i64 a3] rfl (by (try simp only [List.map_toArray, List.map_cons, List.map_nil]); first | done | rfl | (simp only [List.length_drop, List.length_take]; rfl)) ?_; (with_reducible refine (impl_SetStatic.calls k _ _ t274 a1 a2 a3 t277 t278 _ ?side1 ?side2 A10.out).mono ?_); (case side1 => repeat (first | exact (Kd.R_reads' HO276.out).2.2 | (with_reducible refine Kd.C_alloc ?_ _) | (with_reducible refine Kd.C_drewN ?_ _) | (with_reducible refine Kd.C_drew ?_))); (case side2 => exact (Kd.R_reads' HO276.out).2.1); rintro e w17 ⟨v279, rfl, ho0, hb⟩; refine ⟨_, rfl, ?_⟩; have n0_ := am (Kd.R_elder' (kqR HO269.out) (Kd.R_base ho0) hb); have n1_ := am (Kd.R_elder' (kqR HO273.out) (Kd.R_base ho0) hb); have n2_ := am (Kd.R_elder' (kqR HO276.out) (Kd.R_base ho0) hb); have n3_ := am (Kd.R_lower (Kd.R_new' (Kd.R_new' (Kd.R_new' ho0 (Kd.R_lt (kqR HO269.out))) (Kd.R_lt (kqR HO273.out))) (Kd.R_lt (kqR HO276.out))) (below_size (bq HB.out))); have n4_ := am (below_step (bq HB.out) hb); clear HO269; clear HO273; clear HO276; clear HB; have HO269 := n0_; have HO273 := n1_; have HO276 := n2_; have HO280 := n3_; have HB := n4_; clear n0_ n1_ n2_ n3_ n4_; (try clear hb); (try clear hb2); (try clear hk); (try clear hi); (try clear ho0)))
    (try simp only [Act.put, List.setIfInBounds_toArray, List.set_cons_zero, List.set_cons_succ])
    go_cut [52] (fun v52 wc => ∃ (kq : Nat) (x52_10 : Bool), v52 = .bool x52_10 ∧ Aside0 (laws_FnExactSetStatic.j0 kq l0 a1 a2 a3 t270 t271 t274 t277 t278 x52_10 = some r) ∧ Aside0 (kq ≤ k) ∧ Aside0 (Kd.R k44 44 wc w.heap.size (fun k_ => some k_ ≠ ((.slice Ao16 t274.length co16) : Value).ownBlock ∧ some k_ ≠ (v279 : Value).ownBlock) v272 t270) ∧ Aside0 (Kd.R k44 44 wc w.heap.size (fun k_ => some k_ ≠ (v272 : Value).ownBlock ∧ some k_ ≠ (v279 : Value).ownBlock) (.slice Ao16 t274.length co16) t274) ∧ Aside0 (Kd.R k44 44 wc w.heap.size (fun k_ => some k_ ≠ (v272 : Value).ownBlock ∧ some k_ ≠ ((.slice Ao16 t274.length co16) : Value).ownBlock) v279 t277) ∧ Aside0 (Below w.heap.size w wc))
    case first =>
      have H := HC11.out
      clear HC11
      replace H := Option.bind_eq_some_iff.mp H
      obtain ⟨t281, A180, H⟩ := H
      replace H : (if t281 = true then (laws_FnExactSetStatic.j0 k l0 a1 a2 a3 t270 t271 t274 t277 t278 (t278 != t271)) else (laws_FnExactSetStatic.j0 k l0 a1 a2 a3 t270 t271 t274 t277 t278 true)) = some r := H
      have A18 := am A180
      clear A180
      by_cases c19 : t281 = true
      · subst c19
        have H1 : (laws_FnExactSetStatic.j0 k l0 a1 a2 a3 t270 t271 t274 t277 t278 (t278 != t271)) = some r := by rw [if_pos rfl] at H; exact H
        clear H
        have H := H1
        clear H1
        have H' := am H
        clear H
        obtain ⟨Ao20, co20, eo20⟩ := Kd.R_slice HO280.out
        subst eo20
        obtain ⟨Ao21, co21, eo21⟩ := Kd.R_slice HO273.out
        subst eo21
        go_wp2_with (first | ((with_reducible refine gate_callee (f := 23) rfl ?_); refine goesL_ (some 46) rfl rfl Try.func23 (by kernel_rfl) rfl #[.slice Ao20 t277.length co20, .slice Ao21 t270.length co21] rfl (by (try simp only [List.map_toArray, List.map_cons, List.map_nil]); first | done | rfl | (simp only [List.length_drop, List.length_take]; rfl)) ?_; (with_reducible refine (laws_eqFentS.calls k _ _ t277 _ _ t270 true _ ?side1 ?side2 ?side3 ?side4 A18.out).mono ?_); (case side1 => repeat (first | exact (Kd.R_reads' HO280.out).2.2 | (with_reducible refine Kd.C_alloc ?_ _) | (with_reducible refine Kd.C_drewN ?_ _) | (with_reducible refine Kd.C_drew ?_))); (case side2 => exact (Kd.R_reads' HO280.out).2.1); (case side3 => repeat (first | exact (Kd.R_reads' HO273.out).2.2 | (with_reducible refine Kd.C_alloc ?_ _) | (with_reducible refine Kd.C_drewN ?_ _) | (with_reducible refine Kd.C_drew ?_))); (case side4 => exact (Kd.R_reads' HO273.out).2.1); rintro e w22 ⟨rfl, hb⟩; refine ⟨_, rfl, ?_⟩; have n0_ := am (Kd.R_below (kqR HO269.out) hb); have n1_ := am (Kd.R_below (kqR HO273.out) hb); have n2_ := am (Kd.R_below (kqR HO276.out) hb); have n3_ := am (Kd.R_below (kqR HO280.out) hb); have n4_ := am (below_step (bq HB.out) hb); clear HO269; clear HO273; clear HO276; clear HO280; clear HB; have HO269 := n0_; have HO273 := n1_; have HO276 := n2_; have HO280 := n3_; have HB := n4_; clear n0_ n1_ n2_ n3_ n4_; (try clear hb); (try clear hb2); (try clear hk); (try clear hi)))
        go_meet
        case rel => exact ⟨_, ((t278 != t271)), (by first | rfl | (simp; done) | (simp [*]; done)), H', ⟨by first | omega | exact Nat.le_refl _⟩, ⟨by (with_reducible repeat (first | apply Kd.R_alloc | apply Kd.R_drewN | apply Kd.R_drew)); exact Kd.R_mono HO273.out (fun _ hk => ⟨hk.1.2, hk.2⟩)⟩, ⟨by (with_reducible repeat (first | apply Kd.R_alloc | apply Kd.R_drewN | apply Kd.R_drew)); exact Kd.R_mono HO276.out (fun _ hk => ⟨hk.1.2, hk.2⟩)⟩, ⟨by (with_reducible repeat (first | apply Kd.R_alloc | apply Kd.R_drewN | apply Kd.R_drew)); exact Kd.R_mono HO280.out (fun _ hk => ⟨hk.1.2, hk.2⟩)⟩, ⟨bq HB.out⟩⟩
      · replace c19 := Bool.eq_false_iff.mpr c19
        subst c19
        have H1 : (laws_FnExactSetStatic.j0 k l0 a1 a2 a3 t270 t271 t274 t277 t278 true) = some r := by rw [if_neg (show ¬ (false = true) by decide)] at H; exact H
        clear H
        have H := H1
        clear H1
        have H' := am H
        clear H
        obtain ⟨Ao23, co23, eo23⟩ := Kd.R_slice HO280.out
        subst eo23
        obtain ⟨Ao24, co24, eo24⟩ := Kd.R_slice HO273.out
        subst eo24
        go_wp2_with (first | ((with_reducible refine gate_callee (f := 23) rfl ?_); refine goesL_ (some 46) rfl rfl Try.func23 (by kernel_rfl) rfl #[.slice Ao23 t277.length co23, .slice Ao24 t270.length co24] rfl (by (try simp only [List.map_toArray, List.map_cons, List.map_nil]); first | done | rfl | (simp only [List.length_drop, List.length_take]; rfl)) ?_; (with_reducible refine (laws_eqFentS.calls k _ _ t277 _ _ t270 false _ ?side1 ?side2 ?side3 ?side4 A18.out).mono ?_); (case side1 => repeat (first | exact (Kd.R_reads' HO280.out).2.2 | (with_reducible refine Kd.C_alloc ?_ _) | (with_reducible refine Kd.C_drewN ?_ _) | (with_reducible refine Kd.C_drew ?_))); (case side2 => exact (Kd.R_reads' HO280.out).2.1); (case side3 => repeat (first | exact (Kd.R_reads' HO273.out).2.2 | (with_reducible refine Kd.C_alloc ?_ _) | (with_reducible refine Kd.C_drewN ?_ _) | (with_reducible refine Kd.C_drew ?_))); (case side4 => exact (Kd.R_reads' HO273.out).2.1); rintro e w25 ⟨rfl, hb⟩; refine ⟨_, rfl, ?_⟩; have n0_ := am (Kd.R_below (kqR HO269.out) hb); have n1_ := am (Kd.R_below (kqR HO273.out) hb); have n2_ := am (Kd.R_below (kqR HO276.out) hb); have n3_ := am (Kd.R_below (kqR HO280.out) hb); have n4_ := am (below_step (bq HB.out) hb); clear HO269; clear HO273; clear HO276; clear HO280; clear HB; have HO269 := n0_; have HO273 := n1_; have HO276 := n2_; have HO280 := n3_; have HB := n4_; clear n0_ n1_ n2_ n3_ n4_; (try clear hb); (try clear hb2); (try clear hk); (try clear hi)))
        go_meet
        case rel => exact ⟨_, (true), (by first | rfl | (simp; done) | (simp [*]; done)), H', ⟨by first | omega | exact Nat.le_refl _⟩, ⟨by (with_reducible repeat (first | apply Kd.R_alloc | apply Kd.R_drewN | apply Kd.R_drew)); exact Kd.R_mono HO273.out (fun _ hk => ⟨hk.1.2, hk.2⟩)⟩, ⟨by (with_reducible repeat (first | apply Kd.R_alloc | apply Kd.R_drewN | apply Kd.R_drew)); exact Kd.R_mono HO276.out (fun _ hk => ⟨hk.1.2, hk.2⟩)⟩, ⟨by (with_reducible repeat (first | apply Kd.R_alloc | apply Kd.R_drewN | apply Kd.R_drew)); exact Kd.R_mono HO280.out (fun _ hk => ⟨hk.1.2, hk.2⟩)⟩, ⟨bq HB.out⟩⟩
    case rest =>
      clear HC11
      try clear c1
      try clear c2
      try clear p2
      try clear c4
      try clear c6
      try clear c6b0
      try clear c19
      try clear c20
      try clear c21
      try clear c22
      try clear c23
      obtain ⟨kq, x52_10, rfl, HA, HJ10, HO_10, HO_12, HO_13, HB⟩ := hcut
      cases kq with
      | zero => exact absurd HA.out (by simp [laws_FnExactSetStatic.j0])
      | succ kj10 =>
        have H := HA.out
        clear HA
        simp only [laws_FnExactSetStatic.j0] at H
        by_cases c26 : x52_10 = true
        · subst c26
          have H1 : (some false) = some r := by rw [if_pos rfl] at H; exact H
          clear H
          have H := H1
          clear H1
          exact absurd ((Option.some.inj H).trans HRT.out) (by decide)
        · replace c26 := Bool.eq_false_iff.mpr c26
          subst c26
          have H1 : ((laws_toFentS.f kj10 l0).bind fun t282 => ((laws_eqFentS.f kj10 t274 t282).bind fun t285 => (if t285 = true then ((laws_markFentS.f kj10 t274 1).bind fun bt286 => (if bt286.1 < 0 then (laws_FnExactSetStatic.j1 kj10 l0 a1 a2 a3 t270 t271 t277 true) else ((laws_eqFentS.f kj10 t277 t270).bind fun t288 => (if t288 = true then (laws_FnExactSetStatic.j1 kj10 l0 a1 a2 a3 t270 t271 t277 (t278 != t271)) else (laws_FnExactSetStatic.j1 kj10 l0 a1 a2 a3 t270 t271 t277 true))))) else (some false)))) = some r := by rw [if_neg (show ¬ (false = true) by decide)] at H; exact H
          clear H
          have H := H1
          clear H1
          replace H := Option.bind_eq_some_iff.mp H
          obtain ⟨t282, A270, H⟩ := H
          replace H : ((laws_eqFentS.f kj10 t274 t282).bind fun t285 => (if t285 = true then ((laws_markFentS.f kj10 t274 1).bind fun bt286 => (if bt286.1 < 0 then (laws_FnExactSetStatic.j1 kj10 l0 a1 a2 a3 t270 t271 t277 true) else ((laws_eqFentS.f kj10 t277 t270).bind fun t288 => (if t288 = true then (laws_FnExactSetStatic.j1 kj10 l0 a1 a2 a3 t270 t271 t277 (t278 != t271)) else (laws_FnExactSetStatic.j1 kj10 l0 a1 a2 a3 t270 t271 t277 true))))) else (some false))) = some r := H
          have A27 := am A270
          clear A270
          replace H := Option.bind_eq_some_iff.mp H
          obtain ⟨t285, A280, H⟩ := H
          replace H : (if t285 = true then ((laws_markFentS.f kj10 t274 1).bind fun bt286 => (if bt286.1 < 0 then (laws_FnExactSetStatic.j1 kj10 l0 a1 a2 a3 t270 t271 t277 true) else ((laws_eqFentS.f kj10 t277 t270).bind fun t288 => (if t288 = true then (laws_FnExactSetStatic.j1 kj10 l0 a1 a2 a3 t270 t271 t277 (t278 != t271)) else (laws_FnExactSetStatic.j1 kj10 l0 a1 a2 a3 t270 t271 t277 true))))) else (some false)) = some r := H
          have A28 := am A280
          clear A280
          by_cases c29 : t285 = true
          · subst c29
            have H1 : ((laws_markFentS.f kj10 t274 1).bind fun bt286 => (if bt286.1 < 0 then (laws_FnExactSetStatic.j1 kj10 l0 a1 a2 a3 t270 t271 t277 true) else ((laws_eqFentS.f kj10 t277 t270).bind fun t288 => (if t288 = true then (laws_FnExactSetStatic.j1 kj10 l0 a1 a2 a3 t270 t271 t277 (t278 != t271)) else (laws_FnExactSetStatic.j1 kj10 l0 a1 a2 a3 t270 t271 t277 true))))) = some r := by rw [if_pos rfl] at H; exact H
            clear H
            have H := H1
            clear H1
            replace H := Option.bind_eq_some_iff.mp H
            obtain ⟨⟨t286, t287⟩, A300, H⟩ := H
            replace H : (if t286 < 0 then (laws_FnExactSetStatic.j1 kj10 l0 a1 a2 a3 t270 t271 t277 true) else ((laws_eqFentS.f kj10 t277 t270).bind fun t288 => (if t288 = true then (laws_FnExactSetStatic.j1 kj10 l0 a1 a2 a3 t270 t271 t277 (t278 != t271)) else (laws_FnExactSetStatic.j1 kj10 l0 a1 a2 a3 t270 t271 t277 true)))) = some r := H
            have A30 := am A300
            clear A300
            have HC31 := am H
            clear H
            go_upto_region 14 with (first | ((with_reducible refine gate_callee (f := 21) rfl ?_); refine goesL_ (some 55) rfl rfl Try.func21 (by kernel_rfl) rfl #[.slice A0 l0.length c0] rfl (by (try simp only [List.map_toArray, List.map_cons, List.map_nil]); first | done | rfl | (simp only [List.length_drop, List.length_take]; rfl)) ?_; (with_reducible refine (laws_toFentS.calls kj10 _ _ l0 t282 _ ?side1 ?side2 A27.out).mono ?_); (case side1 => exact cq (Kd.C_below HR0.out HB.out)); (case side2 => exact HC0.out); rintro e w32 ⟨v283, rfl, ho0, hb⟩; refine ⟨_, rfl, ?_⟩; have n0_ := am (Kd.R_elder' (kqR HO_10.out) (Kd.R_base ho0) hb); have n1_ := am (Kd.R_elder' (kqR HO_12.out) (Kd.R_base ho0) hb); have n2_ := am (Kd.R_elder' (kqR HO_13.out) (Kd.R_base ho0) hb); have n3_ := am (Kd.R_lower (Kd.R_new' (Kd.R_new' (Kd.R_new' ho0 (Kd.R_lt (kqR HO_10.out))) (Kd.R_lt (kqR HO_12.out))) (Kd.R_lt (kqR HO_13.out))) (below_size (bq HB.out))); have n4_ := am (below_step (bq HB.out) hb); clear HO_10; clear HO_12; clear HO_13; clear HB; have HO_10 := n0_; have HO_12 := n1_; have HO_13 := n2_; have HO284 := n3_; have HB := n4_; clear n0_ n1_ n2_ n3_ n4_; (try clear hb); (try clear hb2); (try clear hk); (try clear hi); (try clear ho0); obtain ⟨Ao33, co33, eo33⟩ := Kd.R_slice HO284.out; subst eo33) | ((with_reducible refine gate_callee (f := 23) rfl ?_); refine goesL_ (some 56) rfl rfl Try.func23 (by kernel_rfl) rfl #[.slice Ao16 t274.length co16, .slice Ao33 t282.length co33] rfl (by (try simp only [List.map_toArray, List.map_cons, List.map_nil]); first | done | rfl | (simp only [List.length_drop, List.length_take]; rfl)) ?_; (with_reducible refine (laws_eqFentS.calls kj10 _ _ t274 _ _ t282 true _ ?side1 ?side2 ?side3 ?side4 A28.out).mono ?_); (case side1 => repeat (first | exact (Kd.R_reads' HO_12.out).2.2 | (with_reducible refine Kd.C_alloc ?_ _) | (with_reducible refine Kd.C_drewN ?_ _) | (with_reducible refine Kd.C_drew ?_))); (case side2 => exact (Kd.R_reads' HO_12.out).2.1); (case side3 => repeat (first | exact (Kd.R_reads' HO284.out).2.2 | (with_reducible refine Kd.C_alloc ?_ _) | (with_reducible refine Kd.C_drewN ?_ _) | (with_reducible refine Kd.C_drew ?_))); (case side4 => exact (Kd.R_reads' HO284.out).2.1); rintro e w34 ⟨rfl, hb⟩; refine ⟨_, rfl, ?_⟩; have n0_ := am (Kd.R_below (kqR HO_10.out) hb); have n1_ := am (Kd.R_below (kqR HO_12.out) hb); have n2_ := am (Kd.R_below (kqR HO_13.out) hb); have n3_ := am (Kd.R_below (kqR HO284.out) hb); have n4_ := am (below_step (bq HB.out) hb); clear HO_10; clear HO_12; clear HO_13; clear HO284; clear HB; have HO_10 := n0_; have HO_12 := n1_; have HO_13 := n2_; have HO284 := n3_; have HB := n4_; clear n0_ n1_ n2_ n3_ n4_; (try clear hb); (try clear hb2); (try clear hk); (try clear hi)) | ((with_reducible refine gate_callee (f := 24) rfl ?_); refine goesL_ (some 60) rfl rfl Try.func24 (by kernel_rfl) rfl #[.slice Ao16 t274.length co16, .int .i64 1] rfl (by (try simp only [List.map_toArray, List.map_cons, List.map_nil]); first | done | rfl | (simp only [List.length_drop, List.length_take]; rfl)) ?_; (with_reducible refine (laws_markFentS.calls kj10 (fun k_ => some k_ = (.slice Ao16 t274.length co16 : Value).ownBlock) (.slice Ao16 t274.length co16) t274 1 t286 t287 w _ ?side1 ?side2 A30.out).mono ?_); (case side1 => repeat (first | (with_reducible first | exact HB.out | apply below_alloc | apply pw_below_drewN | apply below_drew1) | exact HB.out)); (case side2 => exact Kd.R_tight rfl HO_12.out); rintro e w35 ⟨rfl, hy0, hb, hkp⟩; refine ⟨_, rfl, ?_⟩; have n0_ := am (Kd.R_mono (ok' := fun k_ => some k_ ≠ (.slice Ao16 t274.length co16 : Value).ownBlock ∧ some k_ ≠ (v279 : Value).ownBlock ∧ some k_ ≠ (.slice Ao33 t282.length co33 : Value).ownBlock) (Kd.R_keptB (HO_10.out) hkp (fun k_ hk_ hs_ => (hk_.1.1) hs_)) (fun k_ hk_ => ⟨hk_.1.1.1, hk_.1.1.2, hk_.1.2⟩)); have n1_ := am (Kd.R_reok rfl hy0 (fun k_ e_ => HO_12.out.1 k_ e_)); have n2_ := am (Kd.R_mono (ok' := fun k_ => some k_ ≠ (v272 : Value).ownBlock ∧ some k_ ≠ (.slice Ao16 t274.length co16 : Value).ownBlock ∧ some k_ ≠ (.slice Ao33 t282.length co33 : Value).ownBlock) (Kd.R_keptB (HO_13.out) hkp (fun k_ hk_ hs_ => (hk_.1.2) hs_)) (fun k_ hk_ => ⟨hk_.1.1.1, hk_.1.1.2, hk_.1.2⟩)); have n3_ := am (Kd.R_mono (ok' := fun k_ => some k_ ≠ (v272 : Value).ownBlock ∧ some k_ ≠ (.slice Ao16 t274.length co16 : Value).ownBlock ∧ some k_ ≠ (v279 : Value).ownBlock) (Kd.R_keptB (HO284.out) hkp (fun k_ hk_ hs_ => (hk_.1.2) hs_)) (fun k_ hk_ => ⟨hk_.1.1.1.2, hk_.1.1.2, hk_.1.2⟩)); have n4_ := am (hb); clear HO_10; clear HO_12; clear HO_13; clear HO284; clear HB; have HO_10 := n0_; have HO_12 := n1_; have HO_13 := n2_; have HO284 := n3_; have HB := n4_; clear n0_ n1_ n2_ n3_ n4_; (try clear hb); (try clear hkp); (try clear hy0)))
            (try simp only [Act.put, List.setIfInBounds_toArray, List.set_cons_zero, List.set_cons_succ])
            go_cut [73] (fun v73 wc => ∃ (kq : Nat) (x73_30 : Bool), v73 = .bool x73_30 ∧ Aside0 (laws_FnExactSetStatic.j1 kq l0 a1 a2 a3 t270 t271 t277 x73_30 = some r) ∧ Aside0 (kq ≤ kj10) ∧ Aside0 (Kd.R k44 44 wc w.heap.size (fun k_ => some k_ ≠ (v279 : Value).ownBlock) v272 t270) ∧ Aside0 (Kd.R k44 44 wc w.heap.size (fun k_ => some k_ ≠ (v272 : Value).ownBlock) v279 t277) ∧ Aside0 (Below w.heap.size w wc))
            case first =>
              have H := HC31.out
              clear HC31
              by_cases c36 : t286 < 0
              · rw [if_pos c36] at H
                have c36b0 : decide (t286 < 0) = true := decide_eq_true c36
                clear c36
                (first | rw [c36b0] | (simp only [i64_w, i32_w]; rw [c36b0]) | skip)
                have H' := am H
                clear H
                go_wp2
                go_meet
                case rel => exact ⟨_, (true), (by first | rfl | (simp; done) | (simp [*]; done)), H', ⟨by have := HJ10.out; first | omega | exact Nat.le_refl _⟩, ⟨by (with_reducible repeat (first | apply Kd.R_alloc | apply Kd.R_drewN | apply Kd.R_drew)); exact Kd.R_mono HO_10.out (fun _ hk => hk.2.1)⟩, ⟨by (with_reducible repeat (first | apply Kd.R_alloc | apply Kd.R_drewN | apply Kd.R_drew)); exact Kd.R_mono HO_13.out (fun _ hk => hk.1)⟩, ⟨bq HB.out⟩⟩
              · rw [if_neg c36] at H
                have c36b0 : decide (t286 < 0) = false := decide_eq_false c36
                clear c36
                (first | rw [c36b0] | (simp only [i64_w, i32_w]; rw [c36b0]) | skip)
                replace H := Option.bind_eq_some_iff.mp H
                obtain ⟨t288, A370, H⟩ := H
                replace H : (if t288 = true then (laws_FnExactSetStatic.j1 kj10 l0 a1 a2 a3 t270 t271 t277 (t278 != t271)) else (laws_FnExactSetStatic.j1 kj10 l0 a1 a2 a3 t270 t271 t277 true)) = some r := H
                have A37 := am A370
                clear A370
                by_cases c38 : t288 = true
                · subst c38
                  have H1 : (laws_FnExactSetStatic.j1 kj10 l0 a1 a2 a3 t270 t271 t277 (t278 != t271)) = some r := by rw [if_pos rfl] at H; exact H
                  clear H
                  have H := H1
                  clear H1
                  have H' := am H
                  clear H
                  obtain ⟨Ao39, co39, eo39⟩ := Kd.R_slice HO_13.out
                  subst eo39
                  obtain ⟨Ao40, co40, eo40⟩ := Kd.R_slice HO_10.out
                  subst eo40
                  go_wp2_with (first | (go_at_call 23; (with_reducible refine (laws_eqFentS.calls kj10 _ _ t277 _ _ t270 true _ ?side1 ?side2 ?side3 ?side4 A37.out).mono ?_); (case side1 => repeat (first | exact (Kd.R_reads' HO_13.out).2.2 | (with_reducible refine Kd.C_alloc ?_ _) | (with_reducible refine Kd.C_drewN ?_ _) | (with_reducible refine Kd.C_drew ?_))); (case side2 => exact (Kd.R_reads' HO_13.out).2.1); (case side3 => repeat (first | exact (Kd.R_reads' HO_10.out).2.2 | (with_reducible refine Kd.C_alloc ?_ _) | (with_reducible refine Kd.C_drewN ?_ _) | (with_reducible refine Kd.C_drew ?_))); (case side4 => exact (Kd.R_reads' HO_10.out).2.1); rintro e w41 ⟨rfl, hb⟩; have n0_ := am (Kd.R_below (kqR HO_10.out) hb); have n1_ := am (Kd.R_below (kqR HO_12.out) hb); have n2_ := am (Kd.R_below (kqR HO_13.out) hb); have n3_ := am (Kd.R_below (kqR HO284.out) hb); have n4_ := am (below_step (bq HB.out) hb); clear HO_10; clear HO_12; clear HO_13; clear HO284; clear HB; have HO_10 := n0_; have HO_12 := n1_; have HO_13 := n2_; have HO284 := n3_; have HB := n4_; clear n0_ n1_ n2_ n3_ n4_; (try clear hb); (try clear hb2); (try clear hk); (try clear hi)))
                  go_meet
                  case rel => exact ⟨_, ((t278 != t271)), (by first | rfl | (simp; done) | (simp [*]; done)), H', ⟨by have := HJ10.out; first | omega | exact Nat.le_refl _⟩, ⟨by (with_reducible repeat (first | apply Kd.R_alloc | apply Kd.R_drewN | apply Kd.R_drew)); exact Kd.R_mono HO_10.out (fun _ hk => hk.2.1)⟩, ⟨by (with_reducible repeat (first | apply Kd.R_alloc | apply Kd.R_drewN | apply Kd.R_drew)); exact Kd.R_mono HO_13.out (fun _ hk => hk.1)⟩, ⟨bq HB.out⟩⟩
                · replace c38 := Bool.eq_false_iff.mpr c38
                  subst c38
                  have H1 : (laws_FnExactSetStatic.j1 kj10 l0 a1 a2 a3 t270 t271 t277 true) = some r := by rw [if_neg (show ¬ (false = true) by decide)] at H; exact H
                  clear H
                  have H := H1
                  clear H1
                  have H' := am H
                  clear H
                  obtain ⟨Ao42, co42, eo42⟩ := Kd.R_slice HO_13.out
                  subst eo42
                  obtain ⟨Ao43, co43, eo43⟩ := Kd.R_slice HO_10.out
                  subst eo43
                  go_wp2_with (first | (go_at_call 23; (with_reducible refine (laws_eqFentS.calls kj10 _ _ t277 _ _ t270 false _ ?side1 ?side2 ?side3 ?side4 A37.out).mono ?_); (case side1 => repeat (first | exact (Kd.R_reads' HO_13.out).2.2 | (with_reducible refine Kd.C_alloc ?_ _) | (with_reducible refine Kd.C_drewN ?_ _) | (with_reducible refine Kd.C_drew ?_))); (case side2 => exact (Kd.R_reads' HO_13.out).2.1); (case side3 => repeat (first | exact (Kd.R_reads' HO_10.out).2.2 | (with_reducible refine Kd.C_alloc ?_ _) | (with_reducible refine Kd.C_drewN ?_ _) | (with_reducible refine Kd.C_drew ?_))); (case side4 => exact (Kd.R_reads' HO_10.out).2.1); rintro e w44 ⟨rfl, hb⟩; have n0_ := am (Kd.R_below (kqR HO_10.out) hb); have n1_ := am (Kd.R_below (kqR HO_12.out) hb); have n2_ := am (Kd.R_below (kqR HO_13.out) hb); have n3_ := am (Kd.R_below (kqR HO284.out) hb); have n4_ := am (below_step (bq HB.out) hb); clear HO_10; clear HO_12; clear HO_13; clear HO284; clear HB; have HO_10 := n0_; have HO_12 := n1_; have HO_13 := n2_; have HO284 := n3_; have HB := n4_; clear n0_ n1_ n2_ n3_ n4_; (try clear hb); (try clear hb2); (try clear hk); (try clear hi)))
                  go_meet
                  case rel => exact ⟨_, (true), (by first | rfl | (simp; done) | (simp [*]; done)), H', ⟨by have := HJ10.out; first | omega | exact Nat.le_refl _⟩, ⟨by (with_reducible repeat (first | apply Kd.R_alloc | apply Kd.R_drewN | apply Kd.R_drew)); exact Kd.R_mono HO_10.out (fun _ hk => hk.2.1)⟩, ⟨by (with_reducible repeat (first | apply Kd.R_alloc | apply Kd.R_drewN | apply Kd.R_drew)); exact Kd.R_mono HO_13.out (fun _ hk => hk.1)⟩, ⟨bq HB.out⟩⟩
            case rest =>
              clear HC31
              try clear c1
              try clear c2
              try clear p2
              try clear c3
              try clear c4
              try clear c6
              try clear c6b0
              try clear c19
              try clear c20
              try clear c21
              try clear c22
              try clear c23
              try clear c24
              try clear c26
              try clear c29
              try clear c36
              try clear c36b0
              try clear c38
              try clear p2
              obtain ⟨kq, x73_30, rfl, HA, HJ30, HO_10, HO_13, HB⟩ := hcut
              cases kq with
              | zero => exact absurd HA.out (by simp [laws_FnExactSetStatic.j1])
              | succ kj30 =>
                have H := HA.out
                clear HA
                simp only [laws_FnExactSetStatic.j1] at H
                by_cases c45 : x73_30 = true
                · subst c45
                  have H1 : (some false) = some r := by rw [if_pos rfl] at H; exact H
                  clear H
                  have H := H1
                  clear H1
                  exact absurd ((Option.some.inj H).trans HRT.out) (by decide)
                · replace c45 := Bool.eq_false_iff.mpr c45
                  subst c45
                  have H1 : ((laws_markFentS.f kj30 t277 1).bind fun bt289 => ((laws_heldFentS.f kj30 bt289.2 1).bind fun t291 => (if t291 < 0 then (some false) else (if t291 = bt289.1 then ((laws_toFentS.f kj30 l0).bind fun t292 => ((impl_SetStatic.f kj30 t292 a1 a2 a3).bind fun bt295 => ((laws_eqFentS.f kj30 bt295.1 t270).bind fun t299 => (if t299 = true then (laws_FnExactSetStatic.j2 kj30 bt289.2 bt289.1 (bt295.2 != t271)) else (laws_FnExactSetStatic.j2 kj30 bt289.2 bt289.1 true))))) else (some false))))) = some r := by rw [if_neg (show ¬ (false = true) by decide)] at H; exact H
                  clear H
                  have H := H1
                  clear H1
                  replace H := Option.bind_eq_some_iff.mp H
                  obtain ⟨⟨t289, t290⟩, A460, H⟩ := H
                  replace H : ((laws_heldFentS.f kj30 t290 1).bind fun t291 => (if t291 < 0 then (some false) else (if t291 = t289 then ((laws_toFentS.f kj30 l0).bind fun t292 => ((impl_SetStatic.f kj30 t292 a1 a2 a3).bind fun bt295 => ((laws_eqFentS.f kj30 bt295.1 t270).bind fun t299 => (if t299 = true then (laws_FnExactSetStatic.j2 kj30 t290 t289 (bt295.2 != t271)) else (laws_FnExactSetStatic.j2 kj30 t290 t289 true))))) else (some false)))) = some r := H
                  have A46 := am A460
                  clear A460
                  replace H := Option.bind_eq_some_iff.mp H
                  obtain ⟨t291, A470, H⟩ := H
                  replace H : (if t291 < 0 then (some false) else (if t291 = t289 then ((laws_toFentS.f kj30 l0).bind fun t292 => ((impl_SetStatic.f kj30 t292 a1 a2 a3).bind fun bt295 => ((laws_eqFentS.f kj30 bt295.1 t270).bind fun t299 => (if t299 = true then (laws_FnExactSetStatic.j2 kj30 t290 t289 (bt295.2 != t271)) else (laws_FnExactSetStatic.j2 kj30 t290 t289 true))))) else (some false))) = some r := H
                  have A47 := am A470
                  clear A470
                  by_cases c48 : t291 < 0
                  · rw [if_pos c48] at H
                    have c48b0 : decide (t291 < 0) = true := decide_eq_true c48
                    clear c48
                    exact absurd ((Option.some.inj H).trans HRT.out) (by decide)
                  · rw [if_neg c48] at H
                    have c48b0 : decide (t291 < 0) = false := decide_eq_false c48
                    clear c48
                    by_cases c49 : t291 = t289
                    · rw [if_pos c49] at H
                      have c49b0 : (t291 == t289) = true := beq_iff_eq.mpr c49
                      have c49b1 : (t291 != t289) = false := bne_eq_false_iff_eq.mpr c49
                      clear c49
                      replace H := Option.bind_eq_some_iff.mp H
                      obtain ⟨t292, A500, H⟩ := H
                      replace H : ((impl_SetStatic.f kj30 t292 a1 a2 a3).bind fun bt295 => ((laws_eqFentS.f kj30 bt295.1 t270).bind fun t299 => (if t299 = true then (laws_FnExactSetStatic.j2 kj30 t290 t289 (bt295.2 != t271)) else (laws_FnExactSetStatic.j2 kj30 t290 t289 true)))) = some r := H
                      have A50 := am A500
                      clear A500
                      replace H := Option.bind_eq_some_iff.mp H
                      obtain ⟨⟨t295, t296⟩, A510, H⟩ := H
                      replace H : ((laws_eqFentS.f kj30 t295 t270).bind fun t299 => (if t299 = true then (laws_FnExactSetStatic.j2 kj30 t290 t289 (t296 != t271)) else (laws_FnExactSetStatic.j2 kj30 t290 t289 true))) = some r := H
                      have A51 := am A510
                      clear A510
                      have HC52 := am H
                      clear H
                      obtain ⟨Ao53, co53, eo53⟩ := Kd.R_slice HO_13.out
                      subst eo53
                      go_upto_region 25 with (first | ((with_reducible refine gate_callee (f := 24) rfl ?_); refine goesL_ (some 76) rfl rfl Try.func24 (by kernel_rfl) rfl #[.slice Ao53 t277.length co53, .int .i64 1] rfl (by (try simp only [List.map_toArray, List.map_cons, List.map_nil]); first | done | rfl | (simp only [List.length_drop, List.length_take]; rfl)) ?_; (with_reducible refine (laws_markFentS.calls kj30 (fun k_ => some k_ = (.slice Ao53 t277.length co53 : Value).ownBlock) (.slice Ao53 t277.length co53) t277 1 t289 t290 w _ ?side1 ?side2 A46.out).mono ?_); (case side1 => repeat (first | (with_reducible first | exact HB.out | apply below_alloc | apply pw_below_drewN | apply below_drew1) | exact HB.out)); (case side2 => exact Kd.R_tight rfl HO_13.out); rintro e w54 ⟨rfl, hy0, hb, hkp⟩; refine ⟨_, rfl, ?_⟩; have n0_ := am (Kd.R_mono (ok' := fun k_ => some k_ ≠ (.slice Ao53 t277.length co53 : Value).ownBlock) (Kd.R_keptB (HO_10.out) hkp (fun k_ hk_ hs_ => (hk_) hs_)) (fun k_ hk_ => hk_.1)); have n1_ := am (Kd.R_reok rfl hy0 (fun k_ e_ => HO_13.out.1 k_ e_)); have n2_ := am (hb); clear HO_10; clear HO_13; clear HB; have HO_10 := n0_; have HO_13 := n1_; have HB := n2_; clear n0_ n1_ n2_; (try clear hb); (try clear hkp); (try clear hy0)) | ((with_reducible refine gate_callee (f := 25) rfl ?_); refine goesL_ (some 79) rfl rfl Try.func25 (by kernel_rfl) rfl #[.slice Ao53 t290.length co53, .int .i64 1] rfl (by (try simp only [List.map_toArray, List.map_cons, List.map_nil]); first | done | (rw [show t290.length = t277.length from (Kd.R_reads' HO_13.out).1.symm] <;> rfl) | rfl | (simp only [List.length_drop, List.length_take]; rfl)) ?_; (with_reducible refine (laws_heldFentS.calls kj30 _ _ t290 1 t291 _ ?side1 ?side2 A47.out).mono ?_); (case side1 => repeat (first | exact (Kd.R_reads' HO_13.out).2.2 | (with_reducible refine Kd.C_alloc ?_ _) | (with_reducible refine Kd.C_drewN ?_ _) | (with_reducible refine Kd.C_drew ?_))); (case side2 => rw [show t290.length = t277.length from (Kd.R_reads' HO_13.out).1.symm]; exact (Kd.R_reads' HO_13.out).2.1); rintro e w' ⟨rfl, ⟨nd, rfl⟩⟩; refine ⟨_, rfl, ?_⟩) | ((with_reducible refine gate_callee (f := 21) rfl ?_); refine goesL_ (some 87) rfl rfl Try.func21 (by kernel_rfl) rfl #[.slice A0 l0.length c0] rfl (by (try simp only [List.map_toArray, List.map_cons, List.map_nil]); first | done | rfl | (simp only [List.length_drop, List.length_take]; rfl)) ?_; (with_reducible refine (laws_toFentS.calls kj30 _ _ l0 t292 _ ?side1 ?side2 A50.out).mono ?_); (case side1 => exact cq (Kd.C_below HR0.out (bq HB.out))); (case side2 => exact HC0.out); rintro e w55 ⟨v293, rfl, ho0, hb⟩; refine ⟨_, rfl, ?_⟩; have n0_ := am (Kd.R_elder' (kqR HO_10.out) (Kd.R_base ho0) hb); have n1_ := am (Kd.R_elder' (kqR HO_13.out) (Kd.R_base ho0) hb); have n2_ := am (Kd.R_lower (Kd.R_new' (Kd.R_new' ho0 (Kd.R_lt (kqR HO_10.out))) (Kd.R_lt (kqR HO_13.out))) (below_size (bq HB.out))); have n3_ := am (below_step (bq HB.out) hb); clear HO_10; clear HO_13; clear HB; have HO_10 := n0_; have HO_13 := n1_; have HO294 := n2_; have HB := n3_; clear n0_ n1_ n2_ n3_; (try clear hb); (try clear hb2); (try clear hk); (try clear hi); (try clear ho0); obtain ⟨Ao56, co56, eo56⟩ := Kd.R_slice HO294.out; subst eo56) | ((with_reducible refine gate_callee (f := 22) rfl ?_); refine goesL_ (some 91) rfl rfl Try.func22 (by kernel_rfl) rfl #[.slice Ao56 t292.length co56, .int .i64 a1, .int .i64 a2, .int .i64 a3] rfl (by (try simp only [List.map_toArray, List.map_cons, List.map_nil]); first | done | rfl | (simp only [List.length_drop, List.length_take]; rfl)) ?_; (with_reducible refine (impl_SetStatic.calls kj30 _ _ t292 a1 a2 a3 t295 t296 _ ?side1 ?side2 A51.out).mono ?_); (case side1 => repeat (first | exact (Kd.R_reads' HO294.out).2.2 | (with_reducible refine Kd.C_alloc ?_ _) | (with_reducible refine Kd.C_drewN ?_ _) | (with_reducible refine Kd.C_drew ?_))); (case side2 => exact (Kd.R_reads' HO294.out).2.1); rintro e w57 ⟨v297, rfl, ho0, hb⟩; refine ⟨_, rfl, ?_⟩; have n0_ := am (Kd.R_elder' (kqR HO_10.out) (Kd.R_base ho0) hb); have n1_ := am (Kd.R_elder' (kqR HO_13.out) (Kd.R_base ho0) hb); have n2_ := am (Kd.R_elder' (kqR HO294.out) (Kd.R_base ho0) hb); have n3_ := am (Kd.R_lower (Kd.R_new' (Kd.R_new' (Kd.R_new' ho0 (Kd.R_lt (kqR HO_10.out))) (Kd.R_lt (kqR HO_13.out))) (Kd.R_lt (kqR HO294.out))) (below_size (bq HB.out))); have n4_ := am (below_step (bq HB.out) hb); clear HO_10; clear HO_13; clear HO294; clear HB; have HO_10 := n0_; have HO_13 := n1_; have HO294 := n2_; have HO298 := n3_; have HB := n4_; clear n0_ n1_ n2_ n3_ n4_; (try clear hb); (try clear hb2); (try clear hk); (try clear hi); (try clear ho0)))
                      (try simp only [Act.put, List.setIfInBounds_toArray, List.set_cons_zero, List.set_cons_succ])
                      go_cut [102] (fun v102 wc => ∃ (kq : Nat) (x102_51 : Bool), v102 = .bool x102_51 ∧ Aside0 (laws_FnExactSetStatic.j2 kq t290 t289 x102_51 = some r) ∧ Aside0 (kq ≤ kj30) ∧ Aside0 (Kd.R k44 44 wc w.heap.size (fun _ => True) (.slice Ao53 t277.length co53) t290) ∧ Aside0 (Below w.heap.size w wc))
                      case first =>
                        have H := HC52.out
                        clear HC52
                        replace H := Option.bind_eq_some_iff.mp H
                        obtain ⟨t299, A580, H⟩ := H
                        replace H : (if t299 = true then (laws_FnExactSetStatic.j2 kj30 t290 t289 (t296 != t271)) else (laws_FnExactSetStatic.j2 kj30 t290 t289 true)) = some r := H
                        have A58 := am A580
                        clear A580
                        by_cases c59 : t299 = true
                        · subst c59
                          have H1 : (laws_FnExactSetStatic.j2 kj30 t290 t289 (t296 != t271)) = some r := by rw [if_pos rfl] at H; exact H
                          clear H
                          have H := H1
                          clear H1
                          have H' := am H
                          clear H
                          obtain ⟨Ao60, co60, eo60⟩ := Kd.R_slice HO298.out
                          subst eo60
                          obtain ⟨Ao61, co61, eo61⟩ := Kd.R_slice HO_10.out
                          subst eo61
                          go_wp2_with (first | ((with_reducible refine gate_callee (f := 23) rfl ?_); refine goesL_ (some 96) rfl rfl Try.func23 (by kernel_rfl) rfl #[.slice Ao60 t295.length co60, .slice Ao61 t270.length co61] rfl (by (try simp only [List.map_toArray, List.map_cons, List.map_nil]); first | done | rfl | (simp only [List.length_drop, List.length_take]; rfl)) ?_; (with_reducible refine (laws_eqFentS.calls kj30 _ _ t295 _ _ t270 true _ ?side1 ?side2 ?side3 ?side4 A58.out).mono ?_); (case side1 => repeat (first | exact (Kd.R_reads' HO298.out).2.2 | (with_reducible refine Kd.C_alloc ?_ _) | (with_reducible refine Kd.C_drewN ?_ _) | (with_reducible refine Kd.C_drew ?_))); (case side2 => exact (Kd.R_reads' HO298.out).2.1); (case side3 => repeat (first | exact (Kd.R_reads' HO_10.out).2.2 | (with_reducible refine Kd.C_alloc ?_ _) | (with_reducible refine Kd.C_drewN ?_ _) | (with_reducible refine Kd.C_drew ?_))); (case side4 => exact (Kd.R_reads' HO_10.out).2.1); rintro e w62 ⟨rfl, hb⟩; refine ⟨_, rfl, ?_⟩; have n0_ := am (Kd.R_below (kqR HO_10.out) hb); have n1_ := am (Kd.R_below (kqR HO_13.out) hb); have n2_ := am (Kd.R_below (kqR HO294.out) hb); have n3_ := am (Kd.R_below (kqR HO298.out) hb); have n4_ := am (below_step (bq HB.out) hb); clear HO_10; clear HO_13; clear HO294; clear HO298; clear HB; have HO_10 := n0_; have HO_13 := n1_; have HO294 := n2_; have HO298 := n3_; have HB := n4_; clear n0_ n1_ n2_ n3_ n4_; (try clear hb); (try clear hb2); (try clear hk); (try clear hi)))
                          go_meet
                          case rel => exact ⟨_, ((t296 != t271)), (by first | rfl | (simp; done) | (simp [*]; done)), H', ⟨by have := HJ10.out; have := HJ30.out; first | omega | exact Nat.le_refl _⟩, ⟨by (with_reducible repeat (first | apply Kd.R_alloc | apply Kd.R_drewN | apply Kd.R_drew)); exact Kd.R_mono HO_13.out (fun _ hk => trivial)⟩, ⟨bq HB.out⟩⟩
                        · replace c59 := Bool.eq_false_iff.mpr c59
                          subst c59
                          have H1 : (laws_FnExactSetStatic.j2 kj30 t290 t289 true) = some r := by rw [if_neg (show ¬ (false = true) by decide)] at H; exact H
                          clear H
                          have H := H1
                          clear H1
                          have H' := am H
                          clear H
                          obtain ⟨Ao63, co63, eo63⟩ := Kd.R_slice HO298.out
                          subst eo63
                          obtain ⟨Ao64, co64, eo64⟩ := Kd.R_slice HO_10.out
                          subst eo64
                          go_wp2_with (first | ((with_reducible refine gate_callee (f := 23) rfl ?_); refine goesL_ (some 96) rfl rfl Try.func23 (by kernel_rfl) rfl #[.slice Ao63 t295.length co63, .slice Ao64 t270.length co64] rfl (by (try simp only [List.map_toArray, List.map_cons, List.map_nil]); first | done | rfl | (simp only [List.length_drop, List.length_take]; rfl)) ?_; (with_reducible refine (laws_eqFentS.calls kj30 _ _ t295 _ _ t270 false _ ?side1 ?side2 ?side3 ?side4 A58.out).mono ?_); (case side1 => repeat (first | exact (Kd.R_reads' HO298.out).2.2 | (with_reducible refine Kd.C_alloc ?_ _) | (with_reducible refine Kd.C_drewN ?_ _) | (with_reducible refine Kd.C_drew ?_))); (case side2 => exact (Kd.R_reads' HO298.out).2.1); (case side3 => repeat (first | exact (Kd.R_reads' HO_10.out).2.2 | (with_reducible refine Kd.C_alloc ?_ _) | (with_reducible refine Kd.C_drewN ?_ _) | (with_reducible refine Kd.C_drew ?_))); (case side4 => exact (Kd.R_reads' HO_10.out).2.1); rintro e w65 ⟨rfl, hb⟩; refine ⟨_, rfl, ?_⟩; have n0_ := am (Kd.R_below (kqR HO_10.out) hb); have n1_ := am (Kd.R_below (kqR HO_13.out) hb); have n2_ := am (Kd.R_below (kqR HO294.out) hb); have n3_ := am (Kd.R_below (kqR HO298.out) hb); have n4_ := am (below_step (bq HB.out) hb); clear HO_10; clear HO_13; clear HO294; clear HO298; clear HB; have HO_10 := n0_; have HO_13 := n1_; have HO294 := n2_; have HO298 := n3_; have HB := n4_; clear n0_ n1_ n2_ n3_ n4_; (try clear hb); (try clear hb2); (try clear hk); (try clear hi)))
                          go_meet
                          case rel => exact ⟨_, (true), (by first | rfl | (simp; done) | (simp [*]; done)), H', ⟨by have := HJ10.out; have := HJ30.out; first | omega | exact Nat.le_refl _⟩, ⟨by (with_reducible repeat (first | apply Kd.R_alloc | apply Kd.R_drewN | apply Kd.R_drew)); exact Kd.R_mono HO_13.out (fun _ hk => trivial)⟩, ⟨bq HB.out⟩⟩
                      case rest =>
                        clear HC52
                        try clear c1
                        try clear c2
                        try clear p2
                        try clear c3
                        try clear c4
                        try clear c5
                        try clear c6
                        try clear c6b0
                        try clear c19
                        try clear c20
                        try clear c21
                        try clear c22
                        try clear c23
                        try clear c24
                        try clear c25
                        try clear c26
                        try clear c29
                        try clear c36
                        try clear c36b0
                        try clear c38
                        try clear c45
                        try clear c48
                        try clear c48b0
                        try clear c49
                        try clear c49b0
                        try clear c49b1
                        try clear c59
                        try clear p2
                        obtain ⟨kq, x102_51, rfl, HA, HJ51, HO_13, HB⟩ := hcut
                        have hl13_51 := (Kd.R_reads' HO_13.out).1
                        rw [hl13_51] at HO_13
                        (try simp only [hl13_51])
                        cases kq with
                        | zero => exact absurd HA.out (by simp [laws_FnExactSetStatic.j2])
                        | succ kj51 =>
                          have H := HA.out
                          clear HA
                          simp only [laws_FnExactSetStatic.j2] at H
                          by_cases c66 : x102_51 = true
                          · subst c66
                            have H1 : (some false) = some r := by rw [if_pos rfl] at H; exact H
                            clear H
                            have H := H1
                            clear H1
                            exact absurd ((Option.some.inj H).trans HRT.out) (by decide)
                          · replace c66 := Bool.eq_false_iff.mpr c66
                            subst c66
                            have H1 : ((laws_heldFentS.f kj51 t290 1).bind fun t300 => (if t300 < 0 then (some false) else (if t300 = t289 then (some true) else (some false)))) = some r := by rw [if_neg (show ¬ (false = true) by decide)] at H; exact H
                            clear H
                            have H := H1
                            clear H1
                            replace H := Option.bind_eq_some_iff.mp H
                            obtain ⟨t300, A670, H⟩ := H
                            replace H : (if t300 < 0 then (some false) else (if t300 = t289 then (some true) else (some false))) = some r := H
                            have A67 := am A670
                            clear A670
                            by_cases c68 : t300 < 0
                            · rw [if_pos c68] at H
                              have c68b0 : decide (t300 < 0) = true := decide_eq_true c68
                              clear c68
                              exact absurd ((Option.some.inj H).trans HRT.out) (by decide)
                            · rw [if_neg c68] at H
                              have c68b0 : decide (t300 < 0) = false := decide_eq_false c68
                              clear c68
                              by_cases c69 : t300 = t289
                              · rw [if_pos c69] at H
                                have c69b0 : (t300 == t289) = true := beq_iff_eq.mpr c69
                                have c69b1 : (t300 != t289) = false := bne_eq_false_iff_eq.mpr c69
                                clear c69
                                obtain rfl := Option.some.inj H
                                go_wp2_with (first | ((with_reducible refine gate_callee (f := 25) rfl ?_); refine goesL_ (some 105) rfl rfl Try.func25 (by kernel_rfl) rfl #[.slice Ao53 t290.length co53, .int .i64 1] rfl (by (try simp only [List.map_toArray, List.map_cons, List.map_nil]); first | done | rfl | (simp only [List.length_drop, List.length_take]; rfl)) ?_; (with_reducible refine (laws_heldFentS.calls kj51 _ _ t290 1 t300 _ ?side1 ?side2 A67.out).mono ?_); (case side1 => repeat (first | exact (Kd.R_reads' HO_13.out).2.2 | (with_reducible refine Kd.C_alloc ?_ _) | (with_reducible refine Kd.C_drewN ?_ _) | (with_reducible refine Kd.C_drew ?_))); (case side2 => exact (Kd.R_reads' HO_13.out).2.1); rintro e w' ⟨rfl, ⟨nd, rfl⟩⟩; refine ⟨_, rfl, ?_⟩))
                                go_ret
                                exact ⟨by first | rfl | (simp [errW_none, errW_some] <;> rfl) | (simp [*, errW_none, errW_some] <;> rfl), bq HB.out⟩
                              · rw [if_neg c69] at H
                                have c69b0 : (t300 == t289) = false := beq_eq_false_iff_ne.mpr c69
                                have c69b1 : (t300 != t289) = true := bne_iff_ne.mpr c69
                                exact absurd ((Option.some.inj H).trans HRT.out) (by decide)
                    · rw [if_neg c49] at H
                      have c49b0 : (t291 == t289) = false := beq_eq_false_iff_ne.mpr c49
                      have c49b1 : (t291 != t289) = true := bne_iff_ne.mpr c49
                      exact absurd ((Option.some.inj H).trans HRT.out) (by decide)
          · replace c29 := Bool.eq_false_iff.mpr c29
            subst c29
            have H1 : (some false) = some r := by rw [if_neg (show ¬ (false = true) by decide)] at H; exact H
            clear H
            have H := H1
            clear H1
            exact absurd ((Option.some.inj H).trans HRT.out) (by decide)

/-- THE ONE PURE STATEMENT of laws_FnExactSetStatic. -/
def wfS95 (x : S95) : Prop := (Lit.int .i64 x.f0).wf = true ∧ (Lit.int .i64 x.f1).wf = true ∧ (Lit.int .i64 x.f2).wf = true ∧ (Lit.int .i64 x.f3).wf = true
def laws_FnExactSetStatic.Pure : Prop := ∀ (l0 : List (S95)) (a1 : Int) (a2 : Int) (a3 : Int), l0.length ≤ maxLen → (∀ y ∈ l0, wfS95 y) → (Lit.int .i64 a1).wf = true → (Lit.int .i64 a2).wf = true → (Lit.int .i64 a3).wf = true → ∃ k, laws_FnExactSetStatic.f k l0 a1 a2 a3 = some true

end Go.Proofs.Ytebffdmkfkfoaaa.XFnExactSetStatic
