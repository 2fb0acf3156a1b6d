/- The functions that one law reaches, as Lean functions, with their walks: printed by a program of this seat (wip/tools) out of the translation. -/
import Derived.Test.YtebffdmkfkfoaaaXFnLearnsx0
import Derived.Test.YtebffdmkfkfoaaaXFnLearnsx2
import Derived.Test.YtebffdmkfkfoaaaXFnLearnsx6
import Derived.Test.YtebffdmkfkfoaaaXFnLearnsx7
import Derived.Test.YtebffdmkfkfoaaaXFnLearnsx8
import Derived.Test.YtebffdmkfkfoaaaXFnLearnsx11
namespace Go.Proofs.Ytebffdmkfkfoaaa.XFnLearns
open Go.RowKit Go.Proofs.YtebffdmkfkfoaaaW.PrintWords Go.Proofs.YtebffdmkfkfoaaaW.PrintLast Go.Proofs.YtebffdmkfkfoaaaW.PrintMore
attribute [local go_sem] max2_int min2_int max_two min_two max_three min_three max_four min_four   -- for this text's walks alone
set_option linter.unusedVariables false
set_option linter.unusedSimpArgs false

/-! ### laws_FnLearns: function 5 -/
mutual
def laws_FnLearns.l0 : Nat → List (S44) → Int → Int → Int → List (S44) → Int → Bool → Int → Option (Bool)
  | 0, _, _, _, _, _, _, _, _ => none
  | k + 1, x3, x4, x5, x6, x7, x8, x9, x10 => if x10 < (x3.length : Int) then (if 0 ≤ x10 then (if ((rd_T44 x3 x10).f0) = x4 then (laws_FnLearns.j1 k x3 x4 x5 x6 x7 x8 x9 x10 (((rd_T44 x3 x10).f1) == x5) ((rd_T44 x3 x10).f0) ((rd_T44 x3 x10).f1) ((rd_T44 x3 x10).f2) ((rd_T44 x3 x10).f3) ((rd_T44 x3 x10).f4)) else (laws_FnLearns.j1 k x3 x4 x5 x6 x7 x8 x9 x10 false ((rd_T44 x3 x10).f0) ((rd_T44 x3 x10).f1) ((rd_T44 x3 x10).f2) ((rd_T44 x3 x10).f3) ((rd_T44 x3 x10).f4))) else (none)) else ((impl_FdbOk.f k x3).bind fun t364 => (if t364 = true then ((impl_FdbOk.f k x7).bind fun t365 => (if t365 = true then ((spec_Learn.f k x3 x4 x5 x6).bind fun t366 => ((laws_sameFdb.f k x7 t366).bind fun t369 => (if t369 = true then (if x8 = x6 then (some true) else (if x9 = true then ((impl_LookUp.f k x3 x4 x5).bind fun t370 => (if x8 = t370 then (some true) else (if x8 = (-1) then (some ((x3.length : Int) == 12)) else (some false)))) else (if x8 = (-1) then (some ((x3.length : Int) == 12)) else (some false)))) else (some false)))) else (some false))) else (some false)))
def laws_FnLearns.j1 : Nat → List (S44) → Int → Int → Int → List (S44) → Int → Bool → Int → Bool → Int → Int → Int → Int → Bool → Option (Bool)
  | 0, _, _, _, _, _, _, _, _, _, _, _, _, _, _ => none
  | k + 1, x3, x4, x5, x6, x7, x8, x9, x10, x49, x363000, x363001, x363002, x363003, x363004 => if x49 = true then (laws_FnLearns.l0 k x3 x4 x5 x6 x7 x8 x363004 (wrap64 (x10 + 1))) else ((impl_LookUp.f k x7 x363000 x363001).bind fun t363 => (if t363 = x363002 then (laws_FnLearns.l0 k x3 x4 x5 x6 x7 x8 x9 (wrap64 (x10 + 1))) else (some false)))
end
def laws_FnLearns.f (k : Nat) (l0 : List Int) : Option (Bool) := (laws_big.f l0).bind fun t350 => (if t350 = true then (some true) else ((spec_DrawFdb.f k l0).bind fun bt351 => ((impl_Learn.f k bt351.1 bt351.2.1 bt351.2.2.1 bt351.2.2.2).bind fun t357 => ((impl_LookUp.f k t357 bt351.2.1 bt351.2.2.1).bind fun t360 => (laws_FnLearns.l0 k bt351.1 bt351.2.1 bt351.2.2.1 bt351.2.2.2 t357 t360 false 0)))))
theorem laws_FnLearns.mono_l : ∀ k, (∀ y0 y1 y2 y3 y4 y5 y6 y7, LeO (laws_FnLearns.l0 k y0 y1 y2 y3 y4 y5 y6 y7) (laws_FnLearns.l0 (k + 1) y0 y1 y2 y3 y4 y5 y6 y7)) ∧ (∀ y0 y1 y2 y3 y4 y5 y6 y7 y8 y9 y10 y11 y12 y13, LeO (laws_FnLearns.j1 k y0 y1 y2 y3 y4 y5 y6 y7 y8 y9 y10 y11 y12 y13) (laws_FnLearns.j1 (k + 1) y0 y1 y2 y3 y4 y5 y6 y7 y8 y9 y10 y11 y12 y13))
  | 0 => ⟨fun _ _ _ _ _ _ _ _ r h => by simp [laws_FnLearns.l0] at h, fun _ _ _ _ _ _ _ _ _ _ _ _ _ _ r h => by simp [laws_FnLearns.j1] at h⟩
  | k + 1 => by
    obtain ⟨ih0, ih1⟩ := laws_FnLearns.mono_l k
    refine ⟨?_, ?_⟩
    · intro y0 y1 y2 y3 y4 y5 y6 y7
      unfold laws_FnLearns.l0
      repeat' first
      | (with_reducible exact ih0 _ _ _ _ _ _ _ _)
      | (with_reducible exact ih1 _ _ _ _ _ _ _ _ _ _ _ _ _ _)
      | (with_reducible exact impl_FdbOk.mono _ _)
      | (with_reducible exact impl_Learn.mono _ _ _ _ _)
      | (with_reducible exact impl_LookUp.mono _ _ _ _)
      | (with_reducible exact laws_sameFdb.mono _ _ _)
      | (with_reducible exact spec_DrawFdb.mono _ _)
      | (with_reducible exact spec_Learn.mono _ _ _ _ _)
      | (with_reducible exact LeO.refl _)
      | (with_reducible exact LeO.none _)
      | (with_reducible refine LeO.ite ?_ ?_)
      | (with_reducible refine LeO.bind ?_ (fun _ => ?_))
      | exact ih0 _ _ _ _ _ _ _ _
      | exact ih1 _ _ _ _ _ _ _ _ _ _ _ _ _ _
      | exact impl_FdbOk.mono _ _
      | exact impl_Learn.mono _ _ _ _ _
      | exact impl_LookUp.mono _ _ _ _
      | exact laws_sameFdb.mono _ _ _
      | exact spec_DrawFdb.mono _ _
      | exact spec_Learn.mono _ _ _ _ _
      | exact LeO.none _
      | refine LeO.ite ?_ ?_
      | refine LeO.bind ?_ (fun _ => ?_)
    · intro y0 y1 y2 y3 y4 y5 y6 y7 y8 y9 y10 y11 y12 y13
      unfold laws_FnLearns.j1
      repeat' first
      | (with_reducible exact ih0 _ _ _ _ _ _ _ _)
      | (with_reducible exact ih1 _ _ _ _ _ _ _ _ _ _ _ _ _ _)
      | (with_reducible exact impl_FdbOk.mono _ _)
      | (with_reducible exact impl_Learn.mono _ _ _ _ _)
      | (with_reducible exact impl_LookUp.mono _ _ _ _)
      | (with_reducible exact laws_sameFdb.mono _ _ _)
      | (with_reducible exact spec_DrawFdb.mono _ _)
      | (with_reducible exact spec_Learn.mono _ _ _ _ _)
      | (with_reducible exact LeO.refl _)
      | (with_reducible exact LeO.none _)
      | (with_reducible refine LeO.ite ?_ ?_)
      | (with_reducible refine LeO.bind ?_ (fun _ => ?_))
      | exact ih0 _ _ _ _ _ _ _ _
      | exact ih1 _ _ _ _ _ _ _ _ _ _ _ _ _ _
      | exact impl_FdbOk.mono _ _
      | exact impl_Learn.mono _ _ _ _ _
      | exact impl_LookUp.mono _ _ _ _
      | exact laws_sameFdb.mono _ _ _
      | exact spec_DrawFdb.mono _ _
      | exact spec_Learn.mono _ _ _ _ _
      | exact LeO.none _
      | refine LeO.ite ?_ ?_
      | refine LeO.bind ?_ (fun _ => ?_)
theorem laws_FnLearns.mono : ∀ a0 k, LeO (laws_FnLearns.f k a0) (laws_FnLearns.f (k + 1) a0) := by
  intro a0 k
  obtain ⟨ih0, ih1⟩ := laws_FnLearns.mono_l k
  unfold laws_FnLearns.f
  repeat' first
      | (with_reducible exact ih0 _ _ _ _ _ _ _ _)
      | (with_reducible exact ih1 _ _ _ _ _ _ _ _ _ _ _ _ _ _)
      | (with_reducible exact impl_FdbOk.mono _ _)
      | (with_reducible exact impl_Learn.mono _ _ _ _ _)
      | (with_reducible exact impl_LookUp.mono _ _ _ _)
      | (with_reducible exact laws_sameFdb.mono _ _ _)
      | (with_reducible exact spec_DrawFdb.mono _ _)
      | (with_reducible exact spec_Learn.mono _ _ _ _ _)
      | (with_reducible exact LeO.refl _)
      | (with_reducible exact LeO.none _)
      | (with_reducible refine LeO.ite ?_ ?_)
      | (with_reducible refine LeO.bind ?_ (fun _ => ?_))
      | exact ih0 _ _ _ _ _ _ _ _
      | exact ih1 _ _ _ _ _ _ _ _ _ _ _ _ _ _
      | exact impl_FdbOk.mono _ _
      | exact impl_Learn.mono _ _ _ _ _
      | exact impl_LookUp.mono _ _ _ _
      | exact laws_sameFdb.mono _ _ _
      | exact spec_DrawFdb.mono _ _
      | exact spec_Learn.mono _ _ _ _ _
      | exact LeO.none _
      | refine LeO.ite ?_ ?_
      | refine LeO.bind ?_ (fun _ => ?_)
def laws_FnLearns.T13 : Bool × List (List Nat × List Nat) := (true, [([], []), ([], []), ([1], [1]), ([], []), ([3], [3]), ([0, 2, 4], [0, 2, 4]), ([], []), ([6], [6]), ([5, 7], [5, 7])])
def laws_FnLearns.B13 : List Nat := [0, 0, 2, 0, 8, 31, 0, 64, 255]
theorem laws_FnLearns.tab13 : rtab .any (opsOf Try.f5 13) = laws_FnLearns.T13 := by kernel_rfl
theorem laws_FnLearns.bits13 : waitsOk laws_FnLearns.T13.2 laws_FnLearns.B13 = true := by kernel_rfl
set_option maxHeartbeats 8000000 in
set_option maxRecDepth 100000 in
theorem laws_FnLearns.calls (k : Nat) (A0 : Option Addr) (c0 : Nat) (l0 : List Int) (r : Bool) (w : World) (hr0 : Kd.C (Kd.int .u8) w A0 l0.length l0) (hc0 : l0.length ≤ c0) (hr_ : r = true) (h : laws_FnLearns.f k l0 = some r) :
    Calls Try.prog 5 #[.slice A0 l0.length c0] w fun e w' => e = .returned (.bool r) ∧ Below w.heap.size w w' := by
  have hu44 := Try.underlying44
  have HRT := am hr_
  clear hr_
  have HR0 := am hr0
  have HC0 := am hc0
  clear hr0 hc0
  have HB := am (Below.refl w.heap.size w)
  have H : ((laws_big.f l0).bind fun t350 => (if t350 = true then (some true) else ((spec_DrawFdb.f k l0).bind fun bt351 => ((impl_Learn.f k bt351.1 bt351.2.1 bt351.2.2.1 bt351.2.2.2).bind fun t357 => ((impl_LookUp.f k t357 bt351.2.1 bt351.2.2.1).bind fun t360 => (laws_FnLearns.l0 k bt351.1 bt351.2.1 bt351.2.2.1 bt351.2.2.2 t357 t360 false 0)))))) = some r := h
  clear h
  replace H := Option.bind_eq_some_iff.mp H
  obtain ⟨t350, A20, H⟩ := H
  replace H : (if t350 = true then (some true) else ((spec_DrawFdb.f k l0).bind fun bt351 => ((impl_Learn.f k bt351.1 bt351.2.1 bt351.2.2.1 bt351.2.2.2).bind fun t357 => ((impl_LookUp.f k t357 bt351.2.1 bt351.2.2.1).bind fun t360 => (laws_FnLearns.l0 k bt351.1 bt351.2.1 bt351.2.2.1 bt351.2.2.2 t357 t360 false 0))))) = some r := H
  have A2 := am A20
  clear A20
  by_cases c3 : t350 = true
  · subst c3
    have H1 : (some true) = some r := by rw [if_pos rfl] at H; exact H
    clear H
    have H := H1
    clear H1
    obtain rfl := Option.some.inj H
    go_enter Try.func5, Try.ntmps5
    go_wp2_with (first | ((with_reducible refine gate_callee (f := 26) rfl ?_); refine goesL_ (some 13) rfl rfl Try.func26 (by kernel_rfl) rfl #[.slice A0 l0.length c0] rfl (by (try simp only [List.map_toArray, List.map_cons, List.map_nil]); first | done | rfl | (simp only [List.length_drop, List.length_take]; rfl)) ?_; (with_reducible refine (laws_big.calls _ _ l0 true _ ?side1 ?side2 A2.out).mono ?_); (case side1 => exact cq HR0.out); (case side2 => exact HC0.out); rintro e w' ⟨rfl, ⟨nd, rfl⟩⟩; refine ⟨_, rfl, ?_⟩))
    go_ret
    exact ⟨by first | rfl | (simp [errW_none, errW_some] <;> rfl) | (simp [*, errW_none, errW_some] <;> rfl), bq HB.out⟩
  · replace c3 := Bool.eq_false_iff.mpr c3
    subst c3
    have H1 : ((spec_DrawFdb.f k l0).bind fun bt351 => ((impl_Learn.f k bt351.1 bt351.2.1 bt351.2.2.1 bt351.2.2.2).bind fun t357 => ((impl_LookUp.f k t357 bt351.2.1 bt351.2.2.1).bind fun t360 => (laws_FnLearns.l0 k bt351.1 bt351.2.1 bt351.2.2.1 bt351.2.2.2 t357 t360 false 0)))) = some r := by rw [if_neg (show ¬ (false = true) by decide)] at H; exact H
    clear H
    have H := H1
    clear H1
    replace H := Option.bind_eq_some_iff.mp H
    obtain ⟨⟨t351, t352, t353, t354⟩, A40, H⟩ := H
    replace H : ((impl_Learn.f k t351 t352 t353 t354).bind fun t357 => ((impl_LookUp.f k t357 t352 t353).bind fun t360 => (laws_FnLearns.l0 k t351 t352 t353 t354 t357 t360 false 0))) = some r := H
    have A4 := am A40
    clear A40
    replace H := Option.bind_eq_some_iff.mp H
    obtain ⟨t357, A50, H⟩ := H
    replace H : ((impl_LookUp.f k t357 t352 t353).bind fun t360 => (laws_FnLearns.l0 k t351 t352 t353 t354 t357 t360 false 0)) = some r := H
    have A5 := am A50
    clear A50
    replace H := Option.bind_eq_some_iff.mp H
    obtain ⟨t360, A60, H⟩ := H
    replace H : (laws_FnLearns.l0 k t351 t352 t353 t354 t357 t360 false 0) = some r := H
    have A6 := am A60
    clear A60
    have H' := am H
    clear H
    go_enter Try.func5, Try.ntmps5
    go_wp2_with (first | ((with_reducible refine gate_callee (f := 26) rfl ?_); refine goesL_ (some 13) rfl rfl Try.func26 (by kernel_rfl) rfl #[.slice A0 l0.length c0] rfl (by (try simp only [List.map_toArray, List.map_cons, List.map_nil]); first | done | rfl | (simp only [List.length_drop, List.length_take]; rfl)) ?_; (with_reducible refine (laws_big.calls _ _ l0 false _ ?side1 ?side2 A2.out).mono ?_); (case side1 => exact cq HR0.out); (case side2 => exact HC0.out); rintro e w' ⟨rfl, ⟨nd, rfl⟩⟩; refine ⟨_, rfl, ?_⟩) | ((with_reducible refine gate_callee (f := 27) rfl ?_); refine goesL_ (some 16) rfl rfl Try.func27 (by kernel_rfl) rfl #[.slice A0 l0.length c0] rfl (by (try simp only [List.map_toArray, List.map_cons, List.map_nil]); first | done | rfl | (simp only [List.length_drop, List.length_take]; rfl)) ?_; (with_reducible refine (spec_DrawFdb.calls k _ _ l0 t351 t352 t353 t354 _ ?side1 ?side2 A4.out).mono ?_); (case side1 => exact cq HR0.out); (case side2 => exact HC0.out); rintro e w7 ⟨v355, rfl, ho0, hb⟩; refine ⟨_, rfl, ?_⟩; have n0_ := am (Kd.R_lower ho0 (below_size (bq HB.out))); have n1_ := am (below_step (bq HB.out) hb); clear HB; have HO356 := n0_; have HB := n1_; clear n0_ n1_; (try clear hb); (try clear hb2); (try clear hk); (try clear hi); (try clear ho0); obtain ⟨Ao8, co8, eo8⟩ := Kd.R_slice HO356.out; subst eo8) | ((with_reducible refine gate_callee (f := 28) rfl ?_); refine goesL_ (some 25) rfl rfl Try.func28 (by kernel_rfl) rfl #[.slice Ao8 t351.length co8, .int .i64 t352, .int .i64 t353, .int .i64 t354] rfl (by (try simp only [List.map_toArray, List.map_cons, List.map_nil]); first | done | rfl | (simp only [List.length_drop, List.length_take]; rfl)) ?_; (with_reducible refine (impl_Learn.calls k _ _ t351 t352 t353 t354 t357 _ ?side1 ?side2 A5.out).mono ?_); (case side1 => repeat (first | exact (Kd.R_reads' HO356.out).2.2 | (with_reducible refine Kd.C_alloc ?_ _) | (with_reducible refine Kd.C_drewN ?_ _) | (with_reducible refine Kd.C_drew ?_))); (case side2 => exact (Kd.R_reads' HO356.out).2.1); rintro e w9 ⟨v358, rfl, ho0, hb⟩; refine ⟨_, rfl, ?_⟩; have n0_ := am (Kd.R_elder' (kqR HO356.out) (Kd.R_base ho0) hb); have n1_ := am (Kd.R_lower (Kd.R_new' ho0 (Kd.R_lt (kqR HO356.out))) (below_size (bq HB.out))); have n2_ := am (below_step (bq HB.out) hb); clear HO356; clear HB; have HO356 := n0_; have HO359 := n1_; have HB := n2_; clear n0_ n1_ n2_; (try clear hb); (try clear hb2); (try clear hk); (try clear hi); (try clear ho0); obtain ⟨Ao10, co10, eo10⟩ := Kd.R_slice HO359.out; subst eo10) | ((with_reducible refine gate_callee (f := 29) rfl ?_); refine goesL_ (some 29) rfl rfl Try.func29 (by kernel_rfl) rfl #[.slice Ao10 t357.length co10, .int .i64 t352, .int .i64 t353] rfl (by (try simp only [List.map_toArray, List.map_cons, List.map_nil]); first | done | rfl | (simp only [List.length_drop, List.length_take]; rfl)) ?_; (with_reducible refine (impl_LookUp.calls k _ _ t357 t352 t353 t360 _ ?side1 ?side2 A6.out).mono ?_); (case side1 => repeat (first | exact (Kd.R_reads' HO359.out).2.2 | (with_reducible refine Kd.C_alloc ?_ _) | (with_reducible refine Kd.C_drewN ?_ _) | (with_reducible refine Kd.C_drew ?_))); (case side2 => exact (Kd.R_reads' HO359.out).2.1); rintro e w11 ⟨rfl, hb⟩; refine ⟨_, rfl, ?_⟩; have n0_ := am (Kd.R_below (kqR HO356.out) hb); have n1_ := am (Kd.R_below (kqR HO359.out) hb); have n2_ := am (below_step (bq HB.out) hb); clear HO356; clear HO359; clear HB; have HO356 := n0_; have HO359 := n1_; have HB := n2_; clear n0_ n1_ n2_; (try clear hb); (try clear hb2); (try clear hk); (try clear hi)))
    go_loopg [9, 10] k (fun kq v9 v10 w' => ∃ (x9_1 : Bool) (x10_1 : Int), v9 = .bool x9_1 ∧ v10 = .int .i64 x10_1 ∧ Aside0 (laws_FnLearns.l0 kq t351 t352 t353 t354 t357 t360 x9_1 x10_1 = some r) ∧ Aside0 (kq ≤ k) ∧ Aside0 (Kd.R k44 44 w' w.heap.size (fun k_ => some k_ ≠ ((.slice Ao10 t357.length co10) : Value).ownBlock) (.slice Ao8 t351.length co8) t351) ∧ Aside0 (Kd.R k44 44 w' w.heap.size (fun k_ => some k_ ≠ ((.slice Ao8 t351.length co8) : Value).ownBlock) (.slice Ao10 t357.length co10) t357) ∧ Aside0 (Below w.heap.size w w'))
    case atStart => exact ⟨(false), (0), (by first | rfl | (simp; done) | (simp [*]; done)), (by first | rfl | (simp; done) | (simp [*]; done)), H', ⟨Nat.le_refl _⟩, ⟨by (with_reducible repeat (first | apply Kd.R_alloc | apply Kd.R_drewN | apply Kd.R_drew)); exact Kd.R_mono HO356.out (fun _ hk => hk.2)⟩, ⟨by (with_reducible repeat (first | apply Kd.R_alloc | apply Kd.R_drewN | apply Kd.R_drew)); exact Kd.R_mono HO359.out (fun _ hk => hk.2)⟩, ⟨bq HB.out⟩⟩
    case round =>
      clear H'
      try clear c2
      try clear p2
      try clear c3
      try clear c5
      obtain ⟨x9_1, x10_1, rfl, rfl, HA, HK1, HO_3, HO_7, HB⟩ := hrel
      cases gk with
      | zero => exact absurd HA.out (by simp [laws_FnLearns.l0])
      | succ k1 =>
        have H := HA.out
        clear HA
        simp only [laws_FnLearns.l0] at H
        by_cases c12 : x10_1 < (t351.length : Int)
        · rw [if_pos c12] at H
          have c12b0 : decide (x10_1 < (t351.length : Int)) = true := decide_eq_true c12
          clear c12
          by_cases c13 : 0 ≤ x10_1
          · rw [if_pos c13] at H
            have c13b0 : decide (0 ≤ x10_1) = true := decide_eq_true c13
            clear c13
            have HC14 := am H
            clear H
            have p361 : 0 ≤ (x10_1 : Int) := oda
            have q361 : x10_1 < (t351.length : Int) := oda
            obtain ⟨ad361, e361, hx361_0, hx361_1, hx361_2, hx361_3, hx361_4⟩ := at_T44 (Kd.R_reads' HO_3.out).2.2 x10_1 p361 q361
            cases e361
            replace p361 := eq_true p361
            replace q361 := eq_true q361
            go_upto_region 11 with (first | ((with_reducible refine gate_dst (N := 11) rfl ?_); (try (refine gate_guard (by rfl) ?_; dsimp only)); refine box_event ?hg (N := 11) ?hd (cs := #[.int .i64 0, .int .i64 0, .int .i64 0, .int .i64 0, .bool false]) (t := 44) ?hr ?_; (case hd => rfl); (case hg => rfl); (case hr => first | (go_simp; done) | (go_simp; rfl)); intro gb362 hg w15 hbox hb; have n0_ := am (Kd.R_below (Kd.R_elderB (kqR HO_3.out) gb362 (Nat.le_of_eq hg.symm)) hb); have n1_ := am (Kd.R_below (Kd.R_elderB (kqR HO_7.out) gb362 (Nat.le_of_eq hg.symm)) hb); have n2_ := am (below_step (bq HB.out) hb); have n3_ := am (hbox); have n4_ := am ((by rw [hg]; exact (below_size (bq HB.out)) : w.heap.size ≤ gb362)); have n5_ := am ((by rw [hg]; exact (below_size (bq HB.out)) : w.heap.size ≤ gb362)); clear HO_3; clear HO_7; clear HB; have HO_3 := n0_; have HO_7 := n1_; have HB := n2_; have BK362 := n3_; have GW362 := n4_; have GE362 := n5_; clear n0_ n1_ n2_ n3_ n4_ n5_; clear hb hbox hg; have hcz16_0 : w15.cell? ⟨gb362, 0, none⟩ = some (.int .i64 0) := (blk_cell BK362.out 0).trans rfl; have hcz16_1 : w15.cell? ⟨gb362, 1, none⟩ = some (.int .i64 0) := (blk_cell BK362.out 1).trans rfl; have hcz16_2 : w15.cell? ⟨gb362, 2, none⟩ = some (.int .i64 0) := (blk_cell BK362.out 2).trans rfl; have hcz16_3 : w15.cell? ⟨gb362, 3, none⟩ = some (.int .i64 0) := (blk_cell BK362.out 3).trans rfl; have hcz16_4 : w15.cell? ⟨gb362, 4, none⟩ = some (.bool false) := (blk_cell BK362.out 4).trans rfl; have hfz16_0 := blk_frozen BK362.out 0; have hfz16_1 := blk_frozen BK362.out 1; have hfz16_2 := blk_frozen BK362.out 2; have hfz16_3 := blk_frozen BK362.out 3; have hfz16_4 := blk_frozen BK362.out 4) | ((with_reducible refine gate_store (t := 44) (p := 11) rfl ?_); refine store_event (t := 44) (p := 11) (v := ?vo_w17) (w1 := (((((w15.setCell ⟨gb362, 0, none⟩ (.int .i64 ((rd_T44 t351 x10_1).f0))).setCell ⟨gb362, 1, none⟩ (.int .i64 ((rd_T44 t351 x10_1).f1))).setCell ⟨gb362, 2, none⟩ (.int .i64 ((rd_T44 t351 x10_1).f2))).setCell ⟨gb362, 3, none⟩ (.int .i64 ((rd_T44 t351 x10_1).f3))).setCell ⟨gb362, 4, none⟩ (.bool ((rd_T44 t351 x10_1).f4)))) ?hg ?ho ?hn ?hr ?_; (case ho => rfl); (case hg => rfl); (case hn => rfl); (case hr => first | (go_simp; done) | (go_simp; rfl)); intro w17 hw; have n0_ : Aside0 (Kd.R k44 44 w17 w.heap.size (fun k_ => some k_ ≠ (.slice Ao10 t357.length co10 : Value).ownBlock ∧ k_ ≠ gb362) (.slice (some ad361) t351.length co8) t351) := ⟨(by rw [hw]; exact (by (with_reducible repeat (first | apply Kd.R_alloc | apply Kd.R_drewN | apply Kd.R_drew)); exact Kd.R_mono (Kd.R_far (p := ⟨gb362, 4, none⟩) (Kd.R_far (p := ⟨gb362, 3, none⟩) (Kd.R_far (p := ⟨gb362, 2, none⟩) (Kd.R_far (p := ⟨gb362, 1, none⟩) (Kd.R_far (p := ⟨gb362, 0, none⟩) (Kd.R_mono HO_3.out (fun k_ hk => (⟨hk, hk.2⟩ : _ ∧ k_ ≠ gb362))) (fun _ hk => hk.2) (.int .i64 ((rd_T44 t351 x10_1).f0))) (fun _ hk => hk.2) (.int .i64 ((rd_T44 t351 x10_1).f1))) (fun _ hk => hk.2) (.int .i64 ((rd_T44 t351 x10_1).f2))) (fun _ hk => hk.2) (.int .i64 ((rd_T44 t351 x10_1).f3))) (fun _ hk => hk.2) (.bool ((rd_T44 t351 x10_1).f4))) (fun _ hk => ⟨hk.1.1, hk.1.2⟩)))⟩; have n1_ : Aside0 (Kd.R k44 44 w17 w.heap.size (fun k_ => some k_ ≠ (.slice (some ad361) t351.length co8 : Value).ownBlock ∧ k_ ≠ gb362) (.slice Ao10 t357.length co10) t357) := ⟨(by rw [hw]; exact (by (with_reducible repeat (first | apply Kd.R_alloc | apply Kd.R_drewN | apply Kd.R_drew)); exact Kd.R_mono (Kd.R_far (p := ⟨gb362, 4, none⟩) (Kd.R_far (p := ⟨gb362, 3, none⟩) (Kd.R_far (p := ⟨gb362, 2, none⟩) (Kd.R_far (p := ⟨gb362, 1, none⟩) (Kd.R_far (p := ⟨gb362, 0, none⟩) (Kd.R_mono HO_7.out (fun k_ hk => (⟨hk, hk.2⟩ : _ ∧ k_ ≠ gb362))) (fun _ hk => hk.2) (.int .i64 ((rd_T44 t351 x10_1).f0))) (fun _ hk => hk.2) (.int .i64 ((rd_T44 t351 x10_1).f1))) (fun _ hk => hk.2) (.int .i64 ((rd_T44 t351 x10_1).f2))) (fun _ hk => hk.2) (.int .i64 ((rd_T44 t351 x10_1).f3))) (fun _ hk => hk.2) (.bool ((rd_T44 t351 x10_1).f4))) (fun _ hk => ⟨hk.1.1, hk.1.2⟩)))⟩; have n2_ : Aside0 (w17.heap[gb362]? = some (.cells #[.int .i64 ((rd_T44 t351 x10_1).f0), .int .i64 ((rd_T44 t351 x10_1).f1), .int .i64 ((rd_T44 t351 x10_1).f2), .int .i64 ((rd_T44 t351 x10_1).f3), .bool ((rd_T44 t351 x10_1).f4)] 44 (0, 0))) := ⟨(by rw [hw]; exact (by (with_reducible repeat (first | refine blk_drewN ?_ _ | refine blk_drew ?_ | refine blk_alloc ?_ _)); refine blk_put (cs := #[.int .i64 ((rd_T44 t351 x10_1).f0), .int .i64 ((rd_T44 t351 x10_1).f1), .int .i64 ((rd_T44 t351 x10_1).f2), .int .i64 ((rd_T44 t351 x10_1).f3), .bool false]) ?_ 4 _ rfl; (with_reducible repeat (first | refine blk_drewN ?_ _ | refine blk_drew ?_ | refine blk_alloc ?_ _)); refine blk_put (cs := #[.int .i64 ((rd_T44 t351 x10_1).f0), .int .i64 ((rd_T44 t351 x10_1).f1), .int .i64 ((rd_T44 t351 x10_1).f2), .int .i64 0, .bool false]) ?_ 3 _ rfl; (with_reducible repeat (first | refine blk_drewN ?_ _ | refine blk_drew ?_ | refine blk_alloc ?_ _)); refine blk_put (cs := #[.int .i64 ((rd_T44 t351 x10_1).f0), .int .i64 ((rd_T44 t351 x10_1).f1), .int .i64 0, .int .i64 0, .bool false]) ?_ 2 _ rfl; (with_reducible repeat (first | refine blk_drewN ?_ _ | refine blk_drew ?_ | refine blk_alloc ?_ _)); refine blk_put (cs := #[.int .i64 ((rd_T44 t351 x10_1).f0), .int .i64 0, .int .i64 0, .int .i64 0, .bool false]) ?_ 1 _ rfl; (with_reducible repeat (first | refine blk_drewN ?_ _ | refine blk_drew ?_ | refine blk_alloc ?_ _)); refine blk_put (cs := #[.int .i64 0, .int .i64 0, .int .i64 0, .int .i64 0, .bool false]) ?_ 0 _ rfl; (with_reducible repeat (first | refine blk_drewN ?_ _ | refine blk_drew ?_ | refine blk_alloc ?_ _)); exact BK362.out))⟩; have n3_ : Aside0 (Below w.heap.size w w17) := ⟨(by rw [hw]; exact (by repeat (first | (with_reducible first | exact HB.out | apply below_alloc | apply pw_below_drewN | apply below_drew1 | refine below_set ?_ GE362.out) | exact HB.out)))⟩; clear hw; clear HO_3; clear HO_7; clear BK362; clear HB; have HO_3 := n0_; have HO_7 := n1_; have BK362 := n2_; have HB := n3_; clear n0_ n1_ n2_ n3_))
            (try simp only [Act.put, List.setIfInBounds_toArray, List.set_cons_zero, List.set_cons_succ])
            go_cut [49] (fun v49 wc => ∃ (kq : Nat) (x49_13 : Bool), v49 = .bool x49_13 ∧ Aside0 (laws_FnLearns.j1 kq t351 t352 t353 t354 t357 t360 x9_1 x10_1 x49_13 ((rd_T44 t351 x10_1).f0) ((rd_T44 t351 x10_1).f1) ((rd_T44 t351 x10_1).f2) ((rd_T44 t351 x10_1).f3) ((rd_T44 t351 x10_1).f4) = some r) ∧ Aside0 (kq ≤ k1) ∧ Aside0 (Kd.R k44 44 wc w.heap.size (fun k_ => some k_ ≠ ((.slice Ao10 t357.length co10) : Value).ownBlock ∧ k_ ≠ gb362) (.slice (some ad361) t351.length co8) t351) ∧ Aside0 (Kd.R k44 44 wc w.heap.size (fun k_ => some k_ ≠ ((.slice (some ad361) t351.length co8) : Value).ownBlock ∧ k_ ≠ gb362) (.slice Ao10 t357.length co10) t357) ∧ Aside0 (wc.heap[gb362]? = some (.cells #[.int .i64 ((rd_T44 t351 x10_1).f0), .int .i64 ((rd_T44 t351 x10_1).f1), .int .i64 ((rd_T44 t351 x10_1).f2), .int .i64 ((rd_T44 t351 x10_1).f3), .bool ((rd_T44 t351 x10_1).f4)] 44 (0, 0))) ∧ Aside0 (Below w.heap.size w wc))
            case first =>
              have H := HC14.out
              clear HC14
              by_cases c18 : ((rd_T44 t351 x10_1).f0) = t352
              · rw [if_pos c18] at H
                have c18b0 : (((rd_T44 t351 x10_1).f0) == t352) = true := beq_iff_eq.mpr c18
                have c18b1 : (((rd_T44 t351 x10_1).f0) != t352) = false := bne_eq_false_iff_eq.mpr c18
                clear c18
                (first | rw [c18b0] | (simp only [i64_w, i32_w]; rw [c18b0]) | skip)
                have H' := am H
                clear H
                have hcz19_0 : w17.cell? ⟨gb362, 0, none⟩ = some (.int .i64 ((rd_T44 t351 x10_1).f0)) := (blk_cell BK362.out 0).trans rfl
                have hcz19_1 : w17.cell? ⟨gb362, 1, none⟩ = some (.int .i64 ((rd_T44 t351 x10_1).f1)) := (blk_cell BK362.out 1).trans rfl
                have hcz19_2 : w17.cell? ⟨gb362, 2, none⟩ = some (.int .i64 ((rd_T44 t351 x10_1).f2)) := (blk_cell BK362.out 2).trans rfl
                have hcz19_3 : w17.cell? ⟨gb362, 3, none⟩ = some (.int .i64 ((rd_T44 t351 x10_1).f3)) := (blk_cell BK362.out 3).trans rfl
                have hcz19_4 : w17.cell? ⟨gb362, 4, none⟩ = some (.bool ((rd_T44 t351 x10_1).f4)) := (blk_cell BK362.out 4).trans rfl
                have hfz19_0 := blk_frozen BK362.out 0
                have hfz19_1 := blk_frozen BK362.out 1
                have hfz19_2 := blk_frozen BK362.out 2
                have hfz19_3 := blk_frozen BK362.out 3
                have hfz19_4 := blk_frozen BK362.out 4
                go_wp2
                go_meet
                case rel => exact ⟨_, ((((rd_T44 t351 x10_1).f1) == t353)), (by first | rfl | (simp; done) | (simp [*]; done)), H', ⟨by have := HK1.out; first | omega | exact Nat.le_refl _⟩, ⟨kqR HO_3.out⟩, ⟨kqR HO_7.out⟩, ⟨zq BK362.out⟩, ⟨by repeat (first | (with_reducible first | exact HB.out | apply below_alloc | apply pw_below_drewN | apply below_drew1 | refine below_set ?_ GE362.out) | exact HB.out)⟩⟩
              · rw [if_neg c18] at H
                have c18b0 : (((rd_T44 t351 x10_1).f0) == t352) = false := beq_eq_false_iff_ne.mpr c18
                have c18b1 : (((rd_T44 t351 x10_1).f0) != t352) = true := bne_iff_ne.mpr c18
                (first | rw [c18b0] | (simp only [i64_w, i32_w]; rw [c18b0]) | skip)
                have H' := am H
                clear H
                have hcz20_0 : w17.cell? ⟨gb362, 0, none⟩ = some (.int .i64 ((rd_T44 t351 x10_1).f0)) := (blk_cell BK362.out 0).trans rfl
                have hcz20_1 : w17.cell? ⟨gb362, 1, none⟩ = some (.int .i64 ((rd_T44 t351 x10_1).f1)) := (blk_cell BK362.out 1).trans rfl
                have hcz20_2 : w17.cell? ⟨gb362, 2, none⟩ = some (.int .i64 ((rd_T44 t351 x10_1).f2)) := (blk_cell BK362.out 2).trans rfl
                have hcz20_3 : w17.cell? ⟨gb362, 3, none⟩ = some (.int .i64 ((rd_T44 t351 x10_1).f3)) := (blk_cell BK362.out 3).trans rfl
                have hcz20_4 : w17.cell? ⟨gb362, 4, none⟩ = some (.bool ((rd_T44 t351 x10_1).f4)) := (blk_cell BK362.out 4).trans rfl
                have hfz20_0 := blk_frozen BK362.out 0
                have hfz20_1 := blk_frozen BK362.out 1
                have hfz20_2 := blk_frozen BK362.out 2
                have hfz20_3 := blk_frozen BK362.out 3
                have hfz20_4 := blk_frozen BK362.out 4
                go_wp2
                go_meet
                case rel => exact ⟨_, (false), (by first | rfl | (simp; done) | (simp [*]; done)), H', ⟨by have := HK1.out; first | omega | exact Nat.le_refl _⟩, ⟨kqR HO_3.out⟩, ⟨kqR HO_7.out⟩, ⟨zq BK362.out⟩, ⟨by repeat (first | (with_reducible first | exact HB.out | apply below_alloc | apply pw_below_drewN | apply below_drew1 | refine below_set ?_ GE362.out) | exact HB.out)⟩⟩
            case rest =>
              clear HC14
              try clear c1
              try clear c2
              try clear p2
              try clear c3
              try clear p3
              try clear q3
              try clear hx3
              try clear c5
              try clear c12
              try clear c12b0
              try clear c13
              try clear c13b0
              try clear c18
              try clear c18b0
              try clear c18b1
              try clear hcz16_0
              try clear hcz16_1
              try clear hcz16_2
              try clear hcz16_3
              try clear hcz16_4
              try clear hcz19_0
              try clear hcz19_1
              try clear hcz19_2
              try clear hcz19_3
              try clear hcz19_4
              try clear hcz20_0
              try clear hcz20_1
              try clear hcz20_2
              try clear hcz20_3
              try clear hcz20_4
              try clear hfz16_0
              try clear hfz16_1
              try clear hfz16_2
              try clear hfz16_3
              try clear hfz16_4
              try clear hfz19_0
              try clear hfz19_1
              try clear hfz19_2
              try clear hfz19_3
              try clear hfz19_4
              try clear hfz20_0
              try clear hfz20_1
              try clear hfz20_2
              try clear hfz20_3
              try clear hfz20_4
              try clear hx361_0
              try clear hx361_1
              try clear hx361_2
              try clear hx361_3
              try clear hx361_4
              try clear p2
              try clear p361
              try clear q361
              obtain ⟨kq, x49_13, rfl, HA, HJ13, HO_3, HO_7, BK362, HB⟩ := hcut
              cases kq with
              | zero => exact absurd HA.out (by simp [laws_FnLearns.j1])
              | succ kj13 =>
                have H := HA.out
                clear HA
                simp only [laws_FnLearns.j1] at H
                by_cases c21 : x49_13 = true
                · subst c21
                  have H1 : (laws_FnLearns.l0 kj13 t351 t352 t353 t354 t357 t360 ((rd_T44 t351 x10_1).f4) (wrap64 (x10_1 + 1))) = some r := by rw [if_pos rfl] at H; exact H
                  clear H
                  have H := H1
                  clear H1
                  have H' := am H
                  clear H
                  have hcz22_0 : wc.cell? ⟨gb362, 0, none⟩ = some (.int .i64 ((rd_T44 t351 x10_1).f0)) := (blk_cell BK362.out 0).trans rfl
                  have hcz22_1 : wc.cell? ⟨gb362, 1, none⟩ = some (.int .i64 ((rd_T44 t351 x10_1).f1)) := (blk_cell BK362.out 1).trans rfl
                  have hcz22_2 : wc.cell? ⟨gb362, 2, none⟩ = some (.int .i64 ((rd_T44 t351 x10_1).f2)) := (blk_cell BK362.out 2).trans rfl
                  have hcz22_3 : wc.cell? ⟨gb362, 3, none⟩ = some (.int .i64 ((rd_T44 t351 x10_1).f3)) := (blk_cell BK362.out 3).trans rfl
                  have hcz22_4 : wc.cell? ⟨gb362, 4, none⟩ = some (.bool ((rd_T44 t351 x10_1).f4)) := (blk_cell BK362.out 4).trans rfl
                  have hfz22_0 := blk_frozen BK362.out 0
                  have hfz22_1 := blk_frozen BK362.out 1
                  have hfz22_2 := blk_frozen BK362.out 2
                  have hfz22_3 := blk_frozen BK362.out 3
                  have hfz22_4 := blk_frozen BK362.out 4
                  go_wp2
                  go_roundg kj13
                  case measure => have := HK1.out; have := HJ13.out; omega
                  case rel => exact ⟨(((rd_T44 t351 x10_1).f4)), (wrap64 (x10_1 + 1)), (by first | rfl | (simp; done) | (simp [*]; done)), (by first | rfl | (simp; done) | (simp [*]; done)), H', ⟨by have := HK1.out; have := HJ13.out; omega⟩, ⟨by (with_reducible repeat (first | apply Kd.R_alloc | apply Kd.R_drewN | apply Kd.R_drew)); exact Kd.R_mono HO_3.out (fun _ hk => hk.1)⟩, ⟨by (with_reducible repeat (first | apply Kd.R_alloc | apply Kd.R_drewN | apply Kd.R_drew)); exact Kd.R_mono HO_7.out (fun _ hk => hk.1)⟩, ⟨by repeat (first | (with_reducible first | exact HB.out | apply below_alloc | apply pw_below_drewN | apply below_drew1 | refine below_set ?_ GE362.out) | exact HB.out)⟩⟩
                · replace c21 := Bool.eq_false_iff.mpr c21
                  subst c21
                  have H1 : ((impl_LookUp.f kj13 t357 ((rd_T44 t351 x10_1).f0) ((rd_T44 t351 x10_1).f1)).bind fun t363 => (if t363 = ((rd_T44 t351 x10_1).f2) then (laws_FnLearns.l0 kj13 t351 t352 t353 t354 t357 t360 x9_1 (wrap64 (x10_1 + 1))) else (some false))) = some r := by rw [if_neg (show ¬ (false = true) by decide)] at H; exact H
                  clear H
                  have H := H1
                  clear H1
                  replace H := Option.bind_eq_some_iff.mp H
                  obtain ⟨t363, A230, H⟩ := H
                  replace H : (if t363 = ((rd_T44 t351 x10_1).f2) then (laws_FnLearns.l0 kj13 t351 t352 t353 t354 t357 t360 x9_1 (wrap64 (x10_1 + 1))) else (some false)) = some r := H
                  have A23 := am A230
                  clear A230
                  by_cases c24 : t363 = ((rd_T44 t351 x10_1).f2)
                  · rw [if_pos c24] at H
                    have c24b0 : (t363 == ((rd_T44 t351 x10_1).f2)) = true := beq_iff_eq.mpr c24
                    have c24b1 : (t363 != ((rd_T44 t351 x10_1).f2)) = false := bne_eq_false_iff_eq.mpr c24
                    clear c24
                    have H' := am H
                    clear H
                    try go_wp2
                    have n0_ := am (Kd.R_drew HO_3.out)
                    have n1_ := am (Kd.R_drew HO_7.out)
                    have n2_ := am (blk_drew BK362.out)
                    have n3_ := am (below_drew1 HB.out)
                    clear HO_3
                    clear HO_7
                    clear BK362
                    clear HB
                    have HO_3 := n0_
                    have HO_7 := n1_
                    have BK362 := n2_
                    have HB := n3_
                    clear n0_ n1_ n2_ n3_
                    refine start_ (n := 9) (S := fun w' => w'.cell? ⟨gb362, 0, none⟩ = some (.int .i64 ((rd_T44 t351 x10_1).f0)) ∧ w'.cell? ⟨gb362, 1, none⟩ = some (.int .i64 ((rd_T44 t351 x10_1).f1)) ∧ w'.cell? ⟨gb362, 2, none⟩ = some (.int .i64 ((rd_T44 t351 x10_1).f2)) ∧ w'.cell? ⟨gb362, 3, none⟩ = some (.int .i64 ((rd_T44 t351 x10_1).f3)) ∧ w'.cell? ⟨gb362, 4, none⟩ = some (.bool ((rd_T44 t351 x10_1).f4))) (ds := []) #[false, false, false, false, false, false, false, false, false] (by kernel_rfl) rfl rfl ⟨(blk_cell BK362.out 0).trans rfl, (blk_cell BK362.out 1).trans rfl, (blk_cell BK362.out 2).trans rfl, (blk_cell BK362.out 3).trans rfl, (blk_cell BK362.out 4).trans rfl⟩ (fun hHeld => ?_); refine with_tabW laws_FnLearns.tab13 laws_FnLearns.bits13 (fun HT_ HW_ => ?_)
                    generalize wc.drew = w25 at HO_3 HO_7 BK362 HB hHeld ⊢
                    refine pure_ (i := 0) (N := some 52) (v := ?_) (a' := ?_) #[true, false, false, false, false, false, false, false, false] rfl rfl (any_of HT_.out (by kernel_rfl)) (fun _ _ _ h => h) (Or.inl ⟨by rfl, ?_⟩) ?_ ?_
                    rotate_left
                    · intro w'
                      go_simp
                      with_reducible rfl
                    rotate_left
                    · simp only [Act.put, List.setIfInBounds_toArray, List.set_cons_zero, List.set_cons_succ, i64_w, i32_w]
                      rfl
                    refine pure_ (i := 1) (N := some 53) (v := ?_) (a' := ?_) #[true, true, false, false, false, false, false, false, false] rfl rfl (any_of HT_.out (by kernel_rfl)) (fun _ _ _ h => h) (Or.inl ⟨by rfl, ?_⟩) ?_ ?_
                    rotate_left
                    · intro w'
                      go_simp
                      with_reducible rfl
                    rotate_left
                    · simp only [Act.put, List.setIfInBounds_toArray, List.set_cons_zero, List.set_cons_succ, i64_w, i32_w]
                      rfl
                    refine pure_ (i := 3) (N := some 55) (v := ?_) (a' := ?_) #[true, true, false, true, false, false, false, false, false] rfl rfl (any_of HT_.out (by kernel_rfl)) (fun _ _ _ h => h) (Or.inl ⟨by rfl, ?_⟩) ?_ ?_
                    rotate_left
                    · intro w'
                      go_simp
                      with_reducible rfl
                    rotate_left
                    · simp only [Act.put, List.setIfInBounds_toArray, List.set_cons_zero, List.set_cons_succ, i64_w, i32_w]
                      rfl
                    refine pure_ (i := 6) (N := some 58) (v := ?_) (a' := ?_) #[true, true, false, true, false, false, true, false, false] rfl rfl (any_of HT_.out (by kernel_rfl)) (fun _ _ _ h => h) (Or.inl ⟨by rfl, ?_⟩) ?_ ?_
                    rotate_left
                    · intro w'
                      go_simp
                      with_reducible rfl
                    rotate_left
                    · simp only [Act.put, List.setIfInBounds_toArray, List.set_cons_zero, List.set_cons_succ, i64_w, i32_w]
                      rfl
                    refine take_ (i := 2) (N := some 54) (v := ?_) (a' := ?_) #[true, true, true, true, false, false, true, false, false] rfl rfl (take_ofW HT_.out HW_.out (by kernel_rfl)) (fun _ _ _ h => h) (Or.inl ⟨by rfl, ?_⟩) hHeld ?_ ?_
                    rotate_left
                    · rintro w' ⟨s0, s1, s2, s3, s4⟩
                      go_simp
                      with_reducible rfl
                    rotate_left
                    · simp only [Act.put, List.setIfInBounds_toArray, List.set_cons_zero, List.set_cons_succ, i64_w, i32_w]
                      rfl
                    refine take_ (i := 4) (N := some 56) (v := ?_) (a' := ?_) #[true, true, true, true, true, false, true, false, false] rfl rfl (take_ofW HT_.out HW_.out (by kernel_rfl)) (fun _ _ _ h => h) (Or.inl ⟨by rfl, ?_⟩) hHeld ?_ ?_
                    rotate_left
                    · rintro w' ⟨s0, s1, s2, s3, s4⟩
                      go_simp
                      with_reducible rfl
                    rotate_left
                    · simp only [Act.put, List.setIfInBounds_toArray, List.set_cons_zero, List.set_cons_succ, i64_w, i32_w]
                      rfl
                    refine take_ (i := 7) (N := some 59) (v := ?_) (a' := ?_) #[true, true, true, true, true, false, true, true, false] rfl rfl (take_ofW HT_.out HW_.out (by kernel_rfl)) (fun _ _ _ h => h) (Or.inl ⟨by rfl, ?_⟩) hHeld ?_ ?_
                    rotate_left
                    · rintro w' ⟨s0, s1, s2, s3, s4⟩
                      go_simp
                      with_reducible rfl
                    rotate_left
                    · simp only [Act.put, List.setIfInBounds_toArray, List.set_cons_zero, List.set_cons_succ, i64_w, i32_w]
                      rfl
                    refine one_ (i := 5) (N := some 57) #[true, true, true, true, true, true, true, true, false] rfl rfl (one_of HT_.out (by kernel_rfl)) (by decide) (fun K hK => ?_)
                    refine goes_ Try.func29 (by kernel_rfl) rfl #[.slice Ao10 t357.length co10, .int .i64 ((rd_T44 t351 x10_1).f0), .int .i64 ((rd_T44 t351 x10_1).f1)] (by rfl) rfl rfl (by (try simp only [List.map_toArray, List.map_cons, List.map_nil]); first | done | rfl | (simp only [List.length_drop, List.length_take]; rfl)) ?_
                    with_reducible refine (impl_LookUp.calls kj13 _ _ t357 ((rd_T44 t351 x10_1).f0) ((rd_T44 t351 x10_1).f1) t363 _ ?side1 ?side2 A23.out).mono ?_
                    (case side1 => repeat (first | exact (Kd.R_reads' HO_7.out).2.2 | (with_reducible refine Kd.C_alloc ?_ _) | (with_reducible refine Kd.C_drewN ?_ _) | (with_reducible refine Kd.C_drew ?_)))
                    (case side2 => exact (Kd.R_reads' HO_7.out).2.1)
                    rintro e w26 ⟨rfl, hb⟩
                    refine ⟨_, rfl, ?_⟩
                    have n0_ := am (Kd.R_below (kqR HO_3.out) hb)
                    have n1_ := am (Kd.R_below (kqR HO_7.out) hb)
                    have n2_ := am (blk_below (g := gb362) (o := .cells #[.int .i64 ((rd_T44 t351 x10_1).f0), .int .i64 ((rd_T44 t351 x10_1).f1), .int .i64 ((rd_T44 t351 x10_1).f2), .int .i64 ((rd_T44 t351 x10_1).f3), .bool ((rd_T44 t351 x10_1).f4)] 44 (0, 0)) (zq BK362.out) hb)
                    have n3_ := am (below_step (by repeat (first | (with_reducible first | exact HB.out | apply below_alloc | apply pw_below_drewN | apply below_drew1 | refine below_set ?_ GE362.out) | exact HB.out)) hb)
                    clear HO_3
                    clear HO_7
                    clear BK362
                    clear HB
                    have HO_3 := n0_
                    have HO_7 := n1_
                    have BK362 := n2_
                    have HB := n3_
                    clear n0_ n1_ n2_ n3_
                    (try clear hb)
                    (try clear hb2)
                    (try clear hk)
                    (try clear hi)
                    refine hK.out _ _ ⟨(blk_cell BK362.out 0).trans rfl, (blk_cell BK362.out 1).trans rfl, (blk_cell BK362.out 2).trans rfl, (blk_cell BK362.out 3).trans rfl, (blk_cell BK362.out 4).trans rfl⟩ (fun hHeld => ?_)
                    clear hK K
                    refine norm_ (a' := ?_) ?_ ?_
                    rotate_left
                    · show Act.put _ (some 57) _ = _
                      simp only [Act.put, List.setIfInBounds_toArray, List.set_cons_zero, List.set_cons_succ, i64_w, i32_w]
                      rfl
                    refine pure_ (i := 8) (N := some 60) (v := ?_) (a' := ?_) #[true, true, true, true, true, true, true, true, true] rfl rfl (any_of HT_.out (by kernel_rfl)) (fun _ _ _ h => h) (Or.inl ⟨by rfl, ?_⟩) ?_ ?_
                    rotate_left
                    · intro w'
                      go_simp
                      with_reducible rfl
                    rotate_left
                    · simp only [Act.put, List.setIfInBounds_toArray, List.set_cons_zero, List.set_cons_succ, i64_w, i32_w]
                      rfl
                    refine done_ (done_of HT_.out (by kernel_rfl)) ?_
                    try go_wp2
                    go_roundg kj13
                    case measure => have := HK1.out; have := HJ13.out; omega
                    case rel => exact ⟨(x9_1), (wrap64 (x10_1 + 1)), (by first | rfl | (simp; done) | (simp [*]; done)), (by first | rfl | (simp; done) | (simp [*]; done)), H', ⟨by have := HK1.out; have := HJ13.out; omega⟩, ⟨by (with_reducible repeat (first | apply Kd.R_alloc | apply Kd.R_drewN | apply Kd.R_drew)); exact Kd.R_mono HO_3.out (fun _ hk => hk.1)⟩, ⟨by (with_reducible repeat (first | apply Kd.R_alloc | apply Kd.R_drewN | apply Kd.R_drew)); exact Kd.R_mono HO_7.out (fun _ hk => hk.1)⟩, ⟨by repeat (first | (with_reducible first | exact HB.out | apply below_alloc | apply pw_below_drewN | apply below_drew1 | refine below_set ?_ GE362.out) | exact HB.out)⟩⟩
                  · rw [if_neg c24] at H
                    have c24b0 : (t363 == ((rd_T44 t351 x10_1).f2)) = false := beq_eq_false_iff_ne.mpr c24
                    have c24b1 : (t363 != ((rd_T44 t351 x10_1).f2)) = true := bne_iff_ne.mpr c24
                    exact absurd ((Option.some.inj H).trans HRT.out) (by decide)
          · rw [if_neg c13] at H
            exact absurd H (by simp)
        · rw [if_neg c12] at H
          have c12b0 : decide (x10_1 < (t351.length : Int)) = false := decide_eq_false c12
          clear c12
          replace H := Option.bind_eq_some_iff.mp H
          obtain ⟨t364, A270, H⟩ := H
          replace H : (if t364 = true then ((impl_FdbOk.f k1 t357).bind fun t365 => (if t365 = true then ((spec_Learn.f k1 t351 t352 t353 t354).bind fun t366 => ((laws_sameFdb.f k1 t357 t366).bind fun t369 => (if t369 = true then (if t360 = t354 then (some true) else (if x9_1 = true then ((impl_LookUp.f k1 t351 t352 t353).bind fun t370 => (if t360 = t370 then (some true) else (if t360 = (-1) then (some ((t351.length : Int) == 12)) else (some false)))) else (if t360 = (-1) then (some ((t351.length : Int) == 12)) else (some false)))) else (some false)))) else (some false))) else (some false)) = some r := H
          have A27 := am A270
          clear A270
          by_cases c28 : t364 = true
          · subst c28
            have H1 : ((impl_FdbOk.f k1 t357).bind fun t365 => (if t365 = true then ((spec_Learn.f k1 t351 t352 t353 t354).bind fun t366 => ((laws_sameFdb.f k1 t357 t366).bind fun t369 => (if t369 = true then (if t360 = t354 then (some true) else (if x9_1 = true then ((impl_LookUp.f k1 t351 t352 t353).bind fun t370 => (if t360 = t370 then (some true) else (if t360 = (-1) then (some ((t351.length : Int) == 12)) else (some false)))) else (if t360 = (-1) then (some ((t351.length : Int) == 12)) else (some false)))) else (some false)))) else (some false))) = some r := by rw [if_pos rfl] at H; exact H
            clear H
            have H := H1
            clear H1
            replace H := Option.bind_eq_some_iff.mp H
            obtain ⟨t365, A290, H⟩ := H
            replace H : (if t365 = true then ((spec_Learn.f k1 t351 t352 t353 t354).bind fun t366 => ((laws_sameFdb.f k1 t357 t366).bind fun t369 => (if t369 = true then (if t360 = t354 then (some true) else (if x9_1 = true then ((impl_LookUp.f k1 t351 t352 t353).bind fun t370 => (if t360 = t370 then (some true) else (if t360 = (-1) then (some ((t351.length : Int) == 12)) else (some false)))) else (if t360 = (-1) then (some ((t351.length : Int) == 12)) else (some false)))) else (some false)))) else (some false)) = some r := H
            have A29 := am A290
            clear A290
            by_cases c30 : t365 = true
            · subst c30
              have H1 : ((spec_Learn.f k1 t351 t352 t353 t354).bind fun t366 => ((laws_sameFdb.f k1 t357 t366).bind fun t369 => (if t369 = true then (if t360 = t354 then (some true) else (if x9_1 = true then ((impl_LookUp.f k1 t351 t352 t353).bind fun t370 => (if t360 = t370 then (some true) else (if t360 = (-1) then (some ((t351.length : Int) == 12)) else (some false)))) else (if t360 = (-1) then (some ((t351.length : Int) == 12)) else (some false)))) else (some false)))) = some r := by rw [if_pos rfl] at H; exact H
              clear H
              have H := H1
              clear H1
              replace H := Option.bind_eq_some_iff.mp H
              obtain ⟨t366, A310, H⟩ := H
              replace H : ((laws_sameFdb.f k1 t357 t366).bind fun t369 => (if t369 = true then (if t360 = t354 then (some true) else (if x9_1 = true then ((impl_LookUp.f k1 t351 t352 t353).bind fun t370 => (if t360 = t370 then (some true) else (if t360 = (-1) then (some ((t351.length : Int) == 12)) else (some false)))) else (if t360 = (-1) then (some ((t351.length : Int) == 12)) else (some false)))) else (some false))) = some r := H
              have A31 := am A310
              clear A310
              replace H := Option.bind_eq_some_iff.mp H
              obtain ⟨t369, A320, H⟩ := H
              replace H : (if t369 = true then (if t360 = t354 then (some true) else (if x9_1 = true then ((impl_LookUp.f k1 t351 t352 t353).bind fun t370 => (if t360 = t370 then (some true) else (if t360 = (-1) then (some ((t351.length : Int) == 12)) else (some false)))) else (if t360 = (-1) then (some ((t351.length : Int) == 12)) else (some false)))) else (some false)) = some r := H
              have A32 := am A320
              clear A320
              by_cases c33 : t369 = true
              · subst c33
                have H1 : (if t360 = t354 then (some true) else (if x9_1 = true then ((impl_LookUp.f k1 t351 t352 t353).bind fun t370 => (if t360 = t370 then (some true) else (if t360 = (-1) then (some ((t351.length : Int) == 12)) else (some false)))) else (if t360 = (-1) then (some ((t351.length : Int) == 12)) else (some false)))) = some r := by rw [if_pos rfl] at H; exact H
                clear H
                have H := H1
                clear H1
                by_cases c34 : t360 = t354
                · rw [if_pos c34] at H
                  have c34b0 : (t360 == t354) = true := beq_iff_eq.mpr c34
                  have c34b1 : (t360 != t354) = false := bne_eq_false_iff_eq.mpr c34
                  clear c34
                  obtain rfl := Option.some.inj H
                  go_wp2_with (first | ((with_reducible refine gate_callee (f := 30) rfl ?_); refine goesL_ (some 62) rfl rfl Try.func30 (by kernel_rfl) rfl #[.slice Ao8 t351.length co8] rfl (by (try simp only [List.map_toArray, List.map_cons, List.map_nil]); first | done | rfl | (simp only [List.length_drop, List.length_take]; rfl)) ?_; (with_reducible refine (impl_FdbOk.calls k1 _ _ t351 true _ ?side1 ?side2 A27.out).mono ?_); (case side1 => repeat (first | exact (Kd.R_reads' HO_3.out).2.2 | (with_reducible refine Kd.C_alloc ?_ _) | (with_reducible refine Kd.C_drewN ?_ _) | (with_reducible refine Kd.C_drew ?_))); (case side2 => exact (Kd.R_reads' HO_3.out).2.1); rintro e w35 ⟨rfl, hb⟩; refine ⟨_, rfl, ?_⟩; have n0_ := am (Kd.R_below (kqR HO_3.out) hb); have n1_ := am (Kd.R_below (kqR HO_7.out) hb); have n2_ := am (below_step (bq HB.out) hb); clear HO_3; clear HO_7; clear HB; have HO_3 := n0_; have HO_7 := n1_; have HB := n2_; clear n0_ n1_ n2_; (try clear hb); (try clear hb2); (try clear hk); (try clear hi)) | (go_at_call 30; (with_reducible refine (impl_FdbOk.calls k1 _ _ t357 true _ ?side1 ?side2 A29.out).mono ?_); (case side1 => repeat (first | exact (Kd.R_reads' HO_7.out).2.2 | (with_reducible refine Kd.C_alloc ?_ _) | (with_reducible refine Kd.C_drewN ?_ _) | (with_reducible refine Kd.C_drew ?_))); (case side2 => exact (Kd.R_reads' HO_7.out).2.1); rintro e w36 ⟨rfl, hb⟩; have n0_ := am (Kd.R_below (kqR HO_3.out) hb); have n1_ := am (Kd.R_below (kqR HO_7.out) hb); have n2_ := am (below_step (bq HB.out) hb); clear HO_3; clear HO_7; clear HB; have HO_3 := n0_; have HO_7 := n1_; have HB := n2_; clear n0_ n1_ n2_; (try clear hb); (try clear hb2); (try clear hk); (try clear hi)) | (go_at_call 32; (with_reducible refine (spec_Learn.calls k1 _ _ t351 t352 t353 t354 t366 _ ?side1 ?side2 A31.out).mono ?_); (case side1 => repeat (first | exact (Kd.R_reads' HO_3.out).2.2 | (with_reducible refine Kd.C_alloc ?_ _) | (with_reducible refine Kd.C_drewN ?_ _) | (with_reducible refine Kd.C_drew ?_))); (case side2 => exact (Kd.R_reads' HO_3.out).2.1); rintro e w37 ⟨v367, rfl, ho0, hb⟩; have n0_ := am (Kd.R_elder' (kqR HO_3.out) (Kd.R_base ho0) hb); have n1_ := am (Kd.R_elder' (kqR HO_7.out) (Kd.R_base ho0) hb); have n2_ := am (Kd.R_lower (Kd.R_new' (Kd.R_new' ho0 (Kd.R_lt (kqR HO_3.out))) (Kd.R_lt (kqR HO_7.out))) (below_size (bq HB.out))); have n3_ := am (below_step (bq HB.out) hb); clear HO_3; clear HO_7; clear HB; have HO_3 := n0_; have HO_7 := n1_; have HO368 := n2_; have HB := n3_; clear n0_ n1_ n2_ n3_; (try clear hb); (try clear hb2); (try clear hk); (try clear hi); (try clear ho0); obtain ⟨Ao38, co38, eo38⟩ := Kd.R_slice HO368.out; subst eo38) | (go_at_call 31; (with_reducible refine (laws_sameFdb.calls k1 _ _ t357 _ _ t366 true _ ?side1 ?side2 ?side3 ?side4 A32.out).mono ?_); (case side1 => repeat (first | exact (Kd.R_reads' HO_7.out).2.2 | (with_reducible refine Kd.C_alloc ?_ _) | (with_reducible refine Kd.C_drewN ?_ _) | (with_reducible refine Kd.C_drew ?_))); (case side2 => exact (Kd.R_reads' HO_7.out).2.1); (case side3 => repeat (first | exact (Kd.R_reads' HO368.out).2.2 | (with_reducible refine Kd.C_alloc ?_ _) | (with_reducible refine Kd.C_drewN ?_ _) | (with_reducible refine Kd.C_drew ?_))); (case side4 => exact (Kd.R_reads' HO368.out).2.1); rintro e w' ⟨rfl, ⟨nd, rfl⟩⟩))
                  go_ret
                  exact ⟨by first | rfl | (simp [errW_none, errW_some] <;> rfl) | (simp [*, errW_none, errW_some] <;> rfl), bq HB.out⟩
                · rw [if_neg c34] at H
                  have c34b0 : (t360 == t354) = false := beq_eq_false_iff_ne.mpr c34
                  have c34b1 : (t360 != t354) = true := bne_iff_ne.mpr c34
                  by_cases c39 : x9_1 = true
                  · subst c39
                    have H1 : ((impl_LookUp.f k1 t351 t352 t353).bind fun t370 => (if t360 = t370 then (some true) else (if t360 = (-1) then (some ((t351.length : Int) == 12)) else (some false)))) = some r := by rw [if_pos rfl] at H; exact H
                    clear H
                    have H := H1
                    clear H1
                    replace H := Option.bind_eq_some_iff.mp H
                    obtain ⟨t370, A400, H⟩ := H
                    replace H : (if t360 = t370 then (some true) else (if t360 = (-1) then (some ((t351.length : Int) == 12)) else (some false))) = some r := H
                    have A40 := am A400
                    clear A400
                    by_cases c41 : t360 = t370
                    · rw [if_pos c41] at H
                      have c41b0 : (t360 == t370) = true := beq_iff_eq.mpr c41
                      have c41b1 : (t360 != t370) = false := bne_eq_false_iff_eq.mpr c41
                      clear c41
                      obtain rfl := Option.some.inj H
                      go_wp2_with (first | ((with_reducible refine gate_callee (f := 30) rfl ?_); refine goesL_ (some 62) rfl rfl Try.func30 (by kernel_rfl) rfl #[.slice Ao8 t351.length co8] rfl (by (try simp only [List.map_toArray, List.map_cons, List.map_nil]); first | done | rfl | (simp only [List.length_drop, List.length_take]; rfl)) ?_; (with_reducible refine (impl_FdbOk.calls k1 _ _ t351 true _ ?side1 ?side2 A27.out).mono ?_); (case side1 => repeat (first | exact (Kd.R_reads' HO_3.out).2.2 | (with_reducible refine Kd.C_alloc ?_ _) | (with_reducible refine Kd.C_drewN ?_ _) | (with_reducible refine Kd.C_drew ?_))); (case side2 => exact (Kd.R_reads' HO_3.out).2.1); rintro e w42 ⟨rfl, hb⟩; refine ⟨_, rfl, ?_⟩; have n0_ := am (Kd.R_below (kqR HO_3.out) hb); have n1_ := am (Kd.R_below (kqR HO_7.out) hb); have n2_ := am (below_step (bq HB.out) hb); clear HO_3; clear HO_7; clear HB; have HO_3 := n0_; have HO_7 := n1_; have HB := n2_; clear n0_ n1_ n2_; (try clear hb); (try clear hb2); (try clear hk); (try clear hi)) | (go_at_call 30; (with_reducible refine (impl_FdbOk.calls k1 _ _ t357 true _ ?side1 ?side2 A29.out).mono ?_); (case side1 => repeat (first | exact (Kd.R_reads' HO_7.out).2.2 | (with_reducible refine Kd.C_alloc ?_ _) | (with_reducible refine Kd.C_drewN ?_ _) | (with_reducible refine Kd.C_drew ?_))); (case side2 => exact (Kd.R_reads' HO_7.out).2.1); rintro e w43 ⟨rfl, hb⟩; have n0_ := am (Kd.R_below (kqR HO_3.out) hb); have n1_ := am (Kd.R_below (kqR HO_7.out) hb); have n2_ := am (below_step (bq HB.out) hb); clear HO_3; clear HO_7; clear HB; have HO_3 := n0_; have HO_7 := n1_; have HB := n2_; clear n0_ n1_ n2_; (try clear hb); (try clear hb2); (try clear hk); (try clear hi)) | (go_at_call 32; (with_reducible refine (spec_Learn.calls k1 _ _ t351 t352 t353 t354 t366 _ ?side1 ?side2 A31.out).mono ?_); (case side1 => repeat (first | exact (Kd.R_reads' HO_3.out).2.2 | (with_reducible refine Kd.C_alloc ?_ _) | (with_reducible refine Kd.C_drewN ?_ _) | (with_reducible refine Kd.C_drew ?_))); (case side2 => exact (Kd.R_reads' HO_3.out).2.1); rintro e w44 ⟨v367, rfl, ho0, hb⟩; have n0_ := am (Kd.R_elder' (kqR HO_3.out) (Kd.R_base ho0) hb); have n1_ := am (Kd.R_elder' (kqR HO_7.out) (Kd.R_base ho0) hb); have n2_ := am (Kd.R_lower (Kd.R_new' (Kd.R_new' ho0 (Kd.R_lt (kqR HO_3.out))) (Kd.R_lt (kqR HO_7.out))) (below_size (bq HB.out))); have n3_ := am (below_step (bq HB.out) hb); clear HO_3; clear HO_7; clear HB; have HO_3 := n0_; have HO_7 := n1_; have HO368 := n2_; have HB := n3_; clear n0_ n1_ n2_ n3_; (try clear hb); (try clear hb2); (try clear hk); (try clear hi); (try clear ho0); obtain ⟨Ao45, co45, eo45⟩ := Kd.R_slice HO368.out; subst eo45) | (go_at_call 31; (with_reducible refine (laws_sameFdb.calls k1 _ _ t357 _ _ t366 true _ ?side1 ?side2 ?side3 ?side4 A32.out).mono ?_); (case side1 => repeat (first | exact (Kd.R_reads' HO_7.out).2.2 | (with_reducible refine Kd.C_alloc ?_ _) | (with_reducible refine Kd.C_drewN ?_ _) | (with_reducible refine Kd.C_drew ?_))); (case side2 => exact (Kd.R_reads' HO_7.out).2.1); (case side3 => repeat (first | exact (Kd.R_reads' HO368.out).2.2 | (with_reducible refine Kd.C_alloc ?_ _) | (with_reducible refine Kd.C_drewN ?_ _) | (with_reducible refine Kd.C_drew ?_))); (case side4 => exact (Kd.R_reads' HO368.out).2.1); rintro e w' ⟨rfl, ⟨nd, rfl⟩⟩) | (go_at_call 29; (with_reducible refine (impl_LookUp.calls k1 _ _ t351 t352 t353 t370 _ ?side1 ?side2 A40.out).mono ?_); (case side1 => repeat (first | exact (Kd.R_reads' HO_3.out).2.2 | (with_reducible refine Kd.C_alloc ?_ _) | (with_reducible refine Kd.C_drewN ?_ _) | (with_reducible refine Kd.C_drew ?_))); (case side2 => exact (Kd.R_reads' HO_3.out).2.1); rintro e w46 ⟨rfl, hb⟩; have n0_ := am (Kd.R_below (kqR HO_3.out) hb); have n1_ := am (Kd.R_below (kqR HO_7.out) hb); have n2_ := am (Kd.R_below (kqR HO368.out) hb); have n3_ := am (below_step (bq HB.out) hb); clear HO_3; clear HO_7; clear HO368; clear HB; have HO_3 := n0_; have HO_7 := n1_; have HO368 := n2_; have HB := n3_; clear n0_ n1_ n2_ n3_; (try clear hb); (try clear hb2); (try clear hk); (try clear hi)))
                      go_ret
                      exact ⟨by first | rfl | (simp [errW_none, errW_some] <;> rfl) | (simp [*, errW_none, errW_some] <;> rfl), bq HB.out⟩
                    · rw [if_neg c41] at H
                      have c41b0 : (t360 == t370) = false := beq_eq_false_iff_ne.mpr c41
                      have c41b1 : (t360 != t370) = true := bne_iff_ne.mpr c41
                      by_cases c47 : t360 = (-1)
                      · rw [if_pos c47] at H
                        have c47b0 : (t360 == (-1)) = true := beq_iff_eq.mpr c47
                        have c47b1 : (t360 != (-1)) = false := bne_eq_false_iff_eq.mpr c47
                        clear c47
                        obtain rfl := Option.some.inj H
                        go_wp2_with (first | ((with_reducible refine gate_callee (f := 30) rfl ?_); refine goesL_ (some 62) rfl rfl Try.func30 (by kernel_rfl) rfl #[.slice Ao8 t351.length co8] rfl (by (try simp only [List.map_toArray, List.map_cons, List.map_nil]); first | done | rfl | (simp only [List.length_drop, List.length_take]; rfl)) ?_; (with_reducible refine (impl_FdbOk.calls k1 _ _ t351 true _ ?side1 ?side2 A27.out).mono ?_); (case side1 => repeat (first | exact (Kd.R_reads' HO_3.out).2.2 | (with_reducible refine Kd.C_alloc ?_ _) | (with_reducible refine Kd.C_drewN ?_ _) | (with_reducible refine Kd.C_drew ?_))); (case side2 => exact (Kd.R_reads' HO_3.out).2.1); rintro e w48 ⟨rfl, hb⟩; refine ⟨_, rfl, ?_⟩; have n0_ := am (Kd.R_below (kqR HO_3.out) hb); have n1_ := am (Kd.R_below (kqR HO_7.out) hb); have n2_ := am (below_step (bq HB.out) hb); clear HO_3; clear HO_7; clear HB; have HO_3 := n0_; have HO_7 := n1_; have HB := n2_; clear n0_ n1_ n2_; (try clear hb); (try clear hb2); (try clear hk); (try clear hi)) | (go_at_call 30; (with_reducible refine (impl_FdbOk.calls k1 _ _ t357 true _ ?side1 ?side2 A29.out).mono ?_); (case side1 => repeat (first | exact (Kd.R_reads' HO_7.out).2.2 | (with_reducible refine Kd.C_alloc ?_ _) | (with_reducible refine Kd.C_drewN ?_ _) | (with_reducible refine Kd.C_drew ?_))); (case side2 => exact (Kd.R_reads' HO_7.out).2.1); rintro e w49 ⟨rfl, hb⟩; have n0_ := am (Kd.R_below (kqR HO_3.out) hb); have n1_ := am (Kd.R_below (kqR HO_7.out) hb); have n2_ := am (below_step (bq HB.out) hb); clear HO_3; clear HO_7; clear HB; have HO_3 := n0_; have HO_7 := n1_; have HB := n2_; clear n0_ n1_ n2_; (try clear hb); (try clear hb2); (try clear hk); (try clear hi)) | (go_at_call 32; (with_reducible refine (spec_Learn.calls k1 _ _ t351 t352 t353 t354 t366 _ ?side1 ?side2 A31.out).mono ?_); (case side1 => repeat (first | exact (Kd.R_reads' HO_3.out).2.2 | (with_reducible refine Kd.C_alloc ?_ _) | (with_reducible refine Kd.C_drewN ?_ _) | (with_reducible refine Kd.C_drew ?_))); (case side2 => exact (Kd.R_reads' HO_3.out).2.1); rintro e w50 ⟨v367, rfl, ho0, hb⟩; have n0_ := am (Kd.R_elder' (kqR HO_3.out) (Kd.R_base ho0) hb); have n1_ := am (Kd.R_elder' (kqR HO_7.out) (Kd.R_base ho0) hb); have n2_ := am (Kd.R_lower (Kd.R_new' (Kd.R_new' ho0 (Kd.R_lt (kqR HO_3.out))) (Kd.R_lt (kqR HO_7.out))) (below_size (bq HB.out))); have n3_ := am (below_step (bq HB.out) hb); clear HO_3; clear HO_7; clear HB; have HO_3 := n0_; have HO_7 := n1_; have HO368 := n2_; have HB := n3_; clear n0_ n1_ n2_ n3_; (try clear hb); (try clear hb2); (try clear hk); (try clear hi); (try clear ho0); obtain ⟨Ao51, co51, eo51⟩ := Kd.R_slice HO368.out; subst eo51) | (go_at_call 31; (with_reducible refine (laws_sameFdb.calls k1 _ _ t357 _ _ t366 true _ ?side1 ?side2 ?side3 ?side4 A32.out).mono ?_); (case side1 => repeat (first | exact (Kd.R_reads' HO_7.out).2.2 | (with_reducible refine Kd.C_alloc ?_ _) | (with_reducible refine Kd.C_drewN ?_ _) | (with_reducible refine Kd.C_drew ?_))); (case side2 => exact (Kd.R_reads' HO_7.out).2.1); (case side3 => repeat (first | exact (Kd.R_reads' HO368.out).2.2 | (with_reducible refine Kd.C_alloc ?_ _) | (with_reducible refine Kd.C_drewN ?_ _) | (with_reducible refine Kd.C_drew ?_))); (case side4 => exact (Kd.R_reads' HO368.out).2.1); rintro e w' ⟨rfl, ⟨nd, rfl⟩⟩) | (go_at_call 29; (with_reducible refine (impl_LookUp.calls k1 _ _ t351 t352 t353 t370 _ ?side1 ?side2 A40.out).mono ?_); (case side1 => repeat (first | exact (Kd.R_reads' HO_3.out).2.2 | (with_reducible refine Kd.C_alloc ?_ _) | (with_reducible refine Kd.C_drewN ?_ _) | (with_reducible refine Kd.C_drew ?_))); (case side2 => exact (Kd.R_reads' HO_3.out).2.1); rintro e w52 ⟨rfl, hb⟩; have n0_ := am (Kd.R_below (kqR HO_3.out) hb); have n1_ := am (Kd.R_below (kqR HO_7.out) hb); have n2_ := am (Kd.R_below (kqR HO368.out) hb); have n3_ := am (below_step (bq HB.out) hb); clear HO_3; clear HO_7; clear HO368; clear HB; have HO_3 := n0_; have HO_7 := n1_; have HO368 := n2_; have HB := n3_; clear n0_ n1_ n2_ n3_; (try clear hb); (try clear hb2); (try clear hk); (try clear hi)))
                        go_ret
                        exact ⟨by first | rfl | (simp [errW_none, errW_some] <;> rfl) | (simp [*, errW_none, errW_some] <;> rfl), bq HB.out⟩
                      · rw [if_neg c47] at H
                        have c47b0 : (t360 == (-1)) = false := beq_eq_false_iff_ne.mpr c47
                        have c47b1 : (t360 != (-1)) = true := bne_iff_ne.mpr c47
                        exact absurd ((Option.some.inj H).trans HRT.out) (by decide)
                  · replace c39 := Bool.eq_false_iff.mpr c39
                    subst c39
                    have H1 : (if t360 = (-1) then (some ((t351.length : Int) == 12)) else (some false)) = some r := by rw [if_neg (show ¬ (false = true) by decide)] at H; exact H
                    clear H
                    have H := H1
                    clear H1
                    by_cases c53 : t360 = (-1)
                    · rw [if_pos c53] at H
                      have c53b0 : (t360 == (-1)) = true := beq_iff_eq.mpr c53
                      have c53b1 : (t360 != (-1)) = false := bne_eq_false_iff_eq.mpr c53
                      clear c53
                      obtain rfl := Option.some.inj H
                      go_wp2_with (first | ((with_reducible refine gate_callee (f := 30) rfl ?_); refine goesL_ (some 62) rfl rfl Try.func30 (by kernel_rfl) rfl #[.slice Ao8 t351.length co8] rfl (by (try simp only [List.map_toArray, List.map_cons, List.map_nil]); first | done | rfl | (simp only [List.length_drop, List.length_take]; rfl)) ?_; (with_reducible refine (impl_FdbOk.calls k1 _ _ t351 true _ ?side1 ?side2 A27.out).mono ?_); (case side1 => repeat (first | exact (Kd.R_reads' HO_3.out).2.2 | (with_reducible refine Kd.C_alloc ?_ _) | (with_reducible refine Kd.C_drewN ?_ _) | (with_reducible refine Kd.C_drew ?_))); (case side2 => exact (Kd.R_reads' HO_3.out).2.1); rintro e w54 ⟨rfl, hb⟩; refine ⟨_, rfl, ?_⟩; have n0_ := am (Kd.R_below (kqR HO_3.out) hb); have n1_ := am (Kd.R_below (kqR HO_7.out) hb); have n2_ := am (below_step (bq HB.out) hb); clear HO_3; clear HO_7; clear HB; have HO_3 := n0_; have HO_7 := n1_; have HB := n2_; clear n0_ n1_ n2_; (try clear hb); (try clear hb2); (try clear hk); (try clear hi)) | (go_at_call 30; (with_reducible refine (impl_FdbOk.calls k1 _ _ t357 true _ ?side1 ?side2 A29.out).mono ?_); (case side1 => repeat (first | exact (Kd.R_reads' HO_7.out).2.2 | (with_reducible refine Kd.C_alloc ?_ _) | (with_reducible refine Kd.C_drewN ?_ _) | (with_reducible refine Kd.C_drew ?_))); (case side2 => exact (Kd.R_reads' HO_7.out).2.1); rintro e w55 ⟨rfl, hb⟩; have n0_ := am (Kd.R_below (kqR HO_3.out) hb); have n1_ := am (Kd.R_below (kqR HO_7.out) hb); have n2_ := am (below_step (bq HB.out) hb); clear HO_3; clear HO_7; clear HB; have HO_3 := n0_; have HO_7 := n1_; have HB := n2_; clear n0_ n1_ n2_; (try clear hb); (try clear hb2); (try clear hk); (try clear hi)) | (go_at_call 32; (with_reducible refine (spec_Learn.calls k1 _ _ t351 t352 t353 t354 t366 _ ?side1 ?side2 A31.out).mono ?_); (case side1 => repeat (first | exact (Kd.R_reads' HO_3.out).2.2 | (with_reducible refine Kd.C_alloc ?_ _) | (with_reducible refine Kd.C_drewN ?_ _) | (with_reducible refine Kd.C_drew ?_))); (case side2 => exact (Kd.R_reads' HO_3.out).2.1); rintro e w56 ⟨v367, rfl, ho0, hb⟩; have n0_ := am (Kd.R_elder' (kqR HO_3.out) (Kd.R_base ho0) hb); have n1_ := am (Kd.R_elder' (kqR HO_7.out) (Kd.R_base ho0) hb); have n2_ := am (Kd.R_lower (Kd.R_new' (Kd.R_new' ho0 (Kd.R_lt (kqR HO_3.out))) (Kd.R_lt (kqR HO_7.out))) (below_size (bq HB.out))); have n3_ := am (below_step (bq HB.out) hb); clear HO_3; clear HO_7; clear HB; have HO_3 := n0_; have HO_7 := n1_; have HO368 := n2_; have HB := n3_; clear n0_ n1_ n2_ n3_; (try clear hb); (try clear hb2); (try clear hk); (try clear hi); (try clear ho0); obtain ⟨Ao57, co57, eo57⟩ := Kd.R_slice HO368.out; subst eo57) | (go_at_call 31; (with_reducible refine (laws_sameFdb.calls k1 _ _ t357 _ _ t366 true _ ?side1 ?side2 ?side3 ?side4 A32.out).mono ?_); (case side1 => repeat (first | exact (Kd.R_reads' HO_7.out).2.2 | (with_reducible refine Kd.C_alloc ?_ _) | (with_reducible refine Kd.C_drewN ?_ _) | (with_reducible refine Kd.C_drew ?_))); (case side2 => exact (Kd.R_reads' HO_7.out).2.1); (case side3 => repeat (first | exact (Kd.R_reads' HO368.out).2.2 | (with_reducible refine Kd.C_alloc ?_ _) | (with_reducible refine Kd.C_drewN ?_ _) | (with_reducible refine Kd.C_drew ?_))); (case side4 => exact (Kd.R_reads' HO368.out).2.1); rintro e w' ⟨rfl, ⟨nd, rfl⟩⟩))
                      go_ret
                      exact ⟨by first | rfl | (simp [errW_none, errW_some] <;> rfl) | (simp [*, errW_none, errW_some] <;> rfl), bq HB.out⟩
                    · rw [if_neg c53] at H
                      have c53b0 : (t360 == (-1)) = false := beq_eq_false_iff_ne.mpr c53
                      have c53b1 : (t360 != (-1)) = true := bne_iff_ne.mpr c53
                      exact absurd ((Option.some.inj H).trans HRT.out) (by decide)
              · replace c33 := Bool.eq_false_iff.mpr c33
                subst c33
                have H1 : (some false) = some r := by rw [if_neg (show ¬ (false = true) by decide)] at H; exact H
                clear H
                have H := H1
                clear H1
                exact absurd ((Option.some.inj H).trans HRT.out) (by decide)
            · replace c30 := Bool.eq_false_iff.mpr c30
              subst c30
              have H1 : (some false) = some r := by rw [if_neg (show ¬ (false = true) by decide)] at H; exact H
              clear H
              have H := H1
              clear H1
              exact absurd ((Option.some.inj H).trans HRT.out) (by decide)
          · replace c28 := Bool.eq_false_iff.mpr c28
            subst c28
            have H1 : (some false) = some r := by rw [if_neg (show ¬ (false = true) by decide)] at H; exact H
            clear H
            have H := H1
            clear H1
            exact absurd ((Option.some.inj H).trans HRT.out) (by decide)

/-- THE ONE PURE STATEMENT of laws_FnLearns. -/
def laws_FnLearns.Pure : Prop := ∀ (l0 : List Int), l0.length ≤ maxLen → (∀ y ∈ l0, (Lit.int .u8 y).wf = true) → ∃ k, laws_FnLearns.f k l0 = some true

end Go.Proofs.Ytebffdmkfkfoaaa.XFnLearns
