/- The functions that one law reaches, as Lean functions, with their walks: printed by a program of this seat (wip/tools) out of the translation. -/
import Derived.Test.YthhnfmbfgplelaaXFnValsx0
namespace Go.Proofs.Ythhnfmbfgplelaa.XFnVals
open Go.RowKit Go.Proofs.YthhnfmbfgplelaaW.PrintWords Go.Proofs.YthhnfmbfgplelaaW.PrintLast Go.Proofs.YthhnfmbfgplelaaW.PrintMore
attribute [local go_sem] max2_int min2_int max_two min_two max_three min_three max_four min_four   -- for this text's walks alone
set_option linter.unusedVariables false
set_option linter.unusedSimpArgs false
mutual
def spec_GetTlv.j0 : Nat → List Int → Int → Bool → Option (Int × List Int × Int × Bool)
 | 0, _, _, _ => none
 | k + 1, x0, x1, x24 => if x24 = true then (some (0, (([] : List Int)), 0, false)) else (if 0 ≤ (wrap64 (x1 + 1)) then (if (wrap64 (x1 + 1)) < (x0.length : Int) then (if (wrap64 (rd x0 (wrap64 (x1 + 1)))) > 127 then (if (wrap64 (rd x0 (wrap64 (x1 + 1)))) = 129 then (if (wrap64 (x1 + 2)) ≥ (x0.length : Int) then (spec_GetTlv.j1 k x0 x1 (wrap64 (x1 + 2)) true) else (if 0 ≤ (wrap64 (x1 + 2)) then (if (wrap64 (x1 + 2)) < (x0.length : Int) then (spec_GetTlv.j1 k x0 x1 (wrap64 (x1 + 2)) (decide ((rd x0 (wrap64 (x1 + 2))) < 128))) else (none)) else (none))) else (spec_GetTlv.j1 k x0 x1 (wrap64 (x1 + 2)) true)) else (if (wrap64 (rd x0 (wrap64 (x1 + 1)))) > 250 then (some (0, (([] : List Int)), 0, false)) else (if (wrap64 (rd x0 (wrap64 (x1 + 1)))) > (wrap64 ((x0.length : Int) - (wrap64 (x1 + 2)))) then (some (0, (([] : List Int)), 0, false)) else (if 0 ≤ x1 then (if x1 < (x0.length : Int) then ((some (([] : List Int) : List Int)).bind fun y228 => (if 0 ≤ (wrap64 (x1 + 2)) then (if (wrap64 (x1 + 2)) ≤ (wrap64 ((wrap64 (x1 + 2)) + (wrap64 (rd x0 (wrap64 (x1 + 1)))))) then (if (wrap64 ((wrap64 (x1 + 2)) + (wrap64 (rd x0 (wrap64 (x1 + 1)))))) ≤ (x0.length : Int) then (if y228.length + ((x0.take ((wrap64 ((wrap64 (x1 + 2)) + (wrap64 (rd x0 (wrap64 (x1 + 1)))))) : Int).toNat).drop ((wrap64 (x1 + 2)) : Int).toNat).length < 140737488355328 then (some (wrap64 (rd x0 x1), (y228 ++ ((x0.take ((wrap64 ((wrap64 (x1 + 2)) + (wrap64 (rd x0 (wrap64 (x1 + 1)))))) : Int).toNat).drop ((wrap64 (x1 + 2)) : Int).toNat)), wrap64 ((wrap64 (x1 + 2)) + (wrap64 (rd x0 (wrap64 (x1 + 1))))), true)) else (none)) else (none)) else (none)) else (none))) else (none)) else (none))))) else (none)) else (none))
def spec_GetTlv.j1 : Nat → List Int → Int → Int → Bool → Option (Int × List Int × Int × Bool)
 | 0, _, _, _, _ => none
 | k + 1, x0, x1, x9, x50 => if x50 = true then (some (0, (([] : List Int)), 0, false)) else (if 0 ≤ x9 then (if x9 < (x0.length : Int) then (if (wrap64 (rd x0 x9)) > 250 then (some (0, (([] : List Int)), 0, false)) else (if (wrap64 (rd x0 x9)) > (wrap64 ((x0.length : Int) - (wrap64 (x9 + 1)))) then (some (0, (([] : List Int)), 0, false)) else (if 0 ≤ x1 then (if x1 < (x0.length : Int) then ((some (([] : List Int) : List Int)).bind fun y214 => (if 0 ≤ (wrap64 (x9 + 1)) then (if (wrap64 (x9 + 1)) ≤ (wrap64 ((wrap64 (x9 + 1)) + (wrap64 (rd x0 x9)))) then (if (wrap64 ((wrap64 (x9 + 1)) + (wrap64 (rd x0 x9)))) ≤ (x0.length : Int) then (if y214.length + ((x0.take ((wrap64 ((wrap64 (x9 + 1)) + (wrap64 (rd x0 x9)))) : Int).toNat).drop ((wrap64 (x9 + 1)) : Int).toNat).length < 140737488355328 then (some (wrap64 (rd x0 x1), (y214 ++ ((x0.take ((wrap64 ((wrap64 (x9 + 1)) + (wrap64 (rd x0 x9)))) : Int).toNat).drop ((wrap64 (x9 + 1)) : Int).toNat)), wrap64 ((wrap64 (x9 + 1)) + (wrap64 (rd x0 x9))), true)) else (none)) else (none)) else (none)) else (none))) else (none)) else (none)))) else (none)) else (none))
end
def spec_GetTlv.f (k : Nat) (l0 : List Int) (a1 : Int) : Option (Int × List Int × Int × Bool) := if a1 < 0 then (spec_GetTlv.j0 k l0 a1 true) else (if a1 ≥ (l0.length : Int) then (spec_GetTlv.j0 k l0 a1 true) else (spec_GetTlv.j0 k l0 a1 (decide ((wrap64 (a1 + 1)) ≥ (l0.length : Int)))))
theorem spec_GetTlv.mono_l : ∀ k, (∀ y0 y1 y2, LeO (spec_GetTlv.j0 k y0 y1 y2) (spec_GetTlv.j0 (k + 1) y0 y1 y2)) ∧ (∀ y0 y1 y2 y3, LeO (spec_GetTlv.j1 k y0 y1 y2 y3) (spec_GetTlv.j1 (k + 1) y0 y1 y2 y3))
 | 0 => ⟨fun _ _ _ r h => by simp [spec_GetTlv.j0] at h, fun _ _ _ _ r h => by simp [spec_GetTlv.j1] at h⟩
 | k + 1 => by
  obtain ⟨ih0, ih1⟩ := spec_GetTlv.mono_l k
  refine ⟨?_, ?_⟩
  · intro y0 y1 y2
    unfold spec_GetTlv.j0
    repeat' first
    | (with_reducible exact ih0 _ _ _)
    | (with_reducible exact ih1 _ _ _ _)
    | (with_reducible exact LeO.refl _)
    | (with_reducible exact LeO.none _)
    | (with_reducible refine LeO.ite ?_ ?_)
    | (with_reducible refine LeO.bind ?_ (fun _ => ?_))
    | exact ih0 _ _ _
    | exact ih1 _ _ _ _
    | exact LeO.none _
    | refine LeO.ite ?_ ?_
    | refine LeO.bind ?_ (fun _ => ?_)
  intro y0 y1 y2 y3
  unfold spec_GetTlv.j1
  repeat' first
  | (with_reducible exact ih0 _ _ _)
  | (with_reducible exact ih1 _ _ _ _)
  | (with_reducible exact LeO.refl _)
  | (with_reducible exact LeO.none _)
  | (with_reducible refine LeO.ite ?_ ?_)
  | (with_reducible refine LeO.bind ?_ (fun _ => ?_))
  | exact ih0 _ _ _
  | exact ih1 _ _ _ _
  | exact LeO.none _
  | refine LeO.ite ?_ ?_
  | refine LeO.bind ?_ (fun _ => ?_)
theorem spec_GetTlv.mono : ∀ a0 a1 k, LeO (spec_GetTlv.f k a0 a1) (spec_GetTlv.f (k + 1) a0 a1) := by
 intro a0 a1 k
 obtain ⟨ih0, ih1⟩ := spec_GetTlv.mono_l k
 unfold spec_GetTlv.f
 repeat' first
  | (with_reducible exact ih0 _ _ _)
  | (with_reducible exact ih1 _ _ _ _)
  | (with_reducible exact LeO.refl _)
  | (with_reducible exact LeO.none _)
  | (with_reducible refine LeO.ite ?_ ?_)
  | (with_reducible refine LeO.bind ?_ (fun _ => ?_))
  | exact ih0 _ _ _
  | exact ih1 _ _ _ _
  | exact LeO.none _
  | refine LeO.ite ?_ ?_
  | refine LeO.bind ?_ (fun _ => ?_)
def spec_GetTlv.T12 : Bool × List (List Nat × List Nat) := (true, [([], []), ([], []), ([0, 1], [0, 1]), ([2], [2]), ([3], [3]), ([], []), ([], []), ([], []), ([], []), ([], []), ([8, 9], [8, 9]), ([6, 7, 10], [6, 7, 10]), ([5, 11], [5, 11]), ([], []), ([], []), ([13, 14], [13, 14]), ([4, 12, 0, 1, 2, 3, 4], [4]), ([12, 16, 0, 1, 2, 3, 4, 5, 6, 7, 8, 9, 10, 11, 12, 16], [12]), ([15, 17, 0, 1, 2, 3, 4, 5, 6, 7, 8, 9, 10, 11, 12, 13, 14, 15, 16, 17], [15]), ([18, 0, 1, 2, 3, 4, 5, 6, 7, 8, 9, 10, 11, 12, 13, 14, 15, 16, 17, 18], [])])
def spec_GetTlv.B12 : List Nat := [0, 0, 3, 7, 15, 0, 0, 0, 0, 0, 768, 1984, 4064, 0, 0, 24576, 8191, 73727, 262143, 524287]
theorem spec_GetTlv.tab12 : rtab .any (opsOf Try.f84 12) = spec_GetTlv.T12 := by kernel_rfl
theorem spec_GetTlv.bits12 : waitsOk spec_GetTlv.T12.2 spec_GetTlv.B12 = true := by kernel_rfl
set_option maxHeartbeats 8000000 in
set_option maxRecDepth 100000 in
theorem spec_GetTlv.calls (k : Nat) (A0 : Option Addr) (c0 : Nat) (l0 : List Int) (a1 : Int) (r1 : Int) (r2 : List Int) (r3 : Int) (r4 : Bool) (w : World) (hr0 : Kd.C (Kd.int .u8) w A0 l0.length l0) (hc0 : l0.length ≤ c0) (h : spec_GetTlv.f k l0 a1 = some (r1, r2, r3, r4)) :
 Calls Try.prog 84 #[.slice A0 l0.length c0, .int .i64 a1] w fun e w' => ∃ v1_ : Value, e = .returned (.tuple #[.int .i64 r1, v1_, .int .i64 r3, .bool r4]) ∧ Kd.R (Kd.int .u8) 5 w' w.heap.size (fun _ => True) v1_ r2 ∧ Below w.heap.size w w' := by
 have HR0 := am hr0
 have HC0 := am hc0
 clear hr0 hc0
 have HB := am (Below.refl w.heap.size w)
 have H : (if a1 < 0 then (spec_GetTlv.j0 k l0 a1 true) else (if a1 ≥ (l0.length : Int) then (spec_GetTlv.j0 k l0 a1 true) else (spec_GetTlv.j0 k l0 a1 (decide ((wrap64 (a1 + 1)) ≥ (l0.length : Int)))))) = some (r1, r2, r3, r4) := h
 clear h
 have HC3 := am H
 clear H
 go_enter Try.func84, Try.ntmps84
 go_upto_region 1 with (fail)
 go_cut [24] (fun v24 wc => ∃ (kq : Nat) (x24_2 : Bool), v24 = .bool x24_2 ∧ Aside0 (spec_GetTlv.j0 kq l0 a1 x24_2 = some (r1, r2, r3, r4)) ∧ Aside0 (kq ≤ k) ∧ Aside0 (Below w.heap.size w wc))
 case first =>
  have H := HC3.out
  clear HC3
  by_cases c4 : a1 < 0
  · rw [if_pos c4] at H
    have c4b0 : decide (a1 < 0) = true := decide_eq_true c4
    clear c4
    (first | rw [c4b0] | (simp only [i64_w, i32_w]; rw [c4b0]) | skip)
    have H' := am H
    clear H
    go_wp2
    go_meet
    case rel => exact ⟨_, (true), sq, H', ⟨by first | omega | exact Nat.le_refl _⟩, ⟨bq HB.out⟩⟩
  rw [if_neg c4] at H
  have c4b0 : decide (a1 < 0) = false := decide_eq_false c4
  clear c4
  (first | rw [c4b0] | (simp only [i64_w, i32_w]; rw [c4b0]) | skip)
  by_cases c5 : a1 ≥ (l0.length : Int)
  · rw [if_pos c5] at H
    have c5b0 : decide ((l0.length : Int) ≤ a1) = true := decide_eq_true c5
    clear c5
    have H' := am H
    clear H
    go_wp2
    go_meet
    case rel => exact ⟨_, (true), sq, H', ⟨by first | omega | exact Nat.le_refl _⟩, ⟨bq HB.out⟩⟩
  rw [if_neg c5] at H
  have c5b0 : decide ((l0.length : Int) ≤ a1) = false := decide_eq_false c5
  clear c5
  have H' := am H
  clear H
  go_wp2
  go_meet
  case rel => exact ⟨_, (decide ((wrap64 (a1 + 1)) ≥ (l0.length : Int))), sq, H', ⟨by first | omega | exact Nat.le_refl _⟩, ⟨bq HB.out⟩⟩
 case rest =>
  clear HC3
  try clear p2
  try clear c4
  try clear c4b0
  try clear c5
  try clear c5b0
  obtain ⟨kq, x24_2, rfl, HA, HJ2, HB⟩ := hcut
  cases kq with
  | zero => exact absurd HA.out (by simp [spec_GetTlv.j0])
  | succ kj2 =>
   have H := HA.out
   clear HA
   simp only [spec_GetTlv.j0] at H
   by_cases c6 : x24_2 = true
   · subst c6
     replace H : (some (0, (([] : List Int)), 0, false)) = some (r1, r2, r3, r4) := by rw [if_pos rfl] at H; exact H
     obtain ⟨y198, hy198⟩ : ∃ y_ : List Int, y_ = (([] : List Int)) := ⟨_, rfl⟩
     replace H : (some (0, y198, 0, false)) = some (r1, r2, r3, r4) := hx H hy198
     have Ny198 := am hy198
     clear hy198
     simp only [Option.some.injEq, Prod.mk.injEq] at H
     obtain ⟨rfl, rfl, rfl, rfl⟩ := H
     go_wp2_with (first | ((with_reducible refine gate_dst (N := 25) rfl ?_); (try (refine gate_guard (by rfl) ?_; dsimp only)); refine Kd.R_lit (Kd.int .u8) _ 5 ?hg (N := 25) ?hd (xs := ([] : List Int)) (inner := []) (ok := fun _ => True) (okp := fun _ => True) ?hr ?hp (fun _ hk => hk) trivial (Below.refl _ _) (Nat.le_refl _) (by simp) ?_; (case hd => rfl); (case hg => rfl); (case hr => exact gs); (case hp => exact (Reps.none _ _)); intro v199 w7 ho8 hb hg_ hnew_; clear hg_ hnew_; (first | rw [← Ny198.out] at ho8 | (simp only [Int.reduceToNat] at ho8; rw [← Ny198.out] at ho8)); have n_ := ak2 (Kd.R_lower ho8 (below_size (bq HB.out))) (below_step (bq HB.out) hb); clear HB; obtain ⟨HO200, HB⟩ := n_; clear hb ho8))
     refine bodyPost_ret (results_list (rs := [.tmp 4, .tmp 5, .tmp 6, .tmp 7]) rfl (by simp) (.tmp (.tmp (.tmp (.tmp .nil))))) rfl ?_
     exact ⟨_, rq, kqR HO200.out, bq HB.out⟩
   replace c6 := Bool.eq_false_iff.mpr c6
   subst c6
   replace H : (if 0 ≤ (wrap64 (a1 + 1)) then (if (wrap64 (a1 + 1)) < (l0.length : Int) then (if (wrap64 (rd l0 (wrap64 (a1 + 1)))) > 127 then (if (wrap64 (rd l0 (wrap64 (a1 + 1)))) = 129 then (if (wrap64 (a1 + 2)) ≥ (l0.length : Int) then (spec_GetTlv.j1 kj2 l0 a1 (wrap64 (a1 + 2)) true) else (if 0 ≤ (wrap64 (a1 + 2)) then (if (wrap64 (a1 + 2)) < (l0.length : Int) then (spec_GetTlv.j1 kj2 l0 a1 (wrap64 (a1 + 2)) (decide ((rd l0 (wrap64 (a1 + 2))) < 128))) else (none)) else (none))) else (spec_GetTlv.j1 kj2 l0 a1 (wrap64 (a1 + 2)) true)) else (if (wrap64 (rd l0 (wrap64 (a1 + 1)))) > 250 then (some (0, (([] : List Int)), 0, false)) else (if (wrap64 (rd l0 (wrap64 (a1 + 1)))) > (wrap64 ((l0.length : Int) - (wrap64 (a1 + 2)))) then (some (0, (([] : List Int)), 0, false)) else (if 0 ≤ a1 then (if a1 < (l0.length : Int) then ((some (([] : List Int) : List Int)).bind fun y228 => (if 0 ≤ (wrap64 (a1 + 2)) then (if (wrap64 (a1 + 2)) ≤ (wrap64 ((wrap64 (a1 + 2)) + (wrap64 (rd l0 (wrap64 (a1 + 1)))))) then (if (wrap64 ((wrap64 (a1 + 2)) + (wrap64 (rd l0 (wrap64 (a1 + 1)))))) ≤ (l0.length : Int) then (if y228.length + ((l0.take ((wrap64 ((wrap64 (a1 + 2)) + (wrap64 (rd l0 (wrap64 (a1 + 1)))))) : Int).toNat).drop ((wrap64 (a1 + 2)) : Int).toNat).length < 140737488355328 then (some (wrap64 (rd l0 a1), (y228 ++ ((l0.take ((wrap64 ((wrap64 (a1 + 2)) + (wrap64 (rd l0 (wrap64 (a1 + 1)))))) : Int).toNat).drop ((wrap64 (a1 + 2)) : Int).toNat)), wrap64 ((wrap64 (a1 + 2)) + (wrap64 (rd l0 (wrap64 (a1 + 1))))), true)) else (none)) else (none)) else (none)) else (none))) else (none)) else (none))))) else (none)) else (none)) = some (r1, r2, r3, r4) := by rw [if_neg (show ¬ (false = true) by decide)] at H; exact H
   obtain ⟨ji9, hji9⟩ : ∃ j_ : Int, (wrap64 (a1 + 1)) = j_ := ⟨_, rfl⟩
   replace H : (if 0 ≤ (ji9) then (if (ji9) < (l0.length : Int) then (if (wrap64 (rd l0 (ji9))) > 127 then (if (wrap64 (rd l0 (ji9))) = 129 then (if (wrap64 (a1 + 2)) ≥ (l0.length : Int) then (spec_GetTlv.j1 kj2 l0 a1 (wrap64 (a1 + 2)) true) else (if 0 ≤ (wrap64 (a1 + 2)) then (if (wrap64 (a1 + 2)) < (l0.length : Int) then (spec_GetTlv.j1 kj2 l0 a1 (wrap64 (a1 + 2)) (decide ((rd l0 (wrap64 (a1 + 2))) < 128))) else (none)) else (none))) else (spec_GetTlv.j1 kj2 l0 a1 (wrap64 (a1 + 2)) true)) else (if (wrap64 (rd l0 (ji9))) > 250 then (some (0, (([] : List Int)), 0, false)) else (if (wrap64 (rd l0 (ji9))) > (wrap64 ((l0.length : Int) - (wrap64 (a1 + 2)))) then (some (0, (([] : List Int)), 0, false)) else (if 0 ≤ a1 then (if a1 < (l0.length : Int) then ((some (([] : List Int) : List Int)).bind fun y228 => (if 0 ≤ (wrap64 (a1 + 2)) then (if (wrap64 (a1 + 2)) ≤ (wrap64 ((wrap64 (a1 + 2)) + (wrap64 (rd l0 (ji9))))) then (if (wrap64 ((wrap64 (a1 + 2)) + (wrap64 (rd l0 (ji9))))) ≤ (l0.length : Int) then (if y228.length + ((l0.take ((wrap64 ((wrap64 (a1 + 2)) + (wrap64 (rd l0 (ji9))))) : Int).toNat).drop ((wrap64 (a1 + 2)) : Int).toNat).length < 140737488355328 then (some (wrap64 (rd l0 a1), (y228 ++ ((l0.take ((wrap64 ((wrap64 (a1 + 2)) + (wrap64 (rd l0 (ji9))))) : Int).toNat).drop ((wrap64 (a1 + 2)) : Int).toNat)), wrap64 ((wrap64 (a1 + 2)) + (wrap64 (rd l0 (ji9)))), true)) else (none)) else (none)) else (none)) else (none))) else (none)) else (none))))) else (none)) else (none)) = some (r1, r2, r3, r4) := by first | (rw [hji9] at H; exact H) | (simp only [hji9] at H ⊢; exact H)
   have hji9w : (IntKind.i64.wrap (a1 + 1)) = ji9 := (i64_w _).trans hji9
   by_cases c10 : 0 ≤ (ji9)
   rotate_left
   · rw [if_neg c10] at H
     exact absurd H (by simp)
   rw [if_pos c10] at H
   have c10b0 : decide (0 ≤ (ji9)) = true := decide_eq_true c10
   clear c10
   by_cases c11 : (ji9) < (l0.length : Int)
   rotate_left
   · rw [if_neg c11] at H
     exact absurd H (by simp)
   rw [if_pos c11] at H
   have c11b0 : decide ((ji9) < (l0.length : Int)) = true := decide_eq_true c11
   clear c11
   by_cases c12 : (wrap64 (rd l0 (ji9))) > 127
   rotate_left
   · rw [if_neg c12] at H
     have c12b0 : decide (127 < (wrap64 (rd l0 (ji9)))) = false := decide_eq_false c12
     clear c12
     by_cases c43 : (wrap64 (rd l0 (ji9))) > 250
     · rw [if_pos c43] at H
       have c43b0 : decide (250 < (wrap64 (rd l0 (ji9)))) = true := decide_eq_true c43
       clear c43
       obtain ⟨y221, hy221⟩ : ∃ y_ : List Int, y_ = (([] : List Int)) := ⟨_, rfl⟩
       replace H : (some (0, y221, 0, false)) = some (r1, r2, r3, r4) := hx H hy221
       have Ny221 := am hy221
       clear hy221
       simp only [Option.some.injEq, Prod.mk.injEq] at H
       obtain ⟨rfl, rfl, rfl, rfl⟩ := H
       have p201 : 0 ≤ ((ji9) : Int) := oda
       have q201 : (ji9) < (l0.length : Int) := oda
       obtain ⟨ad201, e201, hx201_0⟩ := Kd.at_int HR0.out (ji9) p201 q201
       cases e201
       replace hx201_0 := (HB.out.cell (World.block_lt_of_cell? w _ hx201_0)).trans hx201_0
       replace p201 := eq_true p201
       replace q201 := eq_true q201
       go_wp2_with (first | ((with_reducible refine gate_dst (N := 69) rfl ?_); (try (refine gate_guard (by rfl) ?_; dsimp only)); refine Kd.R_lit (Kd.int .u8) _ 5 ?hg (N := 69) ?hd (xs := ([] : List Int)) (inner := []) (ok := fun _ => True) (okp := fun _ => True) ?hr ?hp (fun _ hk => hk) trivial (Below.refl _ _) (Nat.le_refl _) (by simp) ?_; (case hd => rfl); (case hg => rfl); (case hr => exact gs); (case hp => exact (Reps.none _ _)); intro v222 w44 ho45 hb hg_ hnew_; clear hg_ hnew_; (first | rw [← Ny221.out] at ho45 | (simp only [Int.reduceToNat] at ho45; rw [← Ny221.out] at ho45)); have n_ := ak2 (Kd.R_lower ho45 (below_size (bq HB.out))) (below_step (bq HB.out) hb); clear HB; obtain ⟨HO223, HB⟩ := n_; clear hb ho45))
       refine bodyPost_ret (results_list (rs := [.tmp 4, .tmp 5, .tmp 6, .tmp 7]) rfl (by simp) (.tmp (.tmp (.tmp (.tmp .nil))))) rfl ?_
       exact ⟨_, by first | rfl | (simp [errW_none, errW_some] <;> rfl) | (simp only [← hji9]; first | rfl | (simp [errW_none, errW_some] <;> rfl)) | (simp [*, errW_none, errW_some] <;> rfl), kqR HO223.out, bq HB.out⟩
     rw [if_neg c43] at H
     have c43b0 : decide (250 < (wrap64 (rd l0 (ji9)))) = false := decide_eq_false c43
     clear c43
     by_cases c46 : (wrap64 (rd l0 (ji9))) > (wrap64 ((l0.length : Int) - (wrap64 (a1 + 2))))
     · rw [if_pos c46] at H
       have c46b0 : decide ((wrap64 ((l0.length : Int) - (wrap64 (a1 + 2)))) < (wrap64 (rd l0 (ji9)))) = true := decide_eq_true c46
       clear c46
       obtain ⟨y224, hy224⟩ : ∃ y_ : List Int, y_ = (([] : List Int)) := ⟨_, rfl⟩
       replace H : (some (0, y224, 0, false)) = some (r1, r2, r3, r4) := hx H hy224
       have Ny224 := am hy224
       clear hy224
       simp only [Option.some.injEq, Prod.mk.injEq] at H
       obtain ⟨rfl, rfl, rfl, rfl⟩ := H
       have p201 : 0 ≤ ((ji9) : Int) := oda
       have q201 : (ji9) < (l0.length : Int) := oda
       obtain ⟨ad201, e201, hx201_0⟩ := Kd.at_int HR0.out (ji9) p201 q201
       cases e201
       replace hx201_0 := (HB.out.cell (World.block_lt_of_cell? w _ hx201_0)).trans hx201_0
       replace p201 := eq_true p201
       replace q201 := eq_true q201
       go_wp2_with (first | ((with_reducible refine gate_dst (N := 69) rfl ?_); (try (refine gate_guard (by rfl) ?_; dsimp only)); refine Kd.R_lit (Kd.int .u8) _ 5 ?hg (N := 69) ?hd (xs := ([] : List Int)) (inner := []) (ok := fun _ => True) (okp := fun _ => True) ?hr ?hp (fun _ hk => hk) trivial (Below.refl _ _) (Nat.le_refl _) (by simp) ?_; (case hd => rfl); (case hg => rfl); (case hr => exact gs); (case hp => exact (Reps.none _ _)); intro v225 w47 ho48 hb hg_ hnew_; clear hg_ hnew_; (first | rw [← Ny224.out] at ho48 | (simp only [Int.reduceToNat] at ho48; rw [← Ny224.out] at ho48)); have n_ := ak2 (Kd.R_lower ho48 (below_size (bq HB.out))) (below_step (bq HB.out) hb); clear HB; obtain ⟨HO226, HB⟩ := n_; clear hb ho48))
       refine bodyPost_ret (results_list (rs := [.tmp 4, .tmp 5, .tmp 6, .tmp 7]) rfl (by simp) (.tmp (.tmp (.tmp (.tmp .nil))))) rfl ?_
       exact ⟨_, by first | rfl | (simp [errW_none, errW_some] <;> rfl) | (simp only [← hji9]; first | rfl | (simp [errW_none, errW_some] <;> rfl)) | (simp [*, errW_none, errW_some] <;> rfl), kqR HO226.out, bq HB.out⟩
     rw [if_neg c46] at H
     have c46b0 : decide ((wrap64 ((l0.length : Int) - (wrap64 (a1 + 2)))) < (wrap64 (rd l0 (ji9)))) = false := decide_eq_false c46
     clear c46
     by_cases c49 : 0 ≤ a1
     rotate_left
     · rw [if_neg c49] at H
       exact absurd H (by simp)
     rw [if_pos c49] at H
     have c49b0 : decide (0 ≤ a1) = true := decide_eq_true c49
     clear c49
     by_cases c50 : a1 < (l0.length : Int)
     rotate_left
     · rw [if_neg c50] at H
       exact absurd H (by simp)
     rw [if_pos c50] at H
     have c50b0 : decide (a1 < (l0.length : Int)) = true := decide_eq_true c50
     clear c50
     obtain ⟨y228, hy228⟩ : ∃ y_ : List Int, y_ = (([] : List Int)) := ⟨_, rfl⟩
     replace H : (if 0 ≤ (wrap64 (a1 + 2)) then (if (wrap64 (a1 + 2)) ≤ (wrap64 ((wrap64 (a1 + 2)) + (wrap64 (rd l0 (ji9))))) then (if (wrap64 ((wrap64 (a1 + 2)) + (wrap64 (rd l0 (ji9))))) ≤ (l0.length : Int) then (if y228.length + ((l0.take ((wrap64 ((wrap64 (a1 + 2)) + (wrap64 (rd l0 (ji9))))) : Int).toNat).drop ((wrap64 (a1 + 2)) : Int).toNat).length < 140737488355328 then (some (wrap64 (rd l0 a1), (y228 ++ ((l0.take ((wrap64 ((wrap64 (a1 + 2)) + (wrap64 (rd l0 (ji9))))) : Int).toNat).drop ((wrap64 (a1 + 2)) : Int).toNat)), wrap64 ((wrap64 (a1 + 2)) + (wrap64 (rd l0 (ji9)))), true)) else (none)) else (none)) else (none)) else (none)) = some (r1, r2, r3, r4) := hx H hy228
     have Ny228 := am hy228
     clear hy228
     obtain ⟨ji51, hji51⟩ : ∃ j_ : Int, (wrap64 (a1 + 2)) = j_ := ⟨_, rfl⟩
     replace H : (if 0 ≤ (ji51) then (if (ji51) ≤ (wrap64 ((ji51) + (wrap64 (rd l0 (ji9))))) then (if (wrap64 ((ji51) + (wrap64 (rd l0 (ji9))))) ≤ (l0.length : Int) then (if y228.length + ((l0.take ((wrap64 ((ji51) + (wrap64 (rd l0 (ji9))))) : Int).toNat).drop ((ji51) : Int).toNat).length < 140737488355328 then (some (wrap64 (rd l0 a1), (y228 ++ ((l0.take ((wrap64 ((ji51) + (wrap64 (rd l0 (ji9))))) : Int).toNat).drop ((ji51) : Int).toNat)), wrap64 ((ji51) + (wrap64 (rd l0 (ji9)))), true)) else (none)) else (none)) else (none)) else (none)) = some (r1, r2, r3, r4) := by first | (rw [hji51] at H; exact H) | (simp only [hji51] at H ⊢; exact H)
     (try rw [hji51] at c46b0)
     have hji51w : (IntKind.i64.wrap (a1 + 2)) = ji51 := (i64_w _).trans hji51
     by_cases c52 : 0 ≤ (ji51)
     rotate_left
     · rw [if_neg c52] at H
       exact absurd H (by simp)
     rw [if_pos c52] at H
     have c52b0 := eq_true c52
     have c52b1 : decide (0 ≤ (ji51)) = true := decide_eq_true c52
     clear c52
     by_cases c53 : (ji51) ≤ (wrap64 ((ji51) + (wrap64 (rd l0 (ji9)))))
     rotate_left
     · rw [if_neg c53] at H
       exact absurd H (by simp)
     rw [if_pos c53] at H
     have c53b0 := eq_true c53
     have c53b1 : decide ((ji51) ≤ (wrap64 ((ji51) + (wrap64 (rd l0 (ji9)))))) = true := decide_eq_true c53
     by_cases c54 : (wrap64 ((ji51) + (wrap64 (rd l0 (ji9))))) ≤ (l0.length : Int)
     rotate_left
     · rw [if_neg c54] at H
       exact absurd H (by simp)
     rw [if_pos c54] at H
     have c54b0 := eq_true c54
     have c54b1 : decide ((wrap64 ((ji51) + (wrap64 (rd l0 (ji9))))) ≤ (l0.length : Int)) = true := decide_eq_true c54
     by_cases c55 : y228.length + ((l0.take ((wrap64 ((ji51) + (wrap64 (rd l0 (ji9))))) : Int).toNat).drop ((ji51) : Int).toNat).length < 140737488355328
     rotate_left
     · rw [if_neg c55] at H
       exact absurd H (by simp)
     rw [if_pos c55] at H
     have LMc55 := am c55
     clear c55
     obtain ⟨y232, hy232⟩ : ∃ y_ : List Int, y_ = (y228 ++ ((l0.take ((wrap64 ((ji51) + (wrap64 (rd l0 (ji9))))) : Int).toNat).drop ((ji51) : Int).toNat)) := ⟨_, rfl⟩
     replace H : (some (wrap64 (rd l0 a1), y232, wrap64 ((ji51) + (wrap64 (rd l0 (ji9)))), true)) = some (r1, r2, r3, r4) := hx H hy232
     have Ny232 := am hy232
     clear hy232
     simp only [Option.some.injEq, Prod.mk.injEq] at H
     obtain ⟨rfl, rfl, rfl, rfl⟩ := H
     have p201 : 0 ≤ ((ji9) : Int) := oda
     have q201 : (ji9) < (l0.length : Int) := oda
     obtain ⟨ad201, e201, hx201_0⟩ := Kd.at_int HR0.out (ji9) p201 q201
     cases e201
     replace hx201_0 := (HB.out.cell (World.block_lt_of_cell? w _ hx201_0)).trans hx201_0
     replace p201 := eq_true p201
     replace q201 := eq_true q201
     try go_wp2
     replace HB := am (below_drew1 HB.out)
     have p227 : 0 ≤ (a1 : Int) := oda
     have q227 : a1 < (l0.length : Int) := oda
     obtain ⟨ad227, e227, hx227_0⟩ := Kd.at_int HR0.out a1 p227 q227
     have hw227_0 := hx227_0
     obtain rfl : ad201 = ad227 := (by injection e227)
     replace hx227_0 := (HB.out.cell (World.block_lt_of_cell? w _ hx227_0)).trans hx227_0
     replace p227 := eq_true p227
     replace q227 := eq_true q227
     obtain ⟨i057, hi057, _, hsz57, _⟩ := info_parts info5
     obtain ⟨A57, hcut57, hA57, hC57⟩ := print_mid_of (P := Try.prog) (Value.int .u8) 0 22 5 .i64 .i64 Try.underlying22 hi057 hsz57 (some ad201) c0 l0 (ji51) (wrap64 ((ji51) + (wrap64 (rd l0 (ji9))))) (oda) (by first | omega | exact oda) (oda) HC0.out
     have HR231 := am (Kd.C_of_reads (h1 := fun _ => rfl) (hA57 _ (Kd.reads_of_C HR0.out)))
     have HC231 := am hC57
     clear hA57 hC57 hi057 hsz57
     refine start_ (n := 20) (S := fun w' => w'.cell? (ad201.add (a1).toNat) = some (.int .u8 (rd l0 a1))) (ds := []) #[false, false, false, false, false, false, false, false, false, false, false, false, false, false, false, false, false, false, false, false] (by kernel_rfl) rfl rfl (((HB.out.cell (World.block_lt_of_cell? w _ hw227_0)).trans hw227_0)) (fun hHeld => ?_); refine with_tabW spec_GetTlv.tab12 spec_GetTlv.bits12 (fun HT_ HW_ => ?_)
     generalize wc.drew = w56 at HB HR231 hx227_0 hHeld ⊢
     refine pu 0 (some 70) #[true, false, false, false, false, false, false, false, false, false, false, false, false, false, false, false, false, false, false, false] rfl rfl (any_of HT_.out (by kernel_rfl)) (Or.inl ⟨by rfl, by intro w'; go_simp; with_reducible rfl⟩) ?_
     refine pu 1 (some 71) #[true, true, false, false, false, false, false, false, false, false, false, false, false, false, false, false, false, false, false, false] rfl rfl (any_of HT_.out (by kernel_rfl)) (Or.inl ⟨by rfl, by intro w'; go_simp; with_reducible rfl⟩) ?_
     refine pu 2 (some 72) #[true, true, true, false, false, false, false, false, false, false, false, false, false, false, false, false, false, false, false, false] rfl rfl (any_of HT_.out (by kernel_rfl)) (Or.inl ⟨by rfl, by intro w'; go_simp; with_reducible rfl⟩) ?_
     refine pu 6 (some 76) #[true, true, true, false, false, false, true, false, false, false, false, false, false, false, false, false, false, false, false, false] rfl rfl (any_of HT_.out (by kernel_rfl)) (Or.inl ⟨by rfl, by intro w'; go_simp; with_reducible rfl⟩) ?_
     refine pu 7 (some 77) #[true, true, true, false, false, false, true, true, false, false, false, false, false, false, false, false, false, false, false, false] rfl rfl (any_of HT_.out (by kernel_rfl)) (Or.inl ⟨by rfl, by intro w'; go_simp; with_reducible rfl⟩) ?_
     refine pu 8 (some 78) #[true, true, true, false, false, false, true, true, true, false, false, false, false, false, false, false, false, false, false, false] rfl rfl (any_of HT_.out (by kernel_rfl)) (Or.inl ⟨by rfl, by intro w'; go_simp; with_reducible rfl⟩) ?_
     refine pu 9 (some 79) #[true, true, true, false, false, false, true, true, true, true, false, false, false, false, false, false, false, false, false, false] rfl rfl (any_of HT_.out (by kernel_rfl)) (Or.inl ⟨by rfl, by intro w'; go_simp; with_reducible rfl⟩) ?_
     refine pu 10 (some 80) #[true, true, true, false, false, false, true, true, true, true, true, false, false, false, false, false, false, false, false, false] rfl rfl (any_of HT_.out (by kernel_rfl)) (Or.inl ⟨by rfl, by intro w'; go_simp; with_reducible rfl⟩) ?_
     refine pu 11 (some 81) #[true, true, true, false, false, false, true, true, true, true, true, true, false, false, false, false, false, false, false, false] rfl rfl (any_of HT_.out (by kernel_rfl)) (Or.inl ⟨by rfl, by intro w'; go_simp; with_reducible rfl⟩) ?_
     refine pu 13 (some 83) #[true, true, true, false, false, false, true, true, true, true, true, true, false, true, false, false, false, false, false, false] rfl rfl (any_of HT_.out (by kernel_rfl)) (Or.inl ⟨by rfl, by intro w'; go_simp; with_reducible rfl⟩) ?_
     refine pu 14 (some 84) #[true, true, true, false, false, false, true, true, true, true, true, true, false, true, true, false, false, false, false, false] rfl rfl (any_of HT_.out (by kernel_rfl)) (Or.inl ⟨by rfl, by intro w'; go_simp; with_reducible rfl⟩) ?_
     refine pu 15 (some 85) #[true, true, true, false, false, false, true, true, true, true, true, true, false, true, true, true, false, false, false, false] rfl rfl (any_of HT_.out (by kernel_rfl)) (Or.inl ⟨by rfl, by intro w'; go_simp; with_reducible rfl⟩) ?_
     refine take_ (i := 3) (N := some 73) (v := ?_) (a' := ?_) #[true, true, true, true, false, false, true, true, true, true, true, true, false, true, true, true, false, false, false, false] rfl rfl (take_ofW HT_.out HW_.out (by kernel_rfl)) (fun _ _ _ h => h) (Or.inl ⟨by rfl, ?_⟩) hHeld ?_ ?_
     rotate_left
     · intro w' s0
       go_simp
       with_reducible rfl
     rotate_left
     · simp only [Act.put, List.setIfInBounds_toArray, List.set_cons_zero, List.set_cons_succ, i64_w, i32_w]
       rfl
     refine pu 4 (some 74) #[true, true, true, true, true, false, true, true, true, true, true, true, false, true, true, true, false, false, false, false] rfl rfl (any_of HT_.out (by kernel_rfl)) (Or.inl ⟨by rfl, by intro w'; go_simp; with_reducible rfl⟩) ?_
     refine one_ (i := 5) (N := some 75) #[true, true, true, true, true, true, true, true, true, true, true, true, false, true, true, true, false, false, false, false] rfl rfl (one_of HT_.out (by kernel_rfl)) (by decide) (fun K hK => ?_)
     refine Kd.R_lit_step (Kd.int .u8) _ 5 ?hg (N := 75) ?hd (xs := ([] : List Int)) (inner := []) (ok := fun _ => True) (okp := fun _ => True) ?hr ?hp (fun _ hk => hk) trivial (Below.refl _ _) (Nat.le_refl _) (by simp) ?_; (case hd => rfl); (case hg => rfl); (case hr => exact gs); (case hp => exact (Reps.none _ _))
     intro v229 w58 ho59 hb hg_ hnew_
     clear hg_ hnew_
     (first | rw [← Ny228.out] at ho59 | (simp only [Int.reduceToNat] at ho59; rw [← Ny228.out] at ho59))
     have n_ := ak2 (Kd.R_lower ho59 (below_size (bq HB.out))) (below_step (bq HB.out) hb)
     clear HB
     obtain ⟨HO230, HB⟩ := n_
     clear hb ho59
     refine hK.out _ _ (((HB.out.cell (World.block_lt_of_cell? w _ hw227_0)).trans hw227_0)) (fun hHeld => ?_)
     clear hK K
     refine norm_ (a' := ?_) ?_ ?_
     rotate_left
     · show Act.put _ (some 75) _ = _
       simp only [Act.put, List.setIfInBounds_toArray, List.set_cons_zero, List.set_cons_succ, i64_w, i32_w]
       rfl
     refine one_ (i := 12) (N := some 82) #[true, true, true, true, true, true, true, true, true, true, true, true, true, true, true, true, false, false, false, false] rfl rfl (one_of HT_.out (by kernel_rfl)) (by decide) (fun K hK => ?_)
     refine Kd.R_append_rows_step (Kd.int .u8) (w0 := w) w.heap.size (by rfl) (.tmp 75) (.tmp 81) 22 5 (.int .u8 0) 1 rfl Try.underlying22 info5 rfl (by decide) (by omega) v229 y228 ((l0.take ((wrap64 ((ji51) + (wrap64 (rd l0 (ji9))))) : Int).toNat).drop ((ji51) : Int).toNat) _ _ _ (fun _ => True) (fun _ => False) rfl rfl ?aO ?aR (fun _ _ h => h) (fun _ h => h.elim) ?aF ?aB ?aS ?aL ?_
     (case aR => first | (rw [← show ((l0.take ((wrap64 ((ji51) + (wrap64 (rd l0 (ji9))))) : Int).toNat).drop ((ji51) : Int).toNat).length = ((wrap64 ((ji51) + (wrap64 (rd l0 (ji9))))).toNat - (ji51).toNat) from (by rw [List.length_drop, List.length_take]; have h_ : ((wrap64 ((ji51) + (wrap64 (rd l0 (ji9))))) : Int) ≤ (l0.length : Int) := oda; omega)]; exact cq (Kd.C_below HR231.out HB.out)) | (exact cq (Kd.C_below HR231.out HB.out)))
     (case aB => exact (bq HB.out))
     (case aF => exact (fun _ _ => trivial))
     (case aO => exact (kqR HO230.out))
     (case aS => exact (below_size (bq HB.out)))
     (case aL => have := LMc55.out; have hlx_ := (show ((l0.take ((wrap64 ((ji51) + (wrap64 (rd l0 (ji9))))) : Int).toNat).drop ((ji51) : Int).toNat).length = ((wrap64 ((ji51) + (wrap64 (rd l0 (ji9))))).toNat - (ji51).toNat) from (by rw [List.length_drop, List.length_take]; have h_ : ((wrap64 ((ji51) + (wrap64 (rd l0 (ji9))))) : Int) ≤ (l0.length : Int) := oda; omega)); omega)
     intro v233 w60 ho hb hg hat
     rw [← Ny232.out] at ho
     have n_ := ak2 hb ho
     clear HB HO230
     obtain ⟨HB, HO234⟩ := n_
     clear ho hb hg hat
     refine hK.out _ _ (((HB.out.cell (World.block_lt_of_cell? w _ hw227_0)).trans hw227_0)) (fun hHeld => ?_)
     clear hK K
     refine norm_ (a' := ?_) ?_ ?_
     rotate_left
     · show Act.put _ (some 82) _ = _
       simp only [Act.put, List.setIfInBounds_toArray, List.set_cons_zero, List.set_cons_succ, i64_w, i32_w]
       rfl
     refine pu 16 (some 4) #[true, true, true, true, true, true, true, true, true, true, true, true, true, true, true, true, true, false, false, false] rfl rfl (any_of HT_.out (by kernel_rfl)) (Or.inl ⟨by rfl, by intro w'; go_simp; with_reducible rfl⟩) ?_
     refine pu 17 (some 5) #[true, true, true, true, true, true, true, true, true, true, true, true, true, true, true, true, true, true, false, false] rfl rfl (any_of HT_.out (by kernel_rfl)) (Or.inl ⟨by rfl, by intro w'; go_simp; with_reducible rfl⟩) ?_
     refine pu 18 (some 6) #[true, true, true, true, true, true, true, true, true, true, true, true, true, true, true, true, true, true, true, false] rfl rfl (any_of HT_.out (by kernel_rfl)) (Or.inl ⟨by rfl, by intro w'; go_simp; with_reducible rfl⟩) ?_
     refine pu 19 (some 7) #[true, true, true, true, true, true, true, true, true, true, true, true, true, true, true, true, true, true, true, true] rfl rfl (any_of HT_.out (by kernel_rfl)) (Or.inl ⟨by rfl, by intro w'; go_simp; with_reducible rfl⟩) ?_
     refine done_ (done_of HT_.out (by kernel_rfl)) ?_
     try go_wp2
     refine bodyPost_ret (results_list (rs := [.tmp 4, .tmp 5, .tmp 6, .tmp 7]) rfl (by simp) (.tmp (.tmp (.tmp (.tmp .nil))))) rfl ?_
     exact ⟨_, by first | rfl | (simp [errW_none, errW_some] <;> rfl) | (simp only [← hji9, ← hji51]; first | rfl | (simp [errW_none, errW_some] <;> rfl)) | (simp [*, errW_none, errW_some] <;> rfl), kqR HO234.out, bq HB.out⟩
   rw [if_pos c12] at H
   have c12b0 : decide (127 < (wrap64 (rd l0 (ji9)))) = true := decide_eq_true c12
   clear c12
   have HC13 := am H
   clear H
   have p201 : 0 ≤ ((ji9) : Int) := oda
   have q201 : (ji9) < (l0.length : Int) := oda
   obtain ⟨ad201, e201, hx201_0⟩ := Kd.at_int HR0.out (ji9) p201 q201
   cases e201
   replace hx201_0 := (HB.out.cell (World.block_lt_of_cell? w _ hx201_0)).trans hx201_0
   replace p201 := eq_true p201
   replace q201 := eq_true q201
   go_upto_region 6 with (fail)
   go_cut [50] (fun v50 wc => ∃ (kq : Nat) (x50_12 : Bool), v50 = .bool x50_12 ∧ Aside0 (spec_GetTlv.j1 kq l0 a1 (wrap64 (a1 + 2)) x50_12 = some (r1, r2, r3, r4)) ∧ Aside0 (kq ≤ kj2) ∧ Aside0 (Below w.heap.size w wc))
   case first =>
    have H := HC13.out
    clear HC13
    by_cases c14 : (wrap64 (rd l0 (ji9))) = 129
    rotate_left
    · rw [if_neg c14] at H
      have c14b0 : ((wrap64 (rd l0 (ji9))) == 129) = false := beq_eq_false_iff_ne.mpr c14
      have c14b1 : ((wrap64 (rd l0 (ji9))) != 129) = true := bne_iff_ne.mpr c14
      (first | rw [c14b0] | (simp only [i64_w, i32_w]; rw [c14b0]) | skip)
      have H' := am H
      clear H
      go_wp2
      go_meet
      case rel => exact ⟨_, (true), sq, H', ⟨by have := HJ2.out; first | omega | exact Nat.le_refl _⟩, ⟨bq HB.out⟩⟩
    rw [if_pos c14] at H
    have c14b0 : ((wrap64 (rd l0 (ji9))) == 129) = true := beq_iff_eq.mpr c14
    have c14b1 : ((wrap64 (rd l0 (ji9))) != 129) = false := bne_eq_false_iff_eq.mpr c14
    clear c14
    (first | rw [c14b0] | (simp only [i64_w, i32_w]; rw [c14b0]) | skip)
    by_cases c15 : (wrap64 (a1 + 2)) ≥ (l0.length : Int)
    · rw [if_pos c15] at H
      have c15b0 : decide ((l0.length : Int) ≤ (wrap64 (a1 + 2))) = true := decide_eq_true c15
      clear c15
      have H' := am H
      clear H
      go_wp2
      go_meet
      case rel => exact ⟨_, (true), sq, H', ⟨by have := HJ2.out; first | omega | exact Nat.le_refl _⟩, ⟨bq HB.out⟩⟩
    rw [if_neg c15] at H
    have c15b0 : decide ((l0.length : Int) ≤ (wrap64 (a1 + 2))) = false := decide_eq_false c15
    clear c15
    obtain ⟨ji16, hji16⟩ : ∃ j_ : Int, (wrap64 (a1 + 2)) = j_ := ⟨_, rfl⟩
    replace H : (if 0 ≤ (ji16) then (if (ji16) < (l0.length : Int) then (spec_GetTlv.j1 kj2 l0 a1 ji16 (decide ((rd l0 (ji16)) < 128))) else (none)) else (none)) = some (r1, r2, r3, r4) := by first | (rw [hji16] at H; exact H) | (simp only [hji16] at H ⊢; exact H)
    (try rw [hji16] at c15b0)
    have hji16w : (IntKind.i64.wrap (a1 + 2)) = ji16 := (i64_w _).trans hji16
    by_cases c17 : 0 ≤ (ji16)
    rotate_left
    · rw [if_neg c17] at H
      exact absurd H (by simp)
    rw [if_pos c17] at H
    have c17b0 : decide (0 ≤ (ji16)) = true := decide_eq_true c17
    clear c17
    by_cases c18 : (ji16) < (l0.length : Int)
    rotate_left
    · rw [if_neg c18] at H
      exact absurd H (by simp)
    rw [if_pos c18] at H
    have c18b0 : decide ((ji16) < (l0.length : Int)) = true := decide_eq_true c18
    clear c18
    have H' := am H
    clear H
    have p202 : 0 ≤ ((ji16) : Int) := oda
    have q202 : (ji16) < (l0.length : Int) := oda
    obtain ⟨ad202, e202, hx202_0⟩ := Kd.at_int HR0.out (ji16) p202 q202
    obtain rfl : ad201 = ad202 := (by injection e202)
    replace hx202_0 := (HB.out.cell (World.block_lt_of_cell? w _ hx202_0)).trans hx202_0
    replace p202 := eq_true p202
    replace q202 := eq_true q202
    go_wp2
    (try simp only [← hji16])
    go_meet
    case rel => exact ⟨_, (decide ((rd l0 (ji16)) < 128)), (by first | rfl | (simp; done) | (simp only [← hji16] <;> (first | rfl | simp)) | (simp [*]; done)), (by first | exact H' | (rw [hji16]; exact H')), ⟨by have := HJ2.out; first | omega | exact Nat.le_refl _⟩, ⟨bq HB.out⟩⟩
   case rest =>
    clear HC13
    try clear c1
    try clear p2
    try clear q2
    try clear hx2
    try clear c4
    try clear c4b0
    try clear c5
    try clear c5b0
    try clear c6
    try clear p6
    try clear c8
    try clear c10
    try clear c10b0
    try clear c11
    try clear c11b0
    try clear c12
    try clear c12b0
    try clear c14
    try clear c14b0
    try clear c14b1
    try clear c15
    try clear c15b0
    try clear c17
    try clear c17b0
    try clear c18
    try clear c18b0
    try clear hx201_0
    try clear hx202_0
    try clear p2
    try clear p201
    try clear p202
    try clear q201
    try clear q202
    obtain ⟨kq, x50_12, rfl, HA, HJ12, HB⟩ := hcut
    cases kq with
    | zero => exact absurd HA.out (by simp [spec_GetTlv.j1])
    | succ kj12 =>
     have H := HA.out
     clear HA
     simp only [spec_GetTlv.j1] at H
     by_cases c19 : x50_12 = true
     · subst c19
       replace H : (some (0, (([] : List Int)), 0, false)) = some (r1, r2, r3, r4) := by rw [if_pos rfl] at H; exact H
       obtain ⟨y203, hy203⟩ : ∃ y_ : List Int, y_ = (([] : List Int)) := ⟨_, rfl⟩
       replace H : (some (0, y203, 0, false)) = some (r1, r2, r3, r4) := hx H hy203
       have Ny203 := am hy203
       clear hy203
       simp only [Option.some.injEq, Prod.mk.injEq] at H
       obtain ⟨rfl, rfl, rfl, rfl⟩ := H
       go_wp2_with (first | ((with_reducible refine gate_dst (N := 51) rfl ?_); (try (refine gate_guard (by rfl) ?_; dsimp only)); refine Kd.R_lit (Kd.int .u8) _ 5 ?hg (N := 51) ?hd (xs := ([] : List Int)) (inner := []) (ok := fun _ => True) (okp := fun _ => True) ?hr ?hp (fun _ hk => hk) trivial (Below.refl _ _) (Nat.le_refl _) (by simp) ?_; (case hd => rfl); (case hg => rfl); (case hr => exact gs); (case hp => exact (Reps.none _ _)); intro v204 w20 ho21 hb hg_ hnew_; clear hg_ hnew_; (first | rw [← Ny203.out] at ho21 | (simp only [Int.reduceToNat] at ho21; rw [← Ny203.out] at ho21)); have n_ := ak2 (Kd.R_lower ho21 (below_size (bq HB.out))) (below_step (bq HB.out) hb); clear HB; obtain ⟨HO205, HB⟩ := n_; clear hb ho21))
       refine bodyPost_ret (results_list (rs := [.tmp 4, .tmp 5, .tmp 6, .tmp 7]) rfl (by simp) (.tmp (.tmp (.tmp (.tmp .nil))))) rfl ?_
       exact ⟨_, by first | rfl | (simp [errW_none, errW_some] <;> rfl) | (simp only [← hji9]; first | rfl | (simp [errW_none, errW_some] <;> rfl)) | (simp [*, errW_none, errW_some] <;> rfl), kqR HO205.out, bq HB.out⟩
     replace c19 := Bool.eq_false_iff.mpr c19
     subst c19
     replace H : (if 0 ≤ (wrap64 (a1 + 2)) then (if (wrap64 (a1 + 2)) < (l0.length : Int) then (if (wrap64 (rd l0 (wrap64 (a1 + 2)))) > 250 then (some (0, (([] : List Int)), 0, false)) else (if (wrap64 (rd l0 (wrap64 (a1 + 2)))) > (wrap64 ((l0.length : Int) - (wrap64 ((wrap64 (a1 + 2)) + 1)))) then (some (0, (([] : List Int)), 0, false)) else (if 0 ≤ a1 then (if a1 < (l0.length : Int) then ((some (([] : List Int) : List Int)).bind fun y214 => (if 0 ≤ (wrap64 ((wrap64 (a1 + 2)) + 1)) then (if (wrap64 ((wrap64 (a1 + 2)) + 1)) ≤ (wrap64 ((wrap64 ((wrap64 (a1 + 2)) + 1)) + (wrap64 (rd l0 (wrap64 (a1 + 2)))))) then (if (wrap64 ((wrap64 ((wrap64 (a1 + 2)) + 1)) + (wrap64 (rd l0 (wrap64 (a1 + 2)))))) ≤ (l0.length : Int) then (if y214.length + ((l0.take ((wrap64 ((wrap64 ((wrap64 (a1 + 2)) + 1)) + (wrap64 (rd l0 (wrap64 (a1 + 2)))))) : Int).toNat).drop ((wrap64 ((wrap64 (a1 + 2)) + 1)) : Int).toNat).length < 140737488355328 then (some (wrap64 (rd l0 a1), (y214 ++ ((l0.take ((wrap64 ((wrap64 ((wrap64 (a1 + 2)) + 1)) + (wrap64 (rd l0 (wrap64 (a1 + 2)))))) : Int).toNat).drop ((wrap64 ((wrap64 (a1 + 2)) + 1)) : Int).toNat)), wrap64 ((wrap64 ((wrap64 (a1 + 2)) + 1)) + (wrap64 (rd l0 (wrap64 (a1 + 2))))), true)) else (none)) else (none)) else (none)) else (none))) else (none)) else (none)))) else (none)) else (none)) = some (r1, r2, r3, r4) := by rw [if_neg (show ¬ (false = true) by decide)] at H; exact H
     obtain ⟨ji22, hji22⟩ : ∃ j_ : Int, (wrap64 (a1 + 2)) = j_ := ⟨_, rfl⟩
     replace H : (if 0 ≤ (ji22) then (if (ji22) < (l0.length : Int) then (if (wrap64 (rd l0 (ji22))) > 250 then (some (0, (([] : List Int)), 0, false)) else (if (wrap64 (rd l0 (ji22))) > (wrap64 ((l0.length : Int) - (wrap64 ((ji22) + 1)))) then (some (0, (([] : List Int)), 0, false)) else (if 0 ≤ a1 then (if a1 < (l0.length : Int) then ((some (([] : List Int) : List Int)).bind fun y214 => (if 0 ≤ (wrap64 ((ji22) + 1)) then (if (wrap64 ((ji22) + 1)) ≤ (wrap64 ((wrap64 ((ji22) + 1)) + (wrap64 (rd l0 (ji22))))) then (if (wrap64 ((wrap64 ((ji22) + 1)) + (wrap64 (rd l0 (ji22))))) ≤ (l0.length : Int) then (if y214.length + ((l0.take ((wrap64 ((wrap64 ((ji22) + 1)) + (wrap64 (rd l0 (ji22))))) : Int).toNat).drop ((wrap64 ((ji22) + 1)) : Int).toNat).length < 140737488355328 then (some (wrap64 (rd l0 a1), (y214 ++ ((l0.take ((wrap64 ((wrap64 ((ji22) + 1)) + (wrap64 (rd l0 (ji22))))) : Int).toNat).drop ((wrap64 ((ji22) + 1)) : Int).toNat)), wrap64 ((wrap64 ((ji22) + 1)) + (wrap64 (rd l0 (ji22)))), true)) else (none)) else (none)) else (none)) else (none))) else (none)) else (none)))) else (none)) else (none)) = some (r1, r2, r3, r4) := by first | (rw [hji22] at H; exact H) | (simp only [hji22] at H ⊢; exact H)
     have hji22w : (IntKind.i64.wrap (a1 + 2)) = ji22 := (i64_w _).trans hji22
     by_cases c23 : 0 ≤ (ji22)
     rotate_left
     · rw [if_neg c23] at H
       exact absurd H (by simp)
     rw [if_pos c23] at H
     have c23b0 : decide (0 ≤ (ji22)) = true := decide_eq_true c23
     clear c23
     by_cases c24 : (ji22) < (l0.length : Int)
     rotate_left
     · rw [if_neg c24] at H
       exact absurd H (by simp)
     rw [if_pos c24] at H
     have c24b0 : decide ((ji22) < (l0.length : Int)) = true := decide_eq_true c24
     clear c24
     by_cases c25 : (wrap64 (rd l0 (ji22))) > 250
     · rw [if_pos c25] at H
       have c25b0 : decide (250 < (wrap64 (rd l0 (ji22)))) = true := decide_eq_true c25
       clear c25
       obtain ⟨y207, hy207⟩ : ∃ y_ : List Int, y_ = (([] : List Int)) := ⟨_, rfl⟩
       replace H : (some (0, y207, 0, false)) = some (r1, r2, r3, r4) := hx H hy207
       have Ny207 := am hy207
       clear hy207
       simp only [Option.some.injEq, Prod.mk.injEq] at H
       obtain ⟨rfl, rfl, rfl, rfl⟩ := H
       have p206 : 0 ≤ ((ji22) : Int) := oda
       have q206 : (ji22) < (l0.length : Int) := oda
       obtain ⟨ad206, e206, hx206_0⟩ := Kd.at_int HR0.out (ji22) p206 q206
       obtain rfl : ad201 = ad206 := (by injection e206)
       replace hx206_0 := (HB.out.cell (World.block_lt_of_cell? w _ hx206_0)).trans hx206_0
       replace p206 := eq_true p206
       replace q206 := eq_true q206
       go_wp2_with (first | ((with_reducible refine gate_dst (N := 69) rfl ?_); (try (refine gate_guard (by rfl) ?_; dsimp only)); refine Kd.R_lit (Kd.int .u8) _ 5 ?hg (N := 69) ?hd (xs := ([] : List Int)) (inner := []) (ok := fun _ => True) (okp := fun _ => True) ?hr ?hp (fun _ hk => hk) trivial (Below.refl _ _) (Nat.le_refl _) (by simp) ?_; (case hd => rfl); (case hg => rfl); (case hr => exact gs); (case hp => exact (Reps.none _ _)); intro v208 w26 ho27 hb hg_ hnew_; clear hg_ hnew_; (first | rw [← Ny207.out] at ho27 | (simp only [Int.reduceToNat] at ho27; rw [← Ny207.out] at ho27)); have n_ := ak2 (Kd.R_lower ho27 (below_size (bq HB.out))) (below_step (bq HB.out) hb); clear HB; obtain ⟨HO209, HB⟩ := n_; clear hb ho27))
       refine bodyPost_ret (results_list (rs := [.tmp 4, .tmp 5, .tmp 6, .tmp 7]) rfl (by simp) (.tmp (.tmp (.tmp (.tmp .nil))))) rfl ?_
       exact ⟨_, by first | rfl | (simp [errW_none, errW_some] <;> rfl) | (simp only [← hji9, ← hji22]; first | rfl | (simp [errW_none, errW_some] <;> rfl)) | (simp [*, errW_none, errW_some] <;> rfl), kqR HO209.out, bq HB.out⟩
     rw [if_neg c25] at H
     have c25b0 : decide (250 < (wrap64 (rd l0 (ji22)))) = false := decide_eq_false c25
     clear c25
     by_cases c28 : (wrap64 (rd l0 (ji22))) > (wrap64 ((l0.length : Int) - (wrap64 ((ji22) + 1))))
     · rw [if_pos c28] at H
       have c28b0 : decide ((wrap64 ((l0.length : Int) - (wrap64 ((ji22) + 1)))) < (wrap64 (rd l0 (ji22)))) = true := decide_eq_true c28
       clear c28
       obtain ⟨y210, hy210⟩ : ∃ y_ : List Int, y_ = (([] : List Int)) := ⟨_, rfl⟩
       replace H : (some (0, y210, 0, false)) = some (r1, r2, r3, r4) := hx H hy210
       have Ny210 := am hy210
       clear hy210
       simp only [Option.some.injEq, Prod.mk.injEq] at H
       obtain ⟨rfl, rfl, rfl, rfl⟩ := H
       have p206 : 0 ≤ ((ji22) : Int) := oda
       have q206 : (ji22) < (l0.length : Int) := oda
       obtain ⟨ad206, e206, hx206_0⟩ := Kd.at_int HR0.out (ji22) p206 q206
       obtain rfl : ad201 = ad206 := (by injection e206)
       replace hx206_0 := (HB.out.cell (World.block_lt_of_cell? w _ hx206_0)).trans hx206_0
       replace p206 := eq_true p206
       replace q206 := eq_true q206
       go_wp2_with (first | ((with_reducible refine gate_dst (N := 69) rfl ?_); (try (refine gate_guard (by rfl) ?_; dsimp only)); refine Kd.R_lit (Kd.int .u8) _ 5 ?hg (N := 69) ?hd (xs := ([] : List Int)) (inner := []) (ok := fun _ => True) (okp := fun _ => True) ?hr ?hp (fun _ hk => hk) trivial (Below.refl _ _) (Nat.le_refl _) (by simp) ?_; (case hd => rfl); (case hg => rfl); (case hr => exact gs); (case hp => exact (Reps.none _ _)); intro v211 w29 ho30 hb hg_ hnew_; clear hg_ hnew_; (first | rw [← Ny210.out] at ho30 | (simp only [Int.reduceToNat] at ho30; rw [← Ny210.out] at ho30)); have n_ := ak2 (Kd.R_lower ho30 (below_size (bq HB.out))) (below_step (bq HB.out) hb); clear HB; obtain ⟨HO212, HB⟩ := n_; clear hb ho30))
       refine bodyPost_ret (results_list (rs := [.tmp 4, .tmp 5, .tmp 6, .tmp 7]) rfl (by simp) (.tmp (.tmp (.tmp (.tmp .nil))))) rfl ?_
       exact ⟨_, by first | rfl | (simp [errW_none, errW_some] <;> rfl) | (simp only [← hji9, ← hji22]; first | rfl | (simp [errW_none, errW_some] <;> rfl)) | (simp [*, errW_none, errW_some] <;> rfl), kqR HO212.out, bq HB.out⟩
     rw [if_neg c28] at H
     have c28b0 : decide ((wrap64 ((l0.length : Int) - (wrap64 ((ji22) + 1)))) < (wrap64 (rd l0 (ji22)))) = false := decide_eq_false c28
     clear c28
     by_cases c31 : 0 ≤ a1
     rotate_left
     · rw [if_neg c31] at H
       exact absurd H (by simp)
     rw [if_pos c31] at H
     have c31b0 : decide (0 ≤ a1) = true := decide_eq_true c31
     clear c31
     by_cases c32 : a1 < (l0.length : Int)
     rotate_left
     · rw [if_neg c32] at H
       exact absurd H (by simp)
     rw [if_pos c32] at H
     have c32b0 : decide (a1 < (l0.length : Int)) = true := decide_eq_true c32
     clear c32
     obtain ⟨y214, hy214⟩ : ∃ y_ : List Int, y_ = (([] : List Int)) := ⟨_, rfl⟩
     replace H : (if 0 ≤ (wrap64 ((ji22) + 1)) then (if (wrap64 ((ji22) + 1)) ≤ (wrap64 ((wrap64 ((ji22) + 1)) + (wrap64 (rd l0 (ji22))))) then (if (wrap64 ((wrap64 ((ji22) + 1)) + (wrap64 (rd l0 (ji22))))) ≤ (l0.length : Int) then (if y214.length + ((l0.take ((wrap64 ((wrap64 ((ji22) + 1)) + (wrap64 (rd l0 (ji22))))) : Int).toNat).drop ((wrap64 ((ji22) + 1)) : Int).toNat).length < 140737488355328 then (some (wrap64 (rd l0 a1), (y214 ++ ((l0.take ((wrap64 ((wrap64 ((ji22) + 1)) + (wrap64 (rd l0 (ji22))))) : Int).toNat).drop ((wrap64 ((ji22) + 1)) : Int).toNat)), wrap64 ((wrap64 ((ji22) + 1)) + (wrap64 (rd l0 (ji22)))), true)) else (none)) else (none)) else (none)) else (none)) = some (r1, r2, r3, r4) := hx H hy214
     have Ny214 := am hy214
     clear hy214
     obtain ⟨ji33, hji33⟩ : ∃ j_ : Int, (wrap64 ((ji22) + 1)) = j_ := ⟨_, rfl⟩
     replace H : (if 0 ≤ (ji33) then (if (ji33) ≤ (wrap64 ((ji33) + (wrap64 (rd l0 (ji22))))) then (if (wrap64 ((ji33) + (wrap64 (rd l0 (ji22))))) ≤ (l0.length : Int) then (if y214.length + ((l0.take ((wrap64 ((ji33) + (wrap64 (rd l0 (ji22))))) : Int).toNat).drop ((ji33) : Int).toNat).length < 140737488355328 then (some (wrap64 (rd l0 a1), (y214 ++ ((l0.take ((wrap64 ((ji33) + (wrap64 (rd l0 (ji22))))) : Int).toNat).drop ((ji33) : Int).toNat)), wrap64 ((ji33) + (wrap64 (rd l0 (ji22)))), true)) else (none)) else (none)) else (none)) else (none)) = some (r1, r2, r3, r4) := by first | (rw [hji33] at H; exact H) | (simp only [hji33] at H ⊢; exact H)
     (try rw [hji33] at c28b0)
     have hji33w : (IntKind.i64.wrap ((ji22) + 1)) = ji33 := (i64_w _).trans hji33
     by_cases c34 : 0 ≤ (ji33)
     rotate_left
     · rw [if_neg c34] at H
       exact absurd H (by simp)
     rw [if_pos c34] at H
     have c34b0 := eq_true c34
     have c34b1 : decide (0 ≤ (ji33)) = true := decide_eq_true c34
     clear c34
     by_cases c35 : (ji33) ≤ (wrap64 ((ji33) + (wrap64 (rd l0 (ji22)))))
     rotate_left
     · rw [if_neg c35] at H
       exact absurd H (by simp)
     rw [if_pos c35] at H
     have c35b0 := eq_true c35
     have c35b1 : decide ((ji33) ≤ (wrap64 ((ji33) + (wrap64 (rd l0 (ji22)))))) = true := decide_eq_true c35
     by_cases c36 : (wrap64 ((ji33) + (wrap64 (rd l0 (ji22))))) ≤ (l0.length : Int)
     rotate_left
     · rw [if_neg c36] at H
       exact absurd H (by simp)
     rw [if_pos c36] at H
     have c36b0 := eq_true c36
     have c36b1 : decide ((wrap64 ((ji33) + (wrap64 (rd l0 (ji22))))) ≤ (l0.length : Int)) = true := decide_eq_true c36
     by_cases c37 : y214.length + ((l0.take ((wrap64 ((ji33) + (wrap64 (rd l0 (ji22))))) : Int).toNat).drop ((ji33) : Int).toNat).length < 140737488355328
     rotate_left
     · rw [if_neg c37] at H
       exact absurd H (by simp)
     rw [if_pos c37] at H
     have LMc37 := am c37
     clear c37
     obtain ⟨y218, hy218⟩ : ∃ y_ : List Int, y_ = (y214 ++ ((l0.take ((wrap64 ((ji33) + (wrap64 (rd l0 (ji22))))) : Int).toNat).drop ((ji33) : Int).toNat)) := ⟨_, rfl⟩
     replace H : (some (wrap64 (rd l0 a1), y218, wrap64 ((ji33) + (wrap64 (rd l0 (ji22)))), true)) = some (r1, r2, r3, r4) := hx H hy218
     have Ny218 := am hy218
     clear hy218
     simp only [Option.some.injEq, Prod.mk.injEq] at H
     obtain ⟨rfl, rfl, rfl, rfl⟩ := H
     have p206 : 0 ≤ ((ji22) : Int) := oda
     have q206 : (ji22) < (l0.length : Int) := oda
     obtain ⟨ad206, e206, hx206_0⟩ := Kd.at_int HR0.out (ji22) p206 q206
     obtain rfl : ad201 = ad206 := (by injection e206)
     replace hx206_0 := (HB.out.cell (World.block_lt_of_cell? w _ hx206_0)).trans hx206_0
     replace p206 := eq_true p206
     replace q206 := eq_true q206
     try go_wp2
     replace HB := am (below_drew1 HB.out)
     have p213 : 0 ≤ (a1 : Int) := oda
     have q213 : a1 < (l0.length : Int) := oda
     obtain ⟨ad213, e213, hx213_0⟩ := Kd.at_int HR0.out a1 p213 q213
     have hw213_0 := hx213_0
     obtain rfl : ad201 = ad213 := (by injection e213)
     replace hx213_0 := (HB.out.cell (World.block_lt_of_cell? w _ hx213_0)).trans hx213_0
     replace p213 := eq_true p213
     replace q213 := eq_true q213
     obtain ⟨i039, hi039, _, hsz39, _⟩ := info_parts info5
     obtain ⟨A39, hcut39, hA39, hC39⟩ := print_mid_of (P := Try.prog) (Value.int .u8) 0 22 5 .i64 .i64 Try.underlying22 hi039 hsz39 (some ad201) c0 l0 (ji33) (wrap64 ((ji33) + (wrap64 (rd l0 (ji22))))) (oda) (by first | omega | exact oda) (oda) HC0.out
     have HR217 := am (Kd.C_of_reads (h1 := fun _ => rfl) (hA39 _ (Kd.reads_of_C HR0.out)))
     have HC217 := am hC39
     clear hA39 hC39 hi039 hsz39
     refine start_ (n := 20) (S := fun w' => w'.cell? (ad201.add (a1).toNat) = some (.int .u8 (rd l0 a1))) (ds := []) #[false, false, false, false, false, false, false, false, false, false, false, false, false, false, false, false, false, false, false, false] (by kernel_rfl) rfl rfl (((HB.out.cell (World.block_lt_of_cell? w _ hw213_0)).trans hw213_0)) (fun hHeld => ?_); refine with_tabW spec_GetTlv.tab12 spec_GetTlv.bits12 (fun HT_ HW_ => ?_)
     generalize wc.drew = w38 at HB HR217 hx213_0 hHeld ⊢
     refine pu 0 (some 70) #[true, false, false, false, false, false, false, false, false, false, false, false, false, false, false, false, false, false, false, false] rfl rfl (any_of HT_.out (by kernel_rfl)) (Or.inl ⟨by rfl, by intro w'; go_simp; with_reducible rfl⟩) ?_
     refine pu 1 (some 71) #[true, true, false, false, false, false, false, false, false, false, false, false, false, false, false, false, false, false, false, false] rfl rfl (any_of HT_.out (by kernel_rfl)) (Or.inl ⟨by rfl, by intro w'; go_simp; with_reducible rfl⟩) ?_
     refine pu 2 (some 72) #[true, true, true, false, false, false, false, false, false, false, false, false, false, false, false, false, false, false, false, false] rfl rfl (any_of HT_.out (by kernel_rfl)) (Or.inl ⟨by rfl, by intro w'; go_simp; with_reducible rfl⟩) ?_
     refine pu 6 (some 76) #[true, true, true, false, false, false, true, false, false, false, false, false, false, false, false, false, false, false, false, false] rfl rfl (any_of HT_.out (by kernel_rfl)) (Or.inl ⟨by rfl, by intro w'; go_simp; with_reducible rfl⟩) ?_
     refine pu 7 (some 77) #[true, true, true, false, false, false, true, true, false, false, false, false, false, false, false, false, false, false, false, false] rfl rfl (any_of HT_.out (by kernel_rfl)) (Or.inl ⟨by rfl, by intro w'; go_simp; with_reducible rfl⟩) ?_
     refine pu 8 (some 78) #[true, true, true, false, false, false, true, true, true, false, false, false, false, false, false, false, false, false, false, false] rfl rfl (any_of HT_.out (by kernel_rfl)) (Or.inl ⟨by rfl, by intro w'; go_simp; with_reducible rfl⟩) ?_
     refine pu 9 (some 79) #[true, true, true, false, false, false, true, true, true, true, false, false, false, false, false, false, false, false, false, false] rfl rfl (any_of HT_.out (by kernel_rfl)) (Or.inl ⟨by rfl, by intro w'; go_simp; with_reducible rfl⟩) ?_
     refine pu 10 (some 80) #[true, true, true, false, false, false, true, true, true, true, true, false, false, false, false, false, false, false, false, false] rfl rfl (any_of HT_.out (by kernel_rfl)) (Or.inl ⟨by rfl, by intro w'; go_simp; with_reducible rfl⟩) ?_
     refine pu 11 (some 81) #[true, true, true, false, false, false, true, true, true, true, true, true, false, false, false, false, false, false, false, false] rfl rfl (any_of HT_.out (by kernel_rfl)) (Or.inl ⟨by rfl, by intro w'; go_simp; with_reducible rfl⟩) ?_
     refine pu 13 (some 83) #[true, true, true, false, false, false, true, true, true, true, true, true, false, true, false, false, false, false, false, false] rfl rfl (any_of HT_.out (by kernel_rfl)) (Or.inl ⟨by rfl, by intro w'; go_simp; with_reducible rfl⟩) ?_
     refine pu 14 (some 84) #[true, true, true, false, false, false, true, true, true, true, true, true, false, true, true, false, false, false, false, false] rfl rfl (any_of HT_.out (by kernel_rfl)) (Or.inl ⟨by rfl, by intro w'; go_simp; with_reducible rfl⟩) ?_
     refine pu 15 (some 85) #[true, true, true, false, false, false, true, true, true, true, true, true, false, true, true, true, false, false, false, false] rfl rfl (any_of HT_.out (by kernel_rfl)) (Or.inl ⟨by rfl, by intro w'; go_simp; with_reducible rfl⟩) ?_
     refine take_ (i := 3) (N := some 73) (v := ?_) (a' := ?_) #[true, true, true, true, false, false, true, true, true, true, true, true, false, true, true, true, false, false, false, false] rfl rfl (take_ofW HT_.out HW_.out (by kernel_rfl)) (fun _ _ _ h => h) (Or.inl ⟨by rfl, ?_⟩) hHeld ?_ ?_
     rotate_left
     · intro w' s0
       go_simp
       with_reducible rfl
     rotate_left
     · simp only [Act.put, List.setIfInBounds_toArray, List.set_cons_zero, List.set_cons_succ, i64_w, i32_w]
       rfl
     refine pu 4 (some 74) #[true, true, true, true, true, false, true, true, true, true, true, true, false, true, true, true, false, false, false, false] rfl rfl (any_of HT_.out (by kernel_rfl)) (Or.inl ⟨by rfl, by intro w'; go_simp; with_reducible rfl⟩) ?_
     refine one_ (i := 5) (N := some 75) #[true, true, true, true, true, true, true, true, true, true, true, true, false, true, true, true, false, false, false, false] rfl rfl (one_of HT_.out (by kernel_rfl)) (by decide) (fun K hK => ?_)
     refine Kd.R_lit_step (Kd.int .u8) _ 5 ?hg (N := 75) ?hd (xs := ([] : List Int)) (inner := []) (ok := fun _ => True) (okp := fun _ => True) ?hr ?hp (fun _ hk => hk) trivial (Below.refl _ _) (Nat.le_refl _) (by simp) ?_; (case hd => rfl); (case hg => rfl); (case hr => exact gs); (case hp => exact (Reps.none _ _))
     intro v215 w40 ho41 hb hg_ hnew_
     clear hg_ hnew_
     (first | rw [← Ny214.out] at ho41 | (simp only [Int.reduceToNat] at ho41; rw [← Ny214.out] at ho41))
     have n_ := ak2 (Kd.R_lower ho41 (below_size (bq HB.out))) (below_step (bq HB.out) hb)
     clear HB
     obtain ⟨HO216, HB⟩ := n_
     clear hb ho41
     refine hK.out _ _ (((HB.out.cell (World.block_lt_of_cell? w _ hw213_0)).trans hw213_0)) (fun hHeld => ?_)
     clear hK K
     refine norm_ (a' := ?_) ?_ ?_
     rotate_left
     · show Act.put _ (some 75) _ = _
       simp only [Act.put, List.setIfInBounds_toArray, List.set_cons_zero, List.set_cons_succ, i64_w, i32_w]
       rfl
     refine one_ (i := 12) (N := some 82) #[true, true, true, true, true, true, true, true, true, true, true, true, true, true, true, true, false, false, false, false] rfl rfl (one_of HT_.out (by kernel_rfl)) (by decide) (fun K hK => ?_)
     refine Kd.R_append_rows_step (Kd.int .u8) (w0 := w) w.heap.size (by rfl) (.tmp 75) (.tmp 81) 22 5 (.int .u8 0) 1 rfl Try.underlying22 info5 rfl (by decide) (by omega) v215 y214 ((l0.take ((wrap64 ((ji33) + (wrap64 (rd l0 (ji22))))) : Int).toNat).drop ((ji33) : Int).toNat) _ _ _ (fun _ => True) (fun _ => False) rfl rfl ?aO ?aR (fun _ _ h => h) (fun _ h => h.elim) ?aF ?aB ?aS ?aL ?_
     (case aR => first | (rw [← show ((l0.take ((wrap64 ((ji33) + (wrap64 (rd l0 (ji22))))) : Int).toNat).drop ((ji33) : Int).toNat).length = ((wrap64 ((ji33) + (wrap64 (rd l0 (ji22))))).toNat - (ji33).toNat) from (by rw [List.length_drop, List.length_take]; have h_ : ((wrap64 ((ji33) + (wrap64 (rd l0 (ji22))))) : Int) ≤ (l0.length : Int) := oda; omega)]; exact cq (Kd.C_below HR217.out HB.out)) | (exact cq (Kd.C_below HR217.out HB.out)))
     (case aB => exact (bq HB.out))
     (case aF => exact (fun _ _ => trivial))
     (case aO => exact (kqR HO216.out))
     (case aS => exact (below_size (bq HB.out)))
     (case aL => have := LMc37.out; have hlx_ := (show ((l0.take ((wrap64 ((ji33) + (wrap64 (rd l0 (ji22))))) : Int).toNat).drop ((ji33) : Int).toNat).length = ((wrap64 ((ji33) + (wrap64 (rd l0 (ji22))))).toNat - (ji33).toNat) from (by rw [List.length_drop, List.length_take]; have h_ : ((wrap64 ((ji33) + (wrap64 (rd l0 (ji22))))) : Int) ≤ (l0.length : Int) := oda; omega)); omega)
     intro v219 w42 ho hb hg hat
     rw [← Ny218.out] at ho
     have n_ := ak2 hb ho
     clear HB HO216
     obtain ⟨HB, HO220⟩ := n_
     clear ho hb hg hat
     refine hK.out _ _ (((HB.out.cell (World.block_lt_of_cell? w _ hw213_0)).trans hw213_0)) (fun hHeld => ?_)
     clear hK K
     refine norm_ (a' := ?_) ?_ ?_
     rotate_left
     · show Act.put _ (some 82) _ = _
       simp only [Act.put, List.setIfInBounds_toArray, List.set_cons_zero, List.set_cons_succ, i64_w, i32_w]
       rfl
     refine pu 16 (some 4) #[true, true, true, true, true, true, true, true, true, true, true, true, true, true, true, true, true, false, false, false] rfl rfl (any_of HT_.out (by kernel_rfl)) (Or.inl ⟨by rfl, by intro w'; go_simp; with_reducible rfl⟩) ?_
     refine pu 17 (some 5) #[true, true, true, true, true, true, true, true, true, true, true, true, true, true, true, true, true, true, false, false] rfl rfl (any_of HT_.out (by kernel_rfl)) (Or.inl ⟨by rfl, by intro w'; go_simp; with_reducible rfl⟩) ?_
     refine pu 18 (some 6) #[true, true, true, true, true, true, true, true, true, true, true, true, true, true, true, true, true, true, true, false] rfl rfl (any_of HT_.out (by kernel_rfl)) (Or.inl ⟨by rfl, by intro w'; go_simp; with_reducible rfl⟩) ?_
     refine pu 19 (some 7) #[true, true, true, true, true, true, true, true, true, true, true, true, true, true, true, true, true, true, true, true] rfl rfl (any_of HT_.out (by kernel_rfl)) (Or.inl ⟨by rfl, by intro w'; go_simp; with_reducible rfl⟩) ?_
     refine done_ (done_of HT_.out (by kernel_rfl)) ?_
     try go_wp2
     refine bodyPost_ret (results_list (rs := [.tmp 4, .tmp 5, .tmp 6, .tmp 7]) rfl (by simp) (.tmp (.tmp (.tmp (.tmp .nil))))) rfl ?_
     exact ⟨_, by first | rfl | (simp [errW_none, errW_some] <;> rfl) | (simp only [← hji9, ← hji22, ← hji33]; first | rfl | (simp [errW_none, errW_some] <;> rfl)) | (simp [*, errW_none, errW_some] <;> rfl), kqR HO220.out, bq HB.out⟩
end Go.Proofs.Ythhnfmbfgplelaa.XFnVals
