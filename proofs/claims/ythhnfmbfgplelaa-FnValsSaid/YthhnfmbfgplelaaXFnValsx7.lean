/- The functions that one law reaches, as Lean functions, with their walks: printed by a program of this seat (wip/tools) out of the translation. -/
import Derived.Test.YthhnfmbfgplelaaXFnValsx0
import Derived.Test.YthhnfmbfgplelaaXFnValsx1
namespace Go.Proofs.Ythhnfmbfgplelaa.XFnVals
open Go.RowKit Go.Proofs.YthhnfmbfgplelaaW.PrintWords Go.Proofs.YthhnfmbfgplelaaW.PrintLast Go.Proofs.YthhnfmbfgplelaaW.PrintMore
attribute [local go_sem] max2_int min2_int max_two min_two max_three min_three max_four min_four   -- for this text's walks alone
set_option linter.unusedVariables false
set_option linter.unusedSimpArgs false
mutual
def impl_GetTlv.j0 : Nat → List Int → Int → Bool → Option (Int × List Int × Int × Bool)
 | 0, _, _, _ => none
 | k + 1, x0, x1, x18 => if x18 = true then (some (0, ([] : List Int), 0, false)) else (if 0 ≤ (wrap64 (x1 + 1)) then (if (wrap64 (x1 + 1)) < (x0.length : Int) then (if (wrap64 (rd x0 (wrap64 (x1 + 1)))) ≥ 128 then (if (wrap64 (rd x0 (wrap64 (x1 + 1)))) = 129 then (if (wrap64 (x1 + 2)) ≥ (x0.length : Int) then (impl_GetTlv.j1 k x0 x1 (wrap64 (x1 + 2)) true) else (if 0 ≤ (wrap64 (x1 + 2)) then (if (wrap64 (x1 + 2)) < (x0.length : Int) then (impl_GetTlv.j1 k x0 x1 (wrap64 (x1 + 2)) (decide ((rd x0 (wrap64 (x1 + 2))) < 128))) else (none)) else (none))) else (impl_GetTlv.j1 k x0 x1 (wrap64 (x1 + 2)) true)) else (if (wrap64 (rd x0 (wrap64 (x1 + 1)))) > 250 then (some (0, ([] : List Int), 0, false)) else (if (wrap64 (rd x0 (wrap64 (x1 + 1)))) > (wrap64 ((x0.length : Int) - (wrap64 (x1 + 2)))) then (some (0, ([] : List Int), 0, false)) else (if 0 ≤ x1 then (if x1 < (x0.length : Int) then (if 0 ≤ (wrap64 (x1 + 2)) then (if (wrap64 (x1 + 2)) ≤ (wrap64 ((wrap64 (x1 + 2)) + (wrap64 (rd x0 (wrap64 (x1 + 1)))))) then (if (wrap64 ((wrap64 (x1 + 2)) + (wrap64 (rd x0 (wrap64 (x1 + 1)))))) ≤ (x0.length : Int) then ((impl_copyBytes.f ((x0.take ((wrap64 ((wrap64 (x1 + 2)) + (wrap64 (rd x0 (wrap64 (x1 + 1)))))) : Int).toNat).drop ((wrap64 (x1 + 2)) : Int).toNat)).bind fun t321 => (some (wrap64 (rd x0 x1), t321, wrap64 ((wrap64 (x1 + 2)) + (wrap64 (rd x0 (wrap64 (x1 + 1))))), true))) else (none)) else (none)) else (none)) else (none)) else (none))))) else (none)) else (none))
def impl_GetTlv.j1 : Nat → List Int → Int → Int → Bool → Option (Int × List Int × Int × Bool)
 | 0, _, _, _, _ => none
 | k + 1, x0, x1, x9, x43 => if x43 = true then (some (0, ([] : List Int), 0, false)) else (if 0 ≤ x9 then (if x9 < (x0.length : Int) then (if (wrap64 (rd x0 x9)) > 250 then (some (0, ([] : List Int), 0, false)) else (if (wrap64 (rd x0 x9)) > (wrap64 ((x0.length : Int) - (wrap64 (x9 + 1)))) then (some (0, ([] : List Int), 0, false)) else (if 0 ≤ x1 then (if x1 < (x0.length : Int) then (if 0 ≤ (wrap64 (x9 + 1)) then (if (wrap64 (x9 + 1)) ≤ (wrap64 ((wrap64 (x9 + 1)) + (wrap64 (rd x0 x9)))) then (if (wrap64 ((wrap64 (x9 + 1)) + (wrap64 (rd x0 x9)))) ≤ (x0.length : Int) then ((impl_copyBytes.f ((x0.take ((wrap64 ((wrap64 (x9 + 1)) + (wrap64 (rd x0 x9)))) : Int).toNat).drop ((wrap64 (x9 + 1)) : Int).toNat)).bind fun t316 => (some (wrap64 (rd x0 x1), t316, wrap64 ((wrap64 (x9 + 1)) + (wrap64 (rd x0 x9))), true))) else (none)) else (none)) else (none)) else (none)) else (none)))) else (none)) else (none))
end
def impl_GetTlv.f (k : Nat) (l0 : List Int) (a1 : Int) : Option (Int × List Int × Int × Bool) := if a1 < 0 then (impl_GetTlv.j0 k l0 a1 true) else (impl_GetTlv.j0 k l0 a1 (decide (a1 > (wrap64 ((l0.length : Int) - 2)))))
theorem impl_GetTlv.mono_l : ∀ k, (∀ y0 y1 y2, LeO (impl_GetTlv.j0 k y0 y1 y2) (impl_GetTlv.j0 (k + 1) y0 y1 y2)) ∧ (∀ y0 y1 y2 y3, LeO (impl_GetTlv.j1 k y0 y1 y2 y3) (impl_GetTlv.j1 (k + 1) y0 y1 y2 y3))
 | 0 => ⟨fun _ _ _ r h => by simp [impl_GetTlv.j0] at h, fun _ _ _ _ r h => by simp [impl_GetTlv.j1] at h⟩
 | k + 1 => by
  obtain ⟨ih0, ih1⟩ := impl_GetTlv.mono_l k
  refine ⟨?_, ?_⟩
  · intro y0 y1 y2
    unfold impl_GetTlv.j0
    repeat' first
    | (with_reducible exact ih0 _ _ _)
    | (with_reducible exact ih1 _ _ _ _)
    | (with_reducible exact LeO.refl _)
    | (with_reducible exact LeO.none _)
    | (with_reducible refine LeO.ite ?_ ?_)
    | (with_reducible refine LeO.bind ?_ (fun _ => ?_))
    | exact ih0 _ _ _
    | exact ih1 _ _ _ _
    | exact LeO.none _
    | refine LeO.ite ?_ ?_
    | refine LeO.bind ?_ (fun _ => ?_)
  intro y0 y1 y2 y3
  unfold impl_GetTlv.j1
  repeat' first
  | (with_reducible exact ih0 _ _ _)
  | (with_reducible exact ih1 _ _ _ _)
  | (with_reducible exact LeO.refl _)
  | (with_reducible exact LeO.none _)
  | (with_reducible refine LeO.ite ?_ ?_)
  | (with_reducible refine LeO.bind ?_ (fun _ => ?_))
  | exact ih0 _ _ _
  | exact ih1 _ _ _ _
  | exact LeO.none _
  | refine LeO.ite ?_ ?_
  | refine LeO.bind ?_ (fun _ => ?_)
theorem impl_GetTlv.mono : ∀ a0 a1 k, LeO (impl_GetTlv.f k a0 a1) (impl_GetTlv.f (k + 1) a0 a1) := by
 intro a0 a1 k
 obtain ⟨ih0, ih1⟩ := impl_GetTlv.mono_l k
 unfold impl_GetTlv.f
 repeat' first
  | (with_reducible exact ih0 _ _ _)
  | (with_reducible exact ih1 _ _ _ _)
  | (with_reducible exact LeO.refl _)
  | (with_reducible exact LeO.none _)
  | (with_reducible refine LeO.ite ?_ ?_)
  | (with_reducible refine LeO.bind ?_ (fun _ => ?_))
  | exact ih0 _ _ _
  | exact ih1 _ _ _ _
  | exact LeO.none _
  | refine LeO.ite ?_ ?_
  | refine LeO.bind ?_ (fun _ => ?_)
def impl_GetTlv.T11 : Bool × List (List Nat × List Nat) := (true, [([], []), ([], []), ([0, 1], [0, 1]), ([2], [2]), ([3], [3]), ([], []), ([], []), ([], []), ([], []), ([7, 8], [7, 8]), ([5, 6, 9], [5, 6, 9]), ([10], [10]), ([], []), ([], []), ([12, 13], [12, 13]), ([4, 11, 0, 1, 2, 3, 4], [4]), ([11, 15, 0, 1, 2, 3, 4, 5, 6, 7, 8, 9, 10, 11, 15], [11]), ([14, 16, 0, 1, 2, 3, 4, 5, 6, 7, 8, 9, 10, 11, 12, 13, 14, 15, 16], [14]), ([17, 0, 1, 2, 3, 4, 5, 6, 7, 8, 9, 10, 11, 12, 13, 14, 15, 16, 17], [])])
def impl_GetTlv.B11 : List Nat := [0, 0, 3, 7, 15, 0, 0, 0, 0, 384, 992, 2016, 0, 0, 12288, 4095, 36863, 131071, 262143]
theorem impl_GetTlv.tab11 : rtab .any (opsOf Try.f91 11) = impl_GetTlv.T11 := by kernel_rfl
theorem impl_GetTlv.bits11 : waitsOk impl_GetTlv.T11.2 impl_GetTlv.B11 = true := by kernel_rfl
set_option maxHeartbeats 8000000 in
set_option maxRecDepth 100000 in
theorem impl_GetTlv.calls (k : Nat) (A0 : Option Addr) (c0 : Nat) (l0 : List Int) (a1 : Int) (r1 : Int) (r2 : List Int) (r3 : Int) (r4 : Bool) (w : World) (hr0 : Kd.C (Kd.int .u8) w A0 l0.length l0) (hc0 : l0.length ≤ c0) (h : impl_GetTlv.f k l0 a1 = some (r1, r2, r3, r4)) :
 Calls Try.prog 91 #[.slice A0 l0.length c0, .int .i64 a1] w fun e w' => ∃ v1_ : Value, e = .returned (.tuple #[.int .i64 r1, v1_, .int .i64 r3, .bool r4]) ∧ Kd.R (Kd.int .u8) 5 w' w.heap.size (fun _ => True) v1_ r2 ∧ Below w.heap.size w w' := by
 have HR0 := am hr0
 have HC0 := am hc0
 clear hr0 hc0
 have HB := am (Below.refl w.heap.size w)
 have H : (if a1 < 0 then (impl_GetTlv.j0 k l0 a1 true) else (impl_GetTlv.j0 k l0 a1 (decide (a1 > (wrap64 ((l0.length : Int) - 2)))))) = some (r1, r2, r3, r4) := h
 clear h
 have HC3 := am H
 clear H
 go_enter Try.func91, Try.ntmps91
 go_upto_region 1 with (fail)
 go_cut [18] (fun v18 wc => ∃ (kq : Nat) (x18_2 : Bool), v18 = .bool x18_2 ∧ Aside0 (impl_GetTlv.j0 kq l0 a1 x18_2 = some (r1, r2, r3, r4)) ∧ Aside0 (kq ≤ k) ∧ Aside0 (Below w.heap.size w wc))
 case first =>
  have H := HC3.out
  clear HC3
  by_cases c4 : a1 < 0
  · rw [if_pos c4] at H
    have c4b0 : decide (a1 < 0) = true := decide_eq_true c4
    clear c4
    (first | rw [c4b0] | (simp only [i64_w, i32_w]; rw [c4b0]) | skip)
    have H' := am H
    clear H
    go_wp2
    go_meet
    case rel => exact ⟨_, (true), sq, H', ⟨by first | omega | exact Nat.le_refl _⟩, ⟨bq HB.out⟩⟩
  rw [if_neg c4] at H
  have c4b0 : decide (a1 < 0) = false := decide_eq_false c4
  clear c4
  (first | rw [c4b0] | (simp only [i64_w, i32_w]; rw [c4b0]) | skip)
  have H' := am H
  clear H
  go_wp2
  go_meet
  case rel => exact ⟨_, (decide (a1 > (wrap64 ((l0.length : Int) - 2)))), sq, H', ⟨by first | omega | exact Nat.le_refl _⟩, ⟨bq HB.out⟩⟩
 case rest =>
  clear HC3
  try clear p2
  try clear c4
  try clear c4b0
  obtain ⟨kq, x18_2, rfl, HA, HJ2, HB⟩ := hcut
  cases kq with
  | zero => exact absurd HA.out (by simp [impl_GetTlv.j0])
  | succ kj2 =>
   have H := HA.out
   clear HA
   simp only [impl_GetTlv.j0] at H
   by_cases c5 : x18_2 = true
   · subst c5
     replace H : (some (0, ([] : List Int), 0, false)) = some (r1, r2, r3, r4) := by rw [if_pos rfl] at H; exact H
     simp only [Option.some.injEq, Prod.mk.injEq] at H
     obtain ⟨rfl, rfl, rfl, rfl⟩ := H
     go_wp2
     refine bodyPost_ret (results_list (rs := [.tmp 4, .tmp 5, .tmp 6, .tmp 7]) rfl (by simp) (.tmp (.tmp (.tmp (.tmp .nil))))) rfl ?_
     exact ⟨_, rq, rn, bq HB.out⟩
   replace c5 := Bool.eq_false_iff.mpr c5
   subst c5
   replace H : (if 0 ≤ (wrap64 (a1 + 1)) then (if (wrap64 (a1 + 1)) < (l0.length : Int) then (if (wrap64 (rd l0 (wrap64 (a1 + 1)))) ≥ 128 then (if (wrap64 (rd l0 (wrap64 (a1 + 1)))) = 129 then (if (wrap64 (a1 + 2)) ≥ (l0.length : Int) then (impl_GetTlv.j1 kj2 l0 a1 (wrap64 (a1 + 2)) true) else (if 0 ≤ (wrap64 (a1 + 2)) then (if (wrap64 (a1 + 2)) < (l0.length : Int) then (impl_GetTlv.j1 kj2 l0 a1 (wrap64 (a1 + 2)) (decide ((rd l0 (wrap64 (a1 + 2))) < 128))) else (none)) else (none))) else (impl_GetTlv.j1 kj2 l0 a1 (wrap64 (a1 + 2)) true)) else (if (wrap64 (rd l0 (wrap64 (a1 + 1)))) > 250 then (some (0, ([] : List Int), 0, false)) else (if (wrap64 (rd l0 (wrap64 (a1 + 1)))) > (wrap64 ((l0.length : Int) - (wrap64 (a1 + 2)))) then (some (0, ([] : List Int), 0, false)) else (if 0 ≤ a1 then (if a1 < (l0.length : Int) then (if 0 ≤ (wrap64 (a1 + 2)) then (if (wrap64 (a1 + 2)) ≤ (wrap64 ((wrap64 (a1 + 2)) + (wrap64 (rd l0 (wrap64 (a1 + 1)))))) then (if (wrap64 ((wrap64 (a1 + 2)) + (wrap64 (rd l0 (wrap64 (a1 + 1)))))) ≤ (l0.length : Int) then ((impl_copyBytes.f ((l0.take ((wrap64 ((wrap64 (a1 + 2)) + (wrap64 (rd l0 (wrap64 (a1 + 1)))))) : Int).toNat).drop ((wrap64 (a1 + 2)) : Int).toNat)).bind fun t321 => (some (wrap64 (rd l0 a1), t321, wrap64 ((wrap64 (a1 + 2)) + (wrap64 (rd l0 (wrap64 (a1 + 1))))), true))) else (none)) else (none)) else (none)) else (none)) else (none))))) else (none)) else (none)) = some (r1, r2, r3, r4) := by rw [if_neg (show ¬ (false = true) by decide)] at H; exact H
   obtain ⟨ji6, hji6⟩ : ∃ j_ : Int, (wrap64 (a1 + 1)) = j_ := ⟨_, rfl⟩
   replace H : (if 0 ≤ (ji6) then (if (ji6) < (l0.length : Int) then (if (wrap64 (rd l0 (ji6))) ≥ 128 then (if (wrap64 (rd l0 (ji6))) = 129 then (if (wrap64 (a1 + 2)) ≥ (l0.length : Int) then (impl_GetTlv.j1 kj2 l0 a1 (wrap64 (a1 + 2)) true) else (if 0 ≤ (wrap64 (a1 + 2)) then (if (wrap64 (a1 + 2)) < (l0.length : Int) then (impl_GetTlv.j1 kj2 l0 a1 (wrap64 (a1 + 2)) (decide ((rd l0 (wrap64 (a1 + 2))) < 128))) else (none)) else (none))) else (impl_GetTlv.j1 kj2 l0 a1 (wrap64 (a1 + 2)) true)) else (if (wrap64 (rd l0 (ji6))) > 250 then (some (0, ([] : List Int), 0, false)) else (if (wrap64 (rd l0 (ji6))) > (wrap64 ((l0.length : Int) - (wrap64 (a1 + 2)))) then (some (0, ([] : List Int), 0, false)) else (if 0 ≤ a1 then (if a1 < (l0.length : Int) then (if 0 ≤ (wrap64 (a1 + 2)) then (if (wrap64 (a1 + 2)) ≤ (wrap64 ((wrap64 (a1 + 2)) + (wrap64 (rd l0 (ji6))))) then (if (wrap64 ((wrap64 (a1 + 2)) + (wrap64 (rd l0 (ji6))))) ≤ (l0.length : Int) then ((impl_copyBytes.f ((l0.take ((wrap64 ((wrap64 (a1 + 2)) + (wrap64 (rd l0 (ji6))))) : Int).toNat).drop ((wrap64 (a1 + 2)) : Int).toNat)).bind fun t321 => (some (wrap64 (rd l0 a1), t321, wrap64 ((wrap64 (a1 + 2)) + (wrap64 (rd l0 (ji6)))), true))) else (none)) else (none)) else (none)) else (none)) else (none))))) else (none)) else (none)) = some (r1, r2, r3, r4) := by first | (rw [hji6] at H; exact H) | (simp only [hji6] at H ⊢; exact H)
   have hji6w : (IntKind.i64.wrap (a1 + 1)) = ji6 := (i64_w _).trans hji6
   by_cases c7 : 0 ≤ (ji6)
   rotate_left
   · rw [if_neg c7] at H
     exact absurd H (by simp)
   rw [if_pos c7] at H
   have c7b0 : decide (0 ≤ (ji6)) = true := decide_eq_true c7
   clear c7
   by_cases c8 : (ji6) < (l0.length : Int)
   rotate_left
   · rw [if_neg c8] at H
     exact absurd H (by simp)
   rw [if_pos c8] at H
   have c8b0 : decide ((ji6) < (l0.length : Int)) = true := decide_eq_true c8
   clear c8
   by_cases c9 : (wrap64 (rd l0 (ji6))) ≥ 128
   rotate_left
   · rw [if_neg c9] at H
     have c9b0 : decide (128 ≤ (wrap64 (rd l0 (ji6)))) = false := decide_eq_false c9
     clear c9
     by_cases c32 : (wrap64 (rd l0 (ji6))) > 250
     · rw [if_pos c32] at H
       have c32b0 : decide (250 < (wrap64 (rd l0 (ji6)))) = true := decide_eq_true c32
       clear c32
       simp only [Option.some.injEq, Prod.mk.injEq] at H
       obtain ⟨rfl, rfl, rfl, rfl⟩ := H
       have p311 : 0 ≤ ((ji6) : Int) := oda
       have q311 : (ji6) < (l0.length : Int) := oda
       obtain ⟨ad311, e311, hx311_0⟩ := Kd.at_int HR0.out (ji6) p311 q311
       cases e311
       replace hx311_0 := (HB.out.cell (World.block_lt_of_cell? w _ hx311_0)).trans hx311_0
       replace p311 := eq_true p311
       replace q311 := eq_true q311
       go_wp2
       refine bodyPost_ret (results_list (rs := [.tmp 4, .tmp 5, .tmp 6, .tmp 7]) rfl (by simp) (.tmp (.tmp (.tmp (.tmp .nil))))) rfl ?_
       exact ⟨_, by first | rfl | (simp [errW_none, errW_some] <;> rfl) | (simp only [← hji6]; first | rfl | (simp [errW_none, errW_some] <;> rfl)) | (simp [*, errW_none, errW_some] <;> rfl), rn, bq HB.out⟩
     rw [if_neg c32] at H
     have c32b0 : decide (250 < (wrap64 (rd l0 (ji6)))) = false := decide_eq_false c32
     clear c32
     by_cases c33 : (wrap64 (rd l0 (ji6))) > (wrap64 ((l0.length : Int) - (wrap64 (a1 + 2))))
     · rw [if_pos c33] at H
       have c33b0 : decide ((wrap64 ((l0.length : Int) - (wrap64 (a1 + 2)))) < (wrap64 (rd l0 (ji6)))) = true := decide_eq_true c33
       clear c33
       simp only [Option.some.injEq, Prod.mk.injEq] at H
       obtain ⟨rfl, rfl, rfl, rfl⟩ := H
       have p311 : 0 ≤ ((ji6) : Int) := oda
       have q311 : (ji6) < (l0.length : Int) := oda
       obtain ⟨ad311, e311, hx311_0⟩ := Kd.at_int HR0.out (ji6) p311 q311
       cases e311
       replace hx311_0 := (HB.out.cell (World.block_lt_of_cell? w _ hx311_0)).trans hx311_0
       replace p311 := eq_true p311
       replace q311 := eq_true q311
       go_wp2
       refine bodyPost_ret (results_list (rs := [.tmp 4, .tmp 5, .tmp 6, .tmp 7]) rfl (by simp) (.tmp (.tmp (.tmp (.tmp .nil))))) rfl ?_
       exact ⟨_, by first | rfl | (simp [errW_none, errW_some] <;> rfl) | (simp only [← hji6]; first | rfl | (simp [errW_none, errW_some] <;> rfl)) | (simp [*, errW_none, errW_some] <;> rfl), rn, bq HB.out⟩
     rw [if_neg c33] at H
     have c33b0 : decide ((wrap64 ((l0.length : Int) - (wrap64 (a1 + 2)))) < (wrap64 (rd l0 (ji6)))) = false := decide_eq_false c33
     clear c33
     by_cases c34 : 0 ≤ a1
     rotate_left
     · rw [if_neg c34] at H
       exact absurd H (by simp)
     rw [if_pos c34] at H
     have c34b0 : decide (0 ≤ a1) = true := decide_eq_true c34
     clear c34
     by_cases c35 : a1 < (l0.length : Int)
     rotate_left
     · rw [if_neg c35] at H
       exact absurd H (by simp)
     rw [if_pos c35] at H
     have c35b0 : decide (a1 < (l0.length : Int)) = true := decide_eq_true c35
     clear c35
     obtain ⟨ji36, hji36⟩ : ∃ j_ : Int, (wrap64 (a1 + 2)) = j_ := ⟨_, rfl⟩
     replace H : (if 0 ≤ (ji36) then (if (ji36) ≤ (wrap64 ((ji36) + (wrap64 (rd l0 (ji6))))) then (if (wrap64 ((ji36) + (wrap64 (rd l0 (ji6))))) ≤ (l0.length : Int) then ((impl_copyBytes.f ((l0.take ((wrap64 ((ji36) + (wrap64 (rd l0 (ji6))))) : Int).toNat).drop ((ji36) : Int).toNat)).bind fun t321 => (some (wrap64 (rd l0 a1), t321, wrap64 ((ji36) + (wrap64 (rd l0 (ji6)))), true))) else (none)) else (none)) else (none)) = some (r1, r2, r3, r4) := by first | (rw [hji36] at H; exact H) | (simp only [hji36] at H ⊢; exact H)
     (try rw [hji36] at c33b0)
     have hji36w : (IntKind.i64.wrap (a1 + 2)) = ji36 := (i64_w _).trans hji36
     by_cases c37 : 0 ≤ (ji36)
     rotate_left
     · rw [if_neg c37] at H
       exact absurd H (by simp)
     rw [if_pos c37] at H
     have c37b0 := eq_true c37
     have c37b1 : decide (0 ≤ (ji36)) = true := decide_eq_true c37
     clear c37
     by_cases c38 : (ji36) ≤ (wrap64 ((ji36) + (wrap64 (rd l0 (ji6)))))
     rotate_left
     · rw [if_neg c38] at H
       exact absurd H (by simp)
     rw [if_pos c38] at H
     have c38b0 := eq_true c38
     have c38b1 : decide ((ji36) ≤ (wrap64 ((ji36) + (wrap64 (rd l0 (ji6)))))) = true := decide_eq_true c38
     by_cases c39 : (wrap64 ((ji36) + (wrap64 (rd l0 (ji6))))) ≤ (l0.length : Int)
     rotate_left
     · rw [if_neg c39] at H
       exact absurd H (by simp)
     rw [if_pos c39] at H
     have c39b0 := eq_true c39
     have c39b1 : decide ((wrap64 ((ji36) + (wrap64 (rd l0 (ji6))))) ≤ (l0.length : Int)) = true := decide_eq_true c39
     replace H := Option.bind_eq_some_iff.mp H
     obtain ⟨t321, A400, H⟩ := H
     replace H : (some (wrap64 (rd l0 a1), t321, wrap64 ((ji36) + (wrap64 (rd l0 (ji6)))), true)) = some (r1, r2, r3, r4) := H
     have A40 := am A400
     clear A400
     simp only [Option.some.injEq, Prod.mk.injEq] at H
     obtain ⟨rfl, rfl, rfl, rfl⟩ := H
     have p311 : 0 ≤ ((ji6) : Int) := oda
     have q311 : (ji6) < (l0.length : Int) := oda
     obtain ⟨ad311, e311, hx311_0⟩ := Kd.at_int HR0.out (ji6) p311 q311
     cases e311
     replace hx311_0 := (HB.out.cell (World.block_lt_of_cell? w _ hx311_0)).trans hx311_0
     replace p311 := eq_true p311
     replace q311 := eq_true q311
     try go_wp2
     replace HB := am (below_drew1 HB.out)
     have p319 : 0 ≤ (a1 : Int) := oda
     have q319 : a1 < (l0.length : Int) := oda
     obtain ⟨ad319, e319, hx319_0⟩ := Kd.at_int HR0.out a1 p319 q319
     have hw319_0 := hx319_0
     obtain rfl : ad311 = ad319 := (by injection e319)
     replace hx319_0 := (HB.out.cell (World.block_lt_of_cell? w _ hx319_0)).trans hx319_0
     replace p319 := eq_true p319
     replace q319 := eq_true q319
     obtain ⟨i042, hi042, _, hsz42, _⟩ := info_parts info5
     obtain ⟨A42, hcut42, hA42, hC42⟩ := print_mid_of (P := Try.prog) (Value.int .u8) 0 22 5 .i64 .i64 Try.underlying22 hi042 hsz42 (some ad311) c0 l0 (ji36) (wrap64 ((ji36) + (wrap64 (rd l0 (ji6))))) (oda) (by first | omega | exact oda) (oda) HC0.out
     have HR320 := am (Kd.C_of_reads (h1 := fun _ => rfl) (hA42 _ (Kd.reads_of_C HR0.out)))
     have HC320 := am hC42
     clear hA42 hC42 hi042 hsz42
     refine start_ (n := 19) (S := fun w' => w'.cell? (ad311.add (a1).toNat) = some (.int .u8 (rd l0 a1))) (ds := []) #[false, false, false, false, false, false, false, false, false, false, false, false, false, false, false, false, false, false, false] (by kernel_rfl) rfl rfl (((HB.out.cell (World.block_lt_of_cell? w _ hw319_0)).trans hw319_0)) (fun hHeld => ?_); refine with_tabW impl_GetTlv.tab11 impl_GetTlv.bits11 (fun HT_ HW_ => ?_)
     generalize wc.drew = w41 at HB HR320 hx319_0 hHeld ⊢
     refine pu 0 (some 61) #[true, false, false, false, false, false, false, false, false, false, false, false, false, false, false, false, false, false, false] rfl rfl (any_of HT_.out (by kernel_rfl)) (Or.inl ⟨by rfl, by intro w'; go_simp; with_reducible rfl⟩) ?_
     refine pu 1 (some 62) #[true, true, false, false, false, false, false, false, false, false, false, false, false, false, false, false, false, false, false] rfl rfl (any_of HT_.out (by kernel_rfl)) (Or.inl ⟨by rfl, by intro w'; go_simp; with_reducible rfl⟩) ?_
     refine pu 2 (some 63) #[true, true, true, false, false, false, false, false, false, false, false, false, false, false, false, false, false, false, false] rfl rfl (any_of HT_.out (by kernel_rfl)) (Or.inl ⟨by rfl, by intro w'; go_simp; with_reducible rfl⟩) ?_
     refine pu 5 (some 66) #[true, true, true, false, false, true, false, false, false, false, false, false, false, false, false, false, false, false, false] rfl rfl (any_of HT_.out (by kernel_rfl)) (Or.inl ⟨by rfl, by intro w'; go_simp; with_reducible rfl⟩) ?_
     refine pu 6 (some 67) #[true, true, true, false, false, true, true, false, false, false, false, false, false, false, false, false, false, false, false] rfl rfl (any_of HT_.out (by kernel_rfl)) (Or.inl ⟨by rfl, by intro w'; go_simp; with_reducible rfl⟩) ?_
     refine pu 7 (some 68) #[true, true, true, false, false, true, true, true, false, false, false, false, false, false, false, false, false, false, false] rfl rfl (any_of HT_.out (by kernel_rfl)) (Or.inl ⟨by rfl, by intro w'; go_simp; with_reducible rfl⟩) ?_
     refine pu 8 (some 69) #[true, true, true, false, false, true, true, true, true, false, false, false, false, false, false, false, false, false, false] rfl rfl (any_of HT_.out (by kernel_rfl)) (Or.inl ⟨by rfl, by intro w'; go_simp; with_reducible rfl⟩) ?_
     refine pu 9 (some 70) #[true, true, true, false, false, true, true, true, true, true, false, false, false, false, false, false, false, false, false] rfl rfl (any_of HT_.out (by kernel_rfl)) (Or.inl ⟨by rfl, by intro w'; go_simp; with_reducible rfl⟩) ?_
     refine pu 10 (some 71) #[true, true, true, false, false, true, true, true, true, true, true, false, false, false, false, false, false, false, false] rfl rfl (any_of HT_.out (by kernel_rfl)) (Or.inl ⟨by rfl, by intro w'; go_simp; with_reducible rfl⟩) ?_
     refine pu 12 (some 73) #[true, true, true, false, false, true, true, true, true, true, true, false, true, false, false, false, false, false, false] rfl rfl (any_of HT_.out (by kernel_rfl)) (Or.inl ⟨by rfl, by intro w'; go_simp; with_reducible rfl⟩) ?_
     refine pu 13 (some 74) #[true, true, true, false, false, true, true, true, true, true, true, false, true, true, false, false, false, false, false] rfl rfl (any_of HT_.out (by kernel_rfl)) (Or.inl ⟨by rfl, by intro w'; go_simp; with_reducible rfl⟩) ?_
     refine pu 14 (some 75) #[true, true, true, false, false, true, true, true, true, true, true, false, true, true, true, false, false, false, false] rfl rfl (any_of HT_.out (by kernel_rfl)) (Or.inl ⟨by rfl, by intro w'; go_simp; with_reducible rfl⟩) ?_
     refine take_ (i := 3) (N := some 64) (v := ?_) (a' := ?_) #[true, true, true, true, false, true, true, true, true, true, true, false, true, true, true, false, false, false, false] rfl rfl (take_ofW HT_.out HW_.out (by kernel_rfl)) (fun _ _ _ h => h) (Or.inl ⟨by rfl, ?_⟩) hHeld ?_ ?_
     rotate_left
     · intro w' s0
       go_simp
       with_reducible rfl
     rotate_left
     · simp only [Act.put, List.setIfInBounds_toArray, List.set_cons_zero, List.set_cons_succ, i64_w, i32_w]
       rfl
     refine pu 4 (some 65) #[true, true, true, true, true, true, true, true, true, true, true, false, true, true, true, false, false, false, false] rfl rfl (any_of HT_.out (by kernel_rfl)) (Or.inl ⟨by rfl, by intro w'; go_simp; with_reducible rfl⟩) ?_
     refine one_ (i := 11) (N := some 72) #[true, true, true, true, true, true, true, true, true, true, true, true, true, true, true, false, false, false, false] rfl rfl (one_of HT_.out (by kernel_rfl)) (by decide) (fun K hK => ?_)
     refine goes_ Try.func68 (by kernel_rfl) rfl #[.slice A42 ((l0.take ((wrap64 ((ji36) + (wrap64 (rd l0 (ji6))))) : Int).toNat).drop ((ji36) : Int).toNat).length (c0 - (ji36).toNat)] (by rfl) rfl rfl (by (try simp only [List.map_toArray, List.map_cons, List.map_nil]); first | done | (rw [show ((l0.take ((wrap64 ((ji36) + (wrap64 (rd l0 (ji6))))) : Int).toNat).drop ((ji36) : Int).toNat).length = ((wrap64 ((ji36) + (wrap64 (rd l0 (ji6))))).toNat - (ji36).toNat) from (by rw [List.length_drop, List.length_take]; have h_ : ((wrap64 ((ji36) + (wrap64 (rd l0 (ji6))))) : Int) ≤ (l0.length : Int) := oda; omega)] <;> rfl) | (simp only [hji36, hji6]; rfl) | rfl | (simp only [List.length_drop, List.length_take]; rfl)) ?_
     with_reducible refine (impl_copyBytes.calls _ _ ((l0.take ((wrap64 ((ji36) + (wrap64 (rd l0 (ji6))))) : Int).toNat).drop ((ji36) : Int).toNat) t321 _ ?side1 ?side2 A40.out).mono ?_
     (case side1 => exact cq (Kd.C_below HR320.out HB.out))
     (case side2 => exact HC320.out)
     rintro e w43 ⟨v322, rfl, ho0, hb⟩
     refine ⟨_, rfl, ?_⟩
     have n_ := ak2 (Kd.R_lower ho0 (below_size (bq HB.out))) (below_step (bq HB.out) hb)
     clear HB
     obtain ⟨HO323, HB⟩ := n_
     (try clear hb ho0)
     refine hK.out _ _ (((HB.out.cell (World.block_lt_of_cell? w _ hw319_0)).trans hw319_0)) (fun hHeld => ?_)
     clear hK K
     refine norm_ (a' := ?_) ?_ ?_
     rotate_left
     · show Act.put _ (some 72) _ = _
       simp only [Act.put, List.setIfInBounds_toArray, List.set_cons_zero, List.set_cons_succ, i64_w, i32_w]
       rfl
     refine pu 15 (some 4) #[true, true, true, true, true, true, true, true, true, true, true, true, true, true, true, true, false, false, false] rfl rfl (any_of HT_.out (by kernel_rfl)) (Or.inl ⟨by rfl, by intro w'; go_simp; with_reducible rfl⟩) ?_
     refine pu 16 (some 5) #[true, true, true, true, true, true, true, true, true, true, true, true, true, true, true, true, true, false, false] rfl rfl (any_of HT_.out (by kernel_rfl)) (Or.inl ⟨by rfl, by intro w'; go_simp; with_reducible rfl⟩) ?_
     refine pu 17 (some 6) #[true, true, true, true, true, true, true, true, true, true, true, true, true, true, true, true, true, true, false] rfl rfl (any_of HT_.out (by kernel_rfl)) (Or.inl ⟨by rfl, by intro w'; go_simp; with_reducible rfl⟩) ?_
     refine pu 18 (some 7) #[true, true, true, true, true, true, true, true, true, true, true, true, true, true, true, true, true, true, true] rfl rfl (any_of HT_.out (by kernel_rfl)) (Or.inl ⟨by rfl, by intro w'; go_simp; with_reducible rfl⟩) ?_
     refine done_ (done_of HT_.out (by kernel_rfl)) ?_
     try go_wp2
     refine bodyPost_ret (results_list (rs := [.tmp 4, .tmp 5, .tmp 6, .tmp 7]) rfl (by simp) (.tmp (.tmp (.tmp (.tmp .nil))))) rfl ?_
     exact ⟨_, by first | rfl | (simp [errW_none, errW_some] <;> rfl) | (simp only [← hji6, ← hji36]; first | rfl | (simp [errW_none, errW_some] <;> rfl)) | (simp [*, errW_none, errW_some] <;> rfl), kqR HO323.out, bq HB.out⟩
   rw [if_pos c9] at H
   have c9b0 : decide (128 ≤ (wrap64 (rd l0 (ji6)))) = true := decide_eq_true c9
   clear c9
   have HC10 := am H
   clear H
   have p311 : 0 ≤ ((ji6) : Int) := oda
   have q311 : (ji6) < (l0.length : Int) := oda
   obtain ⟨ad311, e311, hx311_0⟩ := Kd.at_int HR0.out (ji6) p311 q311
   cases e311
   replace hx311_0 := (HB.out.cell (World.block_lt_of_cell? w _ hx311_0)).trans hx311_0
   replace p311 := eq_true p311
   replace q311 := eq_true q311
   go_upto_region 5 with (fail)
   go_cut [43] (fun v43 wc => ∃ (kq : Nat) (x43_9 : Bool), v43 = .bool x43_9 ∧ Aside0 (impl_GetTlv.j1 kq l0 a1 (wrap64 (a1 + 2)) x43_9 = some (r1, r2, r3, r4)) ∧ Aside0 (kq ≤ kj2) ∧ Aside0 (Below w.heap.size w wc))
   case first =>
    have H := HC10.out
    clear HC10
    by_cases c11 : (wrap64 (rd l0 (ji6))) = 129
    rotate_left
    · rw [if_neg c11] at H
      have c11b0 : ((wrap64 (rd l0 (ji6))) == 129) = false := beq_eq_false_iff_ne.mpr c11
      have c11b1 : ((wrap64 (rd l0 (ji6))) != 129) = true := bne_iff_ne.mpr c11
      (first | rw [c11b0] | (simp only [i64_w, i32_w]; rw [c11b0]) | skip)
      have H' := am H
      clear H
      go_wp2
      go_meet
      case rel => exact ⟨_, (true), sq, H', ⟨by have := HJ2.out; first | omega | exact Nat.le_refl _⟩, ⟨bq HB.out⟩⟩
    rw [if_pos c11] at H
    have c11b0 : ((wrap64 (rd l0 (ji6))) == 129) = true := beq_iff_eq.mpr c11
    have c11b1 : ((wrap64 (rd l0 (ji6))) != 129) = false := bne_eq_false_iff_eq.mpr c11
    clear c11
    (first | rw [c11b0] | (simp only [i64_w, i32_w]; rw [c11b0]) | skip)
    by_cases c12 : (wrap64 (a1 + 2)) ≥ (l0.length : Int)
    · rw [if_pos c12] at H
      have c12b0 : decide ((l0.length : Int) ≤ (wrap64 (a1 + 2))) = true := decide_eq_true c12
      clear c12
      have H' := am H
      clear H
      go_wp2
      go_meet
      case rel => exact ⟨_, (true), sq, H', ⟨by have := HJ2.out; first | omega | exact Nat.le_refl _⟩, ⟨bq HB.out⟩⟩
    rw [if_neg c12] at H
    have c12b0 : decide ((l0.length : Int) ≤ (wrap64 (a1 + 2))) = false := decide_eq_false c12
    clear c12
    obtain ⟨ji13, hji13⟩ : ∃ j_ : Int, (wrap64 (a1 + 2)) = j_ := ⟨_, rfl⟩
    replace H : (if 0 ≤ (ji13) then (if (ji13) < (l0.length : Int) then (impl_GetTlv.j1 kj2 l0 a1 ji13 (decide ((rd l0 (ji13)) < 128))) else (none)) else (none)) = some (r1, r2, r3, r4) := by first | (rw [hji13] at H; exact H) | (simp only [hji13] at H ⊢; exact H)
    (try rw [hji13] at c12b0)
    have hji13w : (IntKind.i64.wrap (a1 + 2)) = ji13 := (i64_w _).trans hji13
    by_cases c14 : 0 ≤ (ji13)
    rotate_left
    · rw [if_neg c14] at H
      exact absurd H (by simp)
    rw [if_pos c14] at H
    have c14b0 : decide (0 ≤ (ji13)) = true := decide_eq_true c14
    clear c14
    by_cases c15 : (ji13) < (l0.length : Int)
    rotate_left
    · rw [if_neg c15] at H
      exact absurd H (by simp)
    rw [if_pos c15] at H
    have c15b0 : decide ((ji13) < (l0.length : Int)) = true := decide_eq_true c15
    clear c15
    have H' := am H
    clear H
    have p312 : 0 ≤ ((ji13) : Int) := oda
    have q312 : (ji13) < (l0.length : Int) := oda
    obtain ⟨ad312, e312, hx312_0⟩ := Kd.at_int HR0.out (ji13) p312 q312
    obtain rfl : ad311 = ad312 := (by injection e312)
    replace hx312_0 := (HB.out.cell (World.block_lt_of_cell? w _ hx312_0)).trans hx312_0
    replace p312 := eq_true p312
    replace q312 := eq_true q312
    go_wp2
    (try simp only [← hji13])
    go_meet
    case rel => exact ⟨_, (decide ((rd l0 (ji13)) < 128)), (by first | rfl | (simp; done) | (simp only [← hji13] <;> (first | rfl | simp)) | (simp [*]; done)), (by first | exact H' | (rw [hji13]; exact H')), ⟨by have := HJ2.out; first | omega | exact Nat.le_refl _⟩, ⟨bq HB.out⟩⟩
   case rest =>
    clear HC10
    try clear c1
    try clear p2
    try clear p3
    try clear q3
    try clear hx3
    try clear c4
    try clear c4b0
    try clear c5
    try clear p6
    try clear c7
    try clear c7b0
    try clear c8
    try clear c8b0
    try clear c9
    try clear c9b0
    try clear c11
    try clear c11b0
    try clear c11b1
    try clear c12
    try clear c12b0
    try clear c14
    try clear c14b0
    try clear c15
    try clear c15b0
    try clear hx311_0
    try clear hx312_0
    try clear p2
    try clear p311
    try clear p312
    try clear q311
    try clear q312
    obtain ⟨kq, x43_9, rfl, HA, HJ9, HB⟩ := hcut
    cases kq with
    | zero => exact absurd HA.out (by simp [impl_GetTlv.j1])
    | succ kj9 =>
     have H := HA.out
     clear HA
     simp only [impl_GetTlv.j1] at H
     by_cases c16 : x43_9 = true
     · subst c16
       replace H : (some (0, ([] : List Int), 0, false)) = some (r1, r2, r3, r4) := by rw [if_pos rfl] at H; exact H
       simp only [Option.some.injEq, Prod.mk.injEq] at H
       obtain ⟨rfl, rfl, rfl, rfl⟩ := H
       go_wp2
       refine bodyPost_ret (results_list (rs := [.tmp 4, .tmp 5, .tmp 6, .tmp 7]) rfl (by simp) (.tmp (.tmp (.tmp (.tmp .nil))))) rfl ?_
       exact ⟨_, by first | rfl | (simp [errW_none, errW_some] <;> rfl) | (simp only [← hji6]; first | rfl | (simp [errW_none, errW_some] <;> rfl)) | (simp [*, errW_none, errW_some] <;> rfl), rn, bq HB.out⟩
     replace c16 := Bool.eq_false_iff.mpr c16
     subst c16
     replace H : (if 0 ≤ (wrap64 (a1 + 2)) then (if (wrap64 (a1 + 2)) < (l0.length : Int) then (if (wrap64 (rd l0 (wrap64 (a1 + 2)))) > 250 then (some (0, ([] : List Int), 0, false)) else (if (wrap64 (rd l0 (wrap64 (a1 + 2)))) > (wrap64 ((l0.length : Int) - (wrap64 ((wrap64 (a1 + 2)) + 1)))) then (some (0, ([] : List Int), 0, false)) else (if 0 ≤ a1 then (if a1 < (l0.length : Int) then (if 0 ≤ (wrap64 ((wrap64 (a1 + 2)) + 1)) then (if (wrap64 ((wrap64 (a1 + 2)) + 1)) ≤ (wrap64 ((wrap64 ((wrap64 (a1 + 2)) + 1)) + (wrap64 (rd l0 (wrap64 (a1 + 2)))))) then (if (wrap64 ((wrap64 ((wrap64 (a1 + 2)) + 1)) + (wrap64 (rd l0 (wrap64 (a1 + 2)))))) ≤ (l0.length : Int) then ((impl_copyBytes.f ((l0.take ((wrap64 ((wrap64 ((wrap64 (a1 + 2)) + 1)) + (wrap64 (rd l0 (wrap64 (a1 + 2)))))) : Int).toNat).drop ((wrap64 ((wrap64 (a1 + 2)) + 1)) : Int).toNat)).bind fun t316 => (some (wrap64 (rd l0 a1), t316, wrap64 ((wrap64 ((wrap64 (a1 + 2)) + 1)) + (wrap64 (rd l0 (wrap64 (a1 + 2))))), true))) else (none)) else (none)) else (none)) else (none)) else (none)))) else (none)) else (none)) = some (r1, r2, r3, r4) := by rw [if_neg (show ¬ (false = true) by decide)] at H; exact H
     obtain ⟨ji17, hji17⟩ : ∃ j_ : Int, (wrap64 (a1 + 2)) = j_ := ⟨_, rfl⟩
     replace H : (if 0 ≤ (ji17) then (if (ji17) < (l0.length : Int) then (if (wrap64 (rd l0 (ji17))) > 250 then (some (0, ([] : List Int), 0, false)) else (if (wrap64 (rd l0 (ji17))) > (wrap64 ((l0.length : Int) - (wrap64 ((ji17) + 1)))) then (some (0, ([] : List Int), 0, false)) else (if 0 ≤ a1 then (if a1 < (l0.length : Int) then (if 0 ≤ (wrap64 ((ji17) + 1)) then (if (wrap64 ((ji17) + 1)) ≤ (wrap64 ((wrap64 ((ji17) + 1)) + (wrap64 (rd l0 (ji17))))) then (if (wrap64 ((wrap64 ((ji17) + 1)) + (wrap64 (rd l0 (ji17))))) ≤ (l0.length : Int) then ((impl_copyBytes.f ((l0.take ((wrap64 ((wrap64 ((ji17) + 1)) + (wrap64 (rd l0 (ji17))))) : Int).toNat).drop ((wrap64 ((ji17) + 1)) : Int).toNat)).bind fun t316 => (some (wrap64 (rd l0 a1), t316, wrap64 ((wrap64 ((ji17) + 1)) + (wrap64 (rd l0 (ji17)))), true))) else (none)) else (none)) else (none)) else (none)) else (none)))) else (none)) else (none)) = some (r1, r2, r3, r4) := by first | (rw [hji17] at H; exact H) | (simp only [hji17] at H ⊢; exact H)
     have hji17w : (IntKind.i64.wrap (a1 + 2)) = ji17 := (i64_w _).trans hji17
     by_cases c18 : 0 ≤ (ji17)
     rotate_left
     · rw [if_neg c18] at H
       exact absurd H (by simp)
     rw [if_pos c18] at H
     have c18b0 : decide (0 ≤ (ji17)) = true := decide_eq_true c18
     clear c18
     by_cases c19 : (ji17) < (l0.length : Int)
     rotate_left
     · rw [if_neg c19] at H
       exact absurd H (by simp)
     rw [if_pos c19] at H
     have c19b0 : decide ((ji17) < (l0.length : Int)) = true := decide_eq_true c19
     clear c19
     by_cases c20 : (wrap64 (rd l0 (ji17))) > 250
     · rw [if_pos c20] at H
       have c20b0 : decide (250 < (wrap64 (rd l0 (ji17)))) = true := decide_eq_true c20
       clear c20
       simp only [Option.some.injEq, Prod.mk.injEq] at H
       obtain ⟨rfl, rfl, rfl, rfl⟩ := H
       have p313 : 0 ≤ ((ji17) : Int) := oda
       have q313 : (ji17) < (l0.length : Int) := oda
       obtain ⟨ad313, e313, hx313_0⟩ := Kd.at_int HR0.out (ji17) p313 q313
       obtain rfl : ad311 = ad313 := (by injection e313)
       replace hx313_0 := (HB.out.cell (World.block_lt_of_cell? w _ hx313_0)).trans hx313_0
       replace p313 := eq_true p313
       replace q313 := eq_true q313
       go_wp2
       refine bodyPost_ret (results_list (rs := [.tmp 4, .tmp 5, .tmp 6, .tmp 7]) rfl (by simp) (.tmp (.tmp (.tmp (.tmp .nil))))) rfl ?_
       exact ⟨_, by first | rfl | (simp [errW_none, errW_some] <;> rfl) | (simp only [← hji6, ← hji17]; first | rfl | (simp [errW_none, errW_some] <;> rfl)) | (simp [*, errW_none, errW_some] <;> rfl), rn, bq HB.out⟩
     rw [if_neg c20] at H
     have c20b0 : decide (250 < (wrap64 (rd l0 (ji17)))) = false := decide_eq_false c20
     clear c20
     by_cases c21 : (wrap64 (rd l0 (ji17))) > (wrap64 ((l0.length : Int) - (wrap64 ((ji17) + 1))))
     · rw [if_pos c21] at H
       have c21b0 : decide ((wrap64 ((l0.length : Int) - (wrap64 ((ji17) + 1)))) < (wrap64 (rd l0 (ji17)))) = true := decide_eq_true c21
       clear c21
       simp only [Option.some.injEq, Prod.mk.injEq] at H
       obtain ⟨rfl, rfl, rfl, rfl⟩ := H
       have p313 : 0 ≤ ((ji17) : Int) := oda
       have q313 : (ji17) < (l0.length : Int) := oda
       obtain ⟨ad313, e313, hx313_0⟩ := Kd.at_int HR0.out (ji17) p313 q313
       obtain rfl : ad311 = ad313 := (by injection e313)
       replace hx313_0 := (HB.out.cell (World.block_lt_of_cell? w _ hx313_0)).trans hx313_0
       replace p313 := eq_true p313
       replace q313 := eq_true q313
       go_wp2
       refine bodyPost_ret (results_list (rs := [.tmp 4, .tmp 5, .tmp 6, .tmp 7]) rfl (by simp) (.tmp (.tmp (.tmp (.tmp .nil))))) rfl ?_
       exact ⟨_, by first | rfl | (simp [errW_none, errW_some] <;> rfl) | (simp only [← hji6, ← hji17]; first | rfl | (simp [errW_none, errW_some] <;> rfl)) | (simp [*, errW_none, errW_some] <;> rfl), rn, bq HB.out⟩
     rw [if_neg c21] at H
     have c21b0 : decide ((wrap64 ((l0.length : Int) - (wrap64 ((ji17) + 1)))) < (wrap64 (rd l0 (ji17)))) = false := decide_eq_false c21
     clear c21
     by_cases c22 : 0 ≤ a1
     rotate_left
     · rw [if_neg c22] at H
       exact absurd H (by simp)
     rw [if_pos c22] at H
     have c22b0 : decide (0 ≤ a1) = true := decide_eq_true c22
     clear c22
     by_cases c23 : a1 < (l0.length : Int)
     rotate_left
     · rw [if_neg c23] at H
       exact absurd H (by simp)
     rw [if_pos c23] at H
     have c23b0 : decide (a1 < (l0.length : Int)) = true := decide_eq_true c23
     clear c23
     obtain ⟨ji24, hji24⟩ : ∃ j_ : Int, (wrap64 ((ji17) + 1)) = j_ := ⟨_, rfl⟩
     replace H : (if 0 ≤ (ji24) then (if (ji24) ≤ (wrap64 ((ji24) + (wrap64 (rd l0 (ji17))))) then (if (wrap64 ((ji24) + (wrap64 (rd l0 (ji17))))) ≤ (l0.length : Int) then ((impl_copyBytes.f ((l0.take ((wrap64 ((ji24) + (wrap64 (rd l0 (ji17))))) : Int).toNat).drop ((ji24) : Int).toNat)).bind fun t316 => (some (wrap64 (rd l0 a1), t316, wrap64 ((ji24) + (wrap64 (rd l0 (ji17)))), true))) else (none)) else (none)) else (none)) = some (r1, r2, r3, r4) := by first | (rw [hji24] at H; exact H) | (simp only [hji24] at H ⊢; exact H)
     (try rw [hji24] at c21b0)
     have hji24w : (IntKind.i64.wrap ((ji17) + 1)) = ji24 := (i64_w _).trans hji24
     by_cases c25 : 0 ≤ (ji24)
     rotate_left
     · rw [if_neg c25] at H
       exact absurd H (by simp)
     rw [if_pos c25] at H
     have c25b0 := eq_true c25
     have c25b1 : decide (0 ≤ (ji24)) = true := decide_eq_true c25
     clear c25
     by_cases c26 : (ji24) ≤ (wrap64 ((ji24) + (wrap64 (rd l0 (ji17)))))
     rotate_left
     · rw [if_neg c26] at H
       exact absurd H (by simp)
     rw [if_pos c26] at H
     have c26b0 := eq_true c26
     have c26b1 : decide ((ji24) ≤ (wrap64 ((ji24) + (wrap64 (rd l0 (ji17)))))) = true := decide_eq_true c26
     by_cases c27 : (wrap64 ((ji24) + (wrap64 (rd l0 (ji17))))) ≤ (l0.length : Int)
     rotate_left
     · rw [if_neg c27] at H
       exact absurd H (by simp)
     rw [if_pos c27] at H
     have c27b0 := eq_true c27
     have c27b1 : decide ((wrap64 ((ji24) + (wrap64 (rd l0 (ji17))))) ≤ (l0.length : Int)) = true := decide_eq_true c27
     replace H := Option.bind_eq_some_iff.mp H
     obtain ⟨t316, A280, H⟩ := H
     replace H : (some (wrap64 (rd l0 a1), t316, wrap64 ((ji24) + (wrap64 (rd l0 (ji17)))), true)) = some (r1, r2, r3, r4) := H
     have A28 := am A280
     clear A280
     simp only [Option.some.injEq, Prod.mk.injEq] at H
     obtain ⟨rfl, rfl, rfl, rfl⟩ := H
     have p313 : 0 ≤ ((ji17) : Int) := oda
     have q313 : (ji17) < (l0.length : Int) := oda
     obtain ⟨ad313, e313, hx313_0⟩ := Kd.at_int HR0.out (ji17) p313 q313
     obtain rfl : ad311 = ad313 := (by injection e313)
     replace hx313_0 := (HB.out.cell (World.block_lt_of_cell? w _ hx313_0)).trans hx313_0
     replace p313 := eq_true p313
     replace q313 := eq_true q313
     try go_wp2
     replace HB := am (below_drew1 HB.out)
     have p314 : 0 ≤ (a1 : Int) := oda
     have q314 : a1 < (l0.length : Int) := oda
     obtain ⟨ad314, e314, hx314_0⟩ := Kd.at_int HR0.out a1 p314 q314
     have hw314_0 := hx314_0
     obtain rfl : ad311 = ad314 := (by injection e314)
     replace hx314_0 := (HB.out.cell (World.block_lt_of_cell? w _ hx314_0)).trans hx314_0
     replace p314 := eq_true p314
     replace q314 := eq_true q314
     obtain ⟨i030, hi030, _, hsz30, _⟩ := info_parts info5
     obtain ⟨A30, hcut30, hA30, hC30⟩ := print_mid_of (P := Try.prog) (Value.int .u8) 0 22 5 .i64 .i64 Try.underlying22 hi030 hsz30 (some ad311) c0 l0 (ji24) (wrap64 ((ji24) + (wrap64 (rd l0 (ji17))))) (oda) (by first | omega | exact oda) (oda) HC0.out
     have HR315 := am (Kd.C_of_reads (h1 := fun _ => rfl) (hA30 _ (Kd.reads_of_C HR0.out)))
     have HC315 := am hC30
     clear hA30 hC30 hi030 hsz30
     refine start_ (n := 19) (S := fun w' => w'.cell? (ad311.add (a1).toNat) = some (.int .u8 (rd l0 a1))) (ds := []) #[false, false, false, false, false, false, false, false, false, false, false, false, false, false, false, false, false, false, false] (by kernel_rfl) rfl rfl (((HB.out.cell (World.block_lt_of_cell? w _ hw314_0)).trans hw314_0)) (fun hHeld => ?_); refine with_tabW impl_GetTlv.tab11 impl_GetTlv.bits11 (fun HT_ HW_ => ?_)
     generalize wc.drew = w29 at HB HR315 hx314_0 hHeld ⊢
     refine pu 0 (some 61) #[true, false, false, false, false, false, false, false, false, false, false, false, false, false, false, false, false, false, false] rfl rfl (any_of HT_.out (by kernel_rfl)) (Or.inl ⟨by rfl, by intro w'; go_simp; with_reducible rfl⟩) ?_
     refine pu 1 (some 62) #[true, true, false, false, false, false, false, false, false, false, false, false, false, false, false, false, false, false, false] rfl rfl (any_of HT_.out (by kernel_rfl)) (Or.inl ⟨by rfl, by intro w'; go_simp; with_reducible rfl⟩) ?_
     refine pu 2 (some 63) #[true, true, true, false, false, false, false, false, false, false, false, false, false, false, false, false, false, false, false] rfl rfl (any_of HT_.out (by kernel_rfl)) (Or.inl ⟨by rfl, by intro w'; go_simp; with_reducible rfl⟩) ?_
     refine pu 5 (some 66) #[true, true, true, false, false, true, false, false, false, false, false, false, false, false, false, false, false, false, false] rfl rfl (any_of HT_.out (by kernel_rfl)) (Or.inl ⟨by rfl, by intro w'; go_simp; with_reducible rfl⟩) ?_
     refine pu 6 (some 67) #[true, true, true, false, false, true, true, false, false, false, false, false, false, false, false, false, false, false, false] rfl rfl (any_of HT_.out (by kernel_rfl)) (Or.inl ⟨by rfl, by intro w'; go_simp; with_reducible rfl⟩) ?_
     refine pu 7 (some 68) #[true, true, true, false, false, true, true, true, false, false, false, false, false, false, false, false, false, false, false] rfl rfl (any_of HT_.out (by kernel_rfl)) (Or.inl ⟨by rfl, by intro w'; go_simp; with_reducible rfl⟩) ?_
     refine pu 8 (some 69) #[true, true, true, false, false, true, true, true, true, false, false, false, false, false, false, false, false, false, false] rfl rfl (any_of HT_.out (by kernel_rfl)) (Or.inl ⟨by rfl, by intro w'; go_simp; with_reducible rfl⟩) ?_
     refine pu 9 (some 70) #[true, true, true, false, false, true, true, true, true, true, false, false, false, false, false, false, false, false, false] rfl rfl (any_of HT_.out (by kernel_rfl)) (Or.inl ⟨by rfl, by intro w'; go_simp; with_reducible rfl⟩) ?_
     refine pu 10 (some 71) #[true, true, true, false, false, true, true, true, true, true, true, false, false, false, false, false, false, false, false] rfl rfl (any_of HT_.out (by kernel_rfl)) (Or.inl ⟨by rfl, by intro w'; go_simp; with_reducible rfl⟩) ?_
     refine pu 12 (some 73) #[true, true, true, false, false, true, true, true, true, true, true, false, true, false, false, false, false, false, false] rfl rfl (any_of HT_.out (by kernel_rfl)) (Or.inl ⟨by rfl, by intro w'; go_simp; with_reducible rfl⟩) ?_
     refine pu 13 (some 74) #[true, true, true, false, false, true, true, true, true, true, true, false, true, true, false, false, false, false, false] rfl rfl (any_of HT_.out (by kernel_rfl)) (Or.inl ⟨by rfl, by intro w'; go_simp; with_reducible rfl⟩) ?_
     refine pu 14 (some 75) #[true, true, true, false, false, true, true, true, true, true, true, false, true, true, true, false, false, false, false] rfl rfl (any_of HT_.out (by kernel_rfl)) (Or.inl ⟨by rfl, by intro w'; go_simp; with_reducible rfl⟩) ?_
     refine take_ (i := 3) (N := some 64) (v := ?_) (a' := ?_) #[true, true, true, true, false, true, true, true, true, true, true, false, true, true, true, false, false, false, false] rfl rfl (take_ofW HT_.out HW_.out (by kernel_rfl)) (fun _ _ _ h => h) (Or.inl ⟨by rfl, ?_⟩) hHeld ?_ ?_
     rotate_left
     · intro w' s0
       go_simp
       with_reducible rfl
     rotate_left
     · simp only [Act.put, List.setIfInBounds_toArray, List.set_cons_zero, List.set_cons_succ, i64_w, i32_w]
       rfl
     refine pu 4 (some 65) #[true, true, true, true, true, true, true, true, true, true, true, false, true, true, true, false, false, false, false] rfl rfl (any_of HT_.out (by kernel_rfl)) (Or.inl ⟨by rfl, by intro w'; go_simp; with_reducible rfl⟩) ?_
     refine one_ (i := 11) (N := some 72) #[true, true, true, true, true, true, true, true, true, true, true, true, true, true, true, false, false, false, false] rfl rfl (one_of HT_.out (by kernel_rfl)) (by decide) (fun K hK => ?_)
     refine goes_ Try.func68 (by kernel_rfl) rfl #[.slice A30 ((l0.take ((wrap64 ((ji24) + (wrap64 (rd l0 (ji17))))) : Int).toNat).drop ((ji24) : Int).toNat).length (c0 - (ji24).toNat)] (by rfl) rfl rfl (by (try simp only [List.map_toArray, List.map_cons, List.map_nil]); first | done | (rw [show ((l0.take ((wrap64 ((ji24) + (wrap64 (rd l0 (ji17))))) : Int).toNat).drop ((ji24) : Int).toNat).length = ((wrap64 ((ji24) + (wrap64 (rd l0 (ji17))))).toNat - (ji24).toNat) from (by rw [List.length_drop, List.length_take]; have h_ : ((wrap64 ((ji24) + (wrap64 (rd l0 (ji17))))) : Int) ≤ (l0.length : Int) := oda; omega)] <;> rfl) | (simp only [hji17, hji24]; rfl) | rfl | (simp only [List.length_drop, List.length_take]; rfl)) ?_
     with_reducible refine (impl_copyBytes.calls _ _ ((l0.take ((wrap64 ((ji24) + (wrap64 (rd l0 (ji17))))) : Int).toNat).drop ((ji24) : Int).toNat) t316 _ ?side1 ?side2 A28.out).mono ?_
     (case side1 => exact cq (Kd.C_below HR315.out HB.out))
     (case side2 => exact HC315.out)
     rintro e w31 ⟨v317, rfl, ho0, hb⟩
     refine ⟨_, rfl, ?_⟩
     have n_ := ak2 (Kd.R_lower ho0 (below_size (bq HB.out))) (below_step (bq HB.out) hb)
     clear HB
     obtain ⟨HO318, HB⟩ := n_
     (try clear hb ho0)
     refine hK.out _ _ (((HB.out.cell (World.block_lt_of_cell? w _ hw314_0)).trans hw314_0)) (fun hHeld => ?_)
     clear hK K
     refine norm_ (a' := ?_) ?_ ?_
     rotate_left
     · show Act.put _ (some 72) _ = _
       simp only [Act.put, List.setIfInBounds_toArray, List.set_cons_zero, List.set_cons_succ, i64_w, i32_w]
       rfl
     refine pu 15 (some 4) #[true, true, true, true, true, true, true, true, true, true, true, true, true, true, true, true, false, false, false] rfl rfl (any_of HT_.out (by kernel_rfl)) (Or.inl ⟨by rfl, by intro w'; go_simp; with_reducible rfl⟩) ?_
     refine pu 16 (some 5) #[true, true, true, true, true, true, true, true, true, true, true, true, true, true, true, true, true, false, false] rfl rfl (any_of HT_.out (by kernel_rfl)) (Or.inl ⟨by rfl, by intro w'; go_simp; with_reducible rfl⟩) ?_
     refine pu 17 (some 6) #[true, true, true, true, true, true, true, true, true, true, true, true, true, true, true, true, true, true, false] rfl rfl (any_of HT_.out (by kernel_rfl)) (Or.inl ⟨by rfl, by intro w'; go_simp; with_reducible rfl⟩) ?_
     refine pu 18 (some 7) #[true, true, true, true, true, true, true, true, true, true, true, true, true, true, true, true, true, true, true] rfl rfl (any_of HT_.out (by kernel_rfl)) (Or.inl ⟨by rfl, by intro w'; go_simp; with_reducible rfl⟩) ?_
     refine done_ (done_of HT_.out (by kernel_rfl)) ?_
     try go_wp2
     refine bodyPost_ret (results_list (rs := [.tmp 4, .tmp 5, .tmp 6, .tmp 7]) rfl (by simp) (.tmp (.tmp (.tmp (.tmp .nil))))) rfl ?_
     exact ⟨_, by first | rfl | (simp [errW_none, errW_some] <;> rfl) | (simp only [← hji6, ← hji17, ← hji24]; first | rfl | (simp [errW_none, errW_some] <;> rfl)) | (simp [*, errW_none, errW_some] <;> rfl), kqR HO318.out, bq HB.out⟩
end Go.Proofs.Ythhnfmbfgplelaa.XFnVals
